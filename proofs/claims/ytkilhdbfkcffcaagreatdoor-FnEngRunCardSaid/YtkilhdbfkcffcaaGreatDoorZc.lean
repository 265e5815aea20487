/- Part 3 of a proof: what the last part needs. No condition. -/
import Derived.Test.YtkilhdbfkcffcaaGreatDoorZb
import Derived.Test.YtkilhdbfkcffcaaGreatDoorProg
import Derived.KernelRfl
set_option maxHeartbeats 1000000
set_option linter.all false
set_option linter.unusedSectionVars false
set_option linter.unusedVariables false
set_option linter.unusedSimpArgs false
namespace Go.TX
open Go Go.AE List
structure FM{ρ:Type}(m:(ρ->Prop)->Prop):Prop where
 mono:∀Q Q':ρ->Prop,(∀y,Q y->Q' y)->m Q->m Q'
 one:∀Q:ρ->Prop,m Q->∃y,Q y/\m (λz=>z=y)
 two:∀Q Q':ρ->Prop,m Q->m Q'->∃y,Q y/\Q' y
section
variable {n:Nat} {ρ:Type}
theorem FM.fail:FM (λ_:ρ->Prop=>False):=⟨λ_ _ _ h=>h,λ_ h=>h.elim,λ_ _ h=>h.elim⟩
theorem FM.ret(t:ρ):FM (λQ:ρ->Prop=>Q t):=⟨λ_ _ h a=>h _ a,λ_ a=>⟨t,a,rfl⟩,λ_ _ h g=>⟨t,h,g⟩⟩
theorem FM.bind{α:Type}{m:(α->Prop)->Prop}{k:α->(ρ->Prop)->Prop}(hm:FM m)(hk:∀t,FM (k t)):FM (λQ=>m λt=>k t Q):=
 ⟨λQ d h a=>hm.mono _ _ (λt i=>(hk t).mono _ _ h i) a,λQ a=>by
  obtain⟨t,c,b⟩:=hm.one _ a;obtain⟨y,j,f⟩:=(hk t).one _ c;exact⟨y,j,hm.mono _ _ (λl e=>by subst e;exact f) b⟩,λQ d h g=>by
  obtain⟨t,c,b⟩:=hm.two _ _ h g;exact(hk t).two _ _ c b⟩
theorem FM.yJ{α:Type}{m:(α ⊕ ρ->Prop)->Prop}{k:α->(ρ->Prop)->Prop}(hm:FM m)(hk:∀t,FM (k t)):FM (λQ=>m (Gu k Q)):=
 ⟨λQ l h c=>hm.mono _ _ (λt d=>by
  cases t with
  | inl x=>exact(hk x).mono _ _ h d
  | inr r=>exact h _ d) c,λQ c=>by
  obtain⟨t,b,a⟩:=hm.one _ c;cases t with
  | inl x=>
   obtain⟨y,j,i⟩:=(hk x).one _ b;exact⟨y,j,hm.mono _ _ (λf e=>by subst e;exact i) a⟩
  | inr r=>exact⟨r,b,hm.mono _ _ (λf e=>by subst e;rfl) a⟩,λQ l h g=>by
  obtain⟨t,b,a⟩:=hm.two _ _ h g;cases t with
  | inl x=>exact(hk x).two _ _ b a
  | inr r=>exact⟨r,b,a⟩⟩
theorem FM.itW{α:Type}{f:α->(α ⊕ ρ->Prop)->Prop}(a:∀x,FM (f x)):∀(N:Nat) (x:α),FM (TX.itW N f x)
 | 0,x=>by simp_all [TX.itW,fail]
 | N+1,x=>by
  have e:TX.itW (N+1) f x=λQ=>f x (Gu (TX.itW N f) Q):=by funext Q;rw [TX.itW]
  rw [e];exact .yJ (a x) (FM.itW a N)
theorem EF{α:Type}{k b:α->(ρ->Prop)->Prop}{Q a:ρ->Prop}(hk:∀x,k x Q->b x a)(c:∀y,Q y->a y):∀s,Gu k Q s->Gu b a s
 | .inl x=>hk x
 | .inr r=>c r
theorem VA{α:Type}{f:α->(α ⊕ ρ->Prop)->Prop}(a:∀x,FM (f x)){Q:ρ->Prop}:∀ {N M:Nat} {x:α},N<=M->TX.itW N f x Q->TX.itW M f x Q
 | 0,_,_,_,h=>by grind [TX.itW]
 | N+1,0,_,h,_=>absurd h ah
 | N+1,M+1,x,h,g=>by
  rw [TX.itW]at g ⊢;exact(a x).mono _ _ (EF (λy k=>VA a ah k) (λ_ k=>k)) g
theorem JB{α:Type}{f:α->(α ⊕ ρ->Prop)->Prop}(c:∀x,FM (f x)){x:α}{Q:ρ->Prop}(h:acG f x Q):∃r,Q r/\∃N,TX.itW N f x (λz=>z=r):=by
 obtain⟨I,μ,g,k⟩:=h;have b:∀(n:Nat) (y:α),μ y<n->I y->∃r,Q r/\∃N,TX.itW N f y (λz=>z=r):=by
  intro n
  induction n with
  | zero=>intro y h;omega
  | succ n l=>
   intro y o j;obtain⟨s,a,d⟩:=(c y).one _ (k y j);cases s with
   | inl z=>
    obtain⟨r,i,N,m⟩:=l z (by have:=a.2;omega) a.1;refine⟨r,i,N+1,?_⟩;rw [TX.itW];exact(c y).mono _ _ (λs e=>by subst e;exact m) d
   | inr r=>
    refine⟨r,a,1,?_⟩;rw [TX.itW];exact(c y).mono _ _ (λs e=>by subst e;rfl) d
 exact b _ x (Nat.lt_succ_self _) g
theorem FM.iter{α:Type}{f:α->(α ⊕ ρ->Prop)->Prop}(a:∀x,FM (f x))(x:α):FM (λQ=>acG f x Q):=by
 refine⟨λQ p h ⟨I,μ,l,o⟩=>⟨I,μ,l,λy i=>(a y).mono _ _ (EF (λ_ h=>h) h) (o y i)⟩,λQ h=> ?_,λQ p h g=> ?_⟩
 rotate_left
 .obtain⟨r,d,N,j⟩:=JB a h;obtain⟨t,n,M,m⟩:=JB a g;obtain⟨z,rfl,rfl⟩:=(FM.itW a (max N M) x).two _ _ (VA a (Nat.le_max_left ..) j) (VA a (Nat.le_max_right ..) m);exact⟨_,d,n⟩
 obtain⟨r,d,N,j⟩:=JB a h;refine⟨r,d,?_⟩;have b:∀y,(∃N,TX.itW N f y (λz=>z=r))->∃N,TX.itW N f y (λz=>z=r)/\∀M,M<N->¬TX.itW M f y (λz=>z=r):=by
  intro y ⟨N,q⟩
  induction N using Nat.strongRecOn with
  | ind N v=>grind
 have c:∀y,∃N,(∃N,TX.itW N f y (λz=>z=r))->TX.itW N f y (λz=>z=r)/\∀M,M<N->¬TX.itW M f y (λz=>z=r):=λy=>by
  by_cases h:∃N,TX.itW N f y (λz=>z=r)
  .obtain⟨N,q⟩:=b y h;grind
  simp_all
 obtain⟨ν,hν⟩:=Classical.axiomOfChoice c;refine⟨λy=>∃N,TX.itW N f y (λz=>z=r),ν,⟨N,j⟩,λy i=> ?_⟩;obtain⟨e,s⟩:=hν y i;cases hn:ν y with
 | zero=>grind [TX.itW]
 | succ k=>
  rw [hn]at e;rw [TX.itW]at e;refine(a y).mono _ _ (EF (λz u=> ?_) (λ_ h=>h)) e
  grind
theorem FM.chk{b:Bool}{m:(ρ->Prop)->Prop}(h:FM m):FM (λQ=>b=true/\m Q):=
 ⟨λ_ _ e ⟨a,c⟩=>⟨a,h.mono _ _ e c⟩,λ_ ⟨a,c⟩=>let⟨y,f,g⟩:=h.one _ c;⟨y,f,a,g⟩,λ_ _ ⟨_,c⟩ ⟨_,d⟩=>h.two _ _ c d⟩
theorem FM.jw{m:(ρ->Prop)->Prop}(h:FM m):∀(ps:List Bool),FM (TX.jw (std n) ps m)
 | []=>h
 | _::ps=> .chk (FM.jw h ps)
theorem FM.cond{b:Bool}{x y:(ρ->Prop)->Prop}(e:FM x)(d:FM y):FM (λQ=>(b=true->x Q)/\(b=false->y Q)):=
 ⟨λ_ _ f ⟨a,c⟩=>⟨λh=>e.mono _ _ f (a h),λh=>d.mono _ _ f (c h)⟩,λ_ ⟨a,c⟩=>by
  cases b with
  | true=>obtain⟨y,i,k⟩:=e.one _ (a rfl);grind
  | false=>obtain⟨y,i,k⟩:=d.one _ (c rfl);grind,λ_ _ ⟨a,c⟩ ⟨g,j⟩=>by
  cases b with
  | true=>exact e.two _ _ (a rfl) (g rfl)
  | false=>exact d.two _ _ (c rfl) (j rfl)⟩
theorem FM.bind'{a:List LTy}{m:(jy a->Prop)->Prop}{k:jy a->(ρ->Prop)->Prop}(hm:FM m)(hk:∀t,FM (k t)):FM ((std n).bind a m k):=by simp_all [FM.bind]
theorem FM.aqy{a:List LTy}{m:(jy a ⊕ ρ->Prop)->Prop}{k:jy a->(ρ->Prop)->Prop}(hm:FM m)(hk:∀t,FM (k t)):FM ((std n).yJ a m k):=by simp_all [FM.yJ]
theorem FM.inl'{a:List LTy}(t:jy a):FM ((std n).inl (ρ:=ρ) a t):=FM.ret _
theorem FM.inr'{a:List LTy}{m:(ρ->Prop)->Prop}(h:FM m):FM ((std n).inr (ρ:=ρ) a m):=by simp_all [FM.bind,jy,FM.ret]
theorem FM.iter'{a:List LTy}{f:jy a->(jy a ⊕ ρ->Prop)->Prop}(b:∀x,FM (f x))(x:jy a):FM ((std n).iter a f x):=FM.iter b x
theorem FM.ret'{a:List LTy}(t:jy a):FM ((std n).ret a t):=FM.ret t
theorem FM.use{c:CR (std n)}{K:SVal->List aT->(ρ->Prop)->Prop}(h:∀v k,FM (K v k)):FM (wW (std n) c K):=by
 obtain⟨f,d,y,k,e,p⟩:=c;unfold wW;cases d with
 | nil=>grind [fail]
 | cons a b=>grind [fail]
end
theorem yY:∀(a:List LTy),Nonempty (jy a)
 | []=>⟨()⟩
 | t::r=>by
  obtain⟨y⟩:=yY r;have x:Nonempty (LT aH t):=by
   cases t with
   | i=>exact⟨(0:Int)⟩
   | b=>exact⟨false⟩
   | s=>exact⟨(default:ByteArray)⟩
   | l c=>exact⟨([]:List c.den)⟩
   | x c=>exact⟨(default:c.den)⟩
  obtain⟨x⟩:=x;exact⟨(x,y)⟩
noncomputable def cn {s:Sig} (F:jy s.inp->(jy s.out->Prop)->Prop):Ct aH s:=
 {pre:=λx=> @decide (∃y,F x λz=>z=y) (Classical.propDecidable _)
  fn:=λx=> @Classical.epsilon _ (yY _) λy=>F x λz=>z=y}
structure Fn(E:Tab)(f:FuncId){s:Sig}(F:jy s.inp->(jy s.out->Prop)->Prop)(c:Ct aH s):Prop where
 e:c=cn F
 fm:∀x,FM (F x)
 ok:dP E f (dK c)
theorem Fn.cs{E:Tab}{f:FuncId}{s:Sig}{F:jy s.inp->(jy s.out->Prop)->Prop}{c:Ct aH s}(h:Fn E f F c){x:jy s.inp}{Q:jy s.out->Prop}(g:F x Q):c.pre x=true/\Q (c.fn x):=by
 rw [h.e];obtain⟨y,i,a⟩:=(h.fm x).one _ g;have e:∃y,F x λz=>z=y:=⟨y,a⟩
 refine⟨by grind [cn,decide_eq_true,Classical.propDecidable],?_⟩;obtain⟨z,b,d⟩:=(h.fm x).two _ _ g (@Classical.epsilon_spec _ (λy=>F x λz=>z=y) e)
 grind [cn]
variable [aB]
section
variable {n:Nat} {ρ:Type}
theorem FM.region{X:XT}{C:Calls aH}{ops:List Oper}{K:RSt (std n)->(ρ->Prop)->Prop}(hK:∀s,FM (K s)):∀(a:List Oper) (s:RSt (std n)),FM (fP (std n) X C ops a K s)
 | [],s=>by unfold fP;exact hK s
 | o::a,s=>by
  have b:=FM.region (X:=X) (C:=C) (ops:=ops) hK a;unfold fP;split
  .split
   .split
    .split
     .refine FM.jw ?_ _;rw [G9];exact b _
     .exact .fail
    .split
     .exact FM.jw (FM.use λv k=>b _) _
     .exact .fail
   .split
    .split
     .exact b _
     .split
      .split
       .exact FM.jw (b _) _
       .exact .fail
      .split
       .split
        .exact FM.jw (FM.use λv k=>b _) _
        .exact .cond (FM.jw (FM.use λv k=>b _) _) (b _)
       .exact .fail
     .exact .fail
    .exact .fail
  .exact .fail
theorem FM.draw{X:XT}{C:Calls aH}{ops:List Oper}{K:RSt (std n)->(ρ->Prop)->Prop}(hK:∀s,FM (K s)):∀(a:List fU) (c:List (Nat×List Nat)) (s:RSt (std n)),FM (jS (std n) X C ops a c K s)
 | [],c,s=>by unfold jS;exact hK s
 | (i,rs,cs)::a,c,s=>by
  have b:=FM.draw (X:=X) (C:=C) (ops:=ops) hK a;unfold jS;split
  .exact .fail
  split
  .simp only
   repeat' split
   all_goals first
    | exact .fail
    | exact b _ _
    | exact FM.jw (b _ _) _
    | exact FM.jw (FM.use λv k=>b _ _) _
    | exact .cond (FM.jw (FM.use λv k=>b _ _) _) (b _ _)
    | (refine FM.jw ?_ _;rw [G9];exact b _ _)
  .exact .fail
theorem FM.cut{k:Nat}{c:dM}{d:Bool}{s:RSt (std n)}{K:Exit->RSt (std n)->(ρ->Prop)->Prop}(hK:∀e s,FM (K e s)){W: {σ:Type}->(Exit->RSt (std n)->(σ->Prop)->Prop)->(σ->Prop)->Prop}
  (a:∀ {σ:Type} {b:Exit->RSt (std n)->(σ->Prop)->Prop},(∀e s,FM (b e s))->FM (W b)):FM (Vo (std n) k c d s K W):=by
 unfold Vo;split
 .refine FM.bind' (a λe s=> ?_) (λt=>hK _ _);split
  .split
   .exact FM.jw (FM.ret' _) _
   .exact .fail
  .exact .fail
 .refine FM.aqy (a λe s=> ?_) (λt=>hK _ _);split
  .split
   .exact FM.jw (FM.inl' _) _
   .exact .fail
  .exact FM.inr' (hK _ _)
theorem FM.reg{X:XT}{C:Calls aH}{b:Nat->List fU}{chk:Nat->Array Oper->Nat->Bool}{id:Nat}{a:Array Oper}{draw:Bool}{s:RSt (std n)}{K:Exit->RSt (std n)->(ρ->Prop)->Prop}(hK:∀e s,FM (K e s)):
 FM ((if draw then(if chk id a s.m then jS (std n) X C a.toList (b id) [] (λs=>K .normal s) s else(std n).fail)else fP (std n) X C a.toList a.toList (λs=>K .normal s) s:(std n).M ρ)):=by grind [FM.draw,fail,FM.region]
end
theorem FM.exec{n:Nat}{X:XT}{C:Calls aH}{m:Nat->List fU}{chk:Nat->Array Oper->Nat->Bool}{k:Nat}:∀(q:Code) {ρ:Type} (d:Ann) (s:RSt (std n)) (K:Exit->RSt (std n)->(ρ->Prop)->Prop),(∀e s,FM (K e s))->FM (bS (std n) X C m chk k d q s K)
  | .skip,ρ,d,s,K,hK=>by cases d<;>exact hK _ _
  | .region id ops draw,ρ,d,s,K,hK=>by
    simp only [bS];split
    · exact FM.cut hK λf=>FM.reg f
    · exact FM.reg hK
  | .seq x y,ρ,d,s,K,hK=>by
    have c:∀l r (j:Exit->RSt (std n)->(ρ->Prop)->Prop),(∀a,j .normal a=bS (std n) X C m chk k r y a K)->(∀e a,e≠ .normal->j e a=K e a)->FM (bS (std n) X C m chk k l x s j):=by
      intro l r j t v;refine FM.exec x l s j λe a=> ?_
      by_cases p:e= .normal
      · subst p;rw [t];exact FM.exec y r a K hK
      · rw [v e a p];exact hK _ _
    cases d with
    | seq l r=>rw [bS];exact c l r _ (λ_=>rfl) (λe a p=>by cases e<;>first | rfl | exact absurd rfl p)
    | u=>rw [bS];exact c .u .u _ (λ_=>rfl) (λe a p=>by cases e<;>first | rfl | exact absurd rfl p)
    | _=>simp only [bS];exact .fail
  | .cond cd x y,ρ,d,s,K,hK=>by
    simp only [bS];split
    · split
      · exact .cond (FM.exec x _ s K hK) (FM.exec y _ s K hK)
      · exact .cond (FM.exec x _ s K hK) (FM.exec y _ s K hK)
      · exact FM.cut hK λf=> .cond (FM.exec x _ s _ f) (FM.exec y _ s _ f)
      · exact .fail
    · exact .fail
  | .block id b,ρ,d,s,K,hK=>by
    have c:∀ {σ:Type} {g:Exit->RSt (std n)->(σ->Prop)->Prop},(∀e s,FM (g e s))->∀l (j:Exit->RSt (std n)->(σ->Prop)->Prop),(∀e a,j e a=g e a\/j e a=g .normal a)->FM (bS (std n) X C m chk k l b s j):=by
      intro σ g f l j t;refine FM.exec b l s j λe a=> ?_
      rcases t e a with h | h<;>rw [h]<;>exact f _ _
    have o:∀ {σ:Type} {g:Exit->RSt (std n)->(σ->Prop)->Prop} (e:Exit) (a:RSt (std n)),(match e with | .exit i=>if i==id then g .normal a else g (.exit i) a | e=>g e a:(std n).M σ)=g e a\/(match e with | .exit i=>if i==id then g .normal a else g (.exit i) a | e=>g e a:(std n).M σ)=g .normal a:=by
      intro σ g e a;cases e with
      | exit i => simp only; split
                  · exact .inr rfl
                  · exact .inl rfl
      | _=>exact .inl rfl
    simp only [bS];split
    · exact c hK _ _ o
    · exact c hK _ _ o
    · exact FM.cut hK λf=>c f _ _ o
    · exact .fail
  | .loop b,ρ,d,s,K,hK=>by
    cases d with
    | loop w l=>
      rw [bS];split
      · refine FM.jw (FM.iter' (λx=>FM.exec b l _ _ λe a=> ?_) _) _;split
        · split
          · exact FM.jw (FM.inl' _) _
          · exact .fail
        · exact FM.inr' (hK _ _)
      · exact .fail
    | _=>simp only [bS];exact .fail
  | .exit i,ρ,d,s,K,hK=>by cases d<;>exact hK _ _
  | .ret,ρ,d,s,K,hK=>by cases d<;>exact hK _ _
  | .rangeFunc ..,ρ,d,s,K,hK=>by grind [bS,fail]
  | .scope _,ρ,d,s,K,hK=>by grind [bS,fail]
  | .label _,ρ,d,s,K,hK=>by grind [bS,fail]
  | .goto _,ρ,d,s,K,hK=>by grind [bS,fail]
  | .refuse _,ρ,d,s,K,hK=>by grind [bS,fail]
theorem FM.run{n:Nat}{X:XT}{C:Calls aH}{ord:Nat->List fU}{chk:Nat->Array Oper->Nat->Bool}{an:Ann}{b:Sig}{c:Func}{a:Code}(x:jy b.inp):FM (lZ (std n) X C ord chk an b c a x):=by
 unfold lZ;split
 .exact .fail
 .split
  .split
   .refine FM.exec a an _ _ λe s=> ?_
    have d:FM (aen (std n) X b c s):=by
     unfold aen;split
     .split
      .split
       .split
        .split
         .exact FM.jw (FM.ret' _) _
         .exact .fail
        .exact .fail
       .exact .fail
      .exact .fail
     .exact .fail
    grind [fail]
   .exact .fail
  .exact .fail
def ofL(C:Car)(l:List (FuncId×Sigma (Ct C))):Calls C:=λf=>(l.filter λp=>p.1==f).map (·.2)
def aez(l:List (Nat×List fU))(i:Nat):List fU:=match l.find? λp=>p.1==i with | some p=>p.2 | none=> []
def am5(E:Tab)(l:List (Nat×List fU))(id:Nat)(a:Array Oper)(m:Nat):Bool:=OC a.toList (aez l id)&&CZ E m a.toList&&OE E.P a.toList
theorem am6{E:Tab}{l:List (Nat×List fU)}:∀id a m,am5 E l id a m=true->Static E (aez l) id a m:=λ_ _ _ h=>h
theorem aqz{E:Tab}{l:List (FuncId×Sigma (Ct aH))}(h:∀p∈l,dP E p.1 (dK p.2.2)):tO E (nL (ofL aH l)):=by
 intro f R e;unfold nL at e;split at e
 .cases e
 .cases e;rename_i g;have b:∀c∈ofL aH l f,dP E f (dK c.2):=λc a=>by
   obtain⟨p,i,rfl⟩:=mem_map.1 a
   grind
  obtain⟨c,a⟩:=exists_mem_of_ne_nil _ g;exact⟨(b c a).enters,λd h n K ⟨c,a,hk⟩=>(b c a).calls d h n K hk⟩
def Ru(X:XT)(E:Tab)(A:Alg)(ord:List (Nat×List fU))(an:Ann)(s:Sig)(a:Func)(l:List (FuncId×Sigma (Ct A.aA)))(F:Tup A.aA s.inp->A.M (Tup A.aA s.out)):Prop:=
 ∀x,lZ A X (ofL A.aA l) (aez ord) (am5 E ord) an s a (a.body.getD .skip) x=F x
section
variable {X:XT} {E:Tab} (hE:aI E) (hX:XOK X E) (hm:E.P.follows .mixedOrders=true)
include hE hX hm
theorem aAW{f:FuncId}{e:Func}(m:E.P.funcs[f]? =some e)(g:e.body.isSome=true)(b:∀c,e.body=some c->Enters E.P f){l:List (FuncId×Sigma (Ct aH))}(n:∀p∈l,dP E p.1 (dK p.2.2)){ord:List (Nat×List fU)}{h:Sig}{an:Ann}
  {F:jy h.inp->(jy h.out->Prop)->Prop} (d:Ru X E (std 0) ord an h e l F):Fn E f F (cn F):=by
 obtain⟨a,g⟩:=Option.isSome_iff_exists.1 g;have j:∀x,lZ (std 0) X (ofL aH l) (aez ord) (am5 E ord) an h e a x=F x:=λx=>by have:=d x;simp_all
 have i:∀x,FM (F x):=λx=>by rw [<-j x];exact FM.run x
 refine⟨rfl,i,aw3 hE hX (aqz n) hm (ord:=aez ord) (chk:=am5 E ord) am6 m g (b _ g) (an:=an) (λx k=> ?_)⟩;rw [j x];simp only [cn]at k;exact @Classical.epsilon_spec _ (λy=>F x λz=>z=y) (@of_decide_eq_true _ (Classical.propDecidable _) k)
end
abbrev aB.z:aB:=⟨[],[]⟩
abbrev Tup.q{C:Car}{a b c d:LTy}{ts:List LTy}(x:Tup C (a::b::c::d::ts)):Tup C ts:=x.2.2.2.2
abbrev Tup.o{C:Car}{a b c d e f g h:LTy}{i:List LTy}(x:Tup C (a::b::c::d::e::f::g::h::i)):Tup C i:=x.2.2.2.2.2.2.2.2
abbrev Pt(A:Alg)(s:Sig):Type:=Tup A.aA s.inp->A.B
abbrev Ft(A:Alg)(s:Sig):Type:=Tup A.aA s.inp->Tup A.aA s.out
abbrev Ot(A:Alg)(s:Sig):Type:=A.M (Tup A.aA s.out)
structure Al(A:Alg) where
 n:Int->A.I
 z:A.I
 u:A.I
 T:A.B
 F:A.B
 e:A.I->A.I->A.B
 d:A.I->A.I->A.B
 l:A.I->A.I->A.B
 m:A.I->A.I->A.B
 g:A.I->A.I->A.B
 h:A.I->A.I->A.B
 p:A.I->A.I->A.I
 q:A.I->A.I->A.I
 t:A.I->A.I->A.I
 i: {ρ:Type}->A.I->(Tup A.aA [.i]->A.M ρ)->A.M ρ
 b: {ρ:Type}->A.B->(Tup A.aA [.b]->A.M ρ)->A.M ρ
 s: {ρ:Type}->(t:LTy)->LT A.aA t->(Tup A.aA [t]->A.M ρ)->A.M ρ
 j: {ρ:Type}->{i o:List LTy}->(Tup A.aA i->A.B)->(Tup A.aA i->Tup A.aA o)->Tup A.aA i->(Tup A.aA o->A.M ρ)->A.M ρ
 k: {ρ:Type}->{i o:List LTy}->A.B->(Tup A.aA i->A.B)->(Tup A.aA i->Tup A.aA o)->Tup A.aA i->(Tup A.aA o->A.M ρ)->A.M ρ
 v:A.B->A.M (Tup A.aA [.b])
 w: {ρ:Type}->(c:Co)->A.L c->A.I->A.M ρ->A.M ρ
 c: {ρ:Type}->A.B->A.M ρ->A.M ρ->A.M ρ
 C: {ρ:Type}->A.B->A.M ρ->A.M ρ
 r: {ts:List LTy}->Tup A.aA ts->A.M (Tup A.aA ts)
 L: {ρ:Type}->{ts:List LTy}->Tup A.aA ts->A.M (Sum (Tup A.aA ts) ρ)
 R: {ρ:Type}->{ts:List LTy}->A.M ρ->A.M (Sum (Tup A.aA ts) ρ)
 I: {ρ:Type}->(ts:List LTy)->(Tup A.aA ts->A.M (Sum (Tup A.aA ts) ρ))->Tup A.aA ts->A.M ρ
 f:(c:Co)->Nat->A.X c->A.I
 D:(c:Co)->Nat->(c':Co)->A.X c->A.L c'
 x:(c:Co)->Tup A.aA c.uN->A.X c
 y:(c:Co)->A.L c->A.I
 o:(c:Co)->A.L c->A.I->A.X c
 a:A.B->A.B->A.B->A.B
 N:A.B->A.B
 O:A.B->A.B->A.B
abbrev Alg.al(A:Alg):Al A where
 n:=A.lit
 z:=A.lit 0
 u:=A.lit 1
 T:=A.bl true
 F:=A.bl false
 e:=A.cmp .eql
 d:=A.cmp .neq
 l:=A.cmp .lss
 m:=A.cmp .leq
 g:=A.cmp .gtr
 h:=A.cmp .geq
 p:=A.arith .add .i64
 q:=A.arith .sub .i64
 t:=A.arith .mul .i64
 i:=λv k=>A.xM [.i] (v,()) k
 b:=λv k=>A.xM [.b] (v,()) k
 s:=λt v k=>A.xM [t] (v,()) k
 j:=λp f a k=>A.chk (p a) (A.xM _ (f a) k)
 k:=λb p f a k=>A.chk (A.orB (A.BL b) (p a)) (A.xM _ (f a) k)
 v:=λv=>A.xM [.b] (v,()) λx=>A.ret [.b] (x.1,())
 w:=λc l i m=>A.chk (A.cmp .leq (A.lit 0) i) (A.chk (A.cmp .lss i (A.len c l)) m)
 c:=A.cond
 C:=A.chk
 r:=A.ret _
 L:=A.inl _
 R:=A.inr _
 I:=A.iter
 f:=A.fI
 D:=A.fL
 x:=A.mkX
 y:=A.len
 o:=A.get
 a:=A.OH
 N:=A.BL
 O:=A.orB
abbrev SkC.i:SkC:= .int .i64
abbrev SkV.i:SkV:= .c (.int .i64)
abbrev SkV.b:SkV:= .c .bool
abbrev SkV.p(l s:Nat):SkV:= .c (.pb l s 0)
abbrev SkV.o(l:Nat):SkV:= .c (.own l)
abbrev SkV.r(f:Bool)(c:Co):SkV:= .c (.rows f c)
abbrev SkO.g(l:List SkC):SkO:= .box (.agg l)
abbrev SkC.e:SkC:= .rows true .i64
abbrev SkO.e:SkO:= .rows true .i64
abbrev SkO.s(f:Bool)(c:Co):SkO:= .box (.sv f c)
abbrev Ann.v(a:Ann):Ann:= .seq .u a
end Go.TX
namespace Go.TX
open Go Go.AE List
section
variable [aB]
def tmps(l:List Operand):List Nat:=l.filterMap λ| .tmp t=>some t | _=>none
def opT(d:List Oper)(o:Oper):List Nat:=
 (match o.op with
 | .build _ e | .buildSlice _ _ e=>tmps (e.toList.map (·.2))
 | .slice _ x a b c=>tmps (x::(a.toList++b.toList++c.toList))
 | .makeFunc _ a b=>tmps (a.toList++b.toList)
 | .call c=>tmps c.operands.toList
 | .lookup _ a v _=>tmps [a,v]++(oK d).map (·.2)
 | op=>tmps op.operands.toList)++(match o.guard with | some (j,_)=>(gslot d j).toList | none=> [])
def afN(b:List Oper)(m:List Nat)(e:Nat):Nat->Nat->List fU->List fU
 | 0,_,out=>out
 | k+1,dn,out=>
  let g (i:Nat):Nat:=match b[i]? with | some o=>ae8 [] o.after.toList | none=>0
  let c (i q:Nat):Bool:= !dn.testBit i&& (g i&&&q)==g i
  let f (i:Nat):List Nat:=match b[i]? with | some o=>opT b o | none=> []
  let n:=range b.length
  match n.find? λi=>Nat.ble (bH b i) 1&&c i (n.foldl (λd j=>if e.testBit j&& !(match gslot b j with | some x=>(f i).contains x | none=>false)then d ||| 2^j else d) dn)with
  | some i=>afN b m e k (dn ||| 2^i) (out++ [(i,f i,[])])
  | none=>match n.find? λi=>bH b i==3&&c i (dn ||| e)with
   | some i=>
    let a:=n.filter λj=>bH b j==2&& !dn.testBit j&& (m.getD i 0).testBit j
    afN b m e k (a.foldl (λd j=>d ||| 2^j) dn ||| 2^i) (out++a.map (λj=>(j,[],[]))++ [(i,f i,(out.filter λp=>loadAt b p.1&& !nC m i p.1).map (·.1))])
   | none=>out++(n.filter λj=> !dn.testBit j).map (λj=>(j,[],[]))
def axd(a:List Oper):List fU:=afN a (masks a) ((range a.length).foldl (λd i=>if bH a i==2 then d ||| 2^i else d) 0) (a.length+1) 0 []
def am7:Code->List (Nat×List fU)
 | .region id c true=> [(id,axd c.toList)]
 | .seq a b | .cond _ a b=>am7 a++am7 b
 | .block _ b | .loop b=>am7 b
 | _=> []
def aqA(f:Func):List (Nat×List fU):=am7 (f.body.getD .skip)
end
inductive Ex where
 | v (n j:Nat) | ln (n:Nat) | lz (n:Nat) | bl (b:Bool) | st (s:ByteArray)
 | ar (op:BinOp) (k:IntKind) (x y:Ex) | cm (op:BinOp) (x y:Ex) | addN (x y:Ex) | Sl (x y:Ex) | neg (k:IntKind) (x:Ex) | conv (k:IntKind) (x:Ex) | Va (x y:Ex) | lF (x y:Ex)
 | BL (x:Ex) | Sn (x y:Ex) | orB (x y:Ex) | eqB (x y:Ex) | eqS (x y:Ex) | Vb (x:Ex)
 | Vd (b x y:Ex) | OH (b x y:Ex) | Ve (b:Ex) (c:Co) (x y:Ex) | ael (b:Ex) (c:Co) (x y:Ex)
 | len (c:Co) (x:Ex) | I5 (c:Co) | get (c:Co) (x i:Ex) | set (c:Co) (x i y:Ex) | app (c:Co) (x y:Ex) | sub (c:Co) (x i j:Ex) | rep (c:Co) (n x:Ex) | lst (c:Co) (xs:List Ex) | glob (n:Nat) (c:Co)
 | fI (c:Co) (j:Nat) (x:Ex) | fB (c:Co) (j:Nat) (x:Ex) | fS (c:Co) (j:Nat) (x:Ex) | fL (c:Co) (j:Nat) (c':Co) (x:Ex) | mkX (c:Co) (ts:List LTy) (t:List Ex) | eqX (c:Co) (x y:Ex)
 | cp (i:Nat) (ts:List LTy) (t:List Ex) | cf (i:Nat) (ts:List LTy) (t:List Ex) (j:Nat)
inductive Pg where
 | ret (ts:List LTy) (t:List Ex) | xM (ts:List LTy) (t:List Ex) (k:Pg) | axe (i:Nat) (ts:List LTy) (t:List Ex) (k:Pg) | fail | chk (b:Ex) (m:Pg) | cond (b:Ex) (x y:Pg) | bind (ts:List LTy) (m k:Pg) | yJ (ts:List LTy) (m k:Pg)
 | inl (ts:List LTy) (t:List Ex) | inr (ts:List LTy) (m:Pg) | iter (ts:List LTy) (b:Pg) (t:List Ex)
abbrev Pb:Car:={I:=Ex,B:=Ex,S:=Ex,L:=λ_=>Ex,X:=λ_=>Ex}
def lvE:LV Pb->Ex | .i x=>x | .b x=>x | .s x=>x | .l _ x=>x | .x _ x=>x
def tE(a:List LTy)(t:Tup Pb a):List Ex:=(unpack Pb a t).map lvE
def eT(f:Nat->Ex):(a:List LTy)->Nat->Tup Pb a
 | [],_=>()
 | t::r,j=>(match t with | .i=>f j | .b=>f j | .s=>f j | .l _=>f j | .x _=>f j,eT f r (j+1))
def vT(a:List LTy)(n:Nat):Tup Pb a:=eT (.v n) a 0
def axf(i:Nat):Nat->List Ex->Bool
 | _,[]=>true
 | j,.cf i' _ _ j'::r=>Nat.beq i i'&&Nat.beq j j'&&axf i (j+1) r
 | _,_=>false
structure MS where
 run:Nat->Pg
def aAX:Alg:={
 aA:=Pb
 M:=λ_=>MS
 lit:=λn=>(match n with | .ofNat k=> .ln k | .negSucc k=> .lz (k+1)),bl:= .bl,st:= .st,arith:= .ar,cmp:= .cm,addN:= .addN,Sl:= .Sl,neg:= .neg,conv:= .conv,Va:= .Va,lF:= .lF
 BL:= .BL,Sn:= .Sn,orB:= .orB,eqB:= .eqB,eqS:= .eqS,Vb:= .Vb,Vd:= .Vd,OH:= .OH,Ve:= .Ve,ael:= .ael
 len:= .len,I5:= .I5,get:= .get,set:= .set,app:= .app,sub:= .sub,rep:= .rep,lst:= .lst,glob:= .glob
 fI:= .fI,fB:= .fB,fS:= .fS,fL:= .fL,mkX:=λc t=> .mkX c c.uN (tE c.uN t),eqX:= .eqX
 ret:=λa t=>⟨λ_=> .ret a (tE a t)⟩
 xM:=λa t k=>⟨λn=>match tE a t with | .cf i q e 0::r=>if axf i 1 r then .axe i q e ((k (vT a n)).run (n+1))else .xM a (.cf i q e 0::r) ((k (vT a n)).run (n+1)) | e=> .xM a e ((k (vT a n)).run (n+1))⟩
 fail:=⟨λ_=> .fail⟩
 chk:=λb m=>⟨λn=> .chk b (m.run n)⟩
 cond:=λb x y=>⟨λn=> .cond b (x.run n) (y.run n)⟩
 bind:=λa m k=>⟨λn=> .bind a (m.run n) ((k (vT a n)).run (n+1))⟩
 yJ:=λa m k=>⟨λn=> .yJ a (m.run n) ((k (vT a n)).run (n+1))⟩
 inl:=λa t=>⟨λ_=> .inl a (tE a t)⟩
 inr:=λa m=>⟨λn=> .inr a (m.run n)⟩
 iter:=λa b t=>⟨λn=> .iter a ((b (vT a n)).run (n+1)) (tE a t)⟩}
def sCt(i:Nat)(s:Sig):Ct Pb s:={pre:=λt=> .cp i s.inp (tE s.inp t),fn:=λt=>eT (.cf i s.inp (tE s.inp t)) s.out 0}
def scs:List (Nat×Sig)->Nat->List (FuncId×Sigma (Ct Pb))
 | [],_=> []
 | p::r,i=>(p.1,⟨p.2,sCt i p.2⟩)::scs r (i+1)
def aAY(k:aB)(X:XT)(a:Ann)(s:Sig)(f:Func)(l:List (Nat×Sig)):Pg:=
 (lZ aAX X (ofL Pb (scs l 0)) (aez (aqA f)) (λ_ _ _=>true) a s f (f.body.getD .skip) (vT s.inp 0)).run 1
abbrev Cs(A:Alg):List (Nat×Sig)->Type
 | []=>Unit
 | p::r=>Pt A p.2×Ft A p.2×Cs A r
abbrev csl(A:Alg):(l:List (Nat×Sig))->Cs A l->List (FuncId×Sigma (Ct A.aA))
 | [],_=> []
 | p::r,c=>(p.1,⟨p.2,⟨c.1,c.2.1⟩⟩)::csl A r c.2.2
abbrev Vs(A:Alg):=List ((a:List LTy)×Tup A.aA a)
section
variable (A:Alg) (L Z:Nat->A.I) (W:ByteArray->A.S) (P:∀ {α β:Type},α×β->α) (Q:∀ {α β:Type},α×β->β) (U:Unit) (l:List (Nat×Sig)) (C:Cs A l) (N:Nat) (V:Vs A)
def dfl:(t:LTy)->LT A.aA t
 | .i=>L 0 | .b=>A.bl true | .s=>W default | .l c=>A.I5 c | .x c=>A.get c (A.I5 c) (L 0)
def aqB:(a:List LTy)->Tup A.aA a | []=>() | t::r=>(dfl A L W t,aqB r)
def cst(a t:LTy)(x:LT A.aA a):LT A.aA t:=if h:a=t then h▸x else dfl A L W t
def aeA(a b:List LTy)(x:Tup A.aA a):Tup A.aA b:=if h:a=b then h▸x else aqB A L W b
def vrT:(a:List LTy)->Tup A.aA a->Nat->(t:LTy)->LT A.aA t
 | [],_,_,t=>dfl A L W t
 | t'::_,x,0,t=>cst A L W t' t (P x)
 | _::r,x,j+1,t=>vrT r (Q x) j t
def vr(n j:Nat)(t:LTy):LT A.aA t:=match V[N-1-n]? with | some p=>vrT A L W P Q p.1 p.2 j t | none=>dfl A L W t
def cP:(l:List (Nat×Sig))->Cs A l->Nat->((s:Sig)->Tup A.aA s.inp)->A.B
 | [],_,_,_=>A.bl true
 | p::_,c,0,g=>c.1 (g p.2)
 | _::r,c,i+1,g=>cP r c.2.2 i g
def cF{R:Type}(d:R):(l:List (Nat×Sig))->Cs A l->Nat->((s:Sig)->Ft A s->R)->R
 | [],_,_,_=>d
 | p::_,c,0,g=>g p.2 c.2.1
 | _::r,c,i+1,g=>cF d r c.2.2 i g
mutual
def ev:Ex->(t:LTy)->LT A.aA t
 | .v n j,t=>vr A L W P Q N V n j t
 | .ln n,.i=>L n
 | .lz n,.i=>Z n
 | .bl b,.b=>A.bl b
 | .st s,.s=>W s
 | .ar op k x y,.i=>A.arith op k (ev x .i) (ev y .i)
 | .cm op x y,.b=>A.cmp op (ev x .i) (ev y .i)
 | .addN x y,.i=>A.addN (ev x .i) (ev y .i)
 | .Sl x y,.i=>A.Sl (ev x .i) (ev y .i)
 | .neg k x,.i=>A.neg k (ev x .i)
 | .conv k x,.i=>A.conv k (ev x .i)
 | .Va x y,.i=>A.Va (ev x .i) (ev y .i)
 | .lF x y,.i=>A.lF (ev x .i) (ev y .i)
 | .BL x,.b=>A.BL (ev x .b)
 | .Sn x y,.b=>A.Sn (ev x .b) (ev y .b)
 | .orB x y,.b=>A.orB (ev x .b) (ev y .b)
 | .eqB x y,.b=>A.eqB (ev x .b) (ev y .b)
 | .eqS x y,.b=>A.eqS (ev x .s) (ev y .s)
 | .Vb x,.s=>A.Vb (ev x (.l .u8))
 | .Vd b x y,.i=>A.Vd (ev b .b) (ev x .i) (ev y .i)
 | .OH b x y,.b=>A.OH (ev b .b) (ev x .b) (ev y .b)
 | .Ve b _ x y,.l c=>A.Ve (ev b .b) c (ev x (.l c)) (ev y (.l c))
 | .ael b _ x y,.x c=>A.ael (ev b .b) c (ev x (.x c)) (ev y (.x c))
 | .len c x,.i=>A.len c (ev x (.l c))
 | .I5 _,.l c=>A.I5 c
 | .get _ x i,.x c=>A.get c (ev x (.l c)) (ev i .i)
 | .set _ x i y,.l c=>A.set c (ev x (.l c)) (ev i .i) (ev y (.x c))
 | .app _ x y,.l c=>A.app c (ev x (.l c)) (ev y (.l c))
 | .sub _ x i j,.l c=>A.sub c (ev x (.l c)) (ev i .i) (ev j .i)
 | .rep _ n x,.l c=>A.rep c (ev n .i) (ev x (.x c))
 | .lst _ xs,.l c=>A.lst c (evs c xs)
 | .glob n _,.l c=>A.glob n c
 | .fI c j x,.i=>A.fI c j (ev x (.x c))
 | .fB c j x,.b=>A.fB c j (ev x (.x c))
 | .fS c j x,.s=>A.fS c j (ev x (.x c))
 | .fL c j _ x,.l c'=>A.fL c j c' (ev x (.x c))
 | .mkX _ ts t,.x c=>A.mkX c (aeA A L W ts c.uN (tp t ts))
 | .eqX c x y,.b=>A.eqX c (ev x (.x c)) (ev y (.x c))
 | .cp i ts t,.b=>cP A l C i λs=>aeA A L W ts s.inp (tp t ts)
 | .cf i ts t j,ty=>cF A (dfl A L W ty) l C i λs f=>vrT A L W P Q s.out (f (aeA A L W ts s.inp (tp t ts))) j ty
 | _,t=>dfl A L W t
termination_by structural e=>e
def tp:List Ex->(a:List LTy)->Tup A.aA a
 | _,[]=>U
 | e::r,t::a=>(ev e t,tp r a)
 | [],t::a=>aqB A L W (t::a)
termination_by structural e=>e
def evs(c:Co):List Ex->List (A.X c)
 | []=> []
 | e::r=>ev e (.x c)::evs c r
termination_by structural e=>e
end
end
inductive RT where
 | t (ts:List LTy) | s (ts:List LTy) (r:RT)
abbrev RT.den(A:Alg):RT->Type
 | .t a=>Tup A.aA a
 | .s a r=>Sum (Tup A.aA a) (r.den A)
def den(A:Alg)(L Z:Nat->A.I)(W:ByteArray->A.S)(P:∀ {α β:Type},α×β->α)(Q:∀ {α β:Type},α×β->β)(U:Unit)(l:List (Nat×Sig))(C:Cs A l):Pg->(r:RT)->Nat->Vs A->A.M (r.den A)
 | .ret q t,.t ts,N,V=>A.ret ts (aeA A L W q ts (tp A L Z W P Q U l C N V t q))
 | .xM ts t k,r,N,V=>A.xM ts (tp A L Z W P Q U l C N V t ts) λy=>den A L Z W P Q U l C k r (N+1) (⟨ts,y⟩::V)
 | .axe i q t k,r,N,V=>cF A A.fail l C i λs f=>A.xM s.out (f (aeA A L W q s.inp (tp A L Z W P Q U l C N V t q))) λy=>den A L Z W P Q U l C k r (N+1) (⟨s.out,y⟩::V)
 | .chk b m,r,N,V=>A.chk (ev A L Z W P Q U l C N V b .b) (den A L Z W P Q U l C m r N V)
 | .cond b x y,r,N,V=>A.cond (ev A L Z W P Q U l C N V b .b) (den A L Z W P Q U l C x r N V) (den A L Z W P Q U l C y r N V)
 | .bind ts m k,r,N,V=>A.bind ts (den A L Z W P Q U l C m (.t ts) N V) λy=>den A L Z W P Q U l C k r (N+1) (⟨ts,y⟩::V)
 | .yJ ts m k,r,N,V=>A.yJ ts (den A L Z W P Q U l C m (.s ts r) N V) λy=>den A L Z W P Q U l C k r (N+1) (⟨ts,y⟩::V)
 | .inl q t,.s ts _,N,V=>A.inl ts (aeA A L W q ts (tp A L Z W P Q U l C N V t q))
 | .inr _ m,.s ts r,N,V=>A.inr ts (den A L Z W P Q U l C m r N V)
 | .iter ts b t,r,N,V=>A.iter ts (λy=>den A L Z W P Q U l C b (.s ts r) (N+1) (⟨ts,y⟩::V)) (tp A L Z W P Q U l C N V t ts)
 | _,_,_,_=>A.fail
inductive Hx {α:Type}:α->α->Prop | r (a:α):Hx a a
theorem nz(n:Nat):(Nat.cast (no_index (@OfNat.ofNat Nat n (instOfNatNat n))):Int)=OfNat.ofNat n:=rfl
structure Gt(k:aB)(X:XT)(E:Tab)(a:Ann)(s:Sig)(f:Func)(l:List (Nat×Sig)) where
 F:Cs (std 0) l->jy s.inp->(jy s.out->Prop)->Prop
 h:∀C,Ru X E (std 0) (aqA f) a s f (csl (std 0) l C) (F C)
def gm{k:aB}{X:XT}{E:Tab}{a:Ann}{s:Sig}{f:Func}{l:List (Nat×Sig)}{F:(A:Alg)->Cs A l->Tup A.aA s.inp->Ot A s}
 (i:∀A (P:∀ {α β:Type},α×β->α) (Q:∀ {α β:Type},α×β->β) (U:Unit), @P= @Prod.fst-> @Q= @Prod.snd->U=()->∀C x,Hx (den A (λn=>A.lit (Nat.cast n)) (λn=>A.lit (-(Nat.cast n))) A.st P Q U l C (aAY k X a s f l) (.t s.out) 1 [⟨s.inp,x⟩]) (F A C x):=by
  intro A P Q U g b c C x;generalize d:(λn:Nat=>A.lit (Nat.cast n))=L;generalize e:(λn:Nat=>A.lit (-(Nat.cast n)))=Z
  conv=>arg 1;arg 10;reduce
  conv=>arg 1;reduce
  subst d e g b c
  try dsimp only [nz]
  exact .r _)
 (h:∀A C,Ru X E A (aqA f) a s f (csl A l C) (F A C):=by intro _ _ _;kernel_rfl):Gt k X E a s f l:=⟨F (std 0),h (std 0)⟩
end Go.TX
namespace Go.TX.Seat
open Go Go.AE Go.TX Go.Proofs List
variable{P:Program}{t:TypeId}{y:TY}
set_option maxRecDepth 100000
abbrev z0:Cell:= .d true (.int .i64 0)
abbrev z1:Cell:= .d true (.bool false)
abbrev u0:TY:=⟨(.int .i64),1,8,[z0]⟩
abbrev u1:TY:=⟨(.int .u8),1,1,[.d true (.int .u8 0)]⟩
abbrev u2:TY:=⟨(.struct [(0,2),(1,3),(2,4),(3,6)]),4,24,[z0,z0,z1,.d true (.int .u8 0)]⟩
abbrev u3:TY:=⟨.str,1,16,[.d true (.str ⟨#[]⟩)]⟩
abbrev u4:TY:=⟨(.int .u64),1,8,[.d true (.int .u64 0)]⟩
abbrev u5:TY:=⟨(.struct [(0,9),(1,12)]),2,24,[.d true (.str ⟨#[]⟩),.d true (.int .u64 0)]⟩
abbrev u6:TY:=⟨.scalar,1,8,[.np]⟩
abbrev u7:TY:=⟨(.int .i32),1,4,[.d true (.int .i32 0)]⟩
abbrev u8:TY:=⟨(.struct [(0,23),(1,3),(2,23),(3,3),(4,4),(5,4),(6,3),(7,23),(8,23),(9,3)]),10,136,[.nil,z0,.nil,z0,z1,z1,z0,.nil,.nil,z0]⟩
abbrev u9:TY:=⟨(.struct [(0,25),(10,26),(11,27)]),12,184,[.nil,z0,.nil,z0,z1,z1,z0,.nil,.nil,z0,.nil,.nil]⟩
abbrev u10:TY:=⟨(.struct [(0,4),(1,22)]),2,32,[z1,.nil]⟩
abbrev u11:TY:=⟨(.struct [(0,3),(1,3),(2,70),(3,3),(4,3),(5,3),(6,3)]),7,72,[z0,z0,.nil,z0,z0,z0,z0]⟩
abbrev u12:TY:=⟨(.struct [(0,23),(1,72)]),8,96,[.nil,z0,z0,.nil,z0,z0,z0,z0]⟩
abbrev u13:TY:=⟨(.struct [(0,22),(1,3)]),2,32,[.nil,z0]⟩
abbrev u14:TY:=⟨(.struct [(0,3),(1,3),(2,3),(3,3)]),4,32,[z0,z0,z0,z0]⟩
abbrev u15:TY:=⟨(.struct [(0,72),(7,72)]),14,144,[z0,z0,.nil,z0,z0,z0,z0,z0,z0,.nil,z0,z0,z0,z0]⟩
abbrev u16:TY:=⟨(.struct [(0,3),(1,3),(2,3),(3,3),(4,3)]),5,40,[z0,z0,z0,z0,z0]⟩
abbrev u17:TY:=⟨(.struct [(0,148),(1,145),(2,3),(3,151),(4,151),(5,3)]),6,112,[.nil,.nil,z0,.nil,.nil,z0]⟩
abbrev u18:TY:=⟨(.struct [(0,72),(7,3)]),8,80,[z0,z0,.nil,z0,z0,z0,z0,z0]⟩
abbrev u19:TY:=⟨(.struct [(0,3),(1,3),(2,151),(3,151)]),4,64,[z0,z0,.nil,.nil]⟩
abbrev u20:TY:=⟨(.struct [(0,3),(1,3),(2,151),(3,151),(4,145)]),5,88,[z0,z0,.nil,.nil,.nil]⟩
abbrev u21:TY:=⟨(.struct [(0,4),(1,4),(2,3),(3,211)]),4,40,[z1,z1,z0,.nil]⟩
abbrev u22:TY:=⟨(.struct [(0,144),(1,4)]),2,32,[.nil,z1]⟩
abbrev u23:TY:=⟨(.struct [(0,3),(1,23)]),2,32,[z0,.nil]⟩
abbrev u24:TY:=⟨(.struct [(0,17),(1,17),(2,17),(3,9)]),4,40,[.np,.np,.np,.d true (.str ⟨#[]⟩)]⟩
def ty:TypeId->Option TY
 | 2=>some u0
 | 3=>some u0
 | 4=>some ⟨.bool,1,1,[z1]⟩
 | 5=>some u1
 | 6=>some u1
 | 7=>some u2
 | 8=>some u2
 | 9=>some u3
 | 10=>some u3
 | 11=>some u3
 | 12=>some u4
 | 13=>some u5
 | 14=>some u5
 | 15=>some u6
 | 16=>some u6
 | 17=>some u6
 | 18=>some ⟨(.struct [(0,17)]),1,8,[.np]⟩
 | 19=>some ⟨(.struct [(0,17)]),1,8,[.np]⟩
 | 21=>some u7
 | 22=>some ⟨(.slice 5),1,24,[.nil]⟩
 | 23=>some ⟨(.slice 3),1,24,[.nil]⟩
 | 24=>some u8
 | 25=>some u8
 | 26=>some ⟨(.slice 74),1,24,[.nil]⟩
 | 27=>some ⟨(.slice 90),1,24,[.nil]⟩
 | 28=>some u9
 | 29=>some u9
 | 30=>some ⟨(.slice 42),1,24,[.nil]⟩
 | 41=>some u10
 | 42=>some u10
 | 47=>some u6
 | 70=>some ⟨(.slice 125),1,24,[.nil]⟩
 | 71=>some u11
 | 72=>some u11
 | 73=>some u12
 | 74=>some u12
 | 79=>some u13
 | 80=>some u13
 | 84=>some u14
 | 85=>some u14
 | 86=>some ⟨(.slice 85),1,24,[.nil]⟩
 | 89=>some u15
 | 90=>some u15
 | 94=>some u6
 | 104=>some u6
 | 124=>some u16
 | 125=>some u16
 | 142=>some ⟨(.slice 191),1,24,[.nil]⟩
 | 143=>some ⟨(.struct [(0,142)]),1,24,[.nil]⟩
 | 144=>some ⟨(.struct [(0,142)]),1,24,[.nil]⟩
 | 145=>some ⟨(.slice 151),1,24,[.nil]⟩
 | 148=>some ⟨(.slice 202),1,24,[.nil]⟩
 | 149=>some ⟨(.slice 244),1,24,[.nil]⟩
 | 150=>some ⟨(.struct [(0,149)]),1,24,[.nil]⟩
 | 151=>some ⟨(.struct [(0,149)]),1,24,[.nil]⟩
 | 152=>some u17
 | 153=>some u17
 | 157=>some u4
 | 159=>some u6
 | 162=>some u6
 | 163=>some u18
 | 164=>some u18
 | 190=>some u19
 | 191=>some u19
 | 201=>some u20
 | 202=>some u20
 | 211=>some ⟨(.slice 9),1,24,[.nil]⟩
 | 212=>some u21
 | 213=>some u21
 | 214=>some ⟨(.slice 213),1,24,[.nil]⟩
 | 216=>some u6
 | 217=>some u22
 | 218=>some u22
 | 233=>some ⟨(.slice 4),1,24,[.nil]⟩
 | 243=>some u23
 | 244=>some u23
 | 283=>some u6
 | 286=>some ⟨(.slice 149),1,24,[.nil]⟩
 | 288=>some ⟨(.slice 23),1,24,[.nil]⟩
 | 294=>some u0
 | 301=>some ⟨(.int .u32),1,4,[.d true (.int .u32 0)]⟩
 | 303=>some u4
 | 306=>some u4
 | 311=>some u6
 | 315=>some u24
 | 316=>some u24
 | 320=>some u1
 | 321=>some u1
 | 323=>some u6
 | 324=>some u7
 | 325=>some u7
 | _=>none
def yA(i:TypeInfo)(d:Oo P t y.desc)(h:P.info? t=some i:=by kernel_rfl)(s:i.size=y.size:=by rfl)(b:i.bytes=y.bytes:=by rfl)
 (z:∃z,i.zero=some z/\zcs z.cells.toList=some y.zero:=by exact⟨_,rfl,rfl⟩) (l:y.zero.length=y.size:=by rfl):aeQ P t y:=⟨⟨i,h,s,b,z.elim λx h=>⟨x,h.1,λ_ _=>aco h.2⟩⟩,d,l⟩
def yS{F:Array Field}(i:TypeInfo)(u:P.underlying t=some (.struct F))(e:y.desc= .struct (F.toList.map λf=>(f.offset,f.type)):=by rfl)(h:P.info? t=some i:=by kernel_rfl)(s:i.size=y.size:=by rfl)(b:i.bytes=y.bytes:=by rfl)
 (z:∃z,i.zero=some z/\zcs z.cells.toList=some y.zero:=by exact⟨_,rfl,rfl⟩) (l:y.zero.length=y.size:=by rfl):aeQ P t y:=yA i (by rw [e];exact⟨F,u,rfl⟩) h s b z l
def yP{e:TypeId}(i:TypeInfo)(u:P.underlying t=some (.pointer e))(e:y.desc= .scalar:=by rfl)(h:P.info? t=some i:=by kernel_rfl)(s:i.size=y.size:=by rfl)(b:i.bytes=y.bytes:=by rfl)
 (z:∃z,i.zero=some z/\zcs z.cells.toList=some y.zero:=by exact⟨_,rfl,rfl⟩) (l:y.zero.length=y.size:=by rfl):aeQ P t y:=yA i (by rw [e];exact⟨_,u,(λ_ h=>by cases h),(λ_ _ h=>by cases h)⟩) h s b z l
def aAZ:∀t y,ty t=some y->aeQ Tryz.prog t y:=by
 intro t y h;unfold ty at h;split at h<;>cases h
 .exact yA Tryz.t2 Tryz.underlying2
 .exact yA Tryz.t3 Tryz.underlying3
 .exact yA Tryz.t4 Tryz.underlying4
 .exact yA Tryz.t5 Tryz.underlying5
 .exact yA Tryz.t6 Tryz.underlying6
 .exact yS Tryz.t7 Tryz.underlying7
 .exact yS Tryz.t8 Tryz.underlying8
 .exact yA Tryz.t9 Tryz.underlying9
 .exact yA Tryz.t10 Tryz.underlying10
 .exact yA Tryz.t11 Tryz.underlying11
 .exact yA Tryz.t12 Tryz.underlying12
 .exact yS Tryz.t13 Tryz.underlying13
 .exact yS Tryz.t14 Tryz.underlying14
 .exact yP Tryz.t15 Tryz.underlying15
 .exact yP Tryz.t16 Tryz.underlying16
 .exact yP Tryz.t17 Tryz.underlying17
 .exact yS Tryz.t18 Tryz.underlying18
 .exact yS Tryz.t19 Tryz.underlying19
 .exact yA Tryz.t21 Tryz.underlying21
 .exact yA Tryz.t22 Tryz.underlying22
 .exact yA Tryz.t23 Tryz.underlying23
 .exact yS Tryz.t24 Tryz.underlying24
 .exact yS Tryz.t25 Tryz.underlying25
 .exact yA Tryz.t26 Tryz.underlying26
 .exact yA Tryz.t27 Tryz.underlying27
 .exact yS Tryz.t28 Tryz.underlying28
 .exact yS Tryz.t29 Tryz.underlying29
 .exact yA Tryz.t30 Tryz.underlying30
 .exact yS Tryz.t41 Tryz.underlying41
 .exact yS Tryz.t42 Tryz.underlying42
 .exact yP Tryz.t47 Tryz.underlying47
 .exact yA Tryz.t70 Tryz.underlying70
 .exact yS Tryz.t71 Tryz.underlying71
 .exact yS Tryz.t72 Tryz.underlying72
 .exact yS Tryz.t73 Tryz.underlying73
 .exact yS Tryz.t74 Tryz.underlying74
 .exact yS Tryz.t79 Tryz.underlying79
 .exact yS Tryz.t80 Tryz.underlying80
 .exact yS Tryz.t84 Tryz.underlying84
 .exact yS Tryz.t85 Tryz.underlying85
 .exact yA Tryz.t86 Tryz.underlying86
 .exact yS Tryz.t89 Tryz.underlying89
 .exact yS Tryz.t90 Tryz.underlying90
 .exact yP Tryz.t94 Tryz.underlying94
 .exact yP Tryz.t104 Tryz.underlying104
 .exact yS Tryz.t124 Tryz.underlying124
 .exact yS Tryz.t125 Tryz.underlying125
 .exact yA Tryz.t142 Tryz.underlying142
 .exact yS Tryz.t143 Tryz.underlying143
 .exact yS Tryz.t144 Tryz.underlying144
 .exact yA Tryz.t145 Tryz.underlying145
 .exact yA Tryz.t148 Tryz.underlying148
 .exact yA Tryz.t149 Tryz.underlying149
 .exact yS Tryz.t150 Tryz.underlying150
 .exact yS Tryz.t151 Tryz.underlying151
 .exact yS Tryz.t152 Tryz.underlying152
 .exact yS Tryz.t153 Tryz.underlying153
 .exact yA Tryz.t157 Tryz.underlying157
 .exact yP Tryz.t159 Tryz.underlying159
 .exact yP Tryz.t162 Tryz.underlying162
 .exact yS Tryz.t163 Tryz.underlying163
 .exact yS Tryz.t164 Tryz.underlying164
 .exact yS Tryz.t190 Tryz.underlying190
 .exact yS Tryz.t191 Tryz.underlying191
 .exact yS Tryz.t201 Tryz.underlying201
 .exact yS Tryz.t202 Tryz.underlying202
 .exact yA Tryz.t211 Tryz.underlying211
 .exact yS Tryz.t212 Tryz.underlying212
 .exact yS Tryz.t213 Tryz.underlying213
 .exact yA Tryz.t214 Tryz.underlying214
 .exact yP Tryz.t216 Tryz.underlying216
 .exact yS Tryz.t217 Tryz.underlying217
 .exact yS Tryz.t218 Tryz.underlying218
 .exact yA Tryz.t233 Tryz.underlying233
 .exact yS Tryz.t243 Tryz.underlying243
 .exact yS Tryz.t244 Tryz.underlying244
 .exact yP Tryz.t283 Tryz.underlying283
 .exact yA Tryz.t286 Tryz.underlying286
 .exact yA Tryz.t288 Tryz.underlying288
 .exact yA Tryz.t294 Tryz.underlying294
 .exact yA Tryz.t301 Tryz.underlying301
 .exact yA Tryz.t303 Tryz.underlying303
 .exact yA Tryz.t306 Tryz.underlying306
 .exact yP Tryz.t311 Tryz.underlying311
 .exact yS Tryz.t315 Tryz.underlying315
 .exact yS Tryz.t316 Tryz.underlying316
 .exact yA Tryz.t320 Tryz.underlying320
 .exact yA Tryz.t321 Tryz.underlying321
 .exact yP Tryz.t323 Tryz.underlying323
 .exact yA Tryz.t324 Tryz.underlying324
 .exact yA Tryz.t325 Tryz.underlying325
def co:TypeId->Option Co
 | 3=>some .i64
 | 4=>some .bool
 | 5=>some .u8
 | 9=>some .str
 | 23=>some .ints
 | 25=>some .aj
 | 29=>some .eng
 | 42=>some .ask
 | 72=>some .blk
 | 74=>some .cac
 | 85=>some .ins
 | 90=>some .cer
 | 125=>some .iop
 | 144=>some .tab
 | 149=>some .poly
 | 151=>some .poly
 | 153=>some .sym
 | 191=>some .atom
 | 202=>some .ev
 | 213=>some .form
 | 244=>some .mono
 | _=>none
def ieq:TypeId->Option Co
 | 85=>some .ins
 | 125=>some .iop
 | _=>none
def X:XT:={ty:=ty,co:=co,glob:=λg=>if g==0 then some .form else none,ieq:=ieq}
noncomputable def E:Tab:={P:=Tryz.prog,ty:=ty,glob:=λg=>if g==0 then some (.rows 4 (aR .form vN))else none,ieq:=λt=>(ieq t).map λc=>c.size}
end Go.TX.Seat
namespace Go.TX.F
open Go Go.AE Go.TX List
set_option maxRecDepth 100000
abbrev bY:Sig:=⟨[.i],[],[.b],[]⟩
abbrev BS:Sig:=⟨[.r false .i64],[],[.b],[]⟩
abbrev bQ:Sig:=⟨[.i,.i,.i],[],[.b],[]⟩
abbrev l8:Sig:=⟨[.sv false .aj],[],[.b],[]⟩
abbrev nM:Sig:=⟨[.sv false .ins],[],[.b],[]⟩
abbrev EG:Sig:=⟨[.i,.r false .ins],[],[.b],[]⟩
abbrev EH:Sig:=⟨[.agg [.i,.i,.own 0,.i,.i,.i,.i],.sv false .iop],[.rows true .iop],[.agg [.i,.i,.own 1,.i,.i,.i,.i],.i],[.gone,.rows true .iop]⟩
abbrev VB:Sig:=⟨[.agg [.i,.i,.own 0,.i,.i,.i,.i],.i,.i],[.rows true .iop],[.agg [.i,.i,.own 1,.i,.i,.i,.i]],[.gone,.rows true .iop]⟩
abbrev JC:Sig:=⟨[.agg [.i,.i,.own 0,.i,.i,.i,.i],.i],[.rows true .iop],[.agg [.i,.i,.own 1,.i,.i,.i,.i],.i],[.gone,.rows true .iop]⟩
abbrev VD:Sig:=⟨[.agg [.i,.i,.own 0,.i,.i,.i,.i],.i,.i,.sv false .iop],[.rows true .iop],[.agg [.i,.i,.own 1,.i,.i,.i,.i],.i],[.gone,.rows true .iop]⟩
abbrev lC:Sig:=⟨[.i],[],[.i],[]⟩
abbrev Pf:Sig:=⟨[.agg [.i,.i,.own 0,.i,.i,.i,.i],.sv false .ins,.i],[.rows true .iop],[.agg [.i,.i,.own 1,.i,.i,.i,.i]],[.gone,.rows true .iop]⟩
abbrev afO:Sig:=⟨[.agg [.i,.i,.own 0,.i,.i,.i,.i],.sv false .ins],[.rows true .iop],[.agg [.i,.i,.own 1,.i,.i,.i,.i]],[.gone,.rows true .iop]⟩
abbrev vU:Sig:=⟨[.i,.r false .ins],[],[.agg [.i,.i,.own 0,.i,.i,.i,.i]],[.rows true .iop]⟩
abbrev JD:Sig:=⟨[.r false .iop,.i,.i],[],[.b],[]⟩
abbrev gN:Sig:=⟨[.sv false .blk],[],[.b],[]⟩
abbrev j6:Sig:=⟨[.sv false .blk,.sv false .blk],[],[.b],[]⟩
abbrev l9:Sig:=⟨[.i],[],[.agg [.own 0]],[.rows true .mono]⟩
abbrev VE:Sig:=⟨[],[],[.agg [.own 0],.o 1],[.rows true .atom,.rows true .poly]⟩
abbrev rz:Sig:=⟨[.r false .i64,.r false .i64],[],[.i],[]⟩
abbrev Ph:Sig:=⟨[.sv false .mono],[],[.b],[]⟩
abbrev mg:Sig:=⟨[.sv false .poly],[],[.b],[]⟩
abbrev afP:Sig:=⟨[.sv false .atom],[],[.b],[]⟩
abbrev JE:Sig:=⟨[.sv false .poly,.i],[],[.b],[]⟩
abbrev EI:Sig:=⟨[.sv false .atom,.i],[],[.b],[]⟩
abbrev pO:Sig:=⟨[.sv false .poly,.sv false .poly],[],[.i],[]⟩
abbrev JF:Sig:=⟨[.sv false .atom,.sv false .atom],[],[.b],[]⟩
abbrev Pj:Sig:=⟨[.sv false .tab],[],[.b],[]⟩
abbrev tY:Sig:=⟨[.r false .mono],[],[.agg [.own 0]],[.rows true .mono]⟩
abbrev VF:Sig:=⟨[.sv false .atom],[],[.agg [.i,.i,.own 0,.own 1]],[.rows true .mono,.rows true .mono]⟩
abbrev JG:Sig:=⟨[.sv false .tab],[],[.agg [.own 0]],[.rows true .atom]⟩
abbrev Pm:Sig:=⟨[.agg [.own 0],.sv false .atom],[.rows true .atom],[.agg [.own 1],.i],[.gone,.rows true .atom]⟩
abbrev afQ:Sig:=⟨[.o 0,.i],[.rows false .poly],[.sv false .poly],[.rows false .poly]⟩
abbrev VG:Sig:=⟨[.r false .mono,.sv false .mono],[],[.o 0],[.rows false .mono]⟩
abbrev VH:Sig:=⟨[.r false .mono],[],[.agg [.own 0],.b],[.rows true .mono]⟩
abbrev vV:Sig:=⟨[.sv false .poly,.sv false .poly],[],[.agg [.own 0],.b],[.rows true .mono]⟩
abbrev Pn:Sig:=⟨[.sv false .poly,.i],[],[.agg [.own 0]],[.rows true .mono]⟩
abbrev afR:Sig:=⟨[.r false .i64,.r false .i64],[],[.o 0],[.e]⟩
abbrev Po:Sig:=⟨[.i,.sv false .poly,.sv false .poly],[],[.agg [.own 0],.b],[.rows true .mono]⟩
abbrev rA:Sig:=⟨[.i,.i,.i],[],[.i],[]⟩
abbrev BU:Sig:=⟨[.sv false .poly],[],[.i,.b],[]⟩
abbrev afS:Sig:=⟨[.i,.i,.sv false .poly],[],[.agg [.own 0],.b],[.rows true .mono]⟩
abbrev afT:Sig:=⟨[.agg [.own 0],.i,.sv false .poly,.sv false .poly],[.rows true .atom],[.agg [.own 1],.agg [.own 2]],[.gone,.rows true .atom,.rows true .mono]⟩
abbrev afU:Sig:=⟨[.r false .ev,.i],[],[.i],[]⟩
abbrev afV:Sig:=⟨[.agg [.own 0],.r false .ev,.i],[.rows true .atom],[.agg [.own 1],.agg [.own 2]],[.gone,.rows true .atom,.rows true .mono]⟩
abbrev EJ:Sig:=⟨[.r false .poly],[],[.o 0],[.rows true .poly]⟩
abbrev afW:Sig:=⟨[.sv false .iop,.sv false .poly,.sv false .poly,.r false .poly],[],[.agg [.i,.i,.own 0,.own 1,.own 2]],[.rows true .mono,.rows true .mono,.rows true .poly]⟩
abbrev Pp:Sig:=⟨[.sv false .blk],[],[.i],[]⟩
abbrev VI:Sig:=⟨[.sv false .sym,.i],[],[.agg [.rows false .ev,.rows false .poly,.i,.nil,.nil,.i]],[]⟩
abbrev Pq:Sig:=⟨[.sv false .sym,.i],[],[.sv false .sym],[]⟩
abbrev afX:Sig:=⟨[.sv false .tab,.sv false .blk],[],[.sv false .tab,.sv false .sym],[]⟩
abbrev EK:Sig:=⟨[.r false .poly,.r false .poly],[],[.b],[]⟩
abbrev Pv:Sig:=⟨[.sv false .ev,.sv false .ev],[],[.b],[]⟩
abbrev Pw:Sig:=⟨[.sv false .sym,.sv false .sym],[],[.b],[]⟩
abbrev vW:Sig:=⟨[.i],[],[.agg [.i,.i,.i,.i],.b],[]⟩
abbrev Px:Sig:=⟨[.r false .i64],[],[.o 0],[.rows true .ins]⟩
abbrev afY:Sig:=⟨[.sv false .cac],[],[.b],[]⟩
abbrev VJ:Sig:=⟨[.r false .i64,.r false .i64,.i],[],[.b],[]⟩
abbrev Py:Sig:=⟨[.r false .cac,.r false .i64],[],[.b],[]⟩
abbrev Pz:Sig:=⟨[.r false .cer],[],[.b],[]⟩
abbrev tZ:Sig:=⟨[.sv false .eng],[],[.b],[]⟩
abbrev VK:Sig:=⟨[.r true .u8],[],[.p 0 2],[.g [.rows true .u8,.i]]⟩
abbrev iM:Sig:=⟨[.p 0 2,.i],[.g [.rows true .u8,.i]],[.i],[.g [.rows true .u8,.i]]⟩
abbrev EM:Sig:=⟨[.p 0 2,.i],[.g [.rows true .u8,.i]],[.b],[.g [.rows true .u8,.i]]⟩
abbrev vX:Sig:=⟨[.sv false .aj],[],[.agg [.own 0,.i,.own 1,.i,.bool,.bool,.i,.own 2,.own 3,.i]],[.e,.e,.e,.e]⟩
abbrev gI:Sig:=⟨[.sv false .blk],[],[.agg [.i,.i,.own 0,.i,.i,.i,.i]],[.rows true .iop]⟩
abbrev EN:Sig:=⟨[.sv false .cac],[],[.agg [.own 0,.i,.i,.own 1,.i,.i,.i,.i]],[.e,.rows true .iop]⟩
abbrev JH:Sig:=⟨[.sv false .cer],[],[.agg [.i,.i,.own 0,.i,.i,.i,.i,.i,.i,.own 1,.i,.i,.i,.i]],[.rows true .iop,.rows true .iop]⟩
abbrev VL:Sig:=⟨[.sv false .eng],[],[.agg [.e,.i,.own 1,.i,.bool,.bool,.i,.e,.e,.i,.own 2,.own 0]],[.rows true .cer,.e,.rows true .cac]⟩
abbrev yZ:Sig:=⟨[.r false .i64,.i],[],[.b],[]⟩
abbrev JI:Sig:=⟨[.r false .cac,.r false .i64],[],[.o 0],[.rows true .cac]⟩
abbrev afZ:Sig:=⟨[.agg [.own 0,.i,.own 1,.i,.bool,.bool,.i,.e,.own 2,.i],.b],[.e,.e,.e],[.agg [.own 0,.i,.own 1,.i,.bool,.bool,.i,.e,.own 2,.i]],[.e,.e,.e]⟩
abbrev pQ:Sig:=⟨[.agg [.own 0,.i,.own 1,.i,.bool,.bool,.i,.e,.own 2,.i],.i],[.e,.e,.e],[.agg [.own 0,.i,.own 1,.i,.bool,.bool,.i,.e,.own 2,.i]],[.e,.e,.e]⟩
abbrev PD:Sig:=⟨[.agg [.own 0,.i,.own 1,.i,.bool,.bool,.i,.e,.own 2,.i],.i,.i],[.e,.e,.e],[.agg [.own 0,.i,.own 1,.i,.bool,.bool,.i,.e,.own 2,.i]],[.e,.e,.e]⟩
abbrev EO:Sig:=⟨[.i,.i],[],[.i],[]⟩
abbrev af0:Sig:=⟨[.agg [.own 0,.i,.own 1,.i,.bool,.bool,.i,.e,.own 2,.i],.sv false .ins],[.e,.e,.e],[.agg [.own 0,.i,.own 1,.i,.bool,.bool,.i,.e,.own 2,.i]],[.e,.e,.e]⟩
abbrev PE:Sig:=⟨[.agg [.own 0,.i,.own 1,.i,.bool,.bool,.i,.e,.own 2,.i],.sv false .ins],[.e,.e,.e],[.agg [.own 0,.i,.own 1,.i,.bool,.bool,.i,.e,.own 3,.i]],[.e,.e,.gone,.e]⟩
abbrev VN:Sig:=⟨[.sv false .aj,.b],[],[.agg [.own 0,.i,.own 1,.i,.bool,.bool,.i,.e,.own 2,.i]],[.e,.e,.e]⟩
abbrev af2:Sig:=⟨[.agg [.e,.i,.e,.i,.bool,.bool,.i,.e,.e,.i,.rows true .cac,.own 0],.r false .i64],[.rows true .cer],[.agg [.e,.i,.own 1,.i,.bool,.bool,.i,.e,.e,.i,.own 2,.own 0]],[.rows true .cer,.e,.rows true .cac]⟩
abbrev JJ:Sig:=⟨[.sv false .aj],[],[.o 0],[.rows true .ins]⟩
abbrev JK:Sig:=⟨[.r false .cac,.i],[],[.i],[]⟩
abbrev VO:Sig:=⟨[.sv false .iop,.r false .i64],[],[.sv true .iop],[]⟩
abbrev EP:Sig:=⟨[.sv false .blk,.r false .bool],[],[.agg [.i,.i,.own 0,.i,.i,.i,.i]],[.rows true .iop]⟩
abbrev PG:Sig:=⟨[.sv false .blk],[],[.o 0],[.rows true .bool]⟩
abbrev af3:Sig:=⟨[.r false .iop,.i],[],[.b],[]⟩
abbrev VP:Sig:=⟨[.r false .iop,.i],[],[.i,.b],[]⟩
abbrev af4:Sig:=⟨[.sv false .blk,.i],[],[.agg [.i,.i,.rows false .iop,.i,.i,.i,.i]],[]⟩
abbrev PI:Sig:=⟨[.sv false .blk],[],[.sv false .blk],[]⟩
abbrev af5:Sig:=⟨[.r false .u8,.i],[],[.i],[]⟩
abbrev PK:Sig:=⟨[.r false .u8],[],[.agg [.i,.i,.own 0,.i,.i,.i,.i],.b],[.rows true .iop]⟩
abbrev af6:Sig:=⟨[.sv false .blk,.sv false .ask],[],[.sv true .blk,.b],[]⟩
abbrev PL:Sig:=⟨[.r false .cer,.sv false .blk,.sv false .blk],[],[.b],[]⟩
abbrev PN:Sig:=⟨[.r false .cer,.sv false .cer],[],[.o 0],[.rows true .cer]⟩
abbrev af7:Sig:=⟨[.agg [.e,.i,.e,.i,.bool,.bool,.i,.e,.e,.i,.rows true .cac,.own 0],.sv true .blk,.sv false .ask],[.rows true .cer],[.agg [.e,.i,.e,.i,.bool,.bool,.i,.e,.e,.i,.rows true .cac,.own 1],.sv true .blk],[.gone,.rows true .cer]⟩
abbrev af8:Sig:=⟨[.r false .cac,.sv false .cac],[],[.r true .cac],[]⟩
abbrev JL:Sig:=⟨[.sv false .ins],[],[.i],[]⟩
abbrev JM:Sig:=⟨[.r false .ins],[],[.o 0],[.e]⟩
abbrev af9:Sig:=⟨[.agg [.e,.i,.e,.i,.bool,.bool,.i,.e,.e,.i,.rows true .cac,.own 0],.sv false .ask],[.rows true .cer],[.agg [.e,.i,.e,.i,.bool,.bool,.i,.e,.e,.i,.rows true .cac,.own 1],.i,.b],[.gone,.rows true .cer]⟩
abbrev aga:Sig:=⟨[.sv false .aj,.r false .i64,.i,.i],[],[.b],[]⟩
abbrev agb:Sig:=⟨[.agg [.own 0,.i,.own 1,.i,.bool,.bool,.i,.e,.own 2,.i],.sv false .blk,.i,.i],[.e,.e,.e],[.agg [.own 0,.i,.own 1,.i,.bool,.bool,.i,.e,.own 2,.i]],[.e,.e,.e]⟩
abbrev JN:Sig:=⟨[.sv false .blk,.i,.i],[],[.b],[]⟩
abbrev agc:Sig:=⟨[.agg [.own 0,.i,.own 1,.i,.bool,.bool,.i,.e,.own 2,.i],.sv false .blk,.sv false .iop,.i,.i],[.e,.e,.e],[.agg [.own 0,.i,.own 1,.i,.bool,.bool,.i,.e,.own 3,.i],.i,.b],[.e,.e,.gone,.e]⟩
abbrev PO:Sig:=⟨[.r false .i64,.i],[],[.i],[]⟩
abbrev agd:Sig:=⟨[.sv false .aj,.sv false .iop,.i,.i],[],[.i],[]⟩
abbrev agf:Sig:=⟨[.sv false .blk,.r false .i64],[],[.i],[]⟩
abbrev agh:Sig:=⟨[.sv false .blk,.sv false .aj],[],[.agg [.own 0,.i,.own 1,.i,.bool,.bool,.i,.e,.own 2,.i],.b],[.e,.e,.e]⟩
abbrev JO:Sig:=⟨[.sv false .eng,.r false .i64,.i,.sv false .ask],[],[.agg [.e,.i,.own 1,.i,.bool,.bool,.i,.e,.e,.i,.own 2,.own 0],.b],[.rows true .cer,.e,.rows true .cac]⟩
abbrev BX:Sig:=⟨[.p 0 2],[.g [.rows true .u8,.i]],[.o 1],[.g [.rows true .u8,.i],.e]⟩
abbrev JQ:Sig:=⟨[.p 0 2,.sv false .blk],[.g [.rows true .u8,.i]],[.agg [.i,.i,.own 1,.i,.i,.i,.i]],[.g [.rows true .u8,.i],.rows true .iop]⟩
abbrev BZ:Sig:=⟨[.p 0 2],[.g [.rows true .u8,.i]],[.agg [.i,.i,.i,.i]],[.g [.rows true .u8,.i]]⟩
abbrev agi:Sig:=⟨[.p 0 2],[.g [.rows true .u8,.i]],[.o 1],[.g [.rows true .u8,.i],.rows true .ins]⟩
abbrev VQ:Sig:=⟨[.p 0 2],[.g [.rows true .u8,.i]],[.agg [.i,.i,.own 1,.i,.i,.i,.i]],[.g [.rows true .u8,.i],.rows true .iop]⟩
abbrev agj:Sig:=⟨[.o 0,.i],[.rows true .u8],[.o 1],[.gone,.rows true .u8]⟩
abbrev PU:Sig:=⟨[.sv false .blk],[],[.o 0],[.rows true .u8]⟩
abbrev agk:Sig:=⟨[.p 0 2,.r true .u8],[.g [.rows true .u8,.i]],[.o 1],[.g [.rows true .u8,.i],.rows true .u8]⟩
abbrev PW:Sig:=⟨[.p 0 2,.sv false .aj],[.g [.rows true .u8,.i]],[.agg [.bool,.own 1]],[.g [.rows true .u8,.i],.rows true .u8]⟩
abbrev agl:Sig:=⟨[.sv false .aj],[],[.agg [.e,.i,.own 1,.i,.bool,.bool,.i,.e,.e,.i,.own 2,.own 0]],[.rows true .cer,.e,.rows true .cac]⟩
abbrev VR:Sig:=⟨[.r false .i64,.r false .i64],[],[.agg [.own 0,.i,.own 1,.i,.bool,.bool,.i,.own 2,.nil,.i]],[.e,.e,.e]⟩
abbrev PX:Sig:=⟨[.p 0 2],[.g [.rows true .u8,.i]],[.i],[.g [.rows true .u8,.i]]⟩
abbrev PZ:Sig:=⟨[.p 0 2,.i],[.g [.rows true .u8,.i]],[.o 1],[.g [.rows true .u8,.i],.rows true .ins]⟩
abbrev VT:Sig:=⟨[.p 0 2,.i],[.g [.rows true .u8,.i]],[.o 1],[.g [.rows true .u8,.i],.e]⟩
abbrev agm:Sig:=⟨[.p 0 2],[.g [.rows true .u8,.i]],[.agg [.e,.i,.own 2,.i,.bool,.bool,.i,.e,.e,.i,.own 3,.own 1]],[.g [.rows true .u8,.i],.rows true .cer,.e,.rows true .cac]⟩
abbrev agn:Sig:=⟨[.sv false .aj,.r false .i64,.i],[],[.agg [.own 0,.i,.own 1,.i,.bool,.bool,.i,.e,.own 2,.i]],[.e,.e,.e]⟩
abbrev agp:Sig:=⟨[.p 0 2],[.g [.rows true .u8,.i]],[.agg [.own 1,.i,.own 2,.i,.bool,.bool,.i,.e,.own 3,.i]],[.g [.rows true .u8,.i],.e,.e,.e]⟩
abbrev agq:Sig:=⟨[.p 0 2,.i],[.g [.rows true .u8,.i]],[.agg [.own 1,.i,.e,.i,.bool,.bool,.i,.e,.own 2,.i]],[.g [.rows true .u8,.i],.e,.e]⟩
abbrev VU:Sig:=⟨[.p 0 2,.i],[.g [.rows true .u8,.i]],[.sv true .eng],[.g [.rows true .u8,.i]]⟩
abbrev agr:Sig:=⟨[.p 0 2,.sv false .eng,.r false .i64,.i],[.g [.rows true .u8,.i]],[.o 1],[.g [.rows true .u8,.i],.rows true .ask]⟩
abbrev ags:Sig:=⟨[.r true .u8],[],[.sv true .eng,.o 0,.i,.o 1],[.e,.rows true .ask]⟩
abbrev JR:Sig:=⟨[.r false .i64,.r false .i64],[],[.b],[]⟩
abbrev agt:Sig:=⟨[.sv false .cac,.r false .i64],[],[.b],[]⟩
abbrev Tm:Sig:=⟨[.sv false .iop],[],[.b,.b,.b,.b],[]⟩
abbrev Tn:Sig:=⟨[.sv false .iop],[],[.b],[]⟩
abbrev aoD:Sig:=⟨[.sv false .blk,.i],[],[.b],[]⟩
abbrev Tp:Sig:=⟨[.sv false .blk],[],[.b,.b,.b],[]⟩
abbrev agu:Sig:=⟨[.r false .iop,.r false .iop],[],[.b],[]⟩
abbrev aoE:Sig:=⟨[.i,.p 0 1,.p 1 7],[.box (.p 2 12),.s true .blk,.g [.own 3,.i,.own 4,.i,.bool,.bool,.i,.e,.own 5,.i,.rows true .cac,.rows true .cer],.e,.e,.e],[.b],[.box (.p 2 12),.s true .blk,.g [.own 3,.i,.own 4,.i,.bool,.bool,.i,.e,.own 5,.i,.rows true .cac,.rows true .cer],.e,.e,.e]⟩
abbrev aoF:Sig:=⟨[.i,.p 0 1],[.box (.i)],[.b],[.box (.i)]⟩
abbrev agv:Sig:=⟨[.r false .i64,.c (.fn 306 [(0,1)])],[.box (.i)],[.i],[.box (.i)]⟩
abbrev agw:Sig:=⟨[.r false .i64,.c (.fn 113 [(0,1),(1,7)])],[.box (.p 2 12),.s true .blk,.g [.own 3,.i,.own 4,.i,.bool,.bool,.i,.e,.own 5,.i,.rows true .cac,.rows true .cer],.e,.e,.e],[.i],[.box (.p 2 12),.s true .blk,.g [.own 3,.i,.own 4,.i,.bool,.bool,.i,.e,.own 5,.i,.rows true .cac,.rows true .cer],.e,.e,.e]⟩
abbrev agx:Sig:=⟨[.r false .i64,.c (.fn 306 [(0,1)])],[.box (.i)],[.b],[.box (.i)]⟩
abbrev agy:Sig:=⟨[.r false .i64,.c (.fn 113 [(0,1),(1,7)])],[.box (.p 2 12),.s true .blk,.g [.own 3,.i,.own 4,.i,.bool,.bool,.i,.e,.own 5,.i,.rows true .cac,.rows true .cer],.e,.e,.e],[.b],[.box (.p 2 12),.s true .blk,.g [.own 3,.i,.own 4,.i,.bool,.bool,.i,.e,.own 5,.i,.rows true .cac,.rows true .cer],.e,.e,.e]⟩
abbrev aqC:Sig:=⟨[.r false .i64],[],[.i],[]⟩
abbrev am8:Sig:=⟨[.i,.i],[],[.b],[]⟩
abbrev agz:Sig:=⟨[.r false .mono,.c (.fn 297 [])],[],[.i],[]⟩
abbrev agA:Sig:=⟨[.r false .mono,.c (.fn 297 [])],[],[.b],[]⟩
abbrev Dq:Sig:=⟨[.sv false .poly,.sv false .poly],[],[.b],[]⟩
abbrev aoG:Sig:=⟨[.sv false .atom,.p 0 4],[.s false .atom],[.b],[.s false .atom]⟩
abbrev agB:Sig:=⟨[.r false .atom,.c (.fn 286 [(0,4)])],[.s false .atom],[.i],[.s false .atom]⟩
abbrev agC:Sig:=⟨[.sv false .tab,.sv false .atom],[],[.i],[]⟩
abbrev agD:Sig:=⟨[.r true .atom],[],[.c (.clip true .atom)],[]⟩
abbrev agE:Sig:=⟨[.sv true .tab,.sv true .atom],[],[.sv true .tab,.i],[]⟩
abbrev VW:Sig:=⟨[.p 0 2,.i,.i],[.g [.rows true .atom,.bool]],[.sv true .poly],[.g [.rows true .atom,.bool]]⟩
abbrev VX:Sig:=⟨[.p 0 2],[.g [.rows true .atom,.bool]],[.o 1],[.g [.rows true .atom,.bool],.rows true .poly]⟩
abbrev JU:Sig:=⟨[.r false .i64],[],[.o 0],[.e]⟩
abbrev acW:Sig:=⟨[.sv false .poly],[],[.agg [.own 0]],[.rows true .mono]⟩
abbrev aoH:Sig:=⟨[],[],[.sv true .tab,.r true .poly],[]⟩
abbrev agF:Sig:=⟨[.o 0],[.rows true .poly],[.o 1],[.rows true .poly,.rows true .poly]⟩
abbrev VY:Sig:=⟨[.sv false .mono,.sv false .mono],[],[.i],[]⟩
abbrev agG:Sig:=⟨[.o 0,.i,.i,.c (.fn 316 [])],[.rows false .mono],[],[.rows false .mono]⟩
abbrev Ca:Sig:=⟨[.o 0,.i,.i,.i,.c (.fn 316 [])],[.rows false .mono],[],[.rows false .mono]⟩
abbrev VZ:Sig:=⟨[.o 0,.i,.i,.i,.c (.fn 316 [])],[.rows false .mono],[],[.rows false .mono]⟩
abbrev agH:Sig:=⟨[.o 0,.i,.c (.fn 316 [])],[.rows false .mono],[],[.rows false .mono]⟩
abbrev agI:Sig:=⟨[.o 0,.c (.fn 316 [])],[.rows false .mono],[],[.rows false .mono]⟩
abbrev V3:Sig:=⟨[.o 0],[.rows false .mono],[.agg [.own 1],.b],[.rows false .mono,.rows true .mono]⟩
abbrev agJ:Sig:=⟨[.c (.nil),.i],[],[.o 0],[.rows true .mono]⟩
abbrev agK:Sig:=⟨[.r false .poly],[],[.o 0],[.rows false .mono]⟩
abbrev agL:Sig:=⟨[.c (.nil),.i],[],[.o 0],[.e]⟩
abbrev agM:Sig:=⟨[.r false .ints],[],[.o 0],[.e]⟩
abbrev JV:Sig:=⟨[.o 0,.i,.i],[.e],[],[.e]⟩
abbrev agN:Sig:=⟨[.o 0,.i,.i],[.e],[],[.e]⟩
abbrev agO:Sig:=⟨[.o 0,.i,.i],[.e],[],[.e]⟩
abbrev V4:Sig:=⟨[.o 0,.i,.i],[.e],[.i,.i],[.e]⟩
abbrev agP:Sig:=⟨[.o 0,.i,.i],[.e],[],[.e]⟩
abbrev V5:Sig:=⟨[.o 0,.i,.i],[.e],[.b],[.e]⟩
abbrev V6:Sig:=⟨[.o 0,.i,.i,.i],[.e],[.i],[.e]⟩
abbrev V7:Sig:=⟨[.o 0,.i,.i,.i],[.e],[.i,.b],[.e]⟩
abbrev JW:Sig:=⟨[.o 0,.i,.i,.i],[.e],[],[.e]⟩
abbrev agQ:Sig:=⟨[.c (.int .u64)],[],[.i],[]⟩
abbrev agR:Sig:=⟨[.o 0],[.e],[],[.e]⟩
abbrev agS:Sig:=⟨[.i,.sv true .poly,.sv true .poly],[],[.sv true .poly,.b],[]⟩
abbrev aoI:Sig:=⟨[.sv true .tab,.i,.sv true .poly,.sv true .poly],[],[.sv true .tab,.sv true .poly,.b],[]⟩
abbrev aoJ:Sig:=⟨[.sv false .sym],[],[.agg [.own 0,.own 1,.i,.own 2,.own 3,.i]],[.rows true .ev,.rows true .poly,.rows true .mono,.rows true .mono]⟩
abbrev aoK:Sig:=⟨[.sv false .sym,.i],[],[.sv true .sym],[]⟩
abbrev aoL:Sig:=⟨[.sv true .tab,.sv false .blk],[],[.sv true .tab,.sv true .sym],[]⟩
abbrev agT:Sig:=⟨[.r false .poly,.r false .poly,.c (.fn 265 [])],[],[.b],[]⟩
abbrev agU:Sig:=⟨[.r false .ev,.r false .ev,.c (.fn 211 [])],[],[.b],[]⟩
abbrev ER:Sig:=⟨[.p 0 8,.i,.i,.i,.i],[.g [.i,.i,.own 1,.i,.i,.i,.i,.i],.rows true .iop],[.i],[.g [.i,.i,.own 2,.i,.i,.i,.i,.i],.gone,.rows true .iop]⟩
abbrev agV:Sig:=⟨[.i,.p 0 1,.p 1 4],[.box (.p 2 8),.s false .ins,.g [.i,.i,.own 3,.i,.i,.i,.i,.i],.rows true .iop],[],[.box (.p 2 8),.s false .ins,.g [.i,.i,.own 4,.i,.i,.i,.i,.i],.gone,.rows true .iop]⟩
abbrev Qa:Sig:=⟨[.p 0 8,.i],[.g [.i,.i,.own 1,.i,.i,.i,.i,.i],.rows true .iop],[.i],[.g [.i,.i,.own 2,.i,.i,.i,.i,.i],.gone,.rows true .iop]⟩
abbrev agW:Sig:=⟨[.p 0 8,.i,.i,.i],[.g [.i,.i,.own 1,.i,.i,.i,.i,.i],.rows true .iop],[.i],[.g [.i,.i,.own 2,.i,.i,.i,.i,.i],.gone,.rows true .iop]⟩
abbrev agX:Sig:=⟨[.p 0 8,.sv false .ins],[.g [.i,.i,.own 1,.i,.i,.i,.i,.i],.rows true .iop],[],[.g [.i,.i,.own 2,.i,.i,.i,.i,.i],.gone,.rows true .iop]⟩
abbrev agY:Sig:=⟨[.sv false .cac,.p 0 1],[.box (.r false .i64)],[.b],[.box (.r false .i64)]⟩
abbrev aoM:Sig:=⟨[.sv false .cac,.p 0 1],[.box (.i)],[.b],[.box (.i)]⟩
abbrev agZ:Sig:=⟨[.sv false .cac,.p 0 8],[.s true .cac],[.b],[.s true .cac]⟩
abbrev ag0:Sig:=⟨[.r false .cac,.c (.fn 137 [(0,1)])],[.box (.i)],[.i],[.box (.i)]⟩
abbrev ag1:Sig:=⟨[.r false .cac,.c (.fn 238 [(0,8)])],[.s true .cac],[.i],[.s true .cac]⟩
abbrev ag2:Sig:=⟨[.o 0,.c (.fn 116 [(1,1)])],[.rows true .cac,.box (.r false .i64)],[.i],[.rows true .cac,.box (.r false .i64)]⟩
abbrev aoN:Sig:=⟨[.sv false .cer],[],[.b],[]⟩
abbrev aoO:Sig:=⟨[.sv false .cer,.p 0 7,.p 1 7],[.s false .blk,.s false .blk],[.b],[.s false .blk,.s false .blk]⟩
abbrev ag3:Sig:=⟨[.r false .cer,.c (.fn 236 [(0,7),(1,7)])],[.s false .blk,.s false .blk],[.i],[.s false .blk,.s false .blk]⟩
abbrev ag4:Sig:=⟨[.r false .cer,.c (.fn 82 [])],[],[.i],[]⟩
abbrev ag5:Sig:=⟨[.r false .cer,.c (.fn 236 [(0,7),(1,7)])],[.s false .blk,.s false .blk],[.b],[.s false .blk,.s false .blk]⟩
abbrev ag6:Sig:=⟨[.r false .cer,.c (.fn 82 [])],[],[.b],[]⟩
abbrev Qb:Sig:=⟨[.r false .cac],[],[.o 0],[.rows true .cac]⟩
abbrev V8:Sig:=⟨[.r false .cer],[],[.o 0],[.rows true .cer]⟩
abbrev ag7:Sig:=⟨[.sv false .eng],[],[.agg [.own 0,.i,.own 1,.i,.bool,.bool,.i,.e,.own 2,.i,.rows true .cac,.rows true .cer]],[.e,.e,.e]⟩
abbrev aoP:Sig:=⟨[.p 0 10],[.g [.own 1,.i,.own 2,.i,.bool,.bool,.i,.e,.own 3,.i],.e,.e,.e],[.i],[.g [.own 1,.i,.own 2,.i,.bool,.bool,.i,.e,.own 3,.i],.e,.e,.e]⟩
abbrev ag8:Sig:=⟨[.p 0 12],[.g [.own 1,.i,.own 2,.i,.bool,.bool,.i,.e,.own 3,.i,.rows true .cac,.rows true .cer],.e,.e,.e],[.i],[.g [.own 1,.i,.own 2,.i,.bool,.bool,.i,.e,.own 3,.i,.rows true .cac,.rows true .cer],.e,.e,.e]⟩
abbrev aoQ:Sig:=⟨[.p 0 10,.sv false .ins],[.g [.own 1,.i,.own 2,.i,.bool,.bool,.i,.e,.own 3,.i],.e,.e,.e],[],[.g [.own 1,.i,.own 2,.i,.bool,.bool,.i,.e,.own 4,.i],.e,.e,.gone,.e]⟩
abbrev aoR:Sig:=⟨[.p 0 12,.sv false .ins],[.g [.own 1,.i,.own 2,.i,.bool,.bool,.i,.e,.own 3,.i,.rows true .cac,.rows true .cer],.e,.e,.e],[],[.g [.own 1,.i,.own 2,.i,.bool,.bool,.i,.e,.own 4,.i,.rows true .cac,.rows true .cer],.e,.e,.gone,.e]⟩
abbrev aoS:Sig:=⟨[.p 0 10,.b],[.g [.own 1,.i,.own 2,.i,.bool,.bool,.i,.e,.own 3,.i],.e,.e,.e],[],[.g [.own 1,.i,.own 2,.i,.bool,.bool,.i,.e,.own 4,.i],.e,.e,.gone,.e]⟩
abbrev aoT:Sig:=⟨[.p 0 12,.b],[.g [.own 1,.i,.own 2,.i,.bool,.bool,.i,.e,.own 3,.i,.rows true .cac,.rows true .cer],.e,.e,.e],[],[.g [.own 1,.i,.own 2,.i,.bool,.bool,.i,.e,.own 4,.i,.rows true .cac,.rows true .cer],.e,.e,.gone,.e]⟩
abbrev ag9:Sig:=⟨[.p 0 7,.r false .i64],[.g [.i,.i,.own 1,.i,.i,.i,.i],.rows true .iop],[],[.g [.i,.i,.own 1,.i,.i,.i,.i],.rows true .iop]⟩
abbrev Ba:Sig:=⟨[.sv false .blk],[],[.sv true .blk],[]⟩
abbrev aoU:Sig:=⟨[.i,.p 0 7],[.g [.i,.i,.own 1,.i,.i,.i,.i],.rows true .iop],[.b],[.g [.i,.i,.own 1,.i,.i,.i,.i],.rows true .iop]⟩
abbrev aoV:Sig:=⟨[.c (.int .u8),.c (.int .u8)],[],[.i],[]⟩
abbrev axg:Sig:=⟨[.r false .u8,.r false .u8],[],[.b],[]⟩
abbrev aoW:Sig:=⟨[.sv false .ask,.sv false .blk],[],[.sv true .blk,.b],[]⟩
abbrev aha:Sig:=⟨[.r false .cer,.i],[],[.r false .cer],[]⟩
abbrev ahb:Sig:=⟨[.o 0,.c (.fn 238 [(1,8)])],[.rows true .cac,.s true .cac],[.o 2],[.gone,.s true .cac,.rows true .cac]⟩
abbrev ahc:Sig:=⟨[.o 0,.c (.fn 116 [(1,1)])],[.rows true .cac,.box (.r false .i64)],[.o 2],[.gone,.box (.r false .i64),.rows true .cac]⟩
abbrev ahd:Sig:=⟨[.r false .cac,.i],[],[.r false .cac],[]⟩
abbrev aoX:Sig:=⟨[.r false .cac,.sv true .cac],[],[.o 0],[.rows true .cac]⟩
abbrev aoY:Sig:=⟨[.p 0 12,.r false .ins,.sv false .ask],[.g [.own 1,.i,.own 2,.i,.bool,.bool,.i,.e,.own 3,.i,.rows true .cac,.rows true .cer],.e,.e,.e],[],[.g [.own 1,.i,.own 2,.i,.bool,.bool,.i,.e,.own 3,.i,.own 4,.rows true .cer],.e,.e,.e,.rows true .cac]⟩
abbrev aoZ:Sig:=⟨[.sv false .blk,.p 0 12],[.g [.own 1,.i,.own 2,.i,.bool,.bool,.i,.e,.own 3,.i,.rows true .cac,.rows true .cer],.e,.e,.e],[],[.g [.own 1,.i,.own 2,.i,.bool,.bool,.i,.e,.own 4,.i,.rows true .cac,.rows true .cer],.e,.e,.gone,.e]⟩
abbrev ao0:Sig:=⟨[.p 0 12,.r false .i64,.i,.sv false .ask],[.g [.own 1,.i,.own 2,.i,.bool,.bool,.i,.e,.own 3,.i,.rows true .cac,.rows true .cer],.e,.e,.e],[.b],[.g [.own 1,.i,.own 2,.i,.bool,.bool,.i,.e,.own 4,.i,.rows true .cac,.rows true .cer],.e,.e,.gone,.e]⟩
abbrev ahe:Sig:=⟨[.p 0 12,.r false .i64,.i,.sv false .ask],[.g [.own 1,.i,.own 2,.i,.bool,.bool,.i,.e,.own 3,.i,.rows true .cac,.rows true .cer],.e,.e,.e],[.b],[.g [.own 1,.i,.own 2,.i,.bool,.bool,.i,.e,.own 4,.i,.own 5,.rows true .cer],.e,.e,.gone,.e,.rows true .cac]⟩
abbrev ao1:Sig:=⟨[.sv false .eng,.r false .i64,.i,.r false .ask],[],[.sv true .eng],[]⟩
abbrev Qc:Sig:=⟨[.sv false .aj,.sv false .aj],[],[.b],[]⟩
abbrev ahf:Sig:=⟨[.r false .cac,.r false .cac],[],[.b],[]⟩
abbrev ahg:Sig:=⟨[.r false .cer,.r false .cer],[],[.b],[]⟩
abbrev V9:Sig:=⟨[.sv false .eng,.sv false .eng],[],[.b],[]⟩
abbrev ahh:Sig:=⟨[.sv false .eng,.r false .i64,.i,.r false .ask],[],[.agg [.e,.i,.own 0,.i,.bool,.bool,.i,.e,.e,.i,.own 1,.own 2]],[.e,.rows true .cac,.rows true .cer]⟩
abbrev Wh:Sig:=⟨[],[],[.b],[]⟩
abbrev ahi:Sig:=⟨[.sv false .aj,.r false .i64,.i],[],[.agg [.own 0,.i,.own 1,.i,.bool,.bool,.i,.own 2,.own 3,.i]],[.e,.e,.e,.e]⟩
abbrev ahj:Sig:=⟨[.r true .u8],[],[.b],[]⟩
abbrev ahk:Sig:=⟨[.r true .u8],[],[.sv true .eng,.o 0,.i,.agg [.bool,.own 1]],[.e,.rows true .u8]⟩
abbrev ao2:Sig:=⟨[.sv false .eng,.r false .i64,.i,.sv false .ask],[],[.sv true .eng,.b],[]⟩
abbrev xO:List SkC:=[.nil,.nil,.i,.nil,.nil,.i]
abbrev Wi:List SkC:=[.rows true .atom,.bool]
abbrev qq0:dM:=⟨[(3,.p 0 7),(4,.p 1 1),(5,.p 2 6),(6,.p 3 2),(7,.p 4 6),(8,.o 5),(9,.i),(10,.i),(57,.r false .iop),(58,.i),(59,.i)],[.s false .blk,.g [.nil],.g xO,.g Wi,.g [.own 6,.own 7,.i,.nil,.nil,.i],.rows true .poly,.rows true .ev,.rows true .poly]⟩
abbrev qq1:dM:=⟨[(1,.p 0 12),(2,.p 4 7),(4,.o 5),(14,.r false .iop),(15,.i),(16,.i)],[.g [.own 1,.i,.own 2,.i,.bool,.bool,.i,.e,.own 6,.i,.rows true .cac,.rows true .cer],.e,.e,.gone,.s false .blk,.e,.e]⟩
abbrev pz:List SkC:=[.rows true .u8,.i]
abbrev ET:List SkC:=[.nil,.i,.nil,.i,.bool,.bool,.i,.nil,.nil,.i,.nil,.nil]
abbrev aqD:List SkC:=[.e,.i,.own 3,.i,.bool,.bool,.i,.e,.e,.i,.own 4,.own 5]
abbrev qq3:dM:=⟨[(4,.p 1 12),(5,.p 2 12)],[.g pz,.g ET,.g aqD,.e,.rows true .cac,.rows true .cer]⟩
abbrev qq4:List SkC:=[.nil,.i,.nil,.i,.bool,.bool,.i,.nil,.nil,.i]
abbrev qq5:List SkC:=[.i,.i,.nil,.i,.i,.i,.i]
abbrev qq6:List SkO:=[.g [.own 1,.i,.own 2,.i,.bool,.bool,.i,.e,.own 4,.i,.rows true .cac,.rows true .cer],.e,.e,.gone,.e]
abbrev qq7:Ann:=(.cond .u .u)
abbrev qq8:dM:=⟨[(4,.p 1 7),(5,.p 2 7)],[.g pz,.g qq5,.g [.i,.i,.own 3,.i,.i,.i,.i],.rows true .iop]⟩
abbrev qq9:List SkO:=[.g xO,.g [.own 2,.own 3,.i,.own 4,.own 5,.i],.rows true .ev,.rows true .poly,.rows true .mono,.rows true .mono]
abbrev Qd:dM:=⟨[(0,.p 0 10),(4,.i)],[.g [.own 1,.i,.own 2,.i,.bool,.bool,.i,.e,.own 4,.i],.e,.e,.gone,.e]⟩
abbrev ahl:List SkC:=[.own 1,.i,.own 2,.i,.bool,.bool,.i,.e,.own 3,.i,.rows true .cac,.rows true .cer]
abbrev aqE:List SkO:=[.g pz,.g qq4,.g [.own 3,.i,.own 4,.i,.bool,.bool,.i,.e,.own 5,.i],.e,.e,.e]
abbrev Qe:dM:=⟨[],[.g [.i,.i,.own 2,.i,.i,.i,.i,.i],.gone,.rows true .iop]⟩
abbrev Wj:List SkO:=[.g qq5,.g [.i,.i,.own 2,.i,.i,.i,.i],.rows true .iop]
abbrev aqF:dM:=⟨[(2,.p 0 7),(4,.p 1 10),(6,.p 2 10),(7,.o 3),(8,.i),(9,.p 4 5),(82,.b)],[.s false .blk,.g qq4,.g [.own 5,.i,.own 6,.i,.bool,.bool,.i,.e,.own 7,.i],.e,.s false .iop,.e,.e,.e]⟩
abbrev axh:dM:=⟨[(3,.p 0 7),(4,.p 1 1),(5,.p 2 6),(6,.p 3 2),(7,.p 4 6),(8,.o 5),(9,.i),(10,.i),(11,.i),(12,.p 6 5),(17,.p 7 1),(18,.p 8 1),(57,.r false .iop),(58,.i),(59,.i)],[.s false .blk,.g [.nil],.g xO,.g Wi,.g [.own 9,.own 10,.i,.nil,.nil,.i],.rows true .poly,.s false .iop,.s true .poly,.s true .poly,.rows true .ev,.rows true .poly]⟩
abbrev am9:dM:=⟨[(1,.p 0 7),(2,.p 1 7),(3,.o 2),(4,.o 3),(18,.r false .iop),(19,.i),(20,.i)],[.s false .blk,.g qq5,.e,.e]⟩
abbrev ana:dM:=⟨[(1,.p 0 7),(2,.p 1 7),(3,.o 2),(4,.o 3),(5,.i)],[.s false .blk,.g qq5,.rows true .bool,.rows true .bool]⟩
abbrev anb:dM:=⟨[(4,.p 1 10),(5,.p 2 10)],[.g pz,.g qq4,.g [.own 3,.i,.e,.i,.bool,.bool,.i,.e,.own 4,.i],.e,.e]⟩
abbrev y7:List SkO:=[.rows false .mono]
abbrev aqG:List SkC:=[.own 0,.i,.own 1,.i,.bool,.bool,.i,.e,.own 2,.i]
abbrev axi:dM:=⟨[(3,.p 0 7),(4,.p 1 1),(5,.p 2 6),(6,.p 3 1),(7,.p 4 6),(9,.o 5),(13,.o 6),(14,.i),(18,.p 7 1)],[.s false .blk,.g [.nil],.g xO,.g [.own 8],.g [.own 9,.nil,.i,.nil,.nil,.i],.rows false .poly,.rows false .poly,.g [.own 10],.rows true .atom,.rows true .ev,.rows true .mono]⟩
abbrev aqH:List SkC:=[.own 1,.i,.own 2,.i,.bool,.bool,.i,.e,.own 3,.i]
abbrev ane:dM:=⟨[(0,.p 0 10),(4,.i)],[.g aqH,.e,.e,.e]⟩
abbrev ahm:List SkO:=[.s false .blk,.rows true .bool]
abbrev axj:dM:=⟨[(3,.p 0 7),(4,.p 1 1),(5,.p 2 6),(6,.p 3 1),(7,.p 4 6),(9,.o 5),(13,.o 6),(14,.i),(18,.p 7 1)],[.s false .blk,.g [.nil],.g xO,.g [.own 8],.g [.own 9,.nil,.i,.nil,.nil,.i],.rows false .poly,.rows false .poly,.s false .poly,.rows true .atom,.rows true .ev]⟩
abbrev Qf:dM:=⟨[(0,.p 0 12),(4,.i)],qq6⟩
abbrev aqI:List SkO:=[.s false .blk,.g qq5,.g [.i,.i,.own 3,.i,.i,.i,.i],.rows true .iop]
abbrev axk:dM:=⟨[(1,.r false .i64),(3,.r false .ask),(8,.p 0 12),(9,.p 1 12),(10,.i),(11,.i)],[.g ET,.g [.e,.i,.own 2,.i,.bool,.bool,.i,.e,.e,.i,.own 3,.own 4],.e,.rows true .cac,.rows true .cer]⟩
abbrev aqJ:dM:=⟨[(0,.r false .mono),(3,.p 0 2),(5,.o 1),(6,.b),(7,.i)],[.s false .mono,.rows false .mono]⟩
abbrev axl:List SkO:=[.s false .blk,.g qq4,.g [.own 4,.i,.own 5,.i,.bool,.bool,.i,.e,.own 6,.i],.e,.e,.e,.e]
abbrev anf:dM:=⟨[(0,.p 0 2),(3,.o 1),(4,.i)],[.g pz,.rows true .ins]⟩
abbrev Wm:List SkC:=[.i,.i,.own 4,.i,.i,.i,.i]
abbrev axn:Ann:=(.v (.cut ⟨[(2,.p 0 7),(3,.p 1 7),(4,.o 2),(5,.o 3),(6,.i),(7,.p 4 5),(8,.i)],[.g qq5,.g [.i,.i,.own 5,.i,.i,.i,.i],.e,.e,.s true .iop,.rows true .iop]⟩ qq7))
abbrev aqK:dM:=⟨[(0,.p 0 12),(1,.r false .ins),(7,.p 4 7)],[.g ahl,.e,.e,.e,.s true .blk]⟩
abbrev axo:dM:=⟨[(1,.r false .bool),(4,.p 0 7),(5,.o 1),(6,.p 2 7),(16,.r false .iop),(17,.i),(18,.i)],[.g qq5,.e,.g [.i,.i,.own 3,.i,.i,.i,.i],.rows true .iop]⟩
abbrev ang:dM:=⟨[(1,.p 0 4),(4,.i),(30,.b)],[.s false .ins]⟩
abbrev axp:dM:=⟨[(4,.p 1 12),(5,.p 2 12)],[.g pz,.g ET,.g [.e,.i,.e,.i,.bool,.bool,.i,.e,.e,.i,.own 3,.own 4],.rows true .cac,.rows true .cer]⟩
abbrev aqL:List SkO:=[.g [.i,.i,.own 1,.i,.i,.i,.i],.rows true .iop]
abbrev axq:List SkO:=[.rows true .iop,.g [.i,.i,.own 0,.i,.i,.i,.i],.s false .ins,.g qq5]
abbrev anh:dM:=⟨[(0,.p 0 12),(4,.i)],[.g ahl,.e,.e,.e]⟩
abbrev axr:dM:=⟨[(2,.p 0 1),(3,.p 1 1),(4,.p 2 1),(6,.o 3),(7,.i),(8,.i)],[.s false .poly,.s false .poly,.g [.nil],.rows false .mono]⟩
abbrev axt:Ann:=(.cut ⟨[(0,.p 0 2),(4,.p 1 7),(5,.p 2 7),(6,.i),(7,.p 3 5)],[.g pz,.g qq5,.g Wm,.s true .iop,.rows true .iop]⟩ qq7)
abbrev aqM:dM:=⟨[(0,.o 0),(1,.i),(2,.i),(3,.i),(8,.b),(9,.b)],[.e]⟩
abbrev aqN:Ann:=(.v (.cut ⟨[(0,.p 0 2),(2,.p 1 10),(3,.p 2 10)],aqE⟩ qq7))
abbrev axu:dM:=⟨[(1,.r false .bool),(2,.p 0 7),(4,.p 1 7),(5,.o 2),(6,.o 3),(7,.i)],[.s false .blk,.g qq5,.rows true .iop,.e]⟩
abbrev ahn:dM:=⟨[(4,.p 0 6),(5,.p 1 6)],qq9⟩
abbrev axv:dM:=⟨[(0,.p 0 2),(4,.p 1 7),(5,.p 2 7),(6,.i)],[.g pz,.g qq5,.g [.i,.i,.own 3,.i,.i,.i,.i],.rows true .iop]⟩
abbrev axw:dM:=⟨[(0,.o 0),(1,.i),(2,.i),(3,.i),(4,.c (.fn 316 [])),(18,.i),(19,.i),(20,.i),(21,.i),(22,.i)],y7⟩
abbrev aqO:dM:=⟨[(2,.p 3 10),(4,.p 4 10)],[.e,.e,.e,.g aqG,.g qq4]⟩
abbrev axx:Ann:=(.v (.v (.seq (.v (.block (.loop ⟨[(2,.p 0 7),(3,.p 1 7),(5,.i)],[.s false .blk,.s false .blk]⟩ .u))) .u)))
abbrev axy:dM:=⟨[(0,.o 0),(2,.p 1 1),(4,.p 2 1),(5,.i)],[.rows false .mono,.g [.nil],.g [.own 3],.rows true .mono]⟩
abbrev axz:dM:=⟨[(1,.i),(2,.p 0 1),(4,.p 1 1),(5,.o 2),(6,.i)],[.s false .poly,.g [.nil],.rows false .mono]⟩
abbrev ani:dM:=⟨[(4,.p 1 10),(5,.p 2 10)],aqE⟩
abbrev axA:dM:=⟨[(1,.p 0 7),(2,.p 1 7),(3,.p 2 7),(4,.c (.fn 301 [(2,7)])),(15,.o 3),(16,.i),(17,.i)],aqI⟩
abbrev axB:Ann:=(.v (.v (.seq (.v (.block (.loop ⟨[(0,.r false .i64),(1,.r false .i64),(5,.i)],[]⟩ .u))) .u)))
abbrev axC:dM:=⟨[(0,.o 0),(1,.c (.fn 116 [(1,1)])),(5,.i),(6,.i)],[.rows true .cac,.box (.r false .i64)]⟩
abbrev axD:Ann:=(.block (.loop ⟨[(0,.o 0),(1,.i),(2,.c (.fn 316 [])),(6,.i),(7,.i),(8,.i)],y7⟩ .u))
abbrev anj:dM:=⟨[(2,.p 0 7),(3,.p 1 7)],Wj⟩
abbrev axE:dM:=⟨[(0,.p 0 2),(2,.p 1 4),(3,.i),(4,.i),(10,.i),(30,.b)],[.g pz,.g [.i,.i,.i,.i]]⟩
abbrev aqP:Ann:=(.v (.cut ⟨[(1,.p 0 7),(3,.o 1)],ahm⟩ qq7))
abbrev axF:dM:=⟨[(0,.o 0),(1,.c (.fn 238 [(1,8)])),(5,.i),(6,.i)],[.rows true .cac,.s true .cac]⟩
abbrev axG:Ann:=(.block (.loop ⟨[(1,.p 0 10),(3,.o 1),(4,.i)],[.s false .aj,.rows true .ins]⟩ .u))
abbrev axH:dM:=⟨[(0,.r false .cac),(3,.p 0 8),(5,.o 1),(6,.i)],[.s false .cac,.rows true .cac]⟩
abbrev axI:List SkC:=[.own 3,.i,.own 4,.i,.bool,.bool,.i,.e,.own 5,.i,.rows true .cac,.rows true .cer]
abbrev axJ:dM:=⟨[(0,.r false .cac),(1,.r false .i64),(5,.o 0),(6,.i)],[.rows true .cac]⟩
abbrev axK:List (Nat×SkV):=[(1,.r false .i64),(2,.i),(3,.r false .ask),(8,.p 0 12),(9,.p 1 12),(10,.i)]
abbrev axL:List SkO:=[.g qq4,.g [.own 2,.i,.own 3,.i,.bool,.bool,.i,.own 4,.nil,.i],.e,.e,.e]
abbrev aqQ:dM:=⟨[(1,.p 0 7),(3,.o 1),(7,.i)],ahm⟩
abbrev aqR:dM:=⟨[(1,.p 0 7),(3,.o 1),(5,.i)],ahm⟩
abbrev axM:dM:=⟨[(0,.r false .i64),(1,.r false .i64),(5,.o 0),(6,.i),(7,.i)],[.e]⟩
abbrev axN:Ann:=(.v (.seq (.v (.block (.loop ⟨[(0,.r false .i64),(3,.i)],[]⟩ .u))) .u))
abbrev axO:List SkO:=[.g qq4,.g [.own 2,.i,.own 3,.i,.bool,.bool,.i,.e,.own 4,.i],.e,.e,.e]
abbrev aqS:List SkO:=[.e,.e,.e,.g aqG,.s false .ins,.g qq4]
abbrev axP:dM:=⟨[(2,.p 0 7),(4,.p 1 10),(6,.p 2 10),(7,.o 3),(8,.i),(10,.i)],axl⟩
abbrev axQ:dM:=⟨[(0,.p 0 7),(1,.r false .i64),(16,.o 1),(17,.i),(18,.i)],aqL⟩
abbrev axR:List (Nat×SkV):=[(0,.p 0 2),(2,.r false .i64),(9,.o 1),(10,.p 2 12),(11,.i),(12,.i)]
abbrev axS:dM:=⟨[(0,.o 0),(2,.i),(4,.c (.fn 316 [])),(14,.i),(15,.i)],y7⟩
abbrev axT:dM:=⟨[(0,.o 0),(2,.i),(4,.c (.fn 316 [])),(10,.i),(11,.i)],y7⟩
abbrev axU:dM:=⟨[(0,.o 0),(1,.i),(4,.c (.fn 316 [])),(10,.i),(11,.i)],y7⟩
abbrev axV:dM:=⟨[(0,.o 0),(1,.i),(2,.c (.fn 316 [])),(6,.i)],y7⟩
abbrev axW:dM:=⟨[(3,.p 1 7),(4,.p 2 4),(6,.p 3 7),(109,.b)],axq⟩
abbrev axX:dM:=⟨[(0,.r false .ev),(1,.i),(5,.i),(6,.i)],[]⟩
end Go.TX.F
noncomputable section
namespace Go.TX.F
open Go Go.AE Go.TX Go.TX.Seat Go.Proofs List
set_option maxRecDepth 100000
set_option maxHeartbeats 4000000
def Wn:Gt aB.z X E .u bY Tryz.f64 []:=gm
def Wp:Gt aB.z X E axN BS Tryz.f63 [(64,bY)]:=gm
def Wq:Gt aB.z X E .u bQ Tryz.f65 []:=gm
def Ws:Gt aB.z X E .u l8 Tryz.f31 [(64,bY),(65,bQ),(63,BS)]:=gm
def Wt:Gt aB.z X E .u bY Tryz.f140 []:=gm
def Wu:Gt aB.z X E (.v (.seq (.v (.block (.v (.cond .u (.v (.cond .u (.v (.cond .u (.seq (.v (.cut ang (.cond .u (.v (.cut ang (.cond .u (.v (.cut ang (.cond .u (.v (.cut ang qq7))))))))))) (.cond .u (.v (.cond .u (.v (.cond .u (.seq (.v (.cut ⟨[(1,.p 0 4),(54,.b)],[.s false .ins]⟩ qq7)) .u))))))))))))))) .u)) nM Tryz.f233 []:=gm
def Wv:Gt aB.z X E .u nM Tryz.f163 [(65,bQ),(233,nM)]:=gm
def Ww:Gt aB.z X E .u nM Tryz.f162 [(140,bY),(163,nM)]:=gm
def Wx:Gt aB.z X E (.v (.v (.seq (.v (.block (.loop ⟨[(1,.r false .ins),(5,.i)],[]⟩ .u))) .u))) EG Tryz.f103 [(140,bY),(163,nM),(65,bQ),(162,nM)]:=gm
def Wy:Gt aB.z X E .u EH Tryz.f164 []:=gm
def Wz:Gt aB.z X E .u VB Tryz.f165 [(164,EH)]:=gm
def WA:Gt aB.z X E .u JC Tryz.f166 [(164,EH)]:=gm
def WB:Gt aB.z X E .u VD Tryz.f167 [(166,JC),(164,EH)]:=gm
def WE:Gt aB.z X E (.v (.v (.seq (.v (.block (.loop ⟨[(0,.i),(3,.i),(4,.i)],[]⟩ .u))) .u))) lC Tryz.f168 []:=gm
def WG:Gt aB.z X E .u Pf Tryz.f169 [(166,JC),(164,EH),(167,VD),(165,VB)]:=gm
def WH:Gt aB.z X E (.v (.v (.v (.v (.v (.seq (.v (.cut ⟨[(3,.p 1 4),(4,.p 2 7),(8,.i),(9,.p 3 7),(10,.i)],[.gone,.s false .ins,.g qq5,.g Wm,.rows true .iop]⟩ qq7)) .u)))))) afO Tryz.f170 [(166,JC)]:=gm
def WI:Gt aB.z X E (.v (.seq (.v (.block (.v (.cond .u (.v (.cond .u (.v (.cond .u (.seq (.v (.cut ⟨[(2,.i),(3,.p 1 7),(4,.p 2 4),(6,.p 3 7),(22,.i),(70,.b)],axq⟩ qq7)) (.cond .u (.v (.cond .u (.v (.cond .u (.seq (.v (.cut axW (.cond .u (.v (.cut axW qq7))))) .u))))))))))))))) .u)) Pf Tryz.f104 [(166,JC),(170,afO),(164,EH),(169,Pf),(167,VD),(165,VB),(168,lC)]:=gm
def WJ:Gt aB.z X E (.v (.v (.v (.seq (.v (.block (.loop ⟨[(1,.r false .ins),(4,.p 0 7),(5,.p 1 7),(6,.i)],Wj⟩ .u))) .u)))) vU Tryz.f51 [(103,EG),(104,Pf)]:=gm
def WK:Gt aB.z X E .u bY Tryz.f268 [(65,bQ)]:=gm
def WL:Gt aB.z X E .u JD Tryz.f231 [(268,bY)]:=gm
def WM:Gt aB.z X E (.v (.v (.seq (.v (.block (.v (.cond .u (.v (.cond .u (.v (.cond .u (.seq (.v (.cut ⟨[(0,.r false .iop),(1,.i),(2,.i),(7,.p 0 5),(13,.i),(78,.b)],[.s false .iop]⟩ qq7)) .u))))))))) .u))) JD Tryz.f152 [(64,bY),(65,bQ),(231,JD)]:=gm
def WO:Gt aB.z X E (.v (.v (.seq (.v (.block (.v (.cond .u (.v (.cond .u (.seq (.v (.cut ⟨[(1,.p 0 7),(3,.i),(42,.b)],[.s false .blk]⟩ qq7)) .u))))))) .u))) gN Tryz.f153 [(64,bY),(231,JD)]:=gm
def WQ:Gt aB.z X E (.v (.v (.seq (.v (.block (.loop ⟨[(1,.p 0 7),(3,.i)],[.s false .blk]⟩ .u))) .u))) gN Tryz.f93 [(65,bQ),(153,gN),(152,JD)]:=gm
def WR:Gt aB.z X E axx j6 Tryz.f118 []:=gm
def WS:Gt aB.z X E .u l9 Tryz.f178 [(65,bQ)]:=gm
def WT:Gt aB.z X E (.v (.v (.v (.seq (.v (.block (.loop ⟨[(0,.p 0 1),(2,.p 1 1),(3,.o 2),(4,.i)],[.g [.nil],.g [.own 3],.rows true .poly,.rows true .atom]⟩ .u))) .u)))) VE Tryz.f119 [(178,l9)]:=gm
def WU:Gt aB.z X E axB rz Tryz.f251 []:=gm
def WW:Gt aB.z X E (.v (.v (.seq (.v (.block (.loop ⟨[(1,.p 0 2),(3,.i)],[.s false .mono]⟩ .u))) .u))) Ph Tryz.f282 [(65,bQ)]:=gm
def WX:Gt aB.z X E (.v (.v (.seq (.v (.block (.loop ⟨[(1,.p 0 1),(3,.i)],[.s false .poly]⟩ .u))) .u))) mg Tryz.f247 [(282,Ph),(251,rz)]:=gm
def WY:Gt aB.z X E .u afP Tryz.f276 []:=gm
def WZ:Gt aB.z X E (.v (.seq (.v (.block (.loop ⟨[(1,.i),(2,.p 0 1),(5,.i)],[.s false .poly]⟩ (.v (.seq (.block (.v (.block (.loop ⟨[(1,.i),(2,.p 0 1),(5,.i),(6,.i)],[.s false .poly]⟩ .u)))) .u))))) .u)) JE Tryz.f277 []:=gm
def Xa:Gt aB.z X E (.v (.seq (.v (.block (.v (.cond .u (.seq (.v (.cut ⟨[(1,.i),(2,.p 0 4),(6,.i),(16,.b)],[.s false .atom]⟩ qq7)) .u))))) .u)) EI Tryz.f241 [(65,bQ),(247,mg),(277,JE),(276,afP)]:=gm
def Xb:Gt aB.z X E (.v (.v (.seq (.v (.block (.loop ⟨[(2,.p 0 1),(3,.p 1 1),(5,.i)],[.s false .poly,.s false .poly]⟩ .u))) .u))) pO Tryz.f193 [(251,rz)]:=gm
def Xc:Gt aB.z X E .u JF Tryz.f242 [(193,pO)]:=gm
def Xd:Gt aB.z X E (.v (.v (.seq (.v (.block (.loop ⟨[(1,.p 0 1),(3,.i)],[.s false .tab]⟩ (.v (.seq (.block (.v (.v (.block (.loop ⟨[(1,.p 0 1),(3,.i),(4,.i)],[.s false .tab]⟩ .u))))) .u))))) .u))) Pj Tryz.f179 [(241,EI),(242,JF)]:=gm
def Xe:Gt ⟨[26],[]⟩ X E (.v (.v (.seq (.v (.block (.loop ⟨[(0,.r false .mono),(2,.p 0 1),(3,.p 1 1),(4,.i)],[.g [.nil],.g [.own 2],.rows true .mono]⟩ .u))) .u))) tY Tryz.f188 []:=gm
def Xf:Gt aB.z X E .u VF Tryz.f243 [(188,tY)]:=gm
def Xg:Gt ⟨[20],[]⟩ X E (.v (.v (.seq (.v (.block (.loop ⟨[(1,.p 0 1),(2,.p 1 1),(3,.p 2 1),(4,.i)],[.s false .tab,.g [.nil],.g [.own 3],.rows true .atom]⟩ .u))) .u))) JG Tryz.f180 [(243,VF)]:=gm
def Xh:Gt ⟨[38],[]⟩ X E (.v (.v (.seq (.v (.block (.loop ⟨[(2,.p 1 1),(3,.p 2 4),(4,.p 3 1),(6,.i)],[.rows true .atom,.g [.own 0],.s false .atom,.g [.nil]]⟩ .u))) .u))) Pm Tryz.f181 [(241,EI),(242,JF),(243,VF)]:=gm
def Xi:Gt aB.z X E .u afQ Tryz.f182 []:=gm
def Xj:Gt aB.z X E .u l9 Tryz.f183 [(65,bQ)]:=gm
def Xk:Gt aB.z X E (.v (.v (.seq (.v (.cut ⟨[(3,.i)],[]⟩ qq7)) .u))) lC Tryz.f232 []:=gm
def Xl:Gt aB.z X E (.v (.v (.v (.seq (.v (.block (.loop aqJ (.v (.seq (.block (.v (.seq (.v (.cut ⟨[(0,.r false .mono),(3,.p 0 2),(5,.o 1),(6,.b),(7,.i),(8,.i)],[.s false .mono,.rows false .mono]⟩ qq7)) (.v (.cut aqJ (.cond (.v (.v (.v (.cut aqJ qq7)))) .u)))))) .u))))) (.seq (.v (.cut ⟨[(5,.o 0)],y7⟩ qq7)) .u))))) VG Tryz.f303 [(251,rz),(232,lC)]:=gm
def Xm:Gt aB.z X E (.v (.v (.seq (.v (.block (.loop ⟨[(0,.r false .mono),(2,.p 0 1),(4,.i)],[.g [.nil]]⟩ .u))) .u))) VH Tryz.f304 [(188,tY)]:=gm
def Xo:Gt aB.z X E (.v (.v (.v (.seq (.v (.block (.loop ⟨[(3,.p 0 1),(4,.p 1 1),(6,.r false .mono),(7,.i)],[.s false .poly,.g [.nil]]⟩ .u))) .u)))) vV Tryz.f278 [(247,mg),(303,VG),(304,VH)]:=gm
def Xp:Gt aB.z X E (.v (.v (.v (.seq (.v (.block (.loop axz (.v (.seq (.block (.v (.v (.cut axz qq7)))) .u))))) .u)))) Pn Tryz.f279 [(247,mg),(232,lC),(188,tY),(64,bY)]:=gm
def Xq:Gt aB.z X E (.v (.v (.v (.seq (.v (.block (.loop axM (.v (.seq (.block (.seq (.block (.loop axM .u)) .u)) .u))))) .u)))) afR Tryz.f305 []:=gm
def Xr:Gt aB.z X E (.v (.v (.v (.seq (.v (.block (.loop ⟨[(2,.p 0 1),(3,.p 1 1),(4,.p 2 1),(6,.o 3),(7,.i)],[.s false .poly,.s false .poly,.g [.nil],.rows false .mono]⟩ (.v (.seq (.block (.v (.block (.loop axr (.v (.seq (.block (.v (.v (.cut axr qq7)))) .u)))))) .u))))) .u)))) vV Tryz.f280 [(247,mg),(232,lC),(303,VG),(305,afR),(304,VH)]:=gm
def Xt:Gt aB.z X E .u Po Tryz.f244 [(280,vV),(278,vV),(279,Pn)]:=gm
def Xu:Gt aB.z X E .u rA Tryz.f156 [(232,lC),(64,bY)]:=gm
def Xv:Gt aB.z X E .u BU Tryz.f248 [(247,mg)]:=gm
def Xw:Gt aB.z X E .u afS Tryz.f281 [(188,tY)]:=gm
def Xx:Gt aB.z X E .u Po Tryz.f245 [(193,pO),(188,tY),(156,rA),(183,l9),(248,BU),(281,afS)]:=gm
def Xy:Gt aB.z X E (.v (.v (.seq (.v (.cut ⟨[(1,.i),(4,.p 1 1),(6,.p 2 1),(7,.p 3 1),(8,.p 4 1),(9,.p 5 1),(10,.p 6 1),(11,.b)],[.rows true .atom,.g [.own 0],.s false .poly,.s false .poly,.g [.nil],.g [.nil],.g [.own 7],.rows true .mono]⟩ qq7)) (.v (.v (.seq (.v (.cut ⟨[(4,.p 1 1),(8,.p 2 1),(9,.p 3 1),(12,.p 4 4)],[.rows true .atom,.g [.own 0],.g [.nil],.g [.nil],.g [.i,.i,.rows false .mono,.rows false .mono]]⟩ qq7)) .u)))))) afT Tryz.f184 [(178,l9),(193,pO),(244,Po),(245,Po),(181,Pm)]:=gm
def Xz:Gt aB.z X E (.v (.v (.seq (.v (.block (.loop axX (.v (.seq (.block (.v (.cut axX qq7))) .u))))) .u))) afU Tryz.f246 []:=gm
def XA:Gt aB.z X E (.v (.v (.seq (.v (.cut ⟨[(3,.p 1 1),(6,.p 2 1),(7,.p 3 1),(8,.p 4 4)],[.rows true .atom,.g [.own 0],.g [.nil],.g [.nil],.g [.i,.i,.nil,.nil]]⟩ qq7)) .u))) afV Tryz.f185 [(178,l9),(181,Pm),(246,afU)]:=gm
def XB:Gt aB.z X E (.v (.v (.seq (.v (.block (.loop ⟨[(0,.r false .poly),(3,.o 0),(4,.i)],[.rows true .poly]⟩ .u))) .u))) EJ Tryz.f187 [(188,tY)]:=gm
def XC:Gt aB.z X E (.v (.v (.seq (.v (.cut ⟨[(3,.r false .poly),(4,.p 0 5),(6,.p 1 1),(8,.p 2 5),(9,.p 3 5)],[.s false .iop,.s false .poly,.g [.i,.i,.nil,.nil,.nil],.g [.i,.i,.own 4,.nil,.nil],.rows true .mono]⟩ qq7)) (.seq (.v (.cut ⟨[(3,.r false .poly),(4,.p 0 5),(8,.p 1 5),(9,.p 2 5)],[.s false .iop,.g [.i,.i,.nil,.nil,.nil],.g [.i,.i,.own 3,.own 4,.nil],.rows true .mono,.rows true .mono]⟩ qq7)) (.seq (.v (.cut ⟨[(8,.p 0 5),(9,.p 1 5)],[.g [.i,.i,.nil,.nil,.nil],.g [.i,.i,.own 2,.own 3,.own 4],.rows true .mono,.rows true .mono,.rows true .poly]⟩ qq7)) .u))))) afW Tryz.f186 [(188,tY),(187,EJ)]:=gm
def XD:Gt aB.z X E .u Pp Tryz.f189 []:=gm
def XE:Gt aB.z X E .u Pp Tryz.f190 []:=gm
def XF:Gt aB.z X E .u VI Tryz.f249 []:=gm
def XG:Gt aB.z X E (.v (.v (.v (.v (.seq (.block (.seq (.v (.cut ⟨[(1,.i),(2,.p 0 6),(4,.p 1 6),(6,.b),(8,.b),(9,.b),(29,.b)],[.s false .sym,.g xO]⟩ qq7)) (.cond .u (.seq (.v (.cut ⟨[(1,.i),(2,.p 0 6),(4,.p 1 6),(54,.b)],[.s false .sym,.g xO]⟩ qq7)) .u)))) (.seq (.v (.cut ⟨[(2,.p 0 6),(4,.p 1 6)],[.s false .sym,.g xO]⟩ qq7)) .u)))))) Pq Tryz.f250 [(248,BU),(193,pO),(249,VI)]:=gm
def XH:Gt ⟨[53],[]⟩ X E (.v (.v (.v (.v (.seq (.v (.block (.loop ⟨[(1,.i),(2,.p 0 6),(4,.p 1 6),(5,.p 2 6),(6,.i)],[.s false .sym,.g xO,.g [.own 3,.rows false .poly,.i,.rows false .mono,.rows false .mono,.i],.rows true .ev]⟩ .u))) (.v (.v (.v (.seq (.v (.block (.v (.cut ahn (.cond .u (.seq (.v (.cut ⟨[(1,.i),(4,.p 0 6),(5,.p 1 6),(85,.b)],qq9⟩ qq7)) .u)))))) .u))))))))) Pq Tryz.f191 [(248,BU),(247,mg),(188,tY),(249,VI),(250,Pq),(187,EJ)]:=gm
def XI:Gt ⟨[116],[]⟩ X E (.v (.v (.v (.v (.v (.seq (.v (.block (.loop ⟨[(3,.p 0 7),(4,.p 1 1),(5,.p 2 6),(6,.p 3 1),(7,.p 4 6),(9,.o 5),(10,.i)],[.s false .blk,.g [.nil],.g xO,.g [.own 6],.g xO,.rows true .poly,.rows true .atom]⟩ .u))) (.v (.seq (.v (.block (.loop ⟨[(3,.p 0 7),(4,.p 1 1),(5,.p 2 6),(6,.p 3 1),(7,.p 4 6),(9,.o 5),(13,.o 6),(14,.i)],[.s false .blk,.g [.nil],.g xO,.g [.own 7],.g [.own 8,.nil,.i,.nil,.nil,.i],.rows false .poly,.rows false .poly,.rows true .atom,.rows true .ev]⟩ (.v (.seq (.block (.v (.v (.v (.v (.seq (.v (.block (.v (.cut axj (.cond .u (.v (.cut axj (.cond .u (.v (.cut axi (.cond .u (.v (.cut axi (.cond .u (.seq (.v (.cut ⟨[(3,.p 0 7),(4,.p 1 1),(5,.p 2 6),(6,.p 3 1),(7,.p 4 6),(9,.o 5),(13,.o 6),(14,.i),(15,.p 7 5),(16,.p 8 1),(17,.p 9 1),(18,.p 10 1)],[.s false .blk,.g [.nil],.g xO,.g [.own 11],.g [.own 12,.nil,.i,.nil,.nil,.i],.rows false .poly,.rows false .poly,.s false .iop,.s false .poly,.s false .poly,.g [.own 13],.rows true .atom,.rows true .ev,.rows true .mono]⟩ qq7)) .u))))))))))))))) .u)))))) .u))))) .u)))))))) afX Tryz.f120 [(93,gN),(178,l9),(183,l9),(191,Pq),(119,VE),(179,Pj),(188,tY),(180,JG),(184,afT),(181,Pm),(185,afV),(186,afW),(182,afQ),(187,EJ),(189,Pp),(190,Pp)]:=gm
end Go.TX.F
end
noncomputable section
namespace Go.TX.F
open Go Go.AE Go.TX Go.TX.Seat Go.Proofs List
set_option maxRecDepth 100000
set_option maxHeartbeats 4000000
def XJ:Gt aB.z X E (.v (.v (.seq (.v (.block (.loop ⟨[(0,.r false .poly),(1,.r false .poly),(5,.i)],[]⟩ .u))) .u))) EK Tryz.f192 [(193,pO)]:=gm
def XK:Gt aB.z X E .u Pv Tryz.f194 [(193,pO),(192,EK)]:=gm
def XL:Gt aB.z X E (.v (.v (.seq (.v (.block (.loop ⟨[(2,.p 0 6),(3,.p 1 6),(5,.i)],[.s false .sym,.s false .sym]⟩ .u))) .u))) Pw Tryz.f121 [(193,pO),(194,Pv),(192,EK)]:=gm
def XM:Gt aB.z X E .u j6 Tryz.f68 [(93,gN),(118,j6),(119,VE),(120,afX),(121,Pw)]:=gm
def XO:Gt aB.z X E .u vW Tryz.f139 [(163,nM),(64,bY)]:=gm
def XP:Gt aB.z X E (.v (.v (.seq (.v (.block (.loop ⟨[(0,.r false .i64),(3,.o 0),(4,.i)],[.rows true .ins]⟩ .u))) .u))) Px Tryz.f117 [(139,vW)]:=gm
def XQ:Gt aB.z X E (.v (.v (.seq (.cut ⟨[(2,.b)],[]⟩ .u) .u))) afY Tryz.f66 [(51,vU),(103,EG),(117,Px),(68,j6)]:=gm
def XR:Gt aB.z X E (.v (.seq (.v (.block (.loop ⟨[(0,.r false .i64),(1,.r false .i64),(2,.i),(7,.i)],[]⟩ .u))) .u)) VJ Tryz.f67 []:=gm
def XU:Gt aB.z X E (.v (.v (.seq (.v (.block (.loop ⟨[(0,.r false .cac),(1,.r false .i64),(5,.i)],[]⟩ (.v (.seq (.block (.v (.v (.block (.loop ⟨[(0,.r false .cac),(1,.r false .i64),(5,.i),(6,.i)],[]⟩ .u))))) .u))))) .u))) Py Tryz.f32 [(66,afY),(67,VJ)]:=gm
def XV:Gt aB.z X E (.v (.v (.seq (.v (.block (.loop ⟨[(0,.r false .cer),(3,.i)],[]⟩ .u))) .u))) Pz Tryz.f33 [(68,j6)]:=gm
def XW:Gt aB.z X E .u tZ Tryz.f11 [(32,Py),(33,Pz),(31,l8)]:=gm
def XY:Gt aB.z X E (.v (.seq (.v (.cut ⟨[(0,.r true .u8)],[]⟩ qq7)) .u)) VK Tryz.f19 []:=gm
def XZ:Gt aB.z X E .u iM Tryz.f22 []:=gm
def X3:Gt aB.z X E .u EM Tryz.f23 [(22,iM)]:=gm
def X4:Gt aB.z X E .u vX Tryz.f60 []:=gm
def X5:Gt aB.z X E .u gI Tryz.f105 []:=gm
def X6:Gt aB.z X E .u EN Tryz.f61 [(105,gI)]:=gm
def X7:Gt aB.z X E .u JH Tryz.f62 [(105,gI)]:=gm
def X8:Gt ⟨[24,42],[]⟩ X E (.v (.v (.seq (.v (.block (.loop ⟨[(1,.p 0 12),(2,.p 1 12),(3,.p 2 12),(4,.i)],[.s false .eng,.g ET,.g [.own 3,.i,.own 4,.i,.bool,.bool,.i,.own 5,.own 6,.i,.own 7,.nil],.e,.e,.e,.e,.rows true .cac]⟩ .u))) (.seq (.v (.block (.loop ⟨[(1,.p 0 12),(2,.p 1 12),(3,.p 2 12),(5,.i)],[.s false .eng,.g ET,.g [.own 3,.i,.own 4,.i,.bool,.bool,.i,.own 5,.own 6,.i,.own 7,.own 8],.e,.e,.e,.e,.rows true .cac,.rows true .cer]⟩ .u))) .u)))) VL Tryz.f30 [(61,EN),(62,JH),(60,vX)]:=gm
def X9:Gt aB.z X E (.v (.seq (.v (.block (.loop ⟨[(0,.r false .i64),(1,.i),(5,.i)],[]⟩ .u))) .u)) yZ Tryz.f43 []:=gm
def Ya:Gt aB.z X E (.v (.v (.seq (.v (.block (.loop axJ (.v (.seq (.block (.v (.cut axJ qq7))) .u))))) .u))) JI Tryz.f48 [(61,EN),(67,VJ)]:=gm
def Yb:Gt aB.z X E (.v (.v (.seq (.v (.cut aqO qq7)) .u))) afZ Tryz.f145 []:=gm
def Yc:Gt aB.z X E .u pQ Tryz.f146 []:=gm
def Yd:Gt aB.z X E .u pQ Tryz.f228 [(232,lC)]:=gm
def Ye:Gt aB.z X E (.v (.seq (.v (.block (.v (.cond .u (.v (.cut aqO (.cond .u (.v (.cut aqO qq7))))))))) .u)) pQ Tryz.f224 [(146,pQ),(228,pQ)]:=gm
def Yf:Gt aB.z X E .u PD Tryz.f225 [(228,pQ)]:=gm
def Yg:Gt aB.z X E (.v (.v (.seq (.v (.block (.loop ⟨[(1,.i),(5,.i),(6,.i)],[]⟩ .u))) .u))) EO Tryz.f226 [(232,lC)]:=gm
def Yh:Gt aB.z X E .u af0 Tryz.f227 [(232,lC),(146,pQ),(228,pQ),(225,PD)]:=gm
def Yi:Gt aB.z X E (.v (.v (.v (.seq (.v (.cut ⟨[(2,.p 3 10),(3,.p 4 4),(4,.p 5 10),(5,.i)],aqS⟩ qq7)) .u)))) PE Tryz.f229 [(228,pQ),(225,PD)]:=gm
def Yj:Gt aB.z X E (.v (.v (.seq (.v (.block (.v (.cond .u (.v (.cond .u (.v (.cond .u (.v (.cond .u (.seq (.v (.cut ⟨[(2,.p 3 10),(3,.p 4 4),(4,.p 5 10),(5,.i),(13,.i),(45,.b)],aqS⟩ qq7)) (.cond .u (.v (.cond .u (.v (.cond .u (.v (.cond .u (.seq (.v (.cut ⟨[(2,.p 3 10),(3,.p 4 4),(4,.p 5 10),(5,.i),(94,.b)],aqS⟩ qq7)) .u))))))))))))))))))) .u))) PE Tryz.f147 [(156,rA),(228,pQ),(229,PE),(227,af0),(225,PD),(226,EO),(224,pQ)]:=gm
def Yk:Gt aB.z X E .u VN Tryz.f88 [(139,vW),(31,l8),(60,vX),(147,PE),(146,pQ),(145,afZ)]:=gm
def Yl:Gt aB.z X E .u af2 Tryz.f44 [(48,JI),(88,VN),(43,yZ)]:=gm
def Ym:Gt aB.z X E (.v (.v (.v (.seq (.v axG) .u)))) JJ Tryz.f83 [(140,bY),(139,vW),(31,l8)]:=gm
def Yn:Gt aB.z X E (.v (.seq (.v (.block (.loop ⟨[(0,.r false .cac),(1,.i),(5,.i)],[]⟩ .u))) .u)) JK Tryz.f89 []:=gm
def Yp:Gt aB.z X E (.v (.v (.seq (.v (.cut ⟨[(1,.r false .i64),(2,.p 0 5),(4,.p 1 5),(5,.p 2 5)],[.s false .iop,.g [.i,.i,.i,.i,.i],.s true .iop]⟩ qq7)) (.seq (.v (.cut ⟨[(4,.p 0 5),(5,.p 1 5)],[.g [.i,.i,.i,.i,.i],.s true .iop]⟩ qq7)) .u)))) VO Tryz.f171 [(65,bQ)]:=gm
def Yq:Gt aB.z X E (.v (.v (.v (.v (.v (.seq (.v (.block (.loop ⟨[(2,.p 0 7),(3,.p 1 7),(4,.o 2),(5,.o 3),(6,.i)],[.g qq5,.g Wm,.e,.e,.rows true .iop]⟩ (.v (.seq (.block (.v (.v (.v (.seq axn (.seq axn (.seq (.v (.cut ⟨[(2,.p 0 7),(3,.p 1 7),(4,.o 2),(5,.o 3),(6,.i),(8,.i)],[.g qq5,.g Wm,.e,.e,.rows true .iop]⟩ qq7)) .u))))))) .u))))) (.seq (.v (.cut ⟨[(2,.p 0 7),(3,.p 1 7),(4,.o 2)],[.g qq5,.g [.i,.i,.own 3,.i,.i,.i,.i],.e,.rows true .iop]⟩ qq7)) (.seq (.v (.cut anj qq7)) .u)))))))) gI Tryz.f107 [(93,gN),(171,VO),(105,gI)]:=gm
def Yr:Gt aB.z X E (.v (.v (.v (.seq (.v (.block (.loop axu (.v (.seq (.block (.v (.v (.cut axu qq7)))) .u))))) (.v (.v (.seq (.v (.cut ⟨[(2,.p 0 7),(4,.p 1 7),(6,.o 2),(8,.p 3 7)],[.s false .blk,.g qq5,.e,.g Wm,.rows true .iop]⟩ qq7)) (.seq (.v (.cut ⟨[(4,.p 0 7),(8,.p 1 7)],Wj⟩ qq7)) .u)))))))) EP Tryz.f219 [(171,VO)]:=gm
def Yt:Gt aB.z X E (.v (.v (.v (.seq (.v (.block (.loop ⟨[(1,.p 0 7),(3,.o 1),(4,.i)],ahm⟩ .u))) (.seq aqP (.seq aqP (.seq (.v (.block (.loop aqR (.v (.seq (.cut aqR (.block (.v (.v (.seq (.v (.cut ⟨[(1,.p 0 7),(3,.o 1),(5,.i),(6,.p 2 5)],[.s false .blk,.rows true .bool,.s false .iop]⟩ qq7)) (.v (.cut aqR qq7))))))) .u))))) .u))))))) PG Tryz.f220 [(93,gN),(65,bQ)]:=gm
def Yu:Gt aB.z X E .u gI Tryz.f142 [(93,gN),(220,PG),(219,EP)]:=gm
def Yv:Gt aB.z X E (.v (.seq (.v (.block (.loop ⟨[(0,.r false .iop),(1,.i),(5,.i)],[]⟩ .u))) .u)) af3 Tryz.f221 []:=gm
def Yw:Gt aB.z X E (.v (.v (.v (.seq (.v (.block (.loop ⟨[(1,.p 0 7),(2,.p 1 7),(3,.o 2),(4,.i)],[.s false .blk,.g qq5,.rows true .bool]⟩ .u))) .u)))) gI Tryz.f143 [(93,gN),(219,EP),(221,af3)]:=gm
def Yx:Gt aB.z X E .u VP Tryz.f222 []:=gm
def Yy:Gt aB.z X E .u af4 Tryz.f266 []:=gm
def Yz:Gt aB.z X E (.v (.v (.v (.seq (.block (.v (.cond .u (.seq (.v (.cut ⟨[(1,.p 0 7),(2,.p 1 7),(4,.b),(6,.b),(33,.b)],[.s false .blk,.g qq5]⟩ qq7)) .u)))) .u)))) PI Tryz.f223 [(266,af4),(222,VP)]:=gm
def YA:Gt aB.z X E (.v (.v (.v (.seq (.v (.block (.loop ⟨[(2,.p 0 7),(3,.p 1 7),(4,.i)],Wj⟩ (.v (.seq (.block (.v (.v (.v (.v (.cut ⟨[(2,.p 0 7),(3,.p 1 7),(4,.i)],Wj⟩ qq7)))))) .u))))) .u)))) PI Tryz.f144 [(93,gN),(156,rA),(223,PI),(222,VP),(105,gI)]:=gm
end Go.TX.F
end
noncomputable section
namespace Go.TX.F
open Go Go.AE Go.TX Go.TX.Seat Go.Proofs List
set_option maxRecDepth 100000
set_option maxHeartbeats 4000000
def YB:Gt aB.z X E .u gI Tryz.f86 [(144,PI),(107,gI),(142,gI),(143,gI)]:=gm
def YC:Gt aB.z X E .u af5 Tryz.f267 []:=gm
def YD:Gt aB.z X E (.v (.v (.v (.seq (.v (.block (.loop ⟨[(0,.r false .u8),(2,.p 0 7),(4,.p 1 7),(5,.i)],Wj⟩ .u))) .u)))) PK Tryz.f230 [(93,gN),(267,af5)]:=gm
def YE:Gt aB.z X E .u af6 Tryz.f148 [(230,PK),(86,gI)]:=gm
def YF:Gt aB.z X E (.v (.seq (.v (.block (.loop ⟨[(0,.r false .cer),(4,.p 0 7),(5,.p 1 7),(7,.i)],[.s false .blk,.s false .blk]⟩ .u))) .u)) PL Tryz.f149 [(118,j6)]:=gm
def YG:Gt aB.z X E (.v (.v (.seq (.v (.block (.loop ⟨[(0,.r false .cer),(3,.p 0 14),(5,.o 1),(6,.i)],[.s false .cer,.rows true .cer]⟩ .u))) .u))) PN Tryz.f150 [(62,JH)]:=gm
def YH:Gt aB.z X E .u af7 Tryz.f90 [(149,PL),(150,PN),(68,j6),(148,af6)]:=gm
def YI:Gt aB.z X E (.v (.v (.seq (.v (.block (.loop axH (.v (.seq (.block (.v (.cut axH qq7))) .u))))) .u))) af8 Tryz.f91 [(61,EN)]:=gm
def YJ:Gt aB.z X E .u JL Tryz.f151 [(163,nM)]:=gm
def YK:Gt aB.z X E (.v (.v (.seq (.v (.block (.loop ⟨[(0,.r false .ins),(3,.o 0),(4,.i)],[.e]⟩ .u))) .u))) JM Tryz.f92 [(151,JL)]:=gm
def YL:Gt aB.z X E .u af9 Tryz.f45 [(83,JJ),(51,vU),(92,JM),(89,JK),(91,af8),(90,af7)]:=gm
def YM:Gt aB.z X E (.v (.v (.seq (.v (.block (.loop ⟨[(1,.r false .i64),(3,.i),(4,.p 0 10),(9,.i)],[.s false .aj]⟩ .u))) .u))) aga Tryz.f46 [(43,yZ)]:=gm
def YN:Gt aB.z X E .u agb Tryz.f154 []:=gm
def YO:Gt aB.z X E .u JN Tryz.f155 []:=gm
def YP:Gt aB.z X E (.v (.seq (.v (.block (.v (.cond .u (.v (.cond (.v (.seq (.v (.cut ⟨[(5,.p 3 10),(10,.p 4 10),(13,.i)],[.e,.e,.e,.g aqG,.g qq4]⟩ qq7)) .u)) .u)))))) .u)) agc Tryz.f94 [(154,agb),(155,JN)]:=gm
def YQ:Gt aB.z X E .u PO Tryz.f95 []:=gm
def YR:Gt aB.z X E .u agd Tryz.f96 [(156,rA)]:=gm
def YS:Gt aB.z X E (.v (.seq (.v (.block (.v (.cond .u (.v (.cond .u (.v (.cut ⟨[(2,.p 0 7)],[.s false .blk]⟩ (.cond .u (.v (.cut ⟨[(2,.p 0 7)],[.s false .blk]⟩ qq7))))))))))) .u)) agf Tryz.f97 []:=gm
def YT:Gt aB.z X E (.v (.v (.v (.v (.v (.seq (.v (.block (.loop ⟨[(2,.p 0 7),(4,.p 1 10),(6,.p 2 10),(7,.o 3),(8,.i)],axl⟩ (.v (.seq (.block (.v (.v (.seq (.v (.block (.v (.cut axP (.cond .u (.seq (.v (.cut aqF (.cond .u (.v (.cut aqF (.cond .u (.v (.cut aqF qq7)))))))) (.cut axP qq7))))))) .u)))) .u))))) .u)))))) agh Tryz.f47 [(93,gN),(31,l8),(60,vX),(95,PO),(94,agc),(97,agf),(96,agd)]:=gm
def YU:Gt aB.z X E (.v (.v (.v (.v (.v (.seq (.cut ⟨[(1,.r false .i64),(2,.i),(7,.p 0 2),(8,.p 1 12),(10,.p 2 12),(11,.p 3 10),(12,.b)],[.s false .ask,.g ET,.g [.e,.i,.e,.i,.bool,.bool,.i,.e,.e,.i,.own 4,.own 5],.g [.e,.i,.e,.i,.bool,.bool,.i,.e,.e,.i],.rows true .cac,.rows true .cer]⟩ .u) .u)))))) JO Tryz.f18 [(48,JI),(11,tZ),(47,agh),(30,VL),(45,af9),(44,af2),(46,aga),(43,yZ)]:=gm
def YV:Gt aB.z X E (.v (.v (.seq (.v (.block (.loop ⟨[(0,.p 0 2),(3,.o 1),(4,.i)],[.g pz,.e]⟩ .u))) .u))) BX Tryz.f21 [(22,iM)]:=gm
def Qg:Gt aB.z X E (.v (.v (.v (.v (.seq (.v (.block (.v (.cut qq8 (.cond .u (.v (.cut qq8 (.cond .u (.v (.cut qq8 (.cond .u (.v (.cut qq8 (.cond .u (.v (.cut qq8 (.cond .u (.v (.cut qq8 (.cond .u (.v (.cut qq8 (.cond (.v (.cut qq8 qq7)) (.v (.cut qq8 qq7))))))))))))))))))))))))) .u))))) JQ Tryz.f52 [(22,iM),(105,gI)]:=gm
def YW:Gt aB.z X E (.v (.v (.v (.seq (.v (.block (.seq (.v (.cut ⟨[(0,.p 0 2),(2,.p 1 4),(3,.i),(4,.i),(10,.i),(11,.b)],[.g pz,.g [.i,.i,.i,.i]]⟩ qq7)) (.cond .u (.v (.cond .u (.seq (.v (.cut axE (.cond .u (.v (.cut axE qq7))))) (.cond .u (.v (.cond .u (.seq (.v (.cut ⟨[(0,.p 0 2),(2,.p 1 4),(3,.i),(4,.i),(10,.i),(54,.b)],[.g pz,.g [.i,.i,.i,.i]]⟩ qq7)) .u))))))))))) .u)))) BZ Tryz.f159 [(22,iM)]:=gm
def YX:Gt aB.z X E .u BZ Tryz.f160 [(159,BZ),(22,iM),(162,nM)]:=gm
def YZ:Gt aB.z X E (.v (.v (.seq (.v (.block (.loop anf .u))) .u))) agi Tryz.f106 [(160,BZ),(22,iM)]:=gm
def Za:Gt aB.z X E .u VQ Tryz.f53 [(51,vU),(86,gI),(107,gI),(22,iM),(106,agi)]:=gm
def Zb:Gt aB.z X E .u agj Tryz.f141 []:=gm
def Zc:Gt aB.z X E (.v (.v (.v (.v (.seq (.v (.block (.loop ⟨[(1,.p 0 7),(3,.o 1),(4,.i)],[.s false .blk,.rows true .u8]⟩ .u))) .u))))) PU Tryz.f84 [(93,gN),(141,agj)]:=gm
def Zd:Gt aB.z X E (.v (.v (.seq (.v (.block (.loop axv (.v (.seq (.block (.v (.seq (.seq (.cut ⟨[(0,.p 0 2),(4,.p 1 7),(5,.p 2 7),(6,.i),(7,.p 3 5),(34,.b)],[.g pz,.g qq5,.g Wm,.s true .iop,.rows true .iop]⟩ .u) axt) (.seq (.v axt) (.v (.cut axv qq7)))))) .u))))) .u))) JQ Tryz.f85 [(22,iM),(105,gI)]:=gm
end Go.TX.F
end
noncomputable section
namespace Go.TX.F
open Go Go.AE Go.TX Go.TX.Seat Go.Proofs List
set_option maxRecDepth 100000
set_option maxHeartbeats 4000000
def Ze:Gt aB.z X E .u agk Tryz.f87 [(22,iM)]:=gm
def Qh:Gt aB.z X E .u PW Tryz.f42 [(83,JJ),(51,vU),(84,PU),(86,gI),(22,iM),(52,JQ),(53,VQ),(85,JQ),(87,agk)]:=gm
def Zf:Gt aB.z X E .u agl Tryz.f98 [(31,l8),(60,vX)]:=gm
def Zg:Gt aB.z X E (.v (.v (.v (.seq (.v (.block (.loop ⟨[(0,.r false .i64),(4,.p 0 10),(5,.p 1 10),(6,.i)],axL⟩ (.v (.seq (.block (.v (.seq (.v (.cut ⟨[(0,.r false .i64),(4,.p 0 10),(5,.p 1 10),(6,.i),(7,.i)],axL⟩ qq7)) .u))) .u))))) .u)))) VR Tryz.f99 [(63,BS)]:=gm
def Zh:Gt aB.z X E .u PX Tryz.f54 [(22,iM)]:=gm
def Zi:Gt aB.z X E (.v (.v (.v (.seq (.v (.block (.loop ⟨[(0,.p 0 2),(1,.i),(6,.o 1),(7,.i)],[.g pz,.rows true .ins]⟩ (.v (.seq (.block (.v (.seq (.v (.cut ⟨[(0,.p 0 2),(1,.i),(6,.o 1),(7,.i),(8,.p 2 4)],[.g pz,.rows true .ins,.g [.i,.i,.i,.i]]⟩ qq7)) .u))) .u))))) .u)))) PZ Tryz.f157 [(160,BZ),(22,iM)]:=gm
def Zj:Gt aB.z X E .u PZ Tryz.f158 [(22,iM)]:=gm
def Zk:Gt aB.z X E (.v (.v (.seq (.v (.cut ⟨[(0,.p 0 2),(3,.o 1)],[.g pz,.rows true .ins]⟩ qq7)) (.seq (.v (.block (.loop anf (.v (.seq (.block (.v (.block (.v (.cut anf (.cond .u (.v (.cut anf (.cond .u (.v (.block (.loop ⟨[(0,.p 0 2),(3,.o 1),(4,.i),(5,.i)],[.g pz,.rows true .ins]⟩ .u)))))))))))) .u))))) (.v (.v (.seq (.block (.loop ⟨[(0,.p 0 2),(6,.o 1)],[.g pz,.e]⟩ .u)) (.v (.seq (.v (.block (.loop ⟨[(0,.p 0 2),(6,.o 1),(7,.i)],[.g pz,.e]⟩ .u))) (.v (.seq (.v (.cut ⟨[(6,.o 1)],[.g pz,.e]⟩ qq7)) .u))))))))))) BX Tryz.f100 [(92,JM),(151,JL),(157,PZ),(160,BZ),(159,BZ),(158,PZ),(23,EM),(22,iM),(54,PX)]:=gm
def Zl:Gt aB.z X E (.v (.v (.seq (.v (.block (.loop ⟨[(0,.p 0 2),(1,.i),(5,.o 1),(6,.i)],[.g pz,.e]⟩ .u))) .u))) VT Tryz.f101 [(54,PX)]:=gm
def Zm:Gt aB.z X E (.v (.v (.v (.seq (.v (.block (.loop ⟨[(0,.p 0 2),(2,.p 1 12),(3,.p 2 12),(4,.o 3),(5,.i)],[.g pz,.g ET,.g [.e,.i,.own 4,.i,.bool,.bool,.i,.e,.e,.i,.own 5,.own 6],.e,.e,.rows true .cac,.rows true .cer]⟩ .u))) .u)))) agm Tryz.f49 [(98,agl),(18,JO),(99,VR),(100,BX),(21,BX),(22,iM),(101,VT),(42,PW)]:=gm
def Zn:Gt aB.z X E (.v (.v (.v (.seq (.v (.block (.loop ⟨[(1,.r false .i64),(2,.i),(6,.p 0 10),(7,.p 1 10),(8,.i)],axO⟩ .u))) .u)))) agn Tryz.f161 [(31,l8),(88,VN),(60,vX),(43,yZ)]:=gm
def Zo:Gt aB.z X E (.v (.v (.v (.seq aqN (.seq aqN (.seq aqN (.seq (.v (.cut ⟨[(2,.p 1 10),(3,.p 2 10)],aqE⟩ qq7)) .u))))))) agp Tryz.f102 [(99,VR),(161,agn),(100,BX),(21,BX),(23,EM),(22,iM),(101,VT)]:=gm
def Zp:Gt aB.z X E (.v (.v (.seq (.v (.cut anb (.cond (.v (.block (.v (.cut anb (.cond .u (.v (.cut anb (.cond .u (.v (.cut anb (.cond .u (.v (.cut ani (.cond .u (.v (.cut ani (.cond .u (.v (.cut ani (.cond .u (.v (.cut ani qq7)))))))))))))))))))))) .u))) .u))) agq Tryz.f50 [(102,agp),(23,EM),(22,iM)]:=gm
def Zq:Gt ⟨[36,39,68,22],[]⟩ X E (.v (.v (.seq (.v (.cut axp (.cond (.v (.block (.v (.cut axp (.cond .u (.v (.cut qq3 (.cond .u (.v (.cut qq3 (.cond (.v (.cut qq3 qq7)) (.v (.cut qq3 (.cond .u (.v (.cut qq3 (.cond (.v (.cut qq3 qq7)) (.v (.cut qq3 qq7))))))))))))))))))) .u))) .u))) VU Tryz.f20 [(51,vU),(50,agq),(23,EM),(22,iM),(54,PX),(52,JQ),(53,VQ),(49,agm)]:=gm
def Zr:Gt aB.z X E (.v (.v (.v (.v (.seq (.v (.block (.loop ⟨axR,[.g pz,.rows true .ask,.s false .eng]⟩ (.v (.seq (.block (.v (.v (.v (.v (.cut ⟨axR,[.g pz,.rows true .ask,.g aqD,.e,.rows true .cac,.rows true .cer]⟩ qq7)))))) .u))))) .u))))) agr Tryz.f24 [(18,JO),(42,PW)]:=gm
def Zt:Gt aB.z X E (.v (.v (.v (.v (.v (.seq (.v (.cut ⟨[(2,.p 0 12),(6,.p 1 2),(7,.p 2 12),(8,.o 3),(9,.i)],[.g ET,.g pz,.s true .eng,.e]⟩ qq7)) .u)))))) ags Tryz.f7 [(11,tZ),(21,BX),(19,VK),(23,EM),(22,iM),(24,agr),(20,VU)]:=gm
def Zu:Gt aB.z X E .u bQ Tryz.f69 []:=gm
def Zv:Gt aB.z X E .u bY Tryz.f34 [(69,bQ)]:=gm
def Zw:Gt aB.z X E (.v (.seq (.v (.block (.loop ⟨[(5,.r false .i64),(6,.i),(7,.i)],[]⟩ .u))) .u)) BS Tryz.f70 [(34,bY)]:=gm
def aho:Gt aB.z X E .u l8 Tryz.f36 [(34,bY),(69,bQ),(70,BS)]:=gm
def Zx:Gt aB.z X E .u bY Tryz.f195 [(69,bQ)]:=gm
def ahp:Gt aB.z X E .u nM Tryz.f122 [(69,bQ),(195,bY)]:=gm
def ahq:Gt aB.z X E .u vW Tryz.f72 [(122,nM),(34,bY)]:=gm
def aqT:Gt aB.z X E (.v (.v (.seq (.v (.cut ⟨[(3,.o 0)],[.rows true .ins]⟩ (.block (.loop ⟨[(3,.o 0),(8,.r false .i64),(9,.i),(10,.i)],[.rows true .ins]⟩ .u)))) .u))) Px Tryz.f75 [(72,vW)]:=gm
def Zy:Gt aB.z X E (.v (.v (.seq (.v (.block (.loop ⟨[(0,.r false .i64),(1,.r false .i64),(12,.i),(13,.i)],[]⟩ .u))) .u))) JR Tryz.f127 []:=gm
def ahr:Gt aB.z X E .u agt Tryz.f76 [(69,bQ),(127,JR)]:=gm
def ahs:Gt aB.z X E .u bY Tryz.f128 [(69,bQ)]:=gm
def aqU:Gt aB.z X E (.v (.v (.seq (.v (.block (.loop ⟨[(1,.r false .ins),(19,.r false .ins),(20,.i),(21,.i)],[]⟩ .u))) .u))) EG Tryz.f77 [(128,bY),(122,nM),(69,bQ)]:=gm
def aht:Gt aB.z X E .u Tm Tryz.f202 [(69,bQ)]:=gm
def Zz:Gt aB.z X E .u bY Tryz.f252 [(69,bQ)]:=gm
def ahu:Gt aB.z X E .u Tn Tryz.f283 [(69,bQ)]:=gm
def ahv:Gt aB.z X E .u JN Tryz.f253 [(283,Tn),(69,bQ)]:=gm
def ahw:Gt ⟨[],[27,40]⟩ X E .u aoD Tryz.f196 [(253,JN),(202,Tm),(34,bY),(69,bQ),(252,bY),(195,bY)]:=gm
def ahx:Gt aB.z X E .u Tp Tryz.f208 []:=gm
def ahy:Gt aB.z X E .u gN Tryz.f197 [(208,Tp),(253,JN),(34,bY),(69,bQ)]:=gm
def ahz:Gt aB.z X E (.v (.v (.seq (.v (.block (.loop ⟨[(1,.p 0 7),(25,.i),(26,.i)],[.s false .blk]⟩ .u))) .u))) gN Tryz.f129 [(197,gN),(196,aoD),(69,bQ)]:=gm
def ZA:Gt aB.z X E (.v (.v (.seq (.v (.block (.loop ⟨[(0,.r false .iop),(1,.r false .iop),(12,.i),(13,.i)],[]⟩ .u))) .u))) agu Tryz.f198 []:=gm
end Go.TX.F
end
noncomputable section
namespace Go.TX.F
open Go Go.AE Go.TX Go.TX.Seat Go.Proofs List
set_option maxRecDepth 100000
set_option maxHeartbeats 4000000
def ahA:Gt aB.z X E .u j6 Tryz.f130 [(198,agu)]:=gm
def ahB:Gt aB.z X E .u aoE Tryz.f113 [(69,bQ)]:=gm
def ahC:Gt aB.z X E .u aoF Tryz.f306 []:=gm
def ZB:Gt aB.z X E (.v (.seq (.v (.block (.loop ⟨[(0,.r false .i64),(1,.c (.fn 306 [(0,1)])),(7,.i),(8,.i)],[.box (.i)]⟩ .u))) .u)) agv Tryz.f177 [(306,aoF)]:=gm
def ZE:Gt aB.z X E (.v (.seq (.v (.block (.loop ⟨[(0,.r false .i64),(1,.c (.fn 113 [(0,1),(1,7)])),(7,.i),(8,.i)],[.box (.p 2 12),.s true .blk,.g axI,.e,.e,.e]⟩ .u))) .u)) agw Tryz.f177 [(113,aoE)]:=gm
def ZF:Gt aB.z X E .u agx Tryz.f112 [(177,agv)]:=gm
def ZG:Gt aB.z X E .u agy Tryz.f112 [(177,agw)]:=gm
def ahD:Gt aB.z X E (.v (.seq (.v (.block (.loop ⟨[(3,.p 0 1),(8,.r false .mono),(9,.i),(10,.i)],[.box (.i)]⟩ .u))) .u)) JE Tryz.f284 [(112,agx)]:=gm
def aqV:Gt aB.z X E .u bY Tryz.f311 []:=gm
def aqW:Gt aB.z X E .u EO Tryz.f291 [(311,bY)]:=gm
def aqX:Gt aB.z X E (.v (.v (.seq (.v (.block (.loop ⟨[(3,.i),(6,.r false .i64),(7,.i),(8,.i)],[]⟩ .u))) .u))) aqC Tryz.f292 []:=gm
def ZH:Gt aB.z X E (.v (.seq (.v (.block (.loop ⟨[(0,.r false .i64),(1,.r false .i64),(9,.r false .i64),(10,.i),(11,.i)],[]⟩ .u))) .u)) rz Tryz.f312 [(291,EO)]:=gm
def ZI:Gt aB.z X E .u rz Tryz.f293 [(292,aqC),(291,EO),(312,rz)]:=gm
def aqY:Gt aB.z X E .u am8 Tryz.f313 [(311,bY)]:=gm
def ZJ:Gt aB.z X E axN BS Tryz.f295 [(313,am8)]:=gm
def ahE:Gt aB.z X E .u Ph Tryz.f297 []:=gm
def ZK:Gt aB.z X E (.v (.seq (.v (.block (.loop ⟨[(0,.r false .mono),(1,.c (.fn 297 [])),(7,.i),(8,.i)],[]⟩ .u))) .u)) agz Tryz.f314 [(297,Ph)]:=gm
def ZL:Gt aB.z X E .u agA Tryz.f296 [(314,agz)]:=gm
def ahF:Gt aB.z X E (.v (.seq (.v (.block (.loop ⟨[(1,.p 0 1),(6,.r false .mono),(7,.i),(8,.i)],[.s false .poly]⟩ .u))) .u)) mg Tryz.f261 [(69,bQ),(284,JE),(295,BS),(293,rz),(296,agA)]:=gm
def ahG:Gt aB.z X E .u EI Tryz.f255 [(69,bQ),(252,bY),(284,JE),(261,mg),(195,bY)]:=gm
def ahH:Gt aB.z X E (.v (.v (.seq (.v (.block (.loop ⟨[(3,.p 0 1),(20,.r false .mono),(21,.i),(22,.i)],[.s false .poly]⟩ .u))) .u))) pO Tryz.f258 [(292,aqC),(291,EO),(293,rz)]:=gm
def ahI:Gt aB.z X E .u Dq Tryz.f212 [(258,pO)]:=gm
def ahJ:Gt aB.z X E .u JF Tryz.f287 [(212,Dq)]:=gm
def ahK:Gt aB.z X E .u aoG Tryz.f286 [(287,JF)]:=gm
def ZM:Gt aB.z X E (.v (.seq (.v (.block (.loop ⟨[(0,.r false .atom),(1,.c (.fn 286 [(0,4)])),(7,.i),(8,.i)],[.s false .atom]⟩ .u))) .u)) agB Tryz.f285 [(286,aoG)]:=gm
def ahL:Gt aB.z X E .u agC Tryz.f256 [(285,agB)]:=gm
def ZN:Gt aB.z X E .u agD Tryz.f294 []:=gm
def ahM:Gt aB.z X E .u agE Tryz.f259 [(255,EI),(256,agC),(294,agD)]:=gm
def ahN:Gt aB.z X E .u l9 Tryz.f260 [(69,bQ)]:=gm
def ZO:Gt aB.z X E .u VW Tryz.f207 [(260,l9),(259,agE)]:=gm
def ZP:Gt aB.z X E (.v (.v (.seq (.v (.block (.loop ⟨[(0,.p 0 2),(3,.o 1),(5,.i)],[.g Wi,.rows true .poly]⟩ .u))) .u))) VX Tryz.f199 [(207,VW)]:=gm
def ZQ:Gt aB.z X E .u JU Tryz.f71 []:=gm
def ahO:Gt ⟨[20],[]⟩ X E (.v (.v (.seq (.v (.block (.loop ⟨[(2,.p 0 1),(3,.p 1 1),(7,.r false .mono),(8,.i),(9,.i)],[.g [.nil],.g [.own 2],.rows true .mono]⟩ .u))) .u))) acW Tryz.f254 [(71,JU)]:=gm
def ahP:Gt ⟨[25],[]⟩ X E (.v (.v (.seq (.v (.block (.loop ⟨[(2,.p 0 1),(3,.p 1 1),(7,.r false .atom),(8,.i),(9,.i)],[.g [.nil],.g [.own 2],.rows true .atom]⟩ .u))) .u))) JG Tryz.f200 [(254,acW)]:=gm
def ahQ:Gt aB.z X E .u aoH Tryz.f131 [(200,JG),(199,VX)]:=gm
def ahR:Gt aB.z X E (.v (.seq (.v (.block (.loop ⟨[(1,.p 0 1),(6,.r false .atom),(7,.i),(8,.i)],[.s false .tab]⟩ .u))) .u)) Pj Tryz.f201 [(255,EI),(256,agC)]:=gm
def ahS:Gt aB.z X E .u Tn Tryz.f203 [(69,bQ)]:=gm
def ZR:Gt aB.z X E .u agF Tryz.f204 []:=gm
def ahT:Gt aB.z X E .u l9 Tryz.f205 [(69,bQ)]:=gm
def ZT:Gt aB.z X E .u lC Tryz.f123 []:=gm
def ZU:Gt aB.z X E .u rA Tryz.f126 [(34,bY),(123,lC)]:=gm
def ahU:Gt aB.z X E .u BU Tryz.f263 [(261,mg)]:=gm
def ZV:Gt aB.z X E .u VY Tryz.f316 [(293,rz)]:=gm
def ZW:Gt aB.z X E (.v (.block (.loop ⟨[(0,.o 0),(1,.i),(2,.i),(3,.c (.fn 316 [])),(8,.i)],y7⟩ (.v (.seq (.block (.v (.block (.loop ⟨[(0,.o 0),(1,.i),(2,.i),(3,.c (.fn 316 [])),(8,.i),(9,.i)],y7⟩ .u)))) .u))))) agG Tryz.f332 [(316,VY)]:=gm
def ZX:Gt aB.z X E (.v (.block (.loop ⟨[(0,.o 0),(1,.i),(2,.i),(3,.i),(10,.i)],y7⟩ .u))) Ca Tryz.f341 []:=gm
def ZY:Gt aB.z X E (.v (.v (.seq (.block (.loop axT (.v (.block (.v (.cut axT qq7)))))) .u))) Ca Tryz.f339 [(341,Ca)]:=gm
def JX:Gt aB.z X E (.seq (.v (.cond (.v (.v (.seq (.block (.loop axU (.v (.block (.v (.v (.cut axU qq7))))))) (.seq (.v (.block (.loop ⟨[(0,.o 0),(10,.i),(13,.i)],y7⟩ .u))) .u)))) .u)) (.seq (.v (.cond (.v (.v (.seq (.block (.loop axS (.v (.block (.v (.v (.cut axS qq7))))))) (.seq (.v (.block (.loop ⟨[(0,.o 0),(14,.i),(17,.i)],y7⟩ .u))) .u)))) .u)) (.v (.v (.v (.seq (.v (.cut ⟨[(0,.o 0),(1,.i),(2,.i),(3,.i),(4,.c (.fn 316 [])),(18,.i),(19,.i),(20,.i),(21,.i)],y7⟩ qq7)) (.v (.seq (.block (.loop axw (.v (.block (.v (.v (.cut axw qq7))))))) (.v (.seq (.v (.cut ⟨[(0,.o 0),(1,.i),(3,.i),(4,.c (.fn 316 [])),(18,.i),(20,.i),(24,.i)],y7⟩ qq7)) (.seq (.v (.cut ⟨[(0,.o 0),(3,.i),(4,.c (.fn 316 [])),(18,.i),(24,.i)],y7⟩ qq7)) (.v (.cut ⟨[],y7⟩ qq7))))))))))))) Ca Tryz.f333 [(316,VY),(339,Ca),(333,Ca)]:=gm
def Z0:Gt aB.z X E (.v (.v (.seq axD (.v (.block (.loop axV (.v (.block (.v (.seq axD (.seq (.v (.v (.cut axV qq7))) .u))))))))))) agH Tryz.f321 [(332,agG),(333,Ca)]:=gm
def Z4:Gt aB.z X E .u agI Tryz.f315 [(321,agH)]:=gm
def Z5:Gt ⟨[51],[]⟩ X E (.v (.v (.v (.seq (.v (.block (.loop axy (.v (.block (.v (.seq (.block (.loop ⟨[(0,.o 0),(2,.p 1 1),(4,.p 2 1),(5,.i),(6,.i),(7,.p 3 2)],[.rows false .mono,.g [.nil],.g [.own 4],.s false .mono,.rows true .mono]⟩ .u)) (.v (.cut axy qq7))))))))) .u)))) V3 Tryz.f307 [(293,rz),(261,mg),(123,lC),(71,JU),(315,agI)]:=gm
def Z6:Gt aB.z X E (.v (.v (.seq (.v (.v (.cut ⟨[(0,.o 0)],[.rows true .mono]⟩ qq7))) .u))) agJ Tryz.f317 []:=gm
def Z7:Gt aB.z X E (.v (.v (.seq (.v (.block (.loop ⟨[(0,.r false .poly),(3,.i),(9,.r false .poly),(10,.i),(11,.i)],[]⟩ .u))) (.v (.seq (.v (.block (.loop ⟨[(6,.o 0),(25,.r false .poly),(26,.i),(27,.i)],y7⟩ .u))) .u))))) agK Tryz.f308 [(317,agJ)]:=gm
def ahV:Gt aB.z X E .u vV Tryz.f288 [(261,mg),(307,V3),(308,agK)]:=gm
def Z8:Gt aB.z X E (.v (.v (.seq (.v (.v (.cut ⟨[(0,.o 0)],[.e]⟩ qq7))) .u))) agL Tryz.f318 []:=gm
def Z9:Gt aB.z X E (.v (.v (.seq (.v (.block (.loop ⟨[(0,.r false .ints),(3,.i),(9,.r false .ints),(10,.i),(11,.i)],[]⟩ .u))) (.v (.seq (.v (.block (.loop ⟨[(6,.o 0),(25,.r false .ints),(26,.i),(27,.i)],[.e]⟩ .u))) .u))))) agM Tryz.f309 [(318,agL)]:=gm
def aac:Gt aB.z X E (.v (.block (.loop ⟨[(0,.o 0),(1,.i),(2,.i),(6,.i)],[.e]⟩ (.v (.seq (.block (.v (.block (.loop ⟨[(0,.o 0),(1,.i),(2,.i),(6,.i),(7,.i)],[.e]⟩ .u)))) .u))))) JV Tryz.f322 [(313,am8)]:=gm
def aad:Gt aB.z X E (.v (.v (.block (.loop aqM (.cut aqM (.block (.v (.v (.v (.seq (.v (.cut ⟨[(0,.o 0),(1,.i),(2,.i),(3,.i),(8,.b),(9,.b),(10,.i)],[.e]⟩ qq7)) (.v (.seq (.v (.cut ⟨[(0,.o 0),(1,.i),(2,.i),(3,.i),(8,.b),(9,.b),(10,.i),(11,.i),(12,.i)],[.e]⟩ qq7)) (.seq (.v (.cut ⟨[(0,.o 0),(1,.i),(2,.i),(3,.i),(8,.b),(9,.b),(10,.i),(11,.i)],[.e]⟩ qq7)) (.v (.v (.v (.v (.v (.v (.cut aqM qq7)))))))))))))))))))) JW Tryz.f319 [(313,am8),(322,JV),(323,JV),(324,JV),(325,V4),(326,JV),(327,V5),(328,V6),(329,V7),(319,JW)]:=gm
def aae:Gt aB.z X E .u agR Tryz.f310 [(319,JW),(320,agQ)]:=gm
def ahW:Gt aB.z X E (.v (.v (.v (.seq (.v (.block (.loop ⟨[(3,.p 0 1),(4,.p 1 1),(6,.o 2),(22,.r false .mono),(23,.i),(24,.i)],[.s false .poly,.g [.nil],.rows true .mono]⟩ (.v (.v (.seq (.block (.v (.v (.block (.loop ⟨[(3,.p 0 1),(4,.p 1 1),(6,.o 2),(8,.p 3 2),(22,.r false .mono),(23,.i),(24,.i),(29,.r false .mono),(30,.i),(31,.i)],[.s false .poly,.g [.nil],.rows true .mono,.s false .mono]⟩ .u))))) .u)))))) .u)))) vV Tryz.f290 [(261,mg),(123,lC),(307,V3),(309,agM),(310,agR)]:=gm
def ahX:Gt aB.z X E .u Pn Tryz.f289 [(261,mg),(205,l9),(34,bY),(290,vV)]:=gm
def aaf:Gt aB.z X E (.v (.v (.v (.v (.v (.seq (.v (.cut ⟨[(0,.i),(4,.p 0 1),(6,.p 1 1),(10,.i),(11,.b)],[.s true .poly,.g [.nil]]⟩ qq7)) .u)))))) agS Tryz.f257 [(212,Dq),(205,l9),(126,rA),(288,vV),(290,vV),(289,Pn),(263,BU)]:=gm
def ahY:Gt aB.z X E (.v (.v (.seq (.v (.cut ⟨[(1,.i),(4,.p 0 1),(6,.p 1 1),(7,.p 2 1),(8,.p 3 1),(9,.p 4 1)],[.s true .tab,.s true .poly,.s true .poly,.g [.nil],.g [.nil]]⟩ qq7)) .u))) aoI Tryz.f206 [(258,pO),(257,agS),(259,agE),(260,l9)]:=gm
def aag:Gt aB.z X E .u bQ Tryz.f124 [(34,bY)]:=gm
def aah:Gt aB.z X E (.v (.v (.seq (.v (.block (.loop ⟨[(3,.o 0),(6,.r false .poly),(7,.i),(8,.i)],[.rows true .poly]⟩ .u))) .u))) EJ Tryz.f298 [(254,acW)]:=gm
def ahZ:Gt ⟨[42],[]⟩ X E (.v (.v (.seq (.v (.block (.loop ⟨[(2,.p 0 6),(3,.p 1 6),(21,.r false .ev),(22,.i),(23,.i)],qq9⟩ .u))) .u))) aoJ Tryz.f262 [(254,acW),(298,EJ)]:=gm
def ah0:Gt aB.z X E (.v (.v (.v (.v (.v (.v (.seq (.block (.v (.cut ahn (.cond .u (.v (.cut ahn (.cond .u (.v (.cut ahn (.cond (.v (.v (.v (.cut ⟨[(4,.p 0 6),(5,.p 1 6)],[.g xO,.g [.own 2,.own 3,.i,.nil,.nil,.i],.rows true .ev,.rows true .poly]⟩ qq7)))) (.v (.cut ahn qq7)))))))))))) .u))))))) aoK Tryz.f209 [(263,BU),(261,mg),(258,pO),(262,aoJ),(212,Dq),(124,bQ)]:=gm
def ah1:Gt aB.z X E (.v (.v (.v (.v (.v (.v (.seq (.v (.block (.loop qq0 (.v (.v (.seq (.block (.v (.v (.v (.seq (.v (.cut ⟨[(3,.p 0 7),(4,.p 1 1),(5,.p 2 6),(6,.p 3 2),(7,.p 4 6),(8,.o 5),(9,.i),(10,.i),(11,.i),(12,.p 6 5),(14,.b),(17,.p 7 1),(18,.p 8 1),(57,.r false .iop),(58,.i),(59,.i)],[.s false .blk,.g [.nil],.g xO,.g Wi,.g [.own 9,.own 10,.i,.nil,.nil,.i],.rows true .poly,.s false .iop,.s true .poly,.g [.nil],.rows true .ev,.rows true .poly]⟩ qq7)) (.seq (.v (.cut axh qq7)) (.seq (.v (.cut axh (.cond (.v (.seq (.v (.cut ⟨[(3,.p 0 7),(4,.p 1 1),(5,.p 2 6),(6,.p 3 2),(7,.p 4 6),(8,.o 5),(9,.i),(10,.i),(11,.i),(12,.p 6 5),(17,.p 7 1),(18,.p 8 1),(19,.p 9 5),(57,.r false .iop),(58,.i),(59,.i)],[.s false .blk,.g [.nil],.g xO,.g Wi,.g [.own 10,.own 11,.i,.nil,.nil,.i],.rows true .poly,.s false .iop,.s true .poly,.s true .poly,.g [.i,.i,.rows true .mono,.rows true .mono,.own 12],.rows true .ev,.rows true .poly,.rows true .poly]⟩ qq7)) .u)) .u))) (.v (.block (.v (.cut qq0 (.cond .u (.v (.cut qq0 (.cond .u (.v (.cut qq0 (.cond .u (.v (.cut qq0 (.cond .u (.v (.cut qq0 (.cond .u (.v (.cut qq0 qq7)))))))))))))))))))))))))) .u)))))) (.v (.seq (.v (.cut ⟨[(3,.p 0 7),(4,.p 1 1),(5,.p 2 6),(6,.p 3 2),(7,.p 4 6),(8,.o 5),(24,.b)],[.s false .blk,.g [.nil],.g xO,.g Wi,.g [.own 6,.own 7,.i,.rows true .mono,.nil,.i],.rows true .poly,.rows true .ev,.rows true .poly]⟩ qq7)) (.seq (.v (.cut ⟨[(3,.p 0 7),(4,.p 1 1),(5,.p 2 6),(6,.p 3 2),(7,.p 4 6)],[.s false .blk,.g [.nil],.g xO,.g Wi,.g [.own 5,.own 6,.i,.rows true .mono,.rows true .mono,.i],.rows true .ev,.rows true .poly]⟩ qq7)) .u)))))))))) aoL Tryz.f132 [(208,Tp),(129,gN),(203,Tn),(202,Tm),(205,l9),(209,aoK),(201,Pj),(200,JG),(206,aoI),(207,VW),(199,VX),(204,agF)]:=gm
end Go.TX.F
end
noncomputable section
namespace Go.TX.F
open Go Go.AE Go.TX Go.TX.Seat Go.Proofs List
set_option maxRecDepth 100000
set_option maxHeartbeats 4000000
def aai:Gt aB.z X E .u Dq Tryz.f265 [(212,Dq)]:=gm
def aaj:Gt aB.z X E (.v (.v (.seq (.v (.block (.loop ⟨[(1,.r false .poly),(2,.c (.fn 265 [])),(15,.r false .poly),(16,.i),(17,.i)],[]⟩ .u))) .u))) agT Tryz.f264 [(265,Dq)]:=gm
def aak:Gt aB.z X E .u EK Tryz.f213 [(264,agT)]:=gm
def ah2:Gt aB.z X E .u Pv Tryz.f211 [(212,Dq),(213,EK)]:=gm
def aal:Gt aB.z X E (.v (.v (.seq (.v (.block (.loop ⟨[(1,.r false .ev),(2,.c (.fn 211 [])),(15,.r false .ev),(16,.i),(17,.i)],[]⟩ .u))) .u))) agU Tryz.f210 [(211,Pv)]:=gm
def ah3:Gt aB.z X E .u Pw Tryz.f133 [(212,Dq),(213,EK),(210,agU)]:=gm
def ah4:Gt aB.z X E .u j6 Tryz.f78 [(129,gN),(130,j6),(131,aoH),(132,aoL),(133,Pw)]:=gm
def aam:Gt aB.z X E (.v (.v (.seq (.v (.cut ⟨[(0,.p 0 8),(11,.p 2 5)],[.g [.i,.i,.own 1,.i,.i,.i,.i,.i],.rows true .iop,.g [.i,.i,.i,.i,.i]]⟩ qq7)) .u))) ER Tryz.f215 [(203,Tn)]:=gm
def aan:Gt aB.z X E .u agV Tryz.f214 [(215,ER)]:=gm
def aao:Gt aB.z X E .u Qa Tryz.f216 [(215,ER)]:=gm
def aap:Gt aB.z X E .u Qa Tryz.f217 [(215,ER)]:=gm
def aaq:Gt aB.z X E .u agW Tryz.f218 [(215,ER)]:=gm
def aar:Gt aB.z X E (.v (.v (.v (.block (.v (.cut Qe (.cond .u (.v (.cut Qe (.cond .u (.v (.cut Qe (.cond .u (.v (.cut Qe (.cond .u (.v (.cut Qe (.cond .u (.v (.cut Qe (.cond .u (.v (.cut Qe (.cond .u (.seq (.v (.cut ⟨[(2,.p 2 1),(3,.p 3 4),(4,.c (.fn 214 [(2,1),(3,4)])),(11,.i),(112,.b)],[.g [.i,.i,.own 1,.i,.i,.i,.i,.i],.rows true .iop,.box (.p 0 8),.s false .ins]⟩ qq7)) (.cut Qe (.cond .u (.v (.cut Qe qq7)))))))))))))))))))))))))))))) agX Tryz.f134 [(218,agW),(217,Qa),(214,agV),(215,ER),(216,Qa)]:=gm
def ah5:Gt aB.z X E .u gI Tryz.f135 []:=gm
def aqZ:Gt aB.z X E (.v (.v (.v (.seq (.v (.block (.loop ⟨[(4,.p 0 7),(5,.p 1 8),(23,.r false .ins),(24,.i),(25,.i)],[.g qq5,.g [.i,.i,.own 2,.i,.i,.i,.i,.i],.rows true .iop]⟩ .u))) .u)))) vU Tryz.f79 [(77,EG),(135,gI),(134,agX)]:=gm
def ah6:Gt aB.z X E .u agY Tryz.f116 [(76,agt)]:=gm
def ah7:Gt aB.z X E .u aoM Tryz.f137 []:=gm
def ah8:Gt aB.z X E .u agZ Tryz.f238 []:=gm
def aas:Gt aB.z X E (.v (.seq (.v (.block (.loop ⟨[(0,.r false .cac),(1,.c (.fn 137 [(0,1)])),(7,.i),(8,.i)],[.box (.i)]⟩ .u))) .u)) ag0 Tryz.f136 [(137,aoM)]:=gm
def aat:Gt aB.z X E (.v (.seq (.v (.block (.loop ⟨[(0,.r false .cac),(1,.c (.fn 238 [(0,8)])),(7,.i),(8,.i)],[.s true .cac]⟩ .u))) .u)) ag1 Tryz.f136 [(238,agZ)]:=gm
def aau:Gt aB.z X E (.v (.seq (.v (.block (.loop ⟨[(0,.o 0),(1,.c (.fn 116 [(1,1)])),(7,.i),(8,.i)],[.rows true .cac,.box (.r false .i64)]⟩ .u))) .u)) ag2 Tryz.f136 [(116,agY)]:=gm
def ah9:Gt aB.z X E .u JK Tryz.f80 [(136,ag0)]:=gm
def aia:Gt aB.z X E (.v (.seq (.v (.block (.loop ⟨[(0,.r false .cac),(1,.r false .i64),(8,.r false .cac),(9,.i),(10,.i)],[]⟩ (.v (.v (.seq (.block (.v (.v (.seq (.cut ⟨[(0,.r false .cac),(1,.r false .i64),(8,.r false .cac),(9,.i),(10,.i),(57,.b)],[]⟩ .u) .u)))) .u)))))) .u)) Py Tryz.f40 [(79,vU),(77,EG),(75,Px),(76,agt),(80,JK),(78,j6)]:=gm
def aib:Gt aB.z X E .u aoN Tryz.f82 [(78,j6)]:=gm
def aic:Gt aB.z X E .u aoO Tryz.f236 [(130,j6)]:=gm
def aav:Gt aB.z X E (.v (.seq (.v (.block (.loop ⟨[(0,.r false .cer),(1,.c (.fn 236 [(0,7),(1,7)])),(7,.i),(8,.i)],[.s false .blk,.s false .blk]⟩ .u))) .u)) ag3 Tryz.f138 [(236,aoO)]:=gm
def aaw:Gt aB.z X E (.v (.seq (.v (.block (.loop ⟨[(0,.r false .cer),(1,.c (.fn 82 [])),(7,.i),(8,.i)],[]⟩ .u))) .u)) ag4 Tryz.f138 [(82,aoN)]:=gm
def aax:Gt aB.z X E .u ag5 Tryz.f81 [(138,ag3)]:=gm
def aay:Gt aB.z X E .u ag6 Tryz.f81 [(138,ag4)]:=gm
def aie:Gt aB.z X E .u Pz Tryz.f41 [(81,ag6)]:=gm
def aif:Gt aB.z X E .u tZ Tryz.f15 [(40,Py),(41,Pz),(36,l8)]:=gm
def aii:Gt aB.z X E .u vX Tryz.f37 [(71,JU)]:=gm
def aij:Gt aB.z X E .u EN Tryz.f108 [(135,gI),(71,JU)]:=gm
def aaz:Gt aB.z X E (.v (.v (.seq (.v (.block (.loop ⟨[(3,.o 0),(6,.r false .cac),(7,.i),(8,.i)],[.rows true .cac]⟩ .u))) .u))) Qb Tryz.f55 [(108,EN)]:=gm
def aik:Gt aB.z X E .u JH Tryz.f109 [(135,gI)]:=gm
def aaA:Gt aB.z X E (.v (.v (.seq (.v (.block (.loop ⟨[(3,.o 0),(6,.r false .cer),(7,.i),(8,.i)],[.rows true .cer]⟩ .u))) .u))) V8 Tryz.f56 [(109,JH)]:=gm
def ail:Gt aB.z X E .u ag7 Tryz.f25 [(37,vX),(55,Qb),(56,V8)]:=gm
def ain:Gt aB.z X E .u l8 Tryz.f26 []:=gm
def aio:Gt aB.z X E .u aoP Tryz.f125 []:=gm
def aip:Gt aB.z X E .u ag8 Tryz.f125 []:=gm
def aiq:Gt aB.z X E (.v (.v (.v (.v (.v (.seq (.v (.block (.v (.cut Qd (.cond (.v (.block (.v (.cut ane (.cond .u (.v (.cut ane qq7))))))) (.v (.cut Qd (.cond .u (.v (.cut Qd (.cond .u (.v (.cut Qd (.cond .u (.v (.cut Qd (.cond .u (.v (.cut Qd (.cond .u (.seq (.v (.cut ⟨[(0,.p 0 10),(3,.p 4 4),(4,.i),(5,.c (.pr 1 0)),(6,.i),(50,.i),(133,.b)],[.g aqH,.e,.e,.e,.s false .ins]⟩ qq7)) (.cut Qd (.cond (.v (.cut ane qq7)) (.v (.cut Qd (.cond .u (.v (.cut Qd (.cond .u (.v (.cut ane qq7))))))))))))))))))))))))))))))) .u)))))) aoQ Tryz.f73 [(125,aoP),(126,rA),(124,bQ),(123,lC)]:=gm
def air:Gt aB.z X E (.v (.v (.v (.v (.v (.seq (.v (.block (.v (.cut Qf (.cond (.v (.block (.v (.cut anh (.cond .u (.v (.cut anh qq7))))))) (.v (.cut Qf (.cond .u (.v (.cut Qf (.cond .u (.v (.cut Qf (.cond .u (.v (.cut Qf (.cond .u (.v (.cut Qf (.cond .u (.seq (.v (.cut ⟨[(0,.p 0 12),(3,.p 4 4),(4,.i),(5,.c (.pr 1 0)),(6,.i),(50,.i),(133,.b)],[.g ahl,.e,.e,.e,.s false .ins]⟩ qq7)) (.cut Qf (.cond (.v (.cut anh qq7)) (.v (.cut Qf (.cond .u (.v (.cut Qf (.cond .u (.v (.cut anh qq7))))))))))))))))))))))))))))))) .u)))))) aoR Tryz.f73 [(125,ag8),(126,rA),(124,bQ),(123,lC)]:=gm
def ais:Gt aB.z X E (.v (.seq (.v (.cut ⟨[(0,.p 0 10)],[.g aqH,.e,.e,.e]⟩ qq7)) .u)) aoS Tryz.f38 [(72,vW),(73,aoQ)]:=gm
def ait:Gt aB.z X E (.v (.seq (.v (.cut ⟨[(0,.p 0 12)],[.g ahl,.e,.e,.e]⟩ qq7)) .u)) aoT Tryz.f38 [(72,vW),(73,aoR)]:=gm
def aaB:Gt aB.z X E (.v (.seq (.v (.block (.loop ⟨[(0,.r false .i64),(1,.i),(7,.i),(8,.i)],[]⟩ .u))) .u)) PO Tryz.f74 []:=gm
def aaC:Gt aB.z X E .u yZ Tryz.f39 [(74,PO)]:=gm
def aq0:Gt aB.z X E (.v (.v (.v (.seq (.v (.cut ⟨[(3,.o 0)],[.rows true .ins]⟩ axG)) .u)))) JJ Tryz.f110 [(128,bY),(72,vW),(36,l8)]:=gm
def aiu:Gt aB.z X E (.seq (.v (.block (.loop axQ (.v (.v (.seq (.block (.v (.v (.seq (.v (.cut ⟨[(0,.p 0 7),(1,.r false .i64),(4,.i),(5,.p 2 5),(7,.b),(16,.o 1),(17,.i),(18,.i)],[.g [.i,.i,.own 1,.i,.i,.i,.i],.rows true .iop,.s true .iop]⟩ qq7)) (.v (.cut axQ qq7)))))) .u)))))) (.v (.seq (.v (.cut ⟨[(0,.p 0 7),(1,.r false .i64),(11,.b)],aqL⟩ qq7)) (.v (.cut ⟨[],aqL⟩ qq7))))) ag9 Tryz.f302 [(208,Tp),(202,Tm)]:=gm
def aiv:Gt aB.z X E (.v (.v (.v (.v (.seq (.v (.block (.loop axo (.v (.v (.seq (.block (.v (.v (.v (.cut axo qq7))))) .u)))))) .u))))) EP Tryz.f299 [(302,ag9)]:=gm
end Go.TX.F
end
noncomputable section
namespace Go.TX.F
open Go Go.AE Go.TX Go.TX.Seat Go.Proofs List
set_option maxRecDepth 100000
set_option maxHeartbeats 4000000
def aiw:Gt aB.z X E (.v (.v (.v (.seq (.v (.cut ⟨[(1,.p 0 7),(3,.o 1),(5,.b)],ahm⟩ qq7)) (.seq aqP (.seq (.v (.block (.loop aqQ (.v (.seq (.cut aqQ (.block (.v (.v (.v (.v (.seq (.v (.cut ⟨[(1,.p 0 7),(3,.o 1),(7,.i),(8,.p 2 5),(10,.b)],[.s false .blk,.rows true .bool,.s false .iop]⟩ qq7)) (.v (.cut aqQ qq7))))))))) .u))))) .u)))))) PG Tryz.f300 [(208,Tp),(202,Tm)]:=gm
def aix:Gt aB.z X E .u Ba Tryz.f269 [(299,EP),(300,PG),(129,gN)]:=gm
def aiy:Gt aB.z X E (.v (.v (.v (.v (.seq (.v (.block (.loop ana (.v (.seq (.block (.v (.v (.v (.block (.v (.cut ana (.cond .u (.v (.cut ana (.cond .u (.seq (.v (.cut ⟨[(1,.p 0 7),(2,.p 1 7),(3,.o 2),(4,.o 3),(5,.i),(55,.b)],[.s false .blk,.g qq5,.rows true .bool,.rows true .bool]⟩ qq7)) (.cut ana qq7))))))))))))) .u))))) .u))))) Ba Tryz.f270 [(299,EP),(129,gN)]:=gm
def aiz:Gt aB.z X E .u aoU Tryz.f301 []:=gm
def aiA:Gt aB.z X E (.v (.v (.v (.v (.seq (.v (.block (.loop axA (.v (.v (.seq (.block (.v (.seq (.cut ⟨[(1,.p 0 7),(2,.p 1 7),(3,.p 2 7),(4,.c (.fn 301 [(2,7)])),(5,.i),(6,.p 3 5),(15,.o 4),(16,.i),(17,.i),(36,.b)],[.s false .blk,.g qq5,.g Wm,.s true .iop,.rows true .iop]⟩ .u) (.cut axA qq7)))) .u)))))) (.seq (.block (.seq (.cut ⟨[(1,.p 0 7),(2,.p 1 7),(3,.p 2 7),(4,.c (.fn 301 [(2,7)])),(60,.b)],aqI⟩ .u) (.cut anj (.cond .u (.seq (.cut ⟨[(1,.p 0 7),(2,.p 1 7),(3,.p 2 7),(80,.b)],aqI⟩ .u) (.cut anj (.cond (.v (.v (.cut anj qq7))) .u))))))) .u)))))) Ba Tryz.f271 [(135,gI),(129,gN),(301,aoU),(126,rA),(124,bQ)]:=gm
def aiB:Gt aB.z X E (.v (.v (.v (.v (.seq (.v (.block (.loop am9 (.v (.v (.seq (.block (.v (.v (.block (.v (.cut am9 (.cond .u (.v (.cut am9 (.cond .u (.v (.cut am9 qq7)))))))))))) .u)))))) .u))))) Ba Tryz.f272 [(135,gI),(302,ag9),(129,gN)]:=gm
def aiC:Gt aB.z X E .u Ba Tryz.f234 [(271,Ba),(272,Ba),(269,Ba),(270,Ba)]:=gm
def aiD:Gt aB.z X E .u aoV Tryz.f273 []:=gm
def aq1:Gt aB.z X E .u axg Tryz.f274 []:=gm
def aiE:Gt aB.z X E (.v (.v (.v (.seq (.v (.block (.loop ⟨[(3,.o 0),(33,.r false .iop),(34,.i),(35,.i)],[.rows true .u8]⟩ .u))) .u)))) PU Tryz.f275 [(129,gN)]:=gm
def aiF:Gt aB.z X E (.v (.v (.v (.v (.seq (.v (.block (.loop ⟨[(0,.r false .u8),(2,.p 0 7),(4,.c (.fn 273 [])),(5,.p 1 7),(6,.i)],Wj⟩ .u))) .u))))) PK Tryz.f235 [(274,axg),(275,PU),(273,aoV)]:=gm
def aiG:Gt aB.z X E .u aoW Tryz.f172 [(235,PK),(234,Ba)]:=gm
def aiH:Gt aB.z X E .u PL Tryz.f173 [(81,ag5)]:=gm
def aaD:Gt aB.z X E .u aha Tryz.f237 []:=gm
def aiI:Gt aB.z X E .u PN Tryz.f174 [(56,V8),(237,aha)]:=gm
def aaE:Gt aB.z X E (.v (.v (.v (.seq (.v (.block (.loop axF (.v (.seq (.block (.v (.v (.cut axF qq7)))) .u))))) .u)))) ahb Tryz.f115 [(238,agZ),(136,ag1)]:=gm
def aaF:Gt aB.z X E (.v (.v (.v (.seq (.v (.block (.loop axC (.v (.seq (.block (.v (.v (.cut axC qq7)))) .u))))) .u)))) ahc Tryz.f115 [(116,agY),(136,ag2)]:=gm
def aaG:Gt aB.z X E .u ahd Tryz.f239 []:=gm
def aiJ:Gt aB.z X E .u aoX Tryz.f175 [(55,Qb),(239,ahd),(115,ahb)]:=gm
def aiK:Gt aB.z X E .u JL Tryz.f240 [(122,nM)]:=gm
def aq2:Gt aB.z X E (.v (.v (.seq (.v (.block (.loop ⟨[(3,.o 0),(6,.r false .ins),(7,.i),(8,.i)],[.e]⟩ .u))) .u))) JM Tryz.f176 [(240,JL)]:=gm
def aiL:Gt aB.z X E (.v (.v (.v (.seq (.v (.v (.cut aqK (.cond (.v (.v (.cut aqK (.cond (.v (.v (.cut aqK qq7))) .u)))) .u)))) .u)))) aoY Tryz.f111 [(79,vU),(176,JM),(175,aoX),(173,PL),(174,PN),(78,j6),(172,aoW)]:=gm
def aiM:Gt aB.z X E (.v (.v (.seq (.v (.block (.loop qq1 (.v (.v (.seq (.block (.v (.v (.seq (.v (.cut ⟨[(1,.p 0 12),(2,.p 4 7),(4,.o 5),(5,.i),(6,.p 6 5),(7,.i),(8,.i),(14,.r false .iop),(15,.i),(16,.i)],[.g [.own 1,.i,.own 2,.i,.bool,.bool,.i,.e,.own 7,.i,.rows true .cac,.rows true .cer],.e,.e,.gone,.s false .blk,.e,.s false .iop,.e]⟩ qq7)) (.v (.v (.block (.v (.cut qq1 (.cond .u (.v (.cut qq1 (.cond .u (.v (.cut qq1 (.cond .u (.v (.cut qq1 (.cond .u (.v (.cut qq1 (.cond .u (.v (.cut qq1 (.cond .u (.v (.cut qq1 (.cond .u (.v (.cut qq1 qq7)))))))))))))))))))))))))))))) .u)))))) (.v (.v (.block (.v (.cut ⟨[],qq6⟩ (.cond .u (.v (.cut ⟨[],qq6⟩ (.cond .u (.v (.v (.cut ⟨[],qq6⟩ qq7))))))))))))))) aoZ Tryz.f114 [(125,ag8),(126,rA),(124,bQ),(69,bQ)]:=gm
end Go.TX.F
end
noncomputable section
namespace Go.TX.F
open Go Go.AE Go.TX Go.TX.Seat Go.Proofs List
set_option maxRecDepth 100000
set_option maxHeartbeats 4000000
def aiN:Gt aB.z X E (.v (.v (.v (.v (.v (.v (.seq (.v (.cut ⟨[(0,.p 0 12),(1,.r false .i64),(2,.i),(9,.p 4 1),(10,.b),(11,.b),(12,.i)],[.g ahl,.e,.e,.e,.box (.p 0 12)]⟩ qq7)) .u))))))) ao0 Tryz.f57 [(110,JJ),(80,JK),(111,aoY),(114,aoZ),(38,aoT),(112,agy),(39,yZ)]:=gm
def aiO:Gt aB.z X E .u JI Tryz.f58 [(55,Qb),(115,ahc)]:=gm
def aiP:Gt aB.z X E .u ahe Tryz.f27 [(58,JI),(57,ao0)]:=gm
def aiQ:Gt aB.z X E (.v (.v (.v (.v (.seq (.block (.loop ⟨axK,[.g ET,.g [.own 2,.i,.own 3,.i,.bool,.bool,.i,.e,.own 4,.i,.rows true .cac,.rows true .cer],.e,.e,.e]⟩ (.v (.block (.v (.seq (.v (.cut ⟨[(1,.r false .i64),(2,.i),(3,.r false .ask),(8,.p 0 12),(9,.p 1 12),(10,.i),(11,.p 2 2)],[.g ET,.g axI,.s false .ask,.e,.e,.e]⟩ qq7)) (.v (.cut ⟨axK,[.g ET,.g [.own 2,.i,.own 3,.i,.bool,.bool,.i,.e,.own 4,.i,.own 5,.rows true .cer],.e,.e,.e,.rows true .cac]⟩ qq7)))))))) .u))))) ao1 Tryz.f8 [(25,ag7),(27,ahe),(15,tZ),(26,l8)]:=gm
def aaH:Gt aB.z X E axB JR Tryz.f35 []:=gm
def aaI:Gt aB.z X E .u Qc Tryz.f13 [(35,JR)]:=gm
def aaJ:Gt aB.z X E axx j6 Tryz.f59 []:=gm
def aaK:Gt aB.z X E (.v (.v (.seq (.v (.block (.loop ⟨[(0,.r false .cac),(1,.r false .cac),(5,.i)],[]⟩ .u))) .u))) ahf Tryz.f28 [(59,j6),(35,JR)]:=gm
def aaL:Gt aB.z X E (.v (.v (.seq (.v (.block (.loop ⟨[(0,.r false .cer),(1,.r false .cer),(5,.i)],[]⟩ .u))) .u))) ahg Tryz.f29 [(59,j6)]:=gm
def aaM:Gt aB.z X E .u V9 Tryz.f9 [(28,ahf),(29,ahg),(13,Qc)]:=gm
def aaN:Gt aB.z X E (.v (.v (.v (.v (.v (.seq (.block (.loop axk (.v (.block (.v (.seq (.v (.cut ⟨[(1,.r false .i64),(3,.r false .ask),(8,.p 0 12),(9,.p 1 12),(10,.i),(11,.i),(12,.p 2 2)],[.g ET,.g aqD,.s false .ask,.e,.rows true .cac,.rows true .cer]⟩ qq7)) (.v (.v (.v (.cut axk qq7)))))))))) .u)))))) ahh Tryz.f10 [(11,tZ),(18,JO),(30,VL)]:=gm
def aaO:Gt aB.z X E .u Wh Tryz.f12 [(34,bY)]:=gm
def aiR:Gt aB.z X E (.v (.v (.v (.seq (.block (.loop ⟨[(1,.r false .i64),(2,.i),(6,.p 0 10),(7,.p 1 10)],axO⟩ .u)) .u)))) ahi Tryz.f14 [(37,vX),(26,l8),(38,aoS),(36,l8),(39,yZ)]:=gm
def aaP:Gt aB.z X E .u ahj Tryz.f3 [(8,ao1),(14,ahi),(9,V9),(13,Qc),(12,Wh),(7,ags),(11,tZ),(10,ahh)]:=gm
def aaQ:Gt aB.z X E (.v (.v (.v (.v (.seq (.v (.block (.loop ⟨[(2,.p 0 12),(5,.p 1 2),(6,.p 2 2),(7,.p 3 12),(8,.o 4),(9,.i)],[.g ET,.g [.bool,.nil],.g pz,.s true .eng,.e]⟩ .u))) .u))))) ahk Tryz.f16 [(19,VK),(22,iM),(42,PW),(20,VU)]:=gm
def aiS:Gt aB.z X E .u ao2 Tryz.f17 [(25,ag7),(27,ahe),(15,tZ),(26,l8)]:=gm
def aaR:Gt aB.z X E (.v (.v (.v (.v (.v (.v (.v (.v (.v (.v (.seq (.v (.cut ⟨[(3,.p 0 12),(4,.o 1),(7,.p 2 12),(11,.i)],[.s true .eng,.e,.s true .eng]⟩ qq7)) .u))))))))))) ahj Tryz.f6 [(15,tZ),(17,ao2),(14,ahi),(9,V9),(13,Qc),(12,Wh),(16,ahk),(11,tZ),(18,JO)]:=gm
end Go.TX.F
end

namespace Go.TX
open Go Go.AE List
theorem aq3(x y:Int):bJ .lss x y=decide (x<y):=rfl
theorem aq4(x y:Int):bJ .leq x y=decide (x<=y):=rfl
theorem aq5(x y:Int):bJ .gtr x y=decide (y<x):=rfl
theorem aq6(x y:Int):bJ .geq x y=decide (y<=x):=rfl
theorem aiT(x y:Int):bJ .eql x y=decide (x=y):=rfl
theorem aq7(x y:Int):bJ .neq x y= !decide (x=y):=rfl
theorem aq8(k:IntKind)(x y:Int):gH .add k x y=k.wrap (x+y):=rfl
theorem aiU(k:IntKind)(x y:Int):gH .sub k x y=k.wrap (x-y):=rfl
theorem aq9(k:IntKind)(x y:Int):gH .mul k x y=k.wrap (x*y):=rfl
theorem ara(k:IntKind)(x y:Int):gH .quo k x y=k.wrap (x.tdiv y):=rfl
theorem aiV(k:IntKind)(x y:Int):gH .rem k x y=x.tmod y:=rfl
theorem w64{x:Int}(a: -9223372036854775808<=x)(b:x<=9223372036854775807):IntKind.i64.wrap x=x:=IntWalk.i64_in _ ah
theorem ank(m:au):cO .mono 0 m=m.bD:=rfl
theorem anl(m:au):jN .mono 1 .i64 m=m.atoms:=rfl
theorem arb(p:List au):jN .poly 0 .mono p=p:=rfl
theorem axY(p:List Atom):jN .tab 0 .atom p=p:=rfl
theorem ard(p:List Int):jN .ints 0 .i64 p=p:=rfl
theorem anm(m:Atom):cO .atom 0 m=m.kind:=rfl
theorem ano(m:Atom):cO .atom 1 m=m.k:=rfl
theorem anp(m:Atom):jN .atom 2 .mono m=m.x:=rfl
theorem anq(m:Atom):jN .atom 3 .mono m=m.y:=rfl
theorem axZ(n:Int):cO .i64 0 n=n:=rfl
theorem aA0(n:Int):cO .u8 0 n=n:=rfl
theorem anr(x):Co.mk .mono x=⟨x.1,x.2.1⟩:=rfl
theorem ant(x):Co.mk .poly x=x.1:=rfl
theorem arf(x):Co.mk .tab x=x.1:=rfl
theorem anu(x):Co.mk .ints x=x.1:=rfl
theorem fH(x):Co.mk .i64 x=x.1:=rfl
theorem anv(x):Co.mk .atom x=⟨x.1,x.2.1,x.2.2.1,x.2.2.2.1⟩:=rfl
def ay{α ρ:Type}{f:α->(α ⊕ ρ->Prop)->Prop}{x:α}{Q:ρ->Prop}(I:α->Prop)(μ:α->Nat)(a:I x)(b:∀y,I y->f y (Gu (λz _=>I z/\μ z<μ y) Q)):acG f x Q:=⟨I,μ,a,b⟩
theorem aiW{α ρ:Type}(k:α->(ρ->Prop)->Prop)(Q:ρ->Prop)(x:α):Gu k Q (.inl x)=k x Q:=rfl
theorem aiX{α ρ:Type}(k:α->(ρ->Prop)->Prop)(Q:ρ->Prop)(r:ρ):Gu k Q (.inr r)=Q r:=rfl
theorem getD_lt{α:Type}{a:List α}{d:α}{i:Nat}(h:i<a.length):a.getD i d=a[i]:=by simp [getD,h]
def bV{α:Type}{xs:List α}{d:α}{i:Int}(a:0<=i)(h:i<xs.length):xs.getD i.toNat d∈xs:=by
 rw [getD_lt ah];exact getElem_mem _
def RR:(∀(x y:Int),bJ BinOp.lss x y=decide (x<y))/\(∀(x y:Int),bJ BinOp.leq x y=decide (x<=y))/\(∀(x y:Int),bJ BinOp.gtr x y=decide (y<x))/\(∀(x y:Int),bJ BinOp.geq x y=decide (y<=x))/\(∀(x y:Int),bJ BinOp.eql x y=decide (x=y))/\(∀(x y:Int),bJ BinOp.neq x y= !decide (x=y))/\(∀(k:IntKind) (x y:Int),gH BinOp.add k x y=k.wrap (x+y))/\(∀(k:IntKind) (x y:Int),gH BinOp.sub k x y=k.wrap (x-y))/\(∀(k:IntKind) (x y:Int),gH BinOp.mul k x y=k.wrap (x*y))/\(∀(k:IntKind) (x y:Int),gH BinOp.quo k x y=k.wrap (x.tdiv y))/\(∀(k:IntKind) (x y:Int),gH BinOp.rem k x y=x.tmod y)/\(∀ {x:Int}, -9223372036854775808<=x->x<=9223372036854775807->IntKind.i64.wrap x=x)/\(∀(m:au),cO Co.mono 0 m=m.bD)/\(∀(m:au),jN Co.mono 1 Co.i64 m=m.atoms)/\(∀(p:List au),jN Co.poly 0 Co.mono p=p)/\(∀(p:List Atom),jN Co.tab 0 Co.atom p=p)/\(∀(p:List Int),jN Co.ints 0 Co.i64 p=p)/\(∀(m:Atom),cO Co.atom 0 m=m.kind)/\(∀(m:Atom),cO Co.atom 1 m=m.k)/\(∀(m:Atom),jN Co.atom 2 Co.mono m=m.x)/\(∀(m:Atom),jN Co.atom 3 Co.mono m=m.y)/\(∀(n:Int),cO Co.i64 0 n=n)/\(∀(n:Int),cO Co.u8 0 n=n)/\(∀(x:jy Co.mono.uN),Co.mono.mk x=au.mk x.fst x.snd.fst)/\(∀(x:jy Co.poly.uN),Co.poly.mk x=x.fst)/\(∀(x:jy Co.tab.uN),Co.tab.mk x=x.fst)/\(∀(x:jy Co.ints.uN),Co.ints.mk x=x.fst)/\(∀(x:jy Co.i64.uN),Co.i64.mk x=x.fst)/\(∀(x:jy Co.atom.uN),Co.atom.mk x=Atom.mk x.fst x.snd.fst x.snd.snd.fst x.snd.snd.snd.fst)/\(∀ {α ρ:Type} (k:α->(ρ->Prop)->Prop) (Q:ρ->Prop) (x:α),Gu k Q (Sum.inl x)=k x Q)/\(∀ {α ρ:Type} (k:α->(ρ->Prop)->Prop) (Q:ρ->Prop) (r:ρ),Gu k Q (Sum.inr r)=Q r)/\(∀(c f:Bool),(bif c then true else f)=(c || f))/\(∀(c t:Bool),(bif c then t else false)=(c&&t))/\(∀(c f:Bool),(bif c then false else f)=(!c&&f))/\(∀(c t:Bool),(bif c then t else true)=(!c || t))/\(∀(a b:Bool),((a || b)=true)=(a=true\/b=true))/\(∀ {x y:Bool},(x || y)=false↔x=false/\y=false)/\(∀(a b:Bool),((a&&b)=true)=(a=true/\b=true))/\(∀ {p:Prop} [inst:Decidable p],(decide p=true)=p)/\(∀ {p:Prop} {x:Decidable p},decide p=false↔¬p)/\(∀(b:Bool),((!b)=true)=(b=false))/\(∀(b:Bool),((!b)=false)=(b=true))/\(∀(b:Bool),(!!b)=b)/\(∀(p:Prop),(True/\p)=p)/\(∀(p:Prop),(p/\True)=p)/\(∀ {α:Type} [inst:LE α] {x y:α},x>=y↔y<=x)/\(¬True)=False/\(¬False)=True/\(false=true)=False/\(true=false)=False/\(∀(p:Prop),(False->p)=True)/\(∀(p:Prop),(True->p)=p)/\(∀(α:Prop),(α->True)=True)/\(∀(α:Type),(∀(a:α),True)=True)/\(∀(p:Prop),(False\/p)=p)/\(∀(p:Prop),(p\/False)=p)/\(∀(p:Prop),(True\/p)=True)/\(∀(p:Prop),(p\/True)=True)/\(∀ {α:Type} {x:Decidable True} (t e:α),(if True then t else e)=t)/\∀ {α:Type} {x:Decidable False} (t e:α),(if False then t else e)=e:=And.intro (@aq3)<| And.intro (@aq4)<| And.intro (@aq5)<| And.intro (@aq6)<| And.intro (@aiT)<| And.intro (@aq7)<| And.intro (@aq8)<| And.intro (@aiU)<| And.intro (@aq9)<| And.intro (@ara)<| And.intro (@aiV)<| And.intro (@w64)<| And.intro (@ank)<| And.intro (@anl)<| And.intro (@arb)<| And.intro (@axY)<| And.intro (@ard)<| And.intro (@anm)<| And.intro (@ano)<| And.intro (@anp)<| And.intro (@anq)<| And.intro (@axZ)<| And.intro (@aA0)<| And.intro (@anr)<| And.intro (@ant)<| And.intro (@arf)<| And.intro (@anu)<| And.intro (@fH)<| And.intro (@anv)<| And.intro (@aiW)<| And.intro (@aiX)<| And.intro (@Bool.cond_true_left)<| And.intro (@Bool.cond_false_right)<| And.intro (@Bool.cond_false_left)<| And.intro (@Bool.cond_true_right)<| And.intro (@Bool.or_eq_true)<| And.intro (@Bool.or_eq_false_iff)<| And.intro (@Bool.and_eq_true)<| And.intro (@decide_eq_true_eq)<| And.intro (@decide_eq_false_iff_not)<| And.intro (@Bool.not_eq_true')<| And.intro (@Bool.not_eq_false')<| And.intro (@Bool.not_not)<| And.intro (@true_and)<| And.intro (@and_true)<| And.intro (@ge_iff_le.{0})<| And.intro (@not_true_eq_false)<| And.intro (@not_false_eq_true)<| And.intro (@Bool.false_eq_true)<| And.intro (@Bool.true_eq_false)<| And.intro (@false_implies)<| And.intro (@true_implies)<| And.intro (@implies_true.{0})<| And.intro (@implies_true.{1})<| And.intro (@false_or)<| And.intro (@or_false)<| And.intro (@true_or)<| And.intro (@or_true)<| And.intro (@if_true.{1})<| @if_false.{1}
abbrev bn:=List Int×Unit
abbrev zx:=List Int×bn
abbrev l7:=List Int×zx
abbrev ak:=Int×Int×Bool×Bool×Int×List Int×Int×List Cac×List Cer×l7
abbrev ql:=List IOp×Unit
abbrev bf:=Int×Int×Int×Int×Int×Int×ql
abbrev eu:=Int×Unit
abbrev iK:=Int×Int×Bool×Bool×Int×List Int×Int×l7
abbrev kr:=List au×Unit
abbrev lT:=List Int×eu
abbrev lX:=Bool×Unit
abbrev mF:=Blk×Unit
abbrev mI:=List (List au)×Unit
abbrev aCg:=List Ins×Unit
abbrev mQ:=Int×aCg
abbrev ny:=Int×Int×kr
abbrev vw:=List Cac×Unit
abbrev oz:=List Int×Int×Int×Bool×Bool×Int×List Int×List Int×Int×List Cer×List Int×vw
abbrev qj:=List Cer×Unit
abbrev r9:=List Atom×Unit
abbrev sj:=Int×eu
abbrev aCd:=Int×Int×l7
abbrev sw:=Int×Int×Bool×Bool×Int×List Int×aCd
abbrev uy:=Int×Int×Bool×Bool×Int×List Int×Int×Ins×l7
abbrev wm:=List au×kr
abbrev wz:=List Int×Int×bn
abbrev aCp:=Int×bf
abbrev H9:=Int×aCp
abbrev yc:=Int×Int×Int×H9
abbrev yt:=Int×Blk×Int×Int×Bool×Bool×Int×Int×Int×Int×Bool×Bool×Int×List Int×Int×List Int×l7
abbrev yw:=Int×Int×Int×Int×Int×Int×List Int×Int×ql
abbrev Bb:=List Int×Int×Int×Bool×Bool×Int×List Int×List Int×Int×List Int×List Cac×qj
abbrev Bp:=Int×Int×Bool×Bool×Int×List Int×Int×List Cer×List Int×List Int×List Int×vw
abbrev aCb:=Atom×Unit
abbrev El:=List Atom×aCb
abbrev Eo:=Int×Int×Bool×Bool×Int×List Int×Int×Bool×l7
abbrev aCq:=Cac×Unit
abbrev F3:=List Cac×aCq
abbrev F5:=Int×Int×Int×Int×Int×Int×Ins×Int×ql
abbrev He:=Int×lT
abbrev I4:=List IOp×Int×Int×Int×Int×Bool×Bool×Int×List Int×Int×List Cac×List Cer×List Int×List Int×Blk×zx
abbrev Ms:=List Int×Int×List Ask×Unit
abbrev Ns:=Int×Int×Int×Int×Int×Int×IOp×ql
abbrev O1:=List Int×Int×Int×Bool×Bool×Int×List Int×List Int×Int×List Int×Int×List Cer×List Int×vw
abbrev O4:=List Bool×Unit
abbrev P9:=List Int×Int×List Int×Int×Bool×Bool×Int×List Int×List Int×Int×List Cac×List Int×qj
abbrev Sk:=List Int×Int×List Int×Int×Bool×Bool×Int×List Int×List Int×Int×List Cac×Blk×Ask×qj
abbrev Xn:=List Int×mQ
abbrev aBR:=List Cac×bn
abbrev aBS:=Int×Int×bn
abbrev aBT:=List Int×Int×Int×Bool×Bool×Int×List Int×List Int×Int×Bool×List Cer×List Int×vw
abbrev aBU:=List Int×Int×List Int×Int×Bool×Bool×Int×List Int×List Int×Int×List Cac×Ask×qj
abbrev aBV:=Int×ny
abbrev aBW:=Int×Int×Bool×Bool×Int×Int×List Int×l7
abbrev aBX:=Eng×List Int×Int×Ask×Unit
abbrev aBY:=List Int×sj
abbrev aBZ:=Blk×mF
abbrev aCa:=aC×Unit
abbrev aCc:=Int×Int×Int×Int×Int×Int×Int×Int×Int×Int×Int×Int×List IOp×ql
abbrev aCe:=List Int×Int×Ask×ak
abbrev aCf:=Int×sj
abbrev aCh:=List Cac×eu
abbrev aCi:=Ins×Unit
abbrev aCj:=Eng×Unit
abbrev aCk:=Int×Int×Bool×Bool×Int×List Int×Int×Int×Bool×l7
abbrev aCl:=Int×Int×Bool×Bool×Int×List Int×Int×Blk×IOp×aCd
abbrev aCm:=List Cer×aBZ
abbrev aCn:=Sym×Unit
abbrev aCo:=Int×wm
abbrev aCr:=Int×Int×Bool×Bool×Int×List Int×Int×Blk×aCd
abbrev aCs:=au×Unit
abbrev aCt:=List Int×lT
abbrev aCu:=List IOp×sj
abbrev aCv:=Int×Int×yc
abbrev aCw:=Blk×ak
abbrev aCx:=Int×Int×Bool×Bool×Int×List Int×Int×aCd
abbrev aCy:=List Atom×lX
abbrev aCz:=Int×Int×Int×Int×Int×Int×List Int×ql
end Go.TX
namespace Go.TX.F
open Go Go.AE Go.TX List
def inB(a b c:Int):Bool:=decide (b<=a)&&decide (a<=c)
def arh(a b c:Int):Zu.F () (a,b,c,()) (λy=>y=(inB a b c,())):=by
 dsimp only [Zu,gm];simp (disch:=omega) only [RR];rfl
abbrev Y1(e:aCf->Bool)(d:aCf->lX):Prop:=∀a b c,e (a,b,c,())=true/\d (a,b,c,())=(inB a b c,())
def ari{p f}(U:Y1 p f)(a:Int):Zv.F (p,f,()) (a,()) (λy=>y=(inB a 0 65535,())):=by
 dsimp only [Zv,gm];simp (disch:=omega) only [RR,U]
def arj{p f}(U:Y1 p f)(a:Int):Zz.F (p,f,()) (a,()) (λy=>y=(inB a 1 5,())):=by
 dsimp only [Zz,gm];simp (disch:=omega) only [RR,U]
def ark{p f}(U:Y1 p f)(a:Int):Zx.F (p,f,()) (a,()) (λy=>y=(inB a 0 3,())):=by
 dsimp only [Zx,gm];simp (disch:=omega) only [RR,U]
def aA1(a:Int):aqV.F () (a,()) (λy=>y=(false,())):=by
 dsimp only [aqV,gm];simp (disch:=omega) only [RR];simp
def jh(a b:Int):Int:=if a<b then-1 else if b<a then 1 else 0
abbrev Y2(c:eu->Bool)(b:eu->lX):Prop:=∀a,c (a,())=true/\b (a,())=(false,())
def aA2{p f}(U:Y2 p f)(a b:Int):aqW.F (p,f,()) (a,b,()) (λy=>y=(jh a b,())):=by
 dsimp only [aqW,gm];simp (disch:=omega) only [RR,U];unfold jh;refine⟨λh=>by simp [h],λh=>⟨λc=>by simp [h,c],λc=>by simp [h,c]⟩⟩
def aA3{p f}(U:Y2 p f)(a b:Int):aqY.F (p,f,()) (a,b,()) (λy=>y=(decide (a<b),())):=by
 dsimp only [aqY,gm];simp (disch:=omega) only [RR,U];simp
def or2(a b:Int):Int:=if a≠0 then a else b
def aA4(a b:Int):aqX.F () ([a,b],()) (λy=>y=(or2 a b,())):=by
 dsimp only [aqX,gm];refine ay (λ(y:Int×aBY)=>y.1=0/\y.2.1=[a,b]/\y.2.2.1=2/\0<=y.2.2.2.1/\y.2.2.2.1<=2/\(0<y.2.2.2.1->a=0)/\(1<y.2.2.2.1->b=0)) (λy=>(2-y.2.2.2.1).toNat) ⟨rfl,rfl,rfl,by simp,by simp,λh=>absurd h (by simp),λh=>absurd h (by simp)⟩ ?_;rintro⟨(z:Int),(l:List Int),(n:Int),(i:Int),⟨⟩⟩ hI;dsimp only at hI ⊢;obtain⟨rfl,rfl,rfl,j,g,c,d⟩:=hI;simp (disch:=omega) only [RR];have f:i=0\/i=1\/i=2:=by omega
 rcases f with rfl | rfl | rfl
 .by_cases ha:a=0<;>simp [or2,ha]<;>(try omega)
 .have:=c ah;by_cases e:b=0<;>simp [or2,this,e]<;>(try omega)
 .have:=c ah;have:=d ah;simp [or2, *]
def nN:List Int->List Int->Int
 | [],[]=>0
 | [],_::_=> -1
 | _::_,[]=>1
 | a::az,b::bs=>if jh a b≠0 then jh a b else nN az bs
def EU(a b:List Int)(i:Nat):(d:i<a.length)->(c:i<b.length)->nN (a.drop i) (b.drop i)=if jh a[i] b[i]≠0 then jh a[i] b[i]else nN (a.drop (i+1)) (b.drop (i+1)):=by
 intro d c;rw [drop_eq_getElem_cons d,drop_eq_getElem_cons c];rfl
def aiY(l:List Int)(h:l≠ []):nN l []=1:=by cases l<;>simp_all [nN]
abbrev Y3(d:sj->Bool)(c:sj->eu):Prop:=∀a b,d (a,b,())=true/\c (a,b,())=(jh a b,())
def arl{p f}(U:Y3 p f)(a b:List Int)(o:a.length<1000000000):
  ZH.F (p,f,()) (a,b,()) (λy=>y=(nN a b,())):=by
 dsimp only [ZH,gm]
 refine ay (λ(y:List Int×List Int×aBY)=>y.1=a/\y.2.1=b/\y.2.2.1=a/\y.2.2.2.1=a.length/\0<=y.2.2.2.2.1/\y.2.2.2.2.1<=a.length/\y.2.2.2.2.1<=b.length/\nN a b=nN (a.drop y.2.2.2.2.1.toNat) (b.drop y.2.2.2.2.1.toNat))
  (λy=>(a.length-y.2.2.2.2.1).toNat) ⟨rfl,rfl,rfl,rfl,by simp,by simp,by simp,by simp⟩ ?_
 rintro⟨(s:List Int),(c:List Int),(e:List Int),(n:Int),(i:Int),⟨⟩⟩ hI;dsimp only at hI ⊢;obtain⟨rfl,rfl,rfl,rfl,j,l,m,d⟩:=hI;simp (disch:=omega) only [RR,U];refine⟨λk=>⟨j,k,λh=> ?_,λh=>⟨j,ah,λhc=> ?_,λhc=> ?_⟩⟩,λk=>⟨λh=> ?_,λh=> ?_⟩⟩
 .rw [d,drop_eq_nil_of_le (show c.length<=i.toNat by omega),aiY _ (by simp;omega)]
 .rw [d,EU e c i.toNat ah ah];rw [getD_lt ah,getD_lt ah]at hc;rw [getD_lt ah,getD_lt ah,eB hc]
 .rw [getD_lt ah,getD_lt ah]at hc;refine⟨⟨ah,ah,ah,?_⟩,ah⟩;rw [d,EU e c i.toNat ah ah,dY (by simpa using hc),show(i+1).toNat=i.toNat+1 by omega]
 .rw [d,drop_eq_nil_of_le (show e.length<=i.toNat by omega)];have:∃q r,c.drop i.toNat=q::r:=by
   cases g:c.drop i.toNat with
   | nil=>have:=congrArg List.length g;simp at this;omega
   | cons q r=>exact⟨q,r,rfl⟩
  obtain⟨q,r,g⟩:=this;rw [g];rfl
 .rw [d,drop_eq_nil_of_le (show e.length<=i.toNat by omega),drop_eq_nil_of_le (show c.length<=i.toNat by omega)];rfl
def dZ(a b:List Int):Int:=or2 (jh a.length b.length) (nN a b)
abbrev Y4(d:bn->Bool)(c:bn->eu):Prop:=∀a b,d ([a,b],())=true/\c ([a,b],())=(or2 a b,())
def arn{p1 f1 p3 f3}{d:zx->Bool}{c:zx->eu}(f:Y3 p1 f1)(h:∀a b,a.length<1000000000->d (a,b,())=true/\c (a,b,())=(nN a b,()))(e:Y4 p3 f3)(a b:List Int)(g:a.length<1000000000):
  ZI.F (p3,f3,p1,f1,d,c,()) (a,b,()) (λy=>y=(dZ a b,())):=by
 dsimp only [ZI,gm];simp (disch:=omega) only [RR,f,h a b g,e];rfl
variable{P:Prop}{G:Int->Prop}{p:lT->Bool}
noncomputable def bp (P:Prop):Bool:= @decide P (Classical.propDecidable P)
theorem aJ(h:P):bp P=true:=by simp [bp,h]
theorem aV(h:¬P):bp P=false:=by simp [bp,h]
theorem aF:bp P=true↔P:=by simp [bp]
theorem gK:bp P=false↔¬P:=by simp [bp]
def eH{P Q:Prop}:bp (P/\Q)=(bp P&&bp Q):=by by_cases a:P<;>by_cases b:Q<;>simp [bp,a,b]
def gP{P Q:Prop}(h:P↔Q):bp P=bp Q:=by simp [bp,h]
def All(n:Int)(G:Int->Prop):Prop:=∀j,0<=j->j<n->G j
def All.zero:All 0 G:=λj b a=>absurd a ah
def All.snoc{n:Int}(h:All n G)(c:G n):All (n+1) G:=λj b d=>by
 by_cases a:j=n
 .exact a▸c
 .exact h j b ah
def All.le{n m:Int}(h:All n G)(c:m<=n):All m G:=λj a b=>h j a ah
def Idx(n:Int)(G:Int->Prop)(r:Int):Prop:=(r= -1/\All n (λj=>¬G j))\/(0<=r/\r<n/\G r/\All r (λj=>¬G j))
def Idx.ge{n:Int}{r:Int}(h:Idx n G r):(0<=r)↔¬All n (λj=>¬G j):=by
 rcases h with⟨rfl,h⟩ | ⟨a,b,c,d⟩
 .simp [h]
 .simp only [a,true_iff];exact λh=>h r a b c
def Srt(l:List Int):Prop:=All (l.length-1) (λi=>l.getD i.toNat default<=l.getD (i+1).toNat default)
abbrev Y5(d:sj->Bool)(c:sj->lX):Prop:=∀a b,d (a,b,())=true/\c (a,b,())=(decide (a<b),())
def aro{p f}(U:Y5 p f)(a:List Int)(n:a.length<1000000000):
  ZJ.F (p,f,()) (a,()) (λy=>y=(bp (Srt a),())):=by
 dsimp only [ZJ,gm];simp (disch:=omega) only [RR,U];refine ay (λ(y:lT)=>y.1=a/\ -1<=y.2.1/\y.2.1<=a.length-1/\∀j,y.2.1<=j->0<=j->j< (a.length:Int)-1->a.getD j.toNat default<=a.getD (j+1).toNat default) (λy=>(y.2.1+1).toNat) ⟨rfl,by simp;omega,by simp,by simp;omega⟩ ?_;rintro⟨(l:List Int),(i:Int),⟨⟩⟩ hI;dsimp only at hI ⊢;obtain⟨rfl,o,m,d⟩:=hI;simp (disch:=omega) only [RR,U];refine⟨λg=>⟨ah,ah,ah,ah,λk=> ?_,λk=>⟨⟨ah,ah,λj c b e=> ?_⟩,ah⟩⟩,λg=> ?_⟩
 .rw [aV];intro h;have:=h (i-1) ah ah;dsimp only at this;rw [show i-1+1=i by omega]at this;omega
 .by_cases hj:j=i-1
  .subst hj;rw [show i-1+1=i by omega];omega
  .exact d j ah b e
 .rw [aJ];exact λj c b=>d j ah c b
def ax0(a n:Int):ahC.F () (a,n,()) (λy=>y=(decide (n<=a),n,())):=by
 dsimp only [ahC,gm];simp (disch:=omega) only [RR]
def arp{p:sj->Bool}{f:sj->Bool×eu}(U:∀a b,p (a,b,())=true/\f (a,b,())=(decide (b<=a),b,()))(a:List Int)(n:Int)(h:a.length<1000000000):
  ZB.F (p,f,()) (a,n,()) (λy=>Idx a.length (λi=>n<=a.getD i.toNat default) y.1/\y.2.1=n):=by
 dsimp only [ZB,gm];refine ay (λ(y:List Int×aCf)=>y.1=a/\y.2.1=a.length/\y.2.2.2.1=n/\0<=y.2.2.1/\y.2.2.1<=a.length/\All y.2.2.1 (λi=>¬n<=a.getD i.toNat default)) (λy=>(a.length-y.2.2.1).toNat) ⟨rfl,rfl,rfl,by simp,by simp,All.zero⟩ ?_;rintro⟨(l:List Int),(m:Int),(i:Int),(g:Int),⟨⟩⟩ hI;dsimp only at hI ⊢;obtain⟨rfl,rfl,rfl,k,j,d⟩:=hI;simp (disch:=omega) only [RR,U];refine⟨λe=>⟨ah,ah,λc=> ?_,λc=>⟨⟨ah,ah,d.snoc c⟩,ah⟩⟩,λe=> ?_⟩
 .exact Or.inr ⟨ah,ah,c,d⟩
 .exact Or.inl ⟨rfl,d.le ah⟩
def arq{f:lT->sj}(d:∀a b,a.length<1000000000->p (a,b,())=true)
  (e:∀a n,a.length<1000000000->Idx a.length (λi=>n<=a.getD i.toNat default) (f (a,n,())).1/\(f (a,n,())).2.1=n) (a:List Int) (n:Int) (c:a.length<1000000000):
  ZF.F (p,f,()) (a,n,()) (λy=>y=(bp (¬All a.length (λi=>¬n<=a.getD i.toNat default)),n,())):=by
 obtain⟨h,g⟩:=e a n c;dsimp only [ZF,gm];simp (disch:=omega) only [RR,d a n c,g];rw [show decide ((0:Int)<=(f (a,n,())).1)=bp (¬All a.length (λi=>¬n<=a.getD i.toNat default))from ?_];rw [<-gP h.ge];simp [bp]
def Qi(n:Int)(m:au):Prop:=All m.atoms.length (λi=>¬n<=m.atoms.getD i.toNat default)
def bB(p:List au)(n:Int):Prop:=All p.length (λi=>Qi n (p.getD i.toNat default))
def Sh(p:List au):Prop:=p.length<1000000000/\∀m∈p,m.atoms.length<1000000000
def Sh.at{p:List au}(h:Sh p)(n:Nat):(p.getD n default).atoms.length<1000000000:=by
 by_cases a:n<p.length
 .rw [getD_lt a];exact h.2 _ (getElem_mem _)
 .simp only [getD,getElem?_eq_none (by omega:p.length<=n)];decide
def ax1{f:lT->Bool×eu}(q:∀a b,a.length<1000000000->p (a,b,())=true)
  (r:∀a n,a.length<1000000000->f (a,n,())=(bp (¬All a.length (λi=>¬n<=a.getD i.toNat default)),n,())) (a:List au) (n:Int) (j:Sh a):
  ahD.F (p,f,()) (a,n,()) (λy=>y=(bp (bB a n),())):=by
 have e:=j.1;dsimp only [ahD,gm];refine ay (λ(y:List au×aCf)=>y.1=a/\y.2.1=a.length/\y.2.2.2.1=n/\0<=y.2.2.1/\y.2.2.1<=a.length/\All y.2.2.1 (λi=>Qi n (a.getD i.toNat default))) (λy=>(a.length-y.2.2.1).toNat) ⟨rfl,rfl,rfl,by simp,by simp,All.zero⟩ ?_;rintro⟨(l:List au),(m:Int),(i:Int),(k:Int),⟨⟩⟩ hI;dsimp only at hI ⊢;obtain⟨rfl,rfl,rfl,o,s,g⟩:=hI;simp (disch:=omega) only [RR];refine⟨λd=> ?_,λd=> ?_⟩
 .have h5:=j.at i.toNat;rw [q _ _ h5,r _ _ h5];refine⟨ah,ah,rfl,λc=> ?_,λc=>⟨⟨rfl,ah,ah,g.snoc ?_⟩,ah⟩⟩
  .rw [aV (λh=> ?_)];exact aF.1 c (h i o d)
  .exact Classical.byContradiction (λh=>gK.1 c h)
 .rw [aJ (show bB l k from g.le ah)]
def ax2(m:au):ahE.F () (m,()) (λy=>y=(bp (0<m.atoms.length/\m.atoms.getD 0 default<0),())):=by
 dsimp only [ahE,gm];simp (disch:=omega) only [RR];refine⟨ah,ah,?_⟩;rw [eH];by_cases a:0<m.atoms.length
 .by_cases h2:m.atoms.getD 0 default<0
  .rw [aJ a,aJ h2,show Int.toNat 0=0 from rfl,decide_eq_true h2,decide_eq_true ah]
  .rw [aJ a,aV h2,show Int.toNat 0=0 from rfl,decide_eq_false h2,Bool.and_false,Bool.and_false]
 .rw [aV a,decide_eq_false ah,Bool.false_and,Bool.false_and]
def ars{p:aCs->Bool}{f:aCs->lX}(G:au->Prop)(U:∀a,p (a,())=true/\f (a,())=(bp (G a),()))(a:List au)(e:a.length<1000000000):
  ZK.F (p,f,()) (a,()) (λy=>Idx a.length (λi=>G (a.getD i.toNat default)) y.1):=by
 dsimp only [ZK,gm];refine ay (λ(y:List au×sj)=>y.1=a/\y.2.1=a.length/\0<=y.2.2.1/\y.2.2.1<=a.length/\All y.2.2.1 (λi=>¬G (a.getD i.toNat default))) (λy=>(a.length-y.2.2.1).toNat) ⟨rfl,rfl,by simp,by simp,All.zero⟩ ?_;rintro⟨(l:List au),(m:Int),(i:Int),⟨⟩⟩ hI;dsimp only at hI ⊢;obtain⟨rfl,rfl,h,g,c⟩:=hI;simp (disch:=omega) only [RR,U];refine⟨λd=>⟨ah,ah,λb=> ?_,λb=>⟨⟨ah,ah,c.snoc (gK.1 b)⟩,ah⟩⟩,λd=> ?_⟩
 .exact Or.inr ⟨ah,ah,aF.1 b,c⟩
 .exact Or.inl ⟨rfl,c.le ah⟩
def aru{p:kr->Bool}{f:kr->eu}(G:au->Prop)(U:∀a,a.length<1000000000->p (a,())=true/\(Idx a.length (λi=>G (a.getD i.toNat default)) (f (a,())).1))(a:List au)(b:a.length<1000000000):
  ZL.F (p,f,()) (a,()) (λy=>y=(bp (¬All a.length (λi=>¬G (a.getD i.toNat default))),())):=by
 have c:=(U a b).2;dsimp only [ZL,gm];simp (disch:=omega) only [RR,(U a b).1];rw [show decide ((0:Int)<=(f (a,())).1)=bp (¬All a.length (λi=>¬G (a.getD i.toNat default)))from ?_];rw [<-gP c.ge];simp [bp]
def mOk(m:au):Prop:=(1<=m.bD/\m.bD<=65535)/\m.atoms.length<=4/\Srt m.atoms
def aW(p:List au):Prop:=All p.length (λi=>mOk (p.getD i.toNat default)/\(0<i->dZ (p.getD (i-1).toNat default).atoms (p.getD i.toNat default).atoms<0))/\p.length<=12/\bB p 200
 /\All p.length (λi=>¬(0< (p.getD i.toNat default).atoms.length/\(p.getD i.toNat default).atoms.getD 0 default<0))
abbrev Y6(c:List au×eu->Bool)(b:List au×eu->lX):Prop:=∀a n,Sh a->c (a,n,())=true/\b (a,n,())=(bp (bB a n),())
abbrev Y7(d:zx->Bool)(c:zx->eu):Prop:=∀a b,a.length<1000000000->d (a,b,())=true/\c (a,b,())=(dZ a b,())
def ax3{p1 f1 p2 f2 p4 f4}{g:bn->Bool}{q:bn->lX}{j:kr->Bool}{n:kr->lX}(A:Y1 p1 f1)(w:Y6 p2 f2)(v:∀a,a.length<1000000000->g (a,())=true/\q (a,())=(bp (Srt a),()))(x:Y7 p4 f4)(t:∀a,a.length<1000000000->j (a,())=true/\(n (a,())=(bp (¬All a.length (λi=>¬(0< (a.getD i.toNat default).atoms.length/\(a.getD i.toNat default).atoms.getD 0 default<0))),())))(a:List au)(f:Sh a):ahF.F (p1,f1,p2,f2,g,q,p4,f4,j,n,()) (a,()) (λy=>y=(bp (aW a),())):=by
 have e:=f.1;dsimp only [ahF,gm];refine ay (λ(y:List au×ny)=>y.1=a/\y.2.1=a.length/\y.2.2.2.1=a/\0<=y.2.2.1/\y.2.2.1<=a.length/\All y.2.2.1 (λi=>mOk (a.getD i.toNat default)/\(0<i->dZ (a.getD (i-1).toNat default).atoms (a.getD i.toNat default).atoms<0))) (λy=>(a.length-y.2.2.1).toNat) ⟨rfl,rfl,rfl,by simp,by simp,All.zero⟩ ?_;rintro⟨(l:List au),(m:Int),(i:Int),(d:List au),⟨⟩⟩ hI;dsimp only at hI ⊢;obtain⟨rfl,rfl,rfl,s,B,o⟩:=hI;simp (disch:=omega) only [RR,A,w d _ f,t d e];refine⟨λk=> ?_,λk=> ?_⟩
 .simp (disch:=omega) only [RR,v _ (f.at _),x _ _ (f.at _),aF,gK,inB];refine⟨ah,ah,by by_cases h:i<=0<;>simp [h]<;>omega,ah,λc=> ?_,λc=>⟨⟨ah,ah,o.snoc ?_⟩,ah⟩⟩
  .rw [aV (λh=> ?_)];have:=h.1 i s k;dsimp only [mOk]at this;obtain⟨⟨p,C,u⟩,z⟩:=this;rcases c with((c | c) | c) | ⟨c,r⟩
   .simp [-getD_eq_getElem?_getD]at c;omega
   .omega
   .exact c u
   .have:=z c;omega
  .refine⟨⟨ah,ah,c.1.2⟩,λp=> ?_⟩;have:=c.2;simp only [decide_eq_true p,Bool.true_and,decide_eq_false_iff_not]at this;omega
 .unfold aW;rw [show All (↑d.length) (λi=>mOk (d.getD i.toNat default)/\(0<i->dZ (d.getD (i-1).toNat default).atoms (d.getD i.toNat default).atoms<0))=True from eq_true (o.le ah)];rw [true_and,eH,eH,Bool.and_assoc];refine congrArg (λb=>(b,())) ?_
  congr 1
  .by_cases h:d.length<=12<;>simp [bp,h]<;>omega
  .congr 1
   simp [bp]
def Qj(a b:au):Int:=or2 (dZ a.atoms b.atoms) (jh a.bD b.bD)
def EZ:List au->List au->Int
 | a::az,b::bs=>if Qj a b≠0 then Qj a b else EZ az bs
 | _,_=>0
def ji(a b:List au):Int:=if jh a.length b.length≠0 then jh a.length b.length else EZ a b
def E5(a b:List au)(i:Nat):(d:i<a.length)->(c:i<b.length)->EZ (a.drop i) (b.drop i)=if Qj a[i] b[i]≠0 then Qj a[i] b[i]else EZ (a.drop (i+1)) (b.drop (i+1)):=by
 intro d c;rw [drop_eq_getElem_cons d,drop_eq_getElem_cons c];rfl
def ax4{p1 f1 p2 f2 p4 f4}(p:Y4 p1 f1)(n:Y3 p2 f2)(o:Y7 p4 f4)(a b:List au)(g:Sh a):ahH.F (p1,f1,p2,f2,p4,f4,()) (a,b,()) (λy=>y=(ji a b,())):=by
 have f:=g.1;dsimp only [ahH,gm];simp (disch:=omega) only [RR,n];refine⟨λh=>by rw [ji,eB h],λh=> ?_⟩;have s:a.length=b.length:=by unfold jh at h;split at h<;>(try split at h)<;>omega
 rw [show ji a b=EZ a b by rw [ji,dY (by simp [h])]];refine ay (λ(y:List au×ny)=>y.1=a/\y.2.1=a.length/\y.2.2.2.1=b/\0<=y.2.2.1/\y.2.2.1<=a.length/\EZ a b=EZ (a.drop y.2.2.1.toNat) (b.drop y.2.2.1.toNat)) (λy=>(a.length-y.2.2.1).toNat) ⟨rfl,rfl,rfl,by simp,by simp,by simp⟩ ?_;rintro⟨(l:List au),(m:Int),(i:Int),(j:List au),⟨⟩⟩ hI;dsimp only at hI ⊢;obtain⟨rfl,rfl,rfl,r,q,e⟩:=hI;simp (disch:=omega) only [RR,p,o _ _ (g.at _)];refine⟨λk=>⟨ah,ah,ah,ah,ah,ah,λd=> ?_,λd=>⟨⟨ah,ah,?_⟩,ah⟩⟩,λk=> ?_⟩
 .rw [e,E5 _ _ _ ah ah];rw [getD_lt ah,getD_lt ah]at d ⊢;exact((eB (c:=Qj l[i.toNat] j[i.toNat]≠0) d).trans rfl).symm▸rfl
 .rw [e,E5 _ _ _ ah ah];rw [getD_lt ah,getD_lt ah]at d;rw [dY (show¬(Qj l[i.toNat] j[i.toNat]≠0)from λh=>h d),show(i+1).toNat=i.toNat+1 by omega]
 .rw [e,drop_eq_nil_of_le ah];rfl
abbrev Y8(d:wm->Bool)(c:wm->eu):Prop:=∀a b,Sh a->d (a,b,())=true/\c (a,b,())=(ji a b,())
def ax5{p1 f1}(c:Y8 p1 f1)(a b:List au)(d:Sh a):
  ahI.F (p1,f1,()) (a,b,()) (λy=>y=(decide (ji a b=0),())):=by
 dsimp only [ahI,gm];simp (disch:=omega) only [RR,c a b d]
end Go.TX.F
namespace Go.TX.F
open Go Go.AE Go.TX List
variable{G:Int->Prop}
theorem Qk(k:IntKind)(x y:Int):gH .and k x y=fF .and k x y:=rfl
theorem aaS(k:IntKind)(x y:Int):gH .xor k x y=fF .xor k x y:=rfl
def JY(x:Int):fF .and .i64 x 65535=x%65536:=by
 unfold fF;dsimp only;rw [BitVec.toNat_and,BitVec.toNat_ofInt,BitVec.toNat_ofInt];have a:((65535:Int)% ((2^IntKind.i64.bits:Nat):Int)).toNat=2^16-1:=by decide
 rw [a,Nat.and_two_pow_sub_one_eq_mod];rw [w64 ah ah];have b:((2^IntKind.i64.bits:Nat):Int)=18446744073709551616:=by decide
 rw [b];omega
def anw{a b:Int}(h:0<=a)(f:a<=65535)(i:0<=b)(e:b<=65535):(0<=fF .and .i64 a b/\fF .and .i64 a b<=65535)/\(0<=fF .xor .i64 a b/\fF .xor .i64 a b<=65535):=by
 have c:((2^IntKind.i64.bits:Nat):Int)=18446744073709551616:=by decide
 have d:fF .and .i64 a b=((a.toNat&&&b.toNat:Nat):Int):=by
  unfold fF;dsimp only;rw [BitVec.toNat_and,BitVec.toNat_ofInt,BitVec.toNat_ofInt,c,show a%18446744073709551616=a by omega,show b%18446744073709551616=b by omega];have:=Nat.and_lt_two_pow (a.toNat) (show b.toNat<2^16 by omega);rw [w64 ah ah]
 have g:fF .xor .i64 a b=((a.toNat^^^b.toNat:Nat):Int):=by
  unfold fF;dsimp only;rw [BitVec.toNat_xor,BitVec.toNat_ofInt,BitVec.toNat_ofInt,c,show a%18446744073709551616=a by omega,show b%18446744073709551616=b by omega];have:=Nat.xor_lt_two_pow (show a.toNat<2^16 by omega) (show b.toNat<2^16 by omega);rw [w64 ah ah]
 rw [d,g];have:=Nat.and_lt_two_pow (a.toNat) (show b.toNat<2^16 by omega);have:=Nat.xor_lt_two_pow (show a.toNat<2^16 by omega) (show b.toNat<2^16 by omega);omega
theorem E8(a b:Int):fF .and .i64 a b=fF .and .i64 b a:=by unfold fF;grind
theorem NI(a b:Int):fF .xor .i64 a b=fF .xor .i64 b a:=by unfold fF;grind
def arv(a:Int):ZT.F () (a,()) (λy=>y=(a%65536,())):=by
 dsimp only [ZT,gm];simp (disch:=omega) only [RR,Qk,JY]
def wdo(c a b:Int):Int:=if(0<=a/\a<=65535)/\(0<=b/\b<=65535)then
 (if c=1 then(a+b)%65536 else if c=2 then(a-b)%65536 else if c=3 then(a*b)%65536 else if c=4 then fF .and .i64 a b else if c=5 then fF .xor .i64 a b else 0)else 0
def Dr(c a b:Int):0<=wdo c a b/\wdo c a b<=65535:=by
 unfold wdo;split
 .rename_i h;have:=anw h.1.1 h.1.2 h.2.1 h.2.2
  repeat' split
  all_goals omega
 .omega
def aiZ{c:Int}(h:c≠2)(a b:Int):wdo c a b=wdo c b a:=by grind [wdo,E8,NI,Int.add_comm,Int.mul_comm]
theorem bF{a b c:Int}:inB a b c=true↔(b<=a/\a<=c):=by simp [inB]
def jJ{a b c:Int}:inB a b c=false↔¬(b<=a/\a<=c):=by rw [<-bF,Bool.not_eq_true]
abbrev Y9(c:eu->Bool)(b:eu->lX):Prop:=∀a,c (a,())=true/\b (a,())=(inB a 0 65535,())
abbrev Y10(c:eu->Bool)(b:eu->eu):Prop:=∀a,c (a,())=true/\b (a,())=(a%65536,())
def arw{p1 f1 p2 f2}(e:Y9 p1 f1)(f:Y10 p2 f2)(d a b:Int):
  ZU.F (p1,f1,p2,f2,()) (d,a,b,()) (λy=>y=(wdo d a b,())):=by
 dsimp only [ZU,gm];simp (disch:=omega) only [RR,e,f,Qk,aaS,bF,jJ];by_cases c:(0<=a/\a<=65535)/\(0<=b/\b<=65535)
 .have hm:0<=a*b/\a*b<=65535*65535:=⟨Int.mul_nonneg c.1.1 c.2.1,Int.mul_le_mul c.1.2 c.2.2 c.2.1 ah⟩
  grind [w64,wdo,absurd]
 grind [absurd,wdo]
def dV(n:Int):List au:=if 1<=n/\n<=65535 then [⟨n,[]⟩]else []
def ax6{p1 f1}(b:Y1 p1 f1)(a:Int):
  ahT.F (p1,f1,()) (a,()) (λy=>y=(dV a,())):=by
 dsimp only [ahT,gm];simp (disch:=omega) only [RR,b,bF,jJ]
 grind [dV]
def fJ(n:Int):List au:=if 0<=n/\n<=199 then [⟨1,[n]⟩]else []
def ax7{p1 f1}(b:Y1 p1 f1)(a:Int):
  ahN.F (p1,f1,()) (a,()) (λy=>y=(fJ a,())):=by
 dsimp only [ahN,gm];simp (disch:=omega) only [RR,b,bF,jJ]
 grind [fJ]
noncomputable def bP (p:List au):Int×Bool:=if bp (aW p)then(if p.length=0 then(0,true)else if p.length=1/\(p.getD 0 default).atoms.length=0 then((p.getD 0 default).bD,true)else(0,false))else(0,false)
abbrev Y11(c:kr->Bool)(b:kr->lX):Prop:=∀a,Sh a->c (a,())=true/\b (a,())=(bp (aW a),())
def ax8{p1 f1}(b:Y11 p1 f1)(a:List au)(c:Sh a):
  ahU.F (p1,f1,()) (a,()) (λy=>y=((bP a).1,(bP a).2,())):=by
 dsimp only [ahU,gm];simp (disch:=omega) only [RR,b a c]
 grind [bP,Int.toNat,default,decide_eq_true,decide_eq_false_iff_not]
def arx(a:List Int)(b:a.length<=1073741824):ZQ.F () (a,()) (λy=>y=(a,())):=by
 dsimp only [ZQ,gm];simp (disch:=omega) only [RR];omega
theorem bA{α:Type}{l:List α}{i:Int}{d x:α}(a:0<=i)(h:i<l.length)(e:x=l.getD i.toNat d):l.take i.toNat++ [x]=l.take (i+1).toNat:=by
 rw [e,getD_lt ah,show(i+1).toNat=i.toNat+1 by omega,take_succ_eq_append_getElem ah]
abbrev Y12(c:bn->Bool)(b:bn->bn):Prop:=∀a,a.length<=1073741824->c (a,())=true/\b (a,())=(a,())
def ax9{p1 f1}(d:Y12 p1 f1)(a:List au)(b:Sh a):
  ahO.F (p1,f1,()) (a,()) (λy=>y=(a,())):=by
 have c:=b.1;dsimp only [ahO,gm];refine ay (λ(y:List au×ny)=>y.1=a/\y.2.1=a.length/\y.2.2.2.1=a.take y.2.2.1.toNat/\0<=y.2.2.1/\y.2.2.1<=a.length) (λy=>(a.length-y.2.2.1).toNat) ⟨rfl,rfl,by simp,by simp,by simp⟩ ?_;rintro⟨(l:List au),(m:Int),(i:Int),(o:List au),⟨⟩⟩ hI;dsimp only at hI ⊢;obtain⟨rfl,rfl,rfl,f,e⟩:=hI;simp (disch:=first | omega | (have:=b.at i.toNat;omega)) only [RR,d]
 grind [bA,take_of_length_le,length_take_le',fA,fE]
def ShA(a:Atom):Prop:=Sh a.x/\Sh a.y
def ShT(t:List Atom):Prop:=t.length<1000000000/\∀a∈t,ShA a
def ShT.at{p:List Atom}(h:ShT p)(n:Nat):ShA (p.getD n default):=by
 by_cases a:n<p.length
 .rw [getD_lt a];exact h.2 _ (getElem_mem _)
 .simp only [getD,getElem?_eq_none (by omega:p.length<=n)];refine⟨⟨by decide,λm hm=> ?_⟩,⟨by decide,λm hm=> ?_⟩⟩<;>exact absurd hm (by simp [default,instInhabitedAtom.default])
abbrev Y13(c:kr->Bool)(b:kr->kr):Prop:=∀a,Sh a->c (a,())=true/\b (a,())=(a,())
def aya{p1 f1}(c:Y13 p1 f1)(a:List Atom)(b:ShT a):
  ahP.F (p1,f1,()) (a,()) (λy=>y=(a,())):=by
 have d:=b.1;dsimp only [ahP,gm];refine ay (λ(y:List Atom×Int×Int×r9)=>y.1=a/\y.2.1=a.length/\y.2.2.2.1=a.take y.2.2.1.toNat/\0<=y.2.2.1/\y.2.2.1<=a.length) (λy=>(a.length-y.2.2.1).toNat) ⟨rfl,rfl,by simp,by simp,by simp⟩ ?_;rintro⟨(l:List Atom),(m:Int),(i:Int),(o:List Atom),⟨⟩⟩ hI;dsimp only at hI ⊢;obtain⟨rfl,rfl,rfl,f,e⟩:=hI;simp (disch:=omega) only [RR,c _ (b.at _).1,c _ (b.at _).2]
 grind [bA,take_of_length_le,length_take_le',fA,fE]
def arz{p4 f4}(c:Y7 p4 f4)(a b:au)(d:a.atoms.length<1000000000):
  ZV.F (p4,f4,()) (a,b,()) (λy=>y=(dZ a.atoms b.atoms,())):=by
 dsimp only [ZV,gm];simp (disch:=omega) only [RR,c a.atoms b.atoms d]
def arA(a:List Atom):ZN.F () (a,()) (λy=>y=(a,())):=by
 dsimp only [ZN,gm];simp (disch:=omega) only [RR];simp_all
def xg(a b:Atom):Bool:=decide (a.kind=b.kind)&&decide (a.k=b.k)&&decide (ji a.x b.x=0)&&decide (ji a.y b.y=0)
abbrev Y14(d:wm->Bool)(c:wm->lX):Prop:=∀a b,Sh a->d (a,b,())=true/\c (a,b,())=(decide (ji a b=0),())
def ayb{p1 f1}(c:Y14 p1 f1)(a b:Atom)(d:ShA a):
  ahJ.F (p1,f1,()) (a,b,()) (λy=>y=(xg a b,())):=by
 dsimp only [ahJ,gm];simp (disch:=omega) only [RR,c a.x b.x d.1,c a.y b.y d.2];rfl
abbrev Y15(d:Atom×aCb->Bool)(c:Atom×aCb->lX):Prop:=∀a b,ShA a->d (a,b,())=true/\c (a,b,())=(xg a b,())
def ayc{p1 f1}(c:Y15 p1 f1)(a b:Atom)(d:ShA b):
  ahK.F (p1,f1,()) (a,b,()) (λy=>y=(xg b a,b,())):=by
 dsimp only [ahK,gm];simp_all
noncomputable def idxOf (n:Int) (G:Int->Prop):Int:= @dite _ (∃r,Idx n G r) (Classical.propDecidable _) (λh=>Classical.choose h) (λ_=> -1)
def Idx.uniq{n:Int}{r s:Int}(h:Idx n G r)(i:Idx n G s):r=s:=by
 rcases h with⟨d,c⟩ | ⟨d,c,e,j⟩<;>rcases i with⟨b,a⟩ | ⟨b,a,f,g⟩
 .omega
 .exact absurd f (c s b a)
 .exact absurd e (a r d c)
 .by_cases h5:r<s
  .exact absurd e (g r d h5)
  .by_cases h6:s<r
   .exact absurd f (j s b h6)
   .omega
def Idx.eq{n:Int}{r:Int}(h:Idx n G r):r=idxOf n G:=by
 unfold idxOf;have a:∃r,Idx n G r:=⟨r,h⟩;rw [dif_pos a];exact h.uniq (Classical.choose_spec a)
def arB{p:Atom×aCb->Bool}{f:Atom×aCb->Bool×aCb}(U:∀a b,ShA b->p (a,b,())=true/\f (a,b,())=(xg b a,b,()))(a:List Atom)(b:Atom)(h:a.length<1000000000)(g:ShA b):
  ZM.F (p,f,()) (a,b,()) (λy=>y=(idxOf a.length (λi=>xg b (a.getD i.toNat default)=true),b,())):=by
 dsimp only [ZM,gm];refine ay (λ(y:List Atom×Int×Int×aCb)=>y.1=a/\y.2.1=a.length/\y.2.2.2.1=b/\0<=y.2.2.1/\y.2.2.1<=a.length/\All y.2.2.1 (λi=>¬xg b (a.getD i.toNat default)=true)) (λy=>(a.length-y.2.2.1).toNat) ⟨rfl,rfl,rfl,by simp,by simp,All.zero⟩ ?_;rintro⟨(l:List Atom),(m:Int),(i:Int),(n:Atom),⟨⟩⟩ hI;dsimp only at hI ⊢;obtain⟨rfl,rfl,rfl,k,j,d⟩:=hI;simp (disch:=omega) only [RR,U _ _ g];refine⟨λe=>⟨ah,ah,λc=> ?_,λc=>⟨⟨ah,ah,d.snoc (by simp only [c];simp)⟩,ah⟩⟩,λe=> ?_⟩
 .rw [<-Idx.eq (Or.inr ⟨ah,ah,c,d⟩)]
 .rw [<-Idx.eq (Or.inl ⟨rfl,d.le ah⟩)]
noncomputable def pE (t:List Atom) (a:Atom):Int:=idxOf t.length (λi=>xg a (t.getD i.toNat default)=true)
def ayd{p:El->Bool}{f:El->Int×aCb}(U:∀a b,a.length<1000000000->ShA b->p (a,b,())=true/\(f (a,b,())=(idxOf a.length (λi=>xg b (a.getD i.toNat default)=true),b,())))(a:List Atom)(b:Atom)(c:a.length<1000000000)(d:ShA b):
  ahL.F (p,f,()) (a,b,()) (λy=>y=(pE a b,())):=by
 dsimp only [ahL,gm];simp (disch:=omega) only [RR,U a b c d];rfl
def jk(a:Atom)(n:Int):Prop:=if a.kind=4 then(1<=a.k/\a.k<=5)/\aW a.x/\aW a.y/\bB a.x n/\bB a.y n else
 (a.x=[]/\a.y=[])/\((a.kind=1/\0<=a.k/\a.k<=3)\/(a.kind=2\/a.kind=3)/\0<=a.k/\a.k<=199)
abbrev Y16(c:eu->Bool)(b:eu->lX):Prop:=∀a,c (a,())=true/\b (a,())=(inB a 1 5,())
abbrev Y17(c:eu->Bool)(b:eu->lX):Prop:=∀a,c (a,())=true/\b (a,())=(inB a 0 3,())
def aye{p1 f1 p2 f2 p3 f3 p4 f4 p5 f5}(f:Y1 p1 f1)(g:Y16 p2 f2)(e:Y6 p3 f3)(d:Y11 p4 f4)(l:Y17 p5 f5)(a:Atom)(n:Int)(i:ShA a):
  ahG.F (p1,f1,p2,f2,p3,f3,p4,f4,p5,f5,()) (a,n,()) (λy=>y=(bp (jk a n),())):=by
 obtain⟨c,b⟩:=i;have m:=c.1;have k:=b.1;dsimp only [ahG,gm];simp (disch:=omega) only [RR,f,g,e a.x n c,e a.y n b,d a.x c,d a.y b,l];unfold jk;refine⟨λh=> ?_,λh=>⟨λj=> ?_,λj=> ?_⟩⟩
 .grind [aF,bF]
 .rw [dY h,aV]
  grind
 .rw [dY h];have o:a.x=[]:=eq_nil_of_length_eq_zero ah;have p:a.y=[]:=eq_nil_of_length_eq_zero ah
  grind [aF,bF]
def aI(t:List Atom):Prop:=All t.length (λi=>jk (t.getD i.toNat default) i/\pE t (t.getD i.toNat default)=i)/\t.length<=200
abbrev Y18(c:Atom×eu->Bool)(b:Atom×eu->lX):Prop:=∀a n,ShA a->c (a,n,())=true/\b (a,n,())=(bp (jk a n),())
abbrev Y19(d:El->Bool)(c:El->eu):Prop:=∀a b,a.length<1000000000->ShA b->d (a,b,())=true/\c (a,b,())=(pE a b,())
def ayf{p1 f1 p2 f2}(f:Y18 p1 f1)(g:Y19 p2 f2)(a:List Atom)(b:ShT a):
  ahR.F (p1,f1,p2,f2,()) (a,()) (λy=>y=(bp (aI a),())):=by
 have e:=b.1;dsimp only [ahR,gm];refine ay (λ(y:List Atom×Int×Int×r9)=>y.1=a/\y.2.1=a.length/\y.2.2.2.1=a/\0<=y.2.2.1/\y.2.2.1<=a.length/\All y.2.2.1 (λi=>jk (a.getD i.toNat default) i/\pE a (a.getD i.toNat default)=i)) (λy=>(a.length-y.2.2.1).toNat) ⟨rfl,rfl,rfl,by simp,by simp,All.zero⟩ ?_;rintro⟨(l:List Atom),(m:Int),(i:Int),(o:List Atom),⟨⟩⟩ hI;dsimp only at hI ⊢;obtain⟨rfl,rfl,rfl,j,n,k⟩:=hI;simp (disch:=omega) only [RR,f _ _ (b.at _),g _ _ b.1 (b.at _),aF,gK];refine⟨λc=>⟨ah,ah,λd=> ?_,λd=>⟨⟨ah,ah,k.snoc d⟩,ah⟩⟩,λc=> ?_⟩
 .rw [aV (λh=> ?_)];have:=h.1 i j c;simp_all
 grind [aJ,aI,decide_eq_true,aV,decide_eq_false]
noncomputable def aU (t:List Atom) (a:Atom):List Atom×Int:=if 0<=pE t a then(t,pE t a)else @ite _ (¬jk a t.length\/t.length=200) (Classical.propDecidable _) (t, -1) (t++ [a],(t.length:Int))
def ayg{p1 f1 p2 f2}{b:r9->Bool}{d:r9->r9}(f:Y18 p1 f1)(g:Y19 p2 f2)(e:∀a,b (a,())=true/\d (a,())=(a,()))(t:List Atom)(a:Atom)(h:t.length<1000000000)(c:ShA a):
  ahM.F (p1,f1,p2,f2,b,d,()) (t,a,()) (λy=>y=((aU t a).1,(aU t a).2,())):=by
 dsimp only [ahM,gm];simp (disch:=omega) only [RR,f a t.length c,g t a h c,e,aF,gK]
 grind [aU,fA,fE,absurd]
end Go.TX.F
namespace Go.TX.F
open Go Go.AE Go.TX List
variable{d:List au}
def NJ(a b:Int):jh b a= -jh a b:=by unfold jh;repeat' split<;>omega
def kL{a b:Int}:jh a b=0↔a=b:=by unfold jh;constructor<;>intro h<;>(repeat' split at*)<;>omega
def NK:∀a b:List Int,nN b a= -nN a b
 | [],[]=>rfl | [],_::_=>rfl | _::_,[]=>rfl
 | a::az,b::bs=>by
  simp only [nN,NJ a b,NK az bs];split<;>split<;>omega
def NP:∀ {a b:List Int},nN a b=0->a=b
 | [],[],_=>rfl | [],_::_,h=>by simp [nN]at h
 | _::_,[],h=>by simp [nN]at h
 | a::az,b::bs,h=>by
  simp only [nN]at h;split at h
  .exact absurd h (by assumption)
  .rename_i h1;rw [kL.1 (Classical.not_not.1 h1),NP h]
def NQ:∀a:List Int,nN a a=0
 | []=>rfl
 | a::az=>by simp only [nN,show jh a a=0 from kL.2 rfl];simp [NQ az]
def JZ:∀ {a b c:List Int},nN a b<=0->nN b c<=0->nN a c<=0
 | [],_,[],_,_=>by simp [nN]
 | [],_,_::_,_,_=>by simp [nN]
 | _::_,[],_,h,_=>by simp [nN]at h
 | _::_,_::_,[],_,h=>by simp [nN]at h
 | a::az,b::bs,c::cs,h1,h2=>by
  have d:= @JZ az bs cs;simp only [nN]at h1 h2 ⊢;unfold jh at h1 h2 ⊢
  repeat' split at h1
  all_goals (repeat' split at h2)
  all_goals (repeat' split)
  all_goals omega
def qL(a b:List Int):dZ b a= -dZ a b:=by
 unfold dZ or2;rw [NJ,NK];repeat' split<;>omega
def kM{a b:List Int}:dZ a b=0↔a=b:=by
 constructor
 .intro h;unfold dZ or2 at h;split at h
  .exact absurd h (by assumption)
  .exact NP h
 .rintro rfl;unfold dZ or2;rw [show jh (a.length:Int) a.length=0 from kL.2 rfl,NQ];rfl
def Cc{a b c:List Int}(e:dZ a b<=0)(d:dZ b c<=0):dZ a c<=0:=by
 have f:= @JZ a b c;unfold dZ or2 jh at*
 repeat' split at e
 all_goals (repeat' split at d)
 all_goals (repeat' split)
 all_goals omega
def le(x y:au):Prop:=dZ x.atoms y.atoms<=0
def le.trans{x y z:au}(a:le x y)(h2:le y z):le x z:=Cc a h2
def uW{x y:au}(h:¬dZ y.atoms x.atoms<0):le x y:=by unfold le;rw [qL];omega
def le_of_lt{x y:au}(h:dZ x.atoms y.atoms<0):le x y:=by unfold le;omega
def le_refl(x:au):le x x:=by unfold le;rw [kM.2 rfl];omega
def dS{x y z:au}(a:le x y)(b:dZ y.atoms z.atoms<0):dZ x.atoms z.atoms<0:=by
 have c:=Cc a (le_of_lt b);by_cases h:dZ x.atoms z.atoms=0
 .have e:=kM.1 h;unfold le at a;rw [e,qL]at a;omega
 .omega
def mZ{x y z:au}(b:dZ x.atoms y.atoms<0)(a:le y z):dZ x.atoms z.atoms<0:=by
 have c:=Cc (le_of_lt b) a;by_cases h:dZ x.atoms z.atoms=0
 .have e:=kM.1 h;unfold le at a;rw [<-e,qL]at a;omega
 .omega
def Ql(g:au->Int)(x:au):∀(d:List au) (n:Nat) (h:n<d.length),((d.set n x).map g).sum=(d.map g).sum-g d[n]+g x
 | [],_,h=>absurd h (by simp)
 | a::d,0,h=>by simp;omega
 | a::d,n+1,h=>by
  have:=Ql g x d n (by simpa using h);simp only [set_cons_succ,map_cons,sum_cons,getElem_cons_succ];omega
structure Sm(d d':List au):Prop where
 len:d'.length=d.length
 sum:∀g:au->Int,(d'.map g).sum=(d.map g).sum
def Sm.refl(d:List au):Sm d d:=⟨rfl,λ_=>rfl⟩
def Sm.trans{a b c:List au}(d:Sm a b)(h2:Sm b c):Sm a c:=⟨h2.1.trans d.1,λg=>(h2.2 g).trans (d.2 g)⟩
def Qm(x:au):∀d:List au,0<=(d.map (λy=>if y=x then(1:Int)else 0)).sum/\(0< (d.map (λy=>if y=x then(1:Int)else 0)).sum↔x∈d)
 | []=>by simp
 | a::d=>by
  have:=Qm x d;simp only [map_cons,sum_cons,mem_cons];by_cases h:a=x
  .rw [eB h];refine⟨ah,⟨λ_=>Or.inl h.symm,λ_=>by omega⟩⟩
  .rw [dY h];refine⟨ah,⟨λb=>Or.inr (this.2.1 ah),λb=> ?_⟩⟩;rcases b with b | b
   .exact absurd b.symm h
   .have:=this.2.2 b;omega
def Sm.mem{a b:List au}(h:Sm a b){x:au}(c:x∈b):x∈a:=by
 rw [<-(Qm x a).2,<-h.2];exact(Qm x b).2.2 c
def Sm.sh{a b:List au}(h:Sm a b)(c:Sh a):Sh b:=⟨by have:=c.1;have:=h.1;omega,λm hm=>c.2 m (h.mem hm)⟩
def swp(d:List au)(i j:Int):List au:=(d.set i.toNat ((d).getD (j).toNat default)).set j.toNat ((d).getD (i).toNat default)
def anx(d:List au)(i j:Int):(swp d i j).length=d.length:=by simp [swp]
def at_set{i j:Int}{x:au}(b:0<=i)(a:i<d.length)(c:0<=j):((d.set i.toNat x).getD (j).toNat default)=if j=i then x else((d).getD (j).toNat default):=by
 simp only [getD];by_cases h:j=i
 .subst h;rw [eB rfl,getElem?_set_self ah];rfl
 .rw [dY h,getElem?_set_ne ah]
def y8{i j k:Int}(c:0<=i)(b:i<d.length)(e:0<=j)(f:j<d.length)(a:0<=k):((swp d i j).getD (k).toNat default)=if k=j then((d).getD (i).toNat default)else if k=i then((d).getD (j).toNat default)else((d).getD (k).toNat default):=by
 unfold swp;rw [at_set e (by simp;omega) a,at_set c b a]
def Qn{i j:Int}(c:0<=i)(a:i<d.length)(e:0<=j)(b:j<d.length):Sm d (swp d i j):=by
 refine⟨anx d i j,λg=> ?_⟩;unfold swp;rw [getD_lt (show i.toNat<d.length by omega),getD_lt (show j.toNat<d.length by omega),Ql g _ _ _ (by simp;omega),Ql g _ _ _ ah,getElem_set];split
 .rename_i h;have:i=j:=by omega
  subst this;omega
 .omega
def Swp(d c:List au)(a b n:Int):Prop:=Sm d c/\∀k,0<=k->((c).getD (k).toNat default)=if a<=k/\k<a+n then((d).getD (k+(b-a)).toNat default)else if b<=k/\k<b+n then((d).getD (k- (b-a)).toNat default)else((d).getD (k).toNat default)
theorem arC(a b n:Int)(d:List au)(s:d.length<1000000000)(q:0<=a)(o:0<=n)(t:a+n<=b)(p:b+n<=d.length):
  ZX.F () (a,b,n,d,()) (λy=>Swp d y.1 a b n):=by
 dsimp only [ZX,gm]
 refine ay (λ(y:Int×aBV)=>y.1=a/\y.2.1=b/\y.2.2.1=n/\0<=y.2.2.2.1/\y.2.2.2.1<=n/\Swp d y.2.2.2.2.1 a b y.2.2.2.1) (λy=>(n-y.2.2.2.1).toNat)
  ⟨rfl,rfl,rfl,by simp,by simp;omega,Sm.refl d,λk hk=>by dsimp only;rw [dY ah,dY ah]⟩ ?_
 rintro⟨(g:Int),(f:Int),(j:Int),(i:Int),(e:List au),⟨⟩⟩ hI;dsimp only at hI ⊢;obtain⟨rfl,rfl,rfl,r,u,h,c⟩:=hI;have m:=h.1;simp (disch:=omega) only [RR,length_set];refine⟨λl=> ?_,λl=> ?_⟩
 .have e1:(e.set (g+i).toNat ((e).getD (f+i).toNat default)).set (f+i).toNat ((e).getD (g+i).toNat default)=swp e (g+i) (f+i):=rfl;rw [e1];refine⟨ah,ah,ah,ah,ah,ah,ah,ah,ah,ah,ah,ah,ah,ah,ah,ah,⟨ah,ah,h.trans (Qn ah ah ah ah),λk hk=> ?_⟩,ah⟩;rw [y8 ah ah ah ah hk];rw [c _ ah,c _ ah,c _ hk]
  repeat' split
  all_goals first | rfl | (exfalso;omega) | (congr 2;omega)
 .have:i=j:=by omega
  subst this;exact⟨h,c⟩
end Go.TX.F
namespace Go.TX.F
open Go Go.AE Go.TX List
def Rot(d c:List au)(a m b:Int):Prop:=Sm d c/\∀k,0<=k->((c).getD (k).toNat default)=if a<=k/\k<a+(b-m)then((d).getD (k+(m-a)).toNat default)else if a+(b-m)<=k/\k<b then((d).getD (k- (b-m)).toNat default)else((d).getD (k).toNat default)
def arD{p:aBV->Bool}{f:aBV->kr}(U:∀(a b n:Int) (d:List au),d.length<1000000000->0<=a->0<=n->a+n<=b->b+n<=d.length->p (a,b,n,d,())=true/\Swp d (f (a,b,n,d,())).1 a b n)(a m b:Int)(d:List au)(F:d.length<1000000000)(C:0<=a)(x:a<m)(G:m<b)(z:b<=d.length):
  ZY.F (p,f,()) (a,m,b,d,()) (λy=>Rot d y.1 a m b):=by
 dsimp only [ZY,gm];simp (disch:=omega) only [RR]
 refine ay (λ(y:aBV)=>y.1=m/\0<y.2.1/\0<y.2.2.1/\a<=m-y.2.1/\m+y.2.2.1<=b/\Sm d y.2.2.2.1/\
   ∀k,0<=k->(if a<=k/\k<a+(b-m)then((d).getD (k+(m-a)).toNat default)else if a+(b-m)<=k/\k<b then((d).getD (k- (b-m)).toNat default)else((d).getD (k).toNat default))
    =(if m-y.2.1<=k/\k<m-y.2.1+y.2.2.1 then((y.2.2.2.1).getD (k+y.2.1).toNat default)else if m-y.2.1+y.2.2.1<=k/\k<m+y.2.2.1 then((y.2.2.2.1).getD (k-y.2.2.1).toNat default)else((y.2.2.2.1).getD (k).toNat default))) (λy=>(y.2.1+y.2.2.1).toNat)
  ⟨rfl,by simp;omega,by simp;omega,by simp;omega,by simp;omega,Sm.refl d,λk hk=>by
   dsimp only;rw [show m- (m-a)=a by omega,show m+(b-m)=b by omega]⟩ ?_
 rintro⟨(c:Int),(i:Int),(j:Int),(e:List au),⟨⟩⟩ hI;dsimp only at hI ⊢;obtain⟨rfl,D,H,B,E,r,h⟩:=hI;have w:=r.1;simp (disch:=omega) only [RR];refine⟨λt=>⟨λs=> ?_,λs=> ?_⟩,λt=> ?_⟩
 .obtain⟨l,g⟩:=(U (c-i) c j e ah ah ah ah ah).2;refine⟨(U _ _ _ _ ah ah ah ah ah).1,⟨ah,ah,ah,ah,r.trans l,λk hk=> ?_⟩,ah⟩;rw [h k hk];generalize (f (c-i,c,j,e,())).1=v at l g ⊢;by_cases o:c-i<=k/\k<c-i+j
  .rw [eB o,dY ah,dY ah,g k hk,eB o];congr 2;omega
  .rw [dY o];by_cases q:c-i+j<=k/\k<c+j
   .rw [eB q];by_cases u:c- (i-j)<=k/\k<c- (i-j)+j
    .rw [eB u,g _ ah,dY ah,eB ah];congr 2;omega
    .rw [dY u,eB ah,g _ ah,dY ah,dY ah]
   .rw [dY q,dY ah,dY ah,g _ hk,dY ah,dY ah]
 .obtain⟨l,g⟩:=(U (c-i) (c+j-i) i e ah ah ah ah ah).2;refine⟨(U _ _ _ _ ah ah ah ah ah).1,⟨ah,ah,ah,ah,r.trans l,λk hk=> ?_⟩,ah⟩;rw [h k hk];generalize (f (c-i,c+j-i,i,e,())).1=v at l g ⊢;by_cases o:c-i<=k/\k<c-i+j
  .rw [eB o];by_cases u:k<c-i+(j-i)
   .rw [eB ah,g _ ah];by_cases I:k<c
    .by_cases c5:k+i<c+j-i
     .rw [dY ah,dY ah]
     .exfalso;omega
    .by_cases c5:k+i<c+j-i
     .rw [dY ah,dY ah]
     .exfalso;omega
   .by_cases c6:k<c
    .rw [dY ah,eB ah,g _ ah,eB ah];congr 2;omega
    .rw [dY ah,eB ah,g _ ah];by_cases A:k- (j-i)<c
     .rw [eB ah];congr 2;omega
     .exfalso;omega
  .rw [dY o];by_cases q:c-i+j<=k/\k<c+j
   .rw [eB q,dY ah,dY ah,g _ hk,dY ah,eB ah];congr 2;omega
   .rw [dY q,dY ah,dY ah,g _ hk,dY ah,dY ah]
 .have hij:i=j:=by omega
  subst hij;obtain⟨l,g⟩:=(U (c-i) c i e ah ah ah ah ah).2;refine⟨(U _ _ _ _ ah ah ah ah ah).1,r.trans l,λk hk=> ?_⟩;rw [h k hk,g k hk]
  repeat' split
  all_goals first | rfl | (exfalso;omega) | (congr 2;omega)
def pR(d:List au)(a b:Int):Prop:=∀p q,a<=p->p<=q->q<b->le ((d).getD (p).toNat default) ((d).getD (q).toNat default)
def Out(d c:List au)(a b:Int):Prop:=∀k,0<=k->(k<a\/b<=k)->((c).getD (k).toNat default)=((d).getD (k).toNat default)
abbrev Y20(b:au×aCs->Bool)(a:au×aCs->eu):Prop:=∀x y,x.atoms.length<1000000000->b (x,y,())=true/\a (x,y,())=(dZ x.atoms y.atoms,())
theorem arE{p f}(U:Y20 p f)(a b:Int)(d:List au)(hd:Sh d)(M:0<=a)(K:a<=b)(G:b<=d.length):
  ZW.F (p,f,()) (a,b,d,()) (λy=>Sm d y.1/\Out d y.1 a b/\pR y.1 a b):=by
 have D:=hd.1;dsimp only [ZW,gm];simp (disch:=omega) only [RR]
 refine ay (λ(y:aBV)=>y.1=a/\y.2.1=b/\a+1<=y.2.2.1/\(y.2.2.1<=b\/y.2.2.1=a+1)/\Sm d y.2.2.2.1/\Out d y.2.2.2.1 a b/\pR y.2.2.2.1 a y.2.2.1) (λy=>(b-y.2.2.1).toNat)
  ⟨rfl,rfl,by simp,Or.inr rfl,Sm.refl d,λk _ _=>rfl,λp q M K G=>by dsimp only at G;rw [show p=q by omega];exact le_refl _⟩ ?_
 rintro⟨(w:Int),(B:Int),(i:Int),(e:List au),⟨⟩⟩ hI;dsimp only at hI ⊢;obtain⟨rfl,rfl,V,W,A,C,E⟩:=hI;have T:=A.1;simp (disch:=omega) only [RR];refine⟨λR=> ?_,λR=>⟨A,C,λp q s n I=>E p q s n ah⟩⟩
 refine ay (λ(y:Int×aBV)=>y.1=w/\y.2.1=B/\y.2.2.1=i/\w<=y.2.2.2.1/\y.2.2.2.1<=i/\Sm d y.2.2.2.2.1/\Out d y.2.2.2.2.1 w B
   /\(∀p q,w<=p->p<=q->q<=i->p≠y.2.2.2.1->q≠y.2.2.2.1->le ((y.2.2.2.2.1).getD (p).toNat default) ((y.2.2.2.2.1).getD (q).toNat default))/\(∀q,y.2.2.2.1<q->q<=i->le ((y.2.2.2.2.1).getD (y.2.2.2.1).toNat default) ((y.2.2.2.2.1).getD (q).toNat default))) (λy=>y.2.2.2.1.toNat)
  ⟨rfl,rfl,rfl,by simp;omega,by simp,A,C,λp q s n I X Q=>E p q s n (by dsimp only at I Q;omega),λq s n=>by dsimp only at s;omega⟩ ?_
 rintro⟨(z:Int),(J:Int),(Y:Int),(j:Int),(o:List au),⟨⟩⟩ hI;dsimp only at hI ⊢;obtain⟨rfl,rfl,rfl,L,N,m,t,l,u⟩:=hI;have F:=m.1;have P:=m.sh hd;simp (disch:=omega) only [RR,length_set,U _ _ (P.at _)];have S:(o.set j.toNat ((o).getD (j-1).toNat default)).set (j-1).toNat ((o).getD (j).toNat default)=swp o j (j-1):=rfl;rw [S]
 repeat' (refine And.intro ?_ ?_)
 all_goals try omega
 .intro ⟨s,n⟩
  repeat' (refine And.intro ?_ ?_)
  all_goals try omega
  .exact m.trans (Qn ah ah ah ah)
  .intro k hk hk2;rw [y8 ah ah ah ah hk,dY ah,dY ah];exact t k hk hk2
  .intro p q v x k3 k4 k5;rw [y8 ah ah ah ah ah,dY k4,y8 ah ah ah ah ah,dY k5];by_cases r:p=j
   .rw [eB r];by_cases h:q=j
    .rw [eB h];exact le_refl _
    .rw [dY h];exact l _ _ ah ah ah ah ah
   .rw [dY r];by_cases h:q=j
    .rw [eB h];exact l _ _ ah ah ah ah ah
    .rw [dY h];exact l _ _ ah ah ah ah ah
  .intro q v x;rw [y8 ah ah ah ah ah,eB rfl,y8 ah ah ah ah ah,dY ah];by_cases h:q=j
   .rw [eB h];exact le_of_lt n
   .rw [dY h];exact u q ah x
 .intro g;refine⟨⟨ah,ah,m,t,?_⟩,ah⟩;have H:z<j->le ((o).getD (j-1).toNat default) ((o).getD (j).toNat default):=λc=>uW (by
   simp only [decide_eq_true c,Bool.true_and,decide_eq_false_iff_not]at g;exact g)
  intro p q v x k3;by_cases r:p=j
  .subst r;by_cases h:q=p
   .rw [h];exact le_refl _
   .exact u q ah ah
  .by_cases h:q=j
   .subst h;by_cases O:p=q-1
    .rw [O];exact H ah
    .exact(l p (q-1) v ah ah r ah).trans (H ah)
   .exact l p q v x ah r h
variable{p2:aBV->Bool}
def half{x:Int}(a:0<=x)(b:x<=4000000000):IntKind.i64.wrap (gH .shr .u64 (IntKind.u64.wrap x) 1)=x/2:=by grind [IntKind.wrap,IntKind.bits,IntKind.signed,gH,min,Int.toNat,Int.fdiv_eq_ediv_of_nonneg,w64]
structure Mrg(d d':List au)(a b:Int):Prop where
 sm:Sm d d'
 out:Out d d' a b
 ins:∀k,a<=k->k<b->∃j,a<=j/\j<b/\((d').getD (k).toNat default)=((d).getD (j).toNat default)
 srt:pR d' a b
structure J2(a m b:Int)(d:List au):Prop where
 sh:Sh d
 h1:0<=a
 h2:a<m
 h3:m<b
 h4:b<=d.length
 s1:pR d a m
 s2:pR d m b
def E9{P Q:Prop}[Decidable P][Decidable Q]:((decide P&&decide Q)=false)↔¬(P/\Q):=by simp_all
def Tq{B:aBV->kr}
    (a4:∀(a m b:Int) (d:List au),d.length<1000000000->0<=a->a<m->m<b->b<=d.length->p2 (a,m,b,d,())=true) (a1:∀(a m b:Int) (d:List au),d.length<1000000000->0<=a->a<m->m<b->b<=d.length->Rot d (B (a,m,b,d,())).1 a m b)
    {o:aBV->Bool} {l:aBV->kr}
    (K:Int) (N:∀(a m b:Int) (d:List au),J2 a m b d->b-a<K->o (a,m,b,d,())=true) (S:∀(a m b:Int) (d:List au),J2 a m b d->b-a<K->Mrg d (l (a,m,b,d,())).1 a b)
    (a m b f i E:Int) (d:List au) (hd:J2 a m b d) (hK:b-a<=K) (a6:f=(a+b)/2) (hE:E=f+m-i)
    (b1:a<=i) (b2:i<=m) (b3:m<=E) (b4:E<=b) (b5:a<f) (b6:f<b)
    (L:i=a\/E=b\/le ((d).getD (i-1).toNat default) ((d).getD (E).toNat default)) (U:E=m\/i=m\/le ((d).getD (E-1).toNat default) ((d).getD (i).toNat default)):
      (i<m/\m<E->
          p2 (i,m,E,d,())=true/\
            (a<i/\i<f->
                o (a,i,f,(B (i,m,E,d,())).fst,())=true/\
                  (f<E/\E<b->
                      o (f,E,b,(l (a,i,f,(B (i,m,E,d,())).fst,())).fst,())=true/\
                        Mrg d (l (f,E,b,(l (a,i,f,(B (i,m,E,d,())).fst,())).fst,())).fst
                          a b)/\
                    ((decide (f<E)&&decide (E<b))=false->
                      Mrg d (l (a,i,f,(B (i,m,E,d,())).fst,())).fst a b))/\
              ((decide (a<i)&&decide (i<f))=false->
                (f<E/\E<b->
                    o (f,E,b,(B (i,m,E,d,())).fst,())=true/\
                      Mrg d (l (f,E,b,(B (i,m,E,d,())).fst,())).fst a b)/\
                  ((decide (f<E)&&decide (E<b))=false->
                    Mrg d (B (i,m,E,d,())).fst a b)))/\
        ((decide (i<m)&&decide (m<E))=false->
          (a<i/\i<f->
              o (a,i,f,d,())=true/\
                (f<E/\E<b->
                    o (f,E,b,(l (a,i,f,d,())).fst,())=true/\
                      Mrg d (l (f,E,b,(l (a,i,f,d,())).fst,())).fst a b)/\
                  ((decide (f<E)&&decide (E<b))=false->
                    Mrg d (l (a,i,f,d,())).fst a b))/\
            ((decide (a<i)&&decide (i<f))=false->
              (f<E/\E<b->
                  o (f,E,b,d,())=true/\Mrg d (l (f,E,b,d,())).fst a b)/\
                ((decide (f<E)&&decide (E<b))=false->Mrg d d a b))):=by
  obtain⟨hs,h1,h2,h3,h4,T,V⟩:=hd;have A:=hs.1;have H:∀x y,((a<=x/\x<i)\/(m<=x/\x<E))->((i<=y/\y<m)\/(E<=y/\y<b))->le ((d).getD (x).toNat default) ((d).getD (y).toNat default):=by
    rintro x y (Q | Q) (hy | hy)
    · exact T x y Q.1 ah hy.2
    · rcases L with L | L | L
      · omega
      · omega
      · exact((T x (i-1) Q.1 ah ah).trans L).trans (V E y b3 hy.1 hy.2)
    · rcases U with U | U | U
      · omega
      · omega
      · exact((V x (E-1) Q.1 ah ah).trans U).trans (T i y b1 hy.1 hy.2)
    · exact V x y Q.1 ah hy.2
  have ayh : ∀ e, Rot d e i m E -> ∀ R : Prop, R = Mrg d e a b -> (a < i /\ i < f ->
              o (a,i,f,e,())=true/\
                (f<E/\E<b->
                    o (f,E,b,(l (a,i,f,e,())).fst,())=true/\
                      Mrg d (l (f,E,b,(l (a,i,f,e,())).fst,())).fst a b)/\
                  ((decide (f<E)&&decide (E<b))=false->
                    Mrg d (l (a,i,f,e,())).fst a b))/\
            ((decide (a<i)&&decide (i<f))=false->
              (f<E/\E<b->
                  o (f,E,b,e,())=true/\Mrg d (l (f,E,b,e,())).fst a b)/\
                ((decide (f<E)&&decide (E<b))=false->R)):=by
    rintro e ⟨r1,s⟩ R rfl;have a8:=r1.1;have X:=r1.sh hs;have lo:∀k,a<=k->k<f->∃x,((a<=x/\x<i)\/(m<=x/\x<E))/\((e).getD (k).toNat default)=((d).getD (x).toNat default):=by
      intro k t I;rw [s k ah];by_cases c1:i<=k/\k<i+(E-m)
      · grind
      · rw [dY c1,dY ah];exact⟨k,ah,rfl⟩
    have hi:∀k,f<=k->k<b->∃x,((i<=x/\x<m)\/(E<=x/\x<b))/\((e).getD (k).toNat default)=((d).getD (x).toNat default):=by
      intro k t I;rw [s k ah,dY ah];by_cases c1:i+(E-m)<=k/\k<E
      all_goals grind
    have S1:pR e a i:=by
      intro p q w u z;rw [s p ah,s q ah,dY ah,dY ah,dY ah,dY ah];exact T p q w u ah
    have S2:pR e i f:=by
      intro p q w u z;rw [s p ah,s q ah,eB ah,eB ah];exact V _ _ ah ah ah
    have S3:pR e f E:=by
      intro p q w u z;rw [s p ah,s q ah,dY ah,eB ah,dY ah,eB ah];exact T _ _ ah ah ah
    have S4:pR e E b:=by
      intro p q w u z;rw [s p ah,s q ah,dY ah,dY ah,dY ah,dY ah];exact V _ _ ah ah ah
    have fin:∀r e2,Mrg e r a f->Mrg r e2 f b->Mrg d e2 a b:=by
      intro r e2 n v;refine⟨(r1.trans n.sm).trans v.sm,λk t I=> ?_,λk t I=> ?_,λp q w u z=> ?_⟩
      · rw [v.out k t ah,n.out k t ah,s k t,dY ah,dY ah]
      · by_cases c:k<f
        · rw [v.out k ah ah];obtain⟨j,J,W,M⟩:=n.ins k t c;obtain⟨x,x1,P⟩:=lo j J W;rw [M,P];exact⟨x,ah,ah,rfl⟩
        · obtain⟨j,J,W,M⟩:=v.ins k ah I;rw [M,n.out j ah ah];obtain⟨x,x1,P⟩:=hi j J W;rw [P];exact⟨x,ah,ah,rfl⟩
      · by_cases c:q<f
        · rw [v.out p ah ah,v.out q ah ah];exact n.srt p q w u c
        · by_cases c2:f<=p
          · exact v.srt p q c2 u z
          · rw [v.out p ah ah];obtain⟨j,J,W,M⟩:=n.ins p w ah;obtain⟨x,x1,P⟩:=lo j J W;obtain⟨j',a0,a2,a3⟩:=v.ins q ah z;obtain⟨x',a5,Z⟩:=hi j' a0 a2;rw [M,P,a3,n.out j' ah ah,Z];exact H x x' x1 a5
    have C:∀Y G D,pR Y G D->Mrg Y Y G D:=λY G D h=>⟨Sm.refl _,λ_ _ _=>rfl,λk t I=>⟨k,t,I,rfl⟩,h⟩
    have F : ∀ r, Mrg e r a f -> (f < E /\ E < b ->
                    o (f,E,b,r,())=true/\
                      Mrg d (l (f,E,b,r,())).fst a b)/\
                  ((decide (f<E)&&decide (E<b))=false->
                    Mrg d r a b):=by
      intro r n;have a7:=n.sm.1;have O:∀G D,f<=G->D<=b->pR e G D->pR r G D:=λG D g1 g2 g p q w u z=>by
        rw [n.out p ah ah,n.out q ah ah];exact g p q w u z
      refine⟨λc=> ?_,λc=> ?_⟩
      · have pre:J2 f E b r:=⟨n.sm.sh X,ah,c.1,c.2,ah,O _ _ ah ah S3,O _ _ ah ah S4⟩;exact⟨N _ _ _ _ pre ah,fin _ _ n (S _ _ _ _ pre ah)⟩
      · rw [E9]at c;refine fin _ _ n (C _ _ _ ?_);by_cases c2:f<E
        · have:E=b:=by omega
          subst this;exact O _ _ ah ah S3
        · have:E=f:=by omega
          rw [this]at S4;exact O _ _ ah ah S4
    refine⟨λc=> ?_,λc=> ?_⟩
    · have pre:J2 a i f e:=⟨X,ah,c.1,c.2,ah,S1,S2⟩;exact⟨N _ _ _ _ pre ah,F _ (S _ _ _ _ pre ah)⟩
    · rw [E9]at c;refine F e (C _ _ _ ?_);by_cases c2:a<i
      · have:i=f:=by omega
        rw [<-this];exact S1
      · have:i=a:=by omega
        rw [this]at S2;exact S2
  refine⟨λc=>⟨a4 _ _ _ _ A ah c.1 c.2 ah,ayh _ (a1 _ _ _ _ A ah c.1 c.2 ah) _ rfl⟩,λc=>ayh d ?_ _ rfl⟩;rw [E9]at c;refine⟨Sm.refl _,λk t=> ?_⟩
  repeat' split
  all_goals first | rfl | (exfalso;omega) | (congr 2;omega)
theorem arF{p f}{f2:aBV->kr}{p3:aBV->Bool}{f3:aBV->kr}(U:Y20 p f)(U2:∀(a m b:Int) (d:List au),d.length<1000000000->0<=a->a<m->m<b->b<=d.length->p2 (a,m,b,d,())=true/\Rot d (f2 (a,m,b,d,())).1 a m b)(K:Int)(Z:∀(a m b:Int) (d:List au),J2 a m b d->b-a<K->p3 (a,m,b,d,())=true/\Mrg d (f3 (a,m,b,d,())).1 a b)(a m b:Int)(d:List au)(hd:J2 a m b d)(hK:b-a<=K):
  JX.F (p,f,p2,f2,p3,f3,()) (a,m,b,d,()) (λy=>Mrg d y.1 a b):=by
 obtain⟨P,h1,h2,h3,h4,F,G⟩:=hd;have a1:=P.1;dsimp only [JX,gm];simp (disch:=omega) only [RR];refine⟨λh5=> ?_,λh5=>⟨λh6=> ?_,λh6=> ?_⟩⟩
 ·
  have hm:m=a+1:=by omega
  subst hm
  refine ay (λ(y:aBV)=>y.1=a/\y.2.2.2.1=d/\a+1<=y.2.1/\y.2.1<=y.2.2.1/\y.2.2.1<=b/\(∀q,a+1<=q->q<y.2.1->dZ ((d).getD (q).toNat default).atoms ((d).getD (a).toNat default).atoms<0)/\(∀q,y.2.2.1<=q->q<b->¬dZ ((d).getD (q).toNat default).atoms ((d).getD (a).toNat default).atoms<0)) (λy=>(y.2.2.1-y.2.1).toNat)
   ⟨rfl,rfl,by simp,by simp;omega,by simp,λq s w=>by dsimp only at w;omega,λq s w=>by dsimp only at s;omega⟩ ?_
  rintro⟨(D:Int),(i:Int),(j:Int),(B:List au),⟨⟩⟩ hI;dsimp only at hI ⊢;obtain⟨rfl,rfl,s,w,g3,A,z⟩:=hI;simp (disch:=omega) only [RR,half,U _ _ (P.at _)];refine⟨λN=>⟨ah,ah,ah,ah,ah,ah,ah,ah,ah,λh=>⟨⟨ah,ah,ah,λq E C=> ?_,z⟩,ah⟩,λh=>⟨⟨ah,ah,ah,A,λq E C=> ?_⟩,ah⟩⟩,λN=> ?_⟩
  .exact dS (G q ((i+j)/2) E ah ah) h
  .intro T;exact h (dS (G ((i+j)/2) q ah ah C) T)
  have u:i=j:=by omega
  subst u
  refine ay (λ(y:ny)=>y.1=i/\D<=y.2.1/\y.2.1<=i-1/\Sm B y.2.2.1/\(∀k,0<=k->((y.2.2.1).getD (k).toNat default)=if D<=k/\k<y.2.1 then((B).getD (k+1).toNat default)else if k=y.2.1 then((B).getD (D).toNat default)else((B).getD (k).toNat default))) (λy=>(i-y.2.1).toNat)
   ⟨rfl,by simp,by simp;omega,Sm.refl _,λk hk=>by dsimp only;rw [dY ah];split;(· congr 2);(· rfl)⟩ ?_
  rintro⟨(J:Int),(k:Int),(e:List au),⟨⟩⟩ hI;dsimp only at hI ⊢;obtain⟨rfl,E,C,k3,v⟩:=hI;have a0:=k3.1;simp (disch:=omega) only [RR,length_set];have e1:(e.set k.toNat ((e).getD (k+1).toNat default)).set (k+1).toNat ((e).getD (k).toNat default)=swp e k (k+1):=rfl;rw [e1];refine⟨λh=>⟨ah,ah,ah,ah,ah,ah,ah,ah,ah,ah,ah,ah,ah,ah,ah,ah,⟨ah,ah,k3.trans (Qn ah ah ah ah),λq H=> ?_⟩,ah⟩,λh=> ?_⟩
  .rw [y8 ah ah ah ah H,v _ ah,v _ ah,v _ H]
   repeat' split
   all_goals grind
  .have hk:k=J-1:=by omega
   subst hk;refine⟨k3,λq H R=> ?_,λq H R=> ?_,λq r q1 q2 q3=> ?_⟩
   .rw [v q H,dY ah,dY ah]
   .rw [v q ah]
    repeat' split
    .exact⟨q+1,ah,ah,rfl⟩
    .exact⟨D,ah,ah,rfl⟩
    .exact⟨q,ah,ah,rfl⟩
   .rw [v q ah,v r ah];by_cases V:D<=q/\q<J-1
    .rw [eB V];by_cases L:D<=r/\r<J-1
     .rw [eB L];exact G _ _ ah ah ah
     .rw [dY L];by_cases M:r=J-1
      .rw [eB M];exact le_of_lt (A _ ah ah)
      .rw [dY M];exact G _ _ ah ah ah
    .rw [dY V,dY (by omega:¬(D<=r/\r<J-1))];by_cases M:q=J-1
     .rw [eB M];by_cases W:r=J-1
      .rw [eB W];exact le_refl _
      .rw [dY W];exact uW (z r ah ah)
     .rw [dY M,dY ah];exact G _ _ ah ah ah
 ·
  have hm:b=m+1:=by omega
  subst hm
  refine ay (λ(y:aBV)=>y.1=m/\y.2.2.2.1=d/\a<=y.2.1/\y.2.1<=y.2.2.1/\y.2.2.1<=m/\(∀q,a<=q->q<y.2.1->¬dZ ((d).getD (m).toNat default).atoms ((d).getD (q).toNat default).atoms<0)/\(∀q,y.2.2.1<=q->q<m->dZ ((d).getD (m).toNat default).atoms ((d).getD (q).toNat default).atoms<0)) (λy=>(y.2.2.1-y.2.1).toNat)
   ⟨rfl,rfl,by simp,by simp;omega,by simp,λq s w=>by dsimp only at w;omega,λq s w=>by dsimp only at s;omega⟩ ?_
  rintro⟨(o:Int),(i:Int),(j:Int),(B:List au),⟨⟩⟩ hI;dsimp only at hI ⊢;obtain⟨rfl,rfl,s,w,g3,A,z⟩:=hI;simp (disch:=omega) only [RR,half,U _ _ (P.at _)];refine⟨λN=>⟨ah,ah,ah,ah,ah,ah,ah,ah,ah,λh=>⟨⟨ah,ah,ah,λq E C=> ?_,z⟩,ah⟩,λh=>⟨⟨ah,ah,ah,A,λq E C=> ?_⟩,ah⟩⟩,λN=> ?_⟩
  .intro T;have:=F q ((i+j)/2) E ah ah;apply h;have X:=mZ T this;exact X
  .exact mZ h (F ((i+j)/2) q ah ah C)
  have u:i=j:=by omega
  subst u
  refine ay (λ(y:ny)=>y.1=i/\i<=y.2.1/\y.2.1<=o/\Sm B y.2.2.1/\(∀k,0<=k->((y.2.2.1).getD (k).toNat default)=if y.2.1<k/\k<=o then((B).getD (k-1).toNat default)else if k=y.2.1 then((B).getD (o).toNat default)else((B).getD (k).toNat default))) (λy=>(y.2.1-i).toNat)
   ⟨rfl,by simp;omega,by simp,Sm.refl _,λk hk=>by dsimp only;rw [dY ah];split;(· congr 2);(· rfl)⟩ ?_
  rintro⟨(J:Int),(k:Int),(e:List au),⟨⟩⟩ hI;dsimp only at hI ⊢;obtain⟨rfl,E,C,k3,v⟩:=hI;have a0:=k3.1;simp (disch:=omega) only [RR,length_set];have e1:(e.set k.toNat ((e).getD (k-1).toNat default)).set (k-1).toNat ((e).getD (k).toNat default)=swp e k (k-1):=rfl;rw [e1];refine⟨λh=>⟨ah,ah,ah,ah,ah,ah,ah,ah,ah,ah,ah,ah,ah,ah,ah,ah,⟨ah,ah,k3.trans (Qn ah ah ah ah),λq H=> ?_⟩,ah⟩,λh=> ?_⟩
  .rw [y8 ah ah ah ah H,v _ ah,v _ ah,v _ H]
   repeat' split
   all_goals first | rfl | (exfalso;omega) | (congr 2;omega)
  .have hk:k=J:=by omega
   subst hk;refine⟨k3,λq H R=> ?_,λq H R=> ?_,λq r q1 q2 q3=> ?_⟩
   .rw [v q H,dY ah,dY ah]
   .rw [v q ah]
    repeat' split
    .exact⟨q-1,ah,ah,rfl⟩
    .exact⟨o,ah,ah,rfl⟩
    .exact⟨q,ah,ah,rfl⟩
   .rw [v q ah,v r ah];by_cases V:k<q/\q<=o
    .rw [eB V,eB ah];exact F _ _ ah ah ah
    .rw [dY V];by_cases M:q=k
     .rw [eB M];by_cases L:k<r/\r<=o
      .rw [eB L];exact le_of_lt (z _ ah ah)
      .rw [dY L,eB ah];exact le_refl _
     .rw [dY M];by_cases L:k<r/\r<=o
      .rw [eB L];exact F _ _ ah ah ah
      .rw [dY L];by_cases W:r=k
       .rw [eB W];exact uW (A _ ah ah)
       .rw [dY W];exact F _ _ ah ah ah
 ·
  simp (disch:=omega) only [RR,half];refine⟨ah,λX=> ?_,λX=> ?_⟩
  .refine ay (λ(y:Int×Int×Int×Int×Int×aBV)=>y.1=a/\y.2.1=m/\y.2.2.1=b/\y.2.2.2.1=(a+b)/2/\y.2.2.2.2.1=(a+b)/2+m/\y.2.2.2.2.2.2.2.1=(a+b)/2+m-1/\y.2.2.2.2.2.2.2.2.1=d/\(a+b)/2+m-b<=y.2.2.2.2.2.1/\y.2.2.2.2.2.1<=y.2.2.2.2.2.2.1/\y.2.2.2.2.2.2.1<=(a+b)/2
     /\(∀q,(a+b)/2+m-b<=q->q<y.2.2.2.2.2.1->¬dZ ((d).getD ((a+b)/2+m-1-q).toNat default).atoms ((d).getD (q).toNat default).atoms<0)/\(∀q,y.2.2.2.2.2.2.1<=q->q< (a+b)/2->dZ ((d).getD ((a+b)/2+m-1-q).toNat default).atoms ((d).getD (q).toNat default).atoms<0)) (λy=>(y.2.2.2.2.2.2.1-y.2.2.2.2.2.1).toNat)
    ⟨rfl,rfl,rfl,rfl,rfl,rfl,rfl,by simp,by simp;omega,by simp,λq s w=>by dsimp only at w;omega,λq s w=>by dsimp only at s;omega⟩ ?_
   rintro⟨(D:Int),(o:Int),(Y:Int),(l:Int),(n:Int),(i:Int),(j:Int),(r:Int),(B:List au),⟨⟩⟩ hI;dsimp only at hI ⊢;obtain⟨rfl,rfl,rfl,g,hn,I,rfl,s,w,g3,A,z⟩:=hI;rw [<-g]at s g3 A z X;simp (disch:=omega) only [RR,half,U _ _ (P.at _)];refine⟨λN=>⟨ah,ah,ah,ah,ah,ah,ah,ah,ah,λh=>⟨⟨g,hn,I,ah,ah,ah,λq E C=> ?_,by rw [<-g];exact z⟩,ah⟩,λh=>⟨⟨g,hn,I,ah,ah,ah,by rw [<-g];exact A,λq E C=> ?_⟩,ah⟩⟩,λN=> ?_⟩
   .rw [<-g]at E ⊢;intro T;apply h;rw [I,<-g];exact dS (G _ _ ah ah ah) (mZ T (F _ _ ah ah ah))
   .rw [<-g]at C ⊢;rw [I,<-g]at h;exact dS (G _ _ ah ah ah) (mZ h (F _ _ ah ah ah))
   .have u:i=j:=by omega
    subst u;refine Tq (λz1 z2 z3 z4 t x O Q S=>(U2 z1 z2 z3 z4 t x O Q S).1) (λz1 z2 z3 z4 t x O Q S=>(U2 z1 z2 z3 z4 t x O Q S).2) K (λz1 z2 z3 z4 t x=>(Z z1 z2 z3 z4 t x).1) (λz1 z2 z3 z4 t x=>(Z z1 z2 z3 z4 t x).2) D o Y l i (n-i) B ⟨P,h1,h2,h3,h4,F,G⟩ hK g ah ah ah ah ah ah ah ?_ ?_
    .by_cases c:i=l+o-Y
     .first | exact Or.inl ah | exact Or.inr (Or.inl ah)
     .refine Or.inr (Or.inr ?_);have:=A (i-1) ah ah;rw [show l+o-1- (i-1)=n-i by omega]at this;exact uW this
    .by_cases c:i=l
     .first | exact Or.inl ah | exact Or.inr (Or.inl ah)
     .refine Or.inr (Or.inr ?_);have:=z i ah ah;rw [show l+o-1-i=n-i-1 by omega]at this;exact le_of_lt this
  .refine ay (λ(y:Int×Int×Int×Int×Int×aBV)=>y.1=a/\y.2.1=m/\y.2.2.1=b/\y.2.2.2.1=(a+b)/2/\y.2.2.2.2.1=(a+b)/2+m/\y.2.2.2.2.2.2.2.1=(a+b)/2+m-1/\y.2.2.2.2.2.2.2.2.1=d/\a<=y.2.2.2.2.2.1/\y.2.2.2.2.2.1<=y.2.2.2.2.2.2.1/\y.2.2.2.2.2.2.1<=m
     /\(∀q,a<=q->q<y.2.2.2.2.2.1->¬dZ ((d).getD ((a+b)/2+m-1-q).toNat default).atoms ((d).getD (q).toNat default).atoms<0)/\(∀q,y.2.2.2.2.2.2.1<=q->q<m->dZ ((d).getD ((a+b)/2+m-1-q).toNat default).atoms ((d).getD (q).toNat default).atoms<0)) (λy=>(y.2.2.2.2.2.2.1-y.2.2.2.2.2.1).toNat)
    ⟨rfl,rfl,rfl,rfl,rfl,rfl,rfl,by simp,by simp;omega,by simp,λq s w=>by dsimp only at w;omega,λq s w=>by dsimp only at s;omega⟩ ?_
   rintro⟨(D:Int),(o:Int),(Y:Int),(l:Int),(n:Int),(i:Int),(j:Int),(r:Int),(B:List au),⟨⟩⟩ hI;dsimp only at hI ⊢;obtain⟨rfl,rfl,rfl,g,hn,I,rfl,s,w,g3,A,z⟩:=hI;rw [<-g]at A z X;simp (disch:=omega) only [RR,half,U _ _ (P.at _)];refine⟨λN=>⟨ah,ah,ah,ah,ah,ah,ah,ah,ah,λh=>⟨⟨g,hn,I,ah,ah,ah,λq E C=> ?_,by rw [<-g];exact z⟩,ah⟩,λh=>⟨⟨g,hn,I,ah,ah,ah,by rw [<-g];exact A,λq E C=> ?_⟩,ah⟩⟩,λN=> ?_⟩
   .rw [<-g];intro T;apply h;rw [I,<-g];exact dS (G _ _ ah ah ah) (mZ T (F _ _ ah ah ah))
   .rw [<-g];rw [I,<-g]at h;exact dS (G _ _ ah ah ah) (mZ h (F _ _ ah ah ah))
   .have u:i=j:=by omega
    subst u;refine Tq (λz1 z2 z3 z4 t x O Q S=>(U2 z1 z2 z3 z4 t x O Q S).1) (λz1 z2 z3 z4 t x O Q S=>(U2 z1 z2 z3 z4 t x O Q S).2) K (λz1 z2 z3 z4 t x=>(Z z1 z2 z3 z4 t x).1) (λz1 z2 z3 z4 t x=>(Z z1 z2 z3 z4 t x).2) D o Y l i (n-i) B ⟨P,h1,h2,h3,h4,F,G⟩ hK g ah ah ah ah ah ah ah ?_ ?_
    .by_cases c:i=D
     .first | exact Or.inl ah | exact Or.inr (Or.inl ah)
     .refine Or.inr (Or.inr ?_);have:=A (i-1) ah ah;rw [show l+o-1- (i-1)=n-i by omega]at this;exact uW this
    .by_cases c:i=o
     .first | exact Or.inl ah | exact Or.inr (Or.inl ah)
     .refine Or.inr (Or.inr ?_);have:=z i ah ah;rw [show l+o-1-i=n-i-1 by omega]at this;exact le_of_lt this
end Go.TX.F
namespace Go.TX.F
open Go Go.AE Go.TX List
variable{d:List au}
def Am{s a x:Int}(h:s ∣ a)(d:a<x)(c:x<a+s):¬s ∣ x:=λb=>by
 have:=Int.le_of_dvd ah (Int.dvd_sub b h);omega
def pR.adj{a b:Int}(h:∀p,a<=p->p+1<b->le ((d).getD (p).toNat default) ((d).getD (p+1).toNat default)):pR d a b:=by
 intro p q f e g;obtain⟨n,hn⟩:∃n:Nat,q=p+n:=⟨(q-p).toNat,ah⟩;subst hn
 clear e
 induction n with
 | zero=>rw [show p+((0:Nat):Int)=p by omega];exact le_refl _
 | succ n c=>
  have:=h (p+n) ah ah;rw [show p+((n+1:Nat):Int)=p+n+1 by omega];exact(c ah).trans this
def pR.at1{a b p:Int}(h:pR d a b)(e:a<=p)(c:p+1<b):le ((d).getD (p).toNat default) ((d).getD (p+1).toNat default):=h p (p+1) e ah c
def Bl(d:List au)(s n:Int):Prop:=∀p,0<=p->p+1<n->¬s ∣ p+1->le ((d).getD (p).toNat default) ((d).getD (p+1).toNat default)
def arG{p:ny->Bool}{f:ny->kr}{Q:aBV->Bool}{Y:aBV->kr}(U:∀(a b:Int) (d:List au),Sh d->0<=a->a<=b->b<=d.length->p (a,b,d,())=true/\Sm d (f (a,b,d,())).1/\Out d (f (a,b,d,())).1 a b/\pR (f (a,b,d,())).1 a b)(I:∀(a m b:Int) (d:List au),J2 a m b d->Q (a,m,b,d,())=true/\Mrg d (Y (a,m,b,d,())).1 a b)(n:Int)(d:List au)(hd:Sh d)(hn:n=d.length):
  Z0.F (p,f,Q,Y,()) (n,d,()) (λy=>Sm d y.1/\pR y.1 0 n):=by
 have V:=hd.1;dsimp only [Z0,gm];simp (disch:=omega) only [RR]
 refine ay (λ(y:Int×aBV)=>y.1=n/\y.2.1=20/\0<=y.2.2.1/\y.2.2.1<=n/\(20:Int) ∣ y.2.2.1/\y.2.2.2.1=y.2.2.1+20/\Sm d y.2.2.2.2.1/\Bl y.2.2.2.2.1 20 y.2.2.1) (λy=>(n+20-y.2.2.2.1).toNat)
  ⟨rfl,rfl,by simp,by simp;omega,⟨0,by simp⟩,rfl,Sm.refl _,λp r R=>by dsimp only at R;omega⟩ ?_
 rintro⟨(j:Int),(s:Int),(a:Int),(b:Int),(e:List au),⟨⟩⟩ hI;dsimp only at hI ⊢;obtain⟨rfl,rfl,r,R,X,rfl,B,O⟩:=hI;have P:=B.1;have u:=B.sh hd;simp (disch:=omega) only [RR];have T:∀a c (e F:List au),0<=a->(20:Int) ∣ a->c<=a+20->Bl e 20 a->Out e F a c->pR F a c->Bl F 20 c:=by
  intro a c e F c0 G H N J c5 q g i h;by_cases K:q+1<a
  .rw [J q g ah,J (q+1) ah ah];exact N q g K h
  .exact c5.at1 ah i
 refine⟨λh7=> ?_,λh7=> ?_⟩
 .obtain⟨D,w,z⟩:=(U a (a+20) e u r ah ah).2;exact⟨(U a (a+20) e u r ah ah).1,⟨ah,ah,ah,B.trans D,T a (a+20) _ _ r X ah O w z⟩,ah⟩
 obtain⟨D,w,z⟩:=(U a j e u r ah ah).2;refine⟨(U a j e u r ah ah).1,?_⟩;have t4:=T a j _ _ r X ah O w z;generalize (f (a,j,e,())).1=e2 at D w z t4 ⊢;have u1:=B.trans D
 clear D w z B O
 refine ay (λ(y:ny)=>y.1=j/\0<y.2.1/\(y.2.1<=20\/y.2.1<=2*j)/\Sm d y.2.2.1/\Bl y.2.2.1 y.2.1 j) (λy=>(j-y.2.1).toNat)
  ⟨rfl,by simp,Or.inl (by simp),u1,t4⟩ ?_
 rintro⟨(n:Int),(s:Int),(e3:List au),⟨⟩⟩ hI;dsimp only at hI ⊢;obtain⟨rfl,g1,g2,g3,W⟩:=hI;simp (disch:=omega) only [RR];refine⟨λg5=> ?_,λg5=>⟨g3,pR.adj λq g i=>W q g i (Am (a:=0) ⟨0,by simp⟩ ah ah)⟩⟩
 refine ay (λ(y:Int×aBV)=>y.1=n/\y.2.1=s/\0<=y.2.2.1/\y.2.2.1<=n/\(2*s) ∣ y.2.2.1/\y.2.2.2.1=y.2.2.1+2*s/\Sm d y.2.2.2.2.1
   /\∀p,0<=p->p+1<n->¬(2*s) ∣ p+1->(p+1<y.2.2.1\/¬s ∣ p+1)->le ((y.2.2.2.2.1).getD (p).toNat default) ((y.2.2.2.2.1).getD (p+1).toNat default)) (λy=>(n+2*s-y.2.2.2.1).toNat)
  ⟨rfl,rfl,by simp,by simp;omega,⟨0,by simp⟩,by simp,g3,λq g i h o=>W q g i (by dsimp only at o;rcases o with o | o;(· omega);(· exact o))⟩ ?_
 rintro⟨(j:Int),(l:Int),(a:Int),(b:Int),(Z:List au),⟨⟩⟩ hI;dsimp only at hI ⊢;obtain⟨rfl,rfl,K,k2,k3,rfl,C,t⟩:=hI;have P:=C.1;have u:=C.sh hd;have L:l ∣ a:=Int.dvd_trans ⟨2,ah⟩ k3;simp (disch:=omega) only [RR];have A:∀x,x<=j->a+l<x->x<=a+2*l->J2 a (a+l) x Z:=λx x1 v x3=>
  ⟨u,K,ah,v,ah,pR.adj λq g i=>by
   refine t q ah ah (Am k3 ah ah) (Or.inr (Am L ah ah)),
   pR.adj λq g i=>by
   refine t q ah ah (Am k3 ah ah) (Or.inr (Am (Int.dvd_add L (Int.dvd_refl l)) ah ah))⟩
 have stp:∀x E,x<=j->(x=a+2*l\/x=j)->x<=a+2*l->Mrg Z E a x->∀p,0<=p->p+1<j->¬(2*l) ∣ p+1->(p+1<x\/¬l ∣ p+1)->le ((E).getD (p).toNat default) ((E).getD (p+1).toNat default):=by
  intro x E x1 v x3 k q g i h o;by_cases G:q+1<a
  .rw [k.out q g ah,k.out (q+1) ah ah];exact t q g i h (Or.inl G)
  .by_cases H:q+1=a
   .rw [H]at h;exact absurd k3 h
   .by_cases N:q+1<x
    .exact k.srt.at1 ah N
    .by_cases J:q+1=x
     .exfalso;rcases v with v | v
      .rw [J,v]at h;exact h (Int.dvd_add k3 (Int.dvd_refl _))
      .omega
     .rw [k.out q g ah,k.out (q+1) ah ah];refine t q g i h (Or.inr ?_);rcases o with o | o
      .omega
      .exact o
 refine⟨λM=> ?_,λM=>⟨λS=> ?_,λS=> ?_⟩⟩
 .have pre:=A (a+2*l) M ah ah;have k:=(I _ _ _ _ pre).2;exact⟨(I _ _ _ _ pre).1,⟨ah,ah,Int.dvd_add k3 (Int.dvd_refl _),C.trans k.sm,stp _ _ M (Or.inl rfl) ah k⟩,ah⟩
 .have pre:=A j ah S ah;have k:=(I _ _ _ _ pre).2;refine⟨(I _ _ _ _ pre).1,⟨ah,Or.inr ah,C.trans k.sm,λq g i h=> ?_⟩,ah⟩;exact stp _ _ ah (Or.inr rfl) ah k q g i (by rw [Int.mul_comm];exact h) (Or.inl i)
 .refine⟨⟨ah,Or.inr ah,C,λq g i h=> ?_⟩,ah⟩;rw [Int.mul_comm]at h;by_cases G:q+1<a
  .exact t q g i h (Or.inl G)
  .by_cases H:q+1=a
   .rw [H]at h;exact absurd k3 h
   .exact t q g i h (Or.inr (Am L ah ah))
def arH{p:Int×kr->Bool}{f:Int×kr->kr}(U:∀(n:Int) (d:List au),Sh d->n=d.length->p (n,d,())=true/\Sm d (f (n,d,())).1/\pR (f (n,d,())).1 0 n)(d:List au)(hd:Sh d):
  Z4.F (p,f,()) (d,()) (λy=>Sm d y.1/\pR y.1 0 d.length):=by
 have:=(U _ d hd rfl).2;dsimp only [Z4,gm];exact⟨(U _ d hd rfl).1,this⟩
end Go.TX.F
namespace Go.TX.F
open Go Go.AE Go.TX List
def cf(l:List au)(k:List Int):Int:=(l.map λm=>if m.atoms=k then m.bD else 0).sum
theorem jO(k:List Int):cf [] k=0:=rfl
def bE(m:au)(l:List au)(k:List Int):cf (m::l) k=(if m.atoms=k then m.bD else 0)+cf l k:=by simp [cf]
def dA(a b:List au)(k:List Int):cf (a++b) k=cf a k+cf b k:=by simp [cf]
def iF{k:List Int}:∀ {l:List au},(∀m∈l,m.atoms≠k)->cf l k=0
 | [],_=>rfl
 | m::l,h=>by rw [bE,dY (h m (by simp)),iF (λm hm=>h m (by simp [hm]))];rfl
def Sm.cf{a b:List au}(h:Sm a b)(k:List Int):cf b k=cf a k:=h.sum _
def lt(a b:au):Prop:=dZ a.atoms b.atoms<0
def lt.ne{a b:au}(h:lt a b):a.atoms≠b.atoms:=λe=>by unfold lt at h;rw [e,kM.2 rfl]at h;omega
structure Nf(o:List au):Prop where
 ss:o.Pairwise lt
 co:∀m∈o,1<=m.bD/\m.bD<=65535
def acX:∀ {i g:List au},Nf i->Nf g->(∀k,cf i k=cf g k)->i=g
 | [],[],_,_,_=>rfl
 | [],m::o,_,h2,h=>by
  have:=h m.atoms;rw [bE,eB rfl,iF (λl d=>((rel_of_pairwise_cons h2.ss d).ne).symm),jO]at this;have:=(h2.co m (by simp));omega
 | m::o,[],h1,_,h=>by
  have:=h m.atoms;rw [bE,eB rfl,iF (λl d=>((rel_of_pairwise_cons h1.ss d).ne).symm),jO]at this;have:=(h1.co m (by simp));omega
 | m1::i,m2::g,h1,h2,h=>by
  have r:=h1.co m1 (by simp);have s:=h2.co m2 (by simp);have z1:cf i m1.atoms=0:=iF λl d=>((rel_of_pairwise_cons h1.ss d).ne).symm
  have z2:cf g m2.atoms=0:=iF λl d=>((rel_of_pairwise_cons h2.ss d).ne).symm
  have n:∀ {a b c:au},lt a b->lt b c->lt a c:=λj f=>dS (le_of_lt j) f
  have e:m1.atoms=m2.atoms:=by
   by_cases j:lt m1 m2
   .have:=h m1.atoms;rw [bE,eB rfl,z1,bE,dY (λe=>j.ne e.symm),iF (λl d=>((n j (rel_of_pairwise_cons h2.ss d)).ne).symm)]at this;omega
   .by_cases f:lt m2 m1
    .have:=h m2.atoms;rw [bE,dY (λe=>f.ne e.symm),iF (λl d=>((n f (rel_of_pairwise_cons h1.ss d)).ne).symm),bE,eB rfl,z2]at this;omega
    .unfold lt at j f;rw [qL]at f;exact kM.1 ah
  have q:m1.bD=m2.bD:=by
   have:=h m1.atoms;rw [bE,eB rfl,z1,bE,eB e.symm,e,z2]at this;omega
  have p:m1=m2:=by cases m1;cases m2;simp_all
  subst p;refine congrArg _ (acX ⟨h1.ss.tail,λm hm=>h1.co m (by simp [hm])⟩ ⟨h2.ss.tail,λm hm=>h2.co m (by simp [hm])⟩ (λk=>by
   have:=h k;rw [bE,bE]at this;omega))
noncomputable def nf (l:List au):List au:= @dite _ (∃o,Nf o/\∀k,cf o k=cf l k%65536) (Classical.propDecidable _) (λh=>Classical.choose h) (λ_=> [])
def Tt{l o:List au}(h:Nf o)(b:∀k,cf o k=cf l k%65536):nf l=o:=by
 have a:∃o,Nf o/\∀k,cf o k=cf l k%65536:=⟨o,h,b⟩;unfold nf;rw [dif_pos a];have:=Classical.choose_spec a;exact acX this.1 h (λk=>(this.2 k).trans (b k).symm)
noncomputable def su (l:List au):Bool×List au:=(bp (aW (nf l)),if bp (aW (nf l))then nf l else [])
def Cb(l:List au):Prop:=∀m∈l,0<=m.bD/\m.bD<=65535
def arI{p1 f1 p2 f2 p3 f3 p4 f4}{G:kr->Bool}{s:kr->kr}(X:Y7 p1 f1)(T:Y11 p2 f2)(S:Y10 p3 f3)(V:Y12 p4 f4)(I:∀d,Sh d->G (d,())=true/\Sm d (s (d,())).1/\pR (s (d,())).1 0 d.length)(l:List au)(C:Sh l)(hc:Cb l):Z5.F (p1,f1,p2,f2,p3,f3,p4,f4,G,s,()) (l,()) (λy=>y.1=(su l).1/\y.2.2.1=(su l).2):=by
 obtain⟨q,H⟩:=(I l C).2;dsimp only [Z5,gm];simp (disch:=omega) only [RR,(I l C).1];generalize (s (l,())).1=d at q H ⊢;have Y:=q.1;have u:=q.sh C;have J:=u.1;have F:Cb d:=λm hm=>hc m (q.mem hm)
 refine ay (λ(y:aCo)=>0<=y.1/\y.1<=d.length/\y.2.1=d/\Nf y.2.2.1/\y.2.2.1.length<=y.1/\(∀k,cf y.2.2.1 k=cf (d.take y.1.toNat) k%65536)/\(∀m∈y.2.2.1,m∈y.2.2.1->m.atoms.length<1000000000)
   /\(y.1<d.length->(∀m∈y.2.2.1,lt m ((d).getD (y.1).toNat default))/\(∀m∈d.take y.1.toNat,lt m ((d).getD (y.1).toNat default)))) (λy=>(d.length-y.1).toNat)
  ⟨by simp,by simp,rfl,⟨Pairwise.nil,λm hm=>absurd hm (by simp)⟩,by simp,λk=>by simp [cf],λm hm=>absurd hm (by simp),λ_=>⟨λm hm=>absurd hm (by simp),λm hm=>absurd hm (by simp)⟩⟩ ?_
 rintro⟨(i:Int),(g:List au),(o:List au),⟨⟩⟩ hI;dsimp only at hI ⊢;obtain⟨P,Z,rfl,r,h5,D,B,R⟩:=hI;have Q:Sh o:=⟨ah,λm hm=>B m hm hm⟩;simp (disch:=omega) only [RR,T o Q];refine⟨λL=>⟨ah,ah,ah,ah,?_⟩,λL=> ?_⟩
 .obtain⟨g1,g2⟩:=R L;have z:cf (g.take i.toNat) ((g).getD (i).toNat default).atoms=0:=iF λm hm=>(g2 m hm).ne
  refine ay (λ(y:Int×Int×List au×au×kr)=>i<=y.1/\y.1<=g.length/\y.2.2.1=g/\y.2.2.2.1=((g).getD (i).toNat default)/\y.2.2.2.2.1=o/\y.2.1=cf (g.take y.1.toNat) ((g).getD (i).toNat default).atoms%65536
    /\(∀k,k≠((g).getD (i).toNat default).atoms->cf (g.take y.1.toNat) k=cf (g.take i.toNat) k)/\(∀m∈g.take y.1.toNat,lt m ((g).getD (i).toNat default)\/m.atoms=((g).getD (i).toNat default).atoms)) (λy=>(g.length-y.1).toNat)
   ⟨by simp,by simp;omega,rfl,rfl,rfl,by rw [z];rfl,λk _=>rfl,λm hm=>Or.inl (g2 m hm)⟩ ?_
  rintro⟨(j:Int),(c:Int),(f:List au),(fi:au),(U:List au),⟨⟩⟩ hI;dsimp only at hI ⊢;obtain⟨M,k2,rfl,rfl,rfl,K,x,w⟩:=hI;have N:0<=c/\c<65536:=by omega
  have A:j<f.length->0<=((f).getD (j).toNat default).bD/\((f).getD (j).toNat default).bD<=65535:=λh=>F _ (bV ah h)
  simp (disch:=omega) only [RR,X _ _ (u.at _),S,V _ (Nat.le_trans (Nat.le_of_lt (u.at _)) ah)];refine⟨ah,ah,ah,ah,λ⟨t,v⟩=> ?_,λt=>⟨λv=>⟨?_,?_,?_⟩,λv=>⟨?_,?_⟩⟩⟩
  .have e:=kM.1 v;have:=A t;rw [w64 ah ah];have E:f.take (j+1).toNat=f.take j.toNat++ [((f).getD (j).toNat default)]:=(bA ah t rfl).symm;refine⟨ah,ah,ah,ah,⟨ah,ah,?_,λk hk=> ?_,λm hm=> ?_⟩,ah⟩
   .rw [E,dA,bE,eB e.symm,jO,K];omega
   .rw [E,dA,bE,dY (λh=>hk (by rw [e,h])),jO,x k hk];omega
   .rw [E,mem_append,mem_singleton]at hm;rcases hm with hm | hm
    .exact w m hm
    .right;rw [hm,e]
  all_goals
   have p:j<f.length->lt ((f).getD (i).toNat default) ((f).getD (j).toNat default):=λn=>by
    rw [decide_eq_true n,Bool.true_and,decide_eq_false_iff_not]at t;have:=H i j P M ah;unfold le at this;unfold lt;omega
   have O:i<j:=by
    by_cases n:j<f.length
    .by_cases e:i=j
     .have:=(p n).ne;rw [e]at this;exact absurd rfl this
     .omega
    .omega
  .simp only [eG,fA,fE];omega
  .have co:∀k,cf (U++ [⟨c,((f).getD (i).toNat default).atoms⟩]) k=cf (f.take j.toNat) k%65536:=λk=>by
    rw [dA,bE,jO];dsimp only;by_cases hk:((f).getD (i).toNat default).atoms=k
    .subst hk;rw [eB rfl,iF (λm hm=>(g1 m hm).ne),K];omega
    .rw [dY hk,x k (λe=>hk e.symm),D k];omega
   refine⟨ah,ah,⟨?_,?_⟩,?_,co,?_,λn=>⟨?_,?_⟩⟩
   .rw [pairwise_append];exact⟨r.ss,pairwise_singleton _ _,λa W b p=>by rw [mem_singleton]at p;subst p;exact g1 a W⟩
   .intro m hm;rw [mem_append,mem_singleton]at hm;rcases hm with hm | rfl
    .exact r.co m hm
    .dsimp only;omega
   .simp only [eG,fA,fE];omega
   .intro m hm _;rw [mem_append,mem_singleton]at hm;rcases hm with hm | rfl
    .exact B m hm hm
    .exact u.at _
   .intro m hm;rw [mem_append,mem_singleton]at hm;rcases hm with hm | rfl
    .exact dS (le_of_lt (g1 m hm)) (p n)
    .exact p n
   .intro m hm;rcases w m hm with k | k
    .exact dS (le_of_lt k) (p n)
    .have:=p n;unfold lt at this ⊢;rw [k];exact this
  .omega
  .refine⟨ah,ah,r,ah,λk=> ?_,B,λn=>⟨?_,?_⟩⟩
   .by_cases hk:((f).getD (i).toNat default).atoms=k
    .subst hk;rw [iF (λm hm=>(g1 m hm).ne)];omega
    .rw [x k (λe=>hk e.symm),D k]
   .intro m hm;exact dS (le_of_lt (g1 m hm)) (p n)
   .intro m hm;rcases w m hm with k | k
    .exact dS (le_of_lt k) (p n)
    .have:=p n;unfold lt at this ⊢;rw [k];exact this
  .omega
 .have e:nf l=o:=Tt r (λk=>by rw [D k,take_of_length_le ah,q.cf k]);unfold su;rw [e];refine⟨λh=> ?_,λh=> ?_⟩
  .rw [h];exact⟨rfl,by simp⟩
  .rw [h];exact⟨rfl,by simp⟩
variable{p:eu->Bool}
def arJ(n:Int)(b:0<=n)(a:n<=1073741824):Z6.F () (n,()) (λy=>y=([],())):=by
 dsimp only [Z6,gm];simp (disch:=omega) only [RR];refine⟨λh=>by omega,λ_ h=> ?_⟩
 repeat' (refine And.intro ?_ ?_)
 all_goals first | omega | (rw [length_replicate];omega) | rfl
theorem arK{f:eu->kr}(U:∀n:Int,0<=n->n<=1073741824->p (n,())=true/\f (n,())=([],()))(a b:List au)(r:a.length<=100000000)(q:b.length<=100000000):Z7.F (p,f,()) ([a,b],()) (λy=>y=(a++b,())):=by
 dsimp only [Z7,gm]
 refine ay (λ(y:List (List au)×Int×List (List au)×sj)=>y.1=[a,b]/\y.2.2.1=[a,b]/\y.2.2.2.1=2/\((y.2.2.2.2.1=0/\y.2.1=0)\/(y.2.2.2.2.1=1/\y.2.1=a.length)\/(y.2.2.2.2.1=2/\y.2.1=a.length+b.length))) (λy=>(2-y.2.2.2.2.1).toNat)
  ⟨rfl,rfl,rfl,Or.inl ⟨rfl,rfl⟩⟩ ?_
 rintro⟨(l:List (List au)),(s:Int),(t:List (List au)),(n:Int),(i:Int),⟨⟩⟩ hI;dsimp only at hI ⊢;obtain⟨rfl,rfl,rfl,h⟩:=hI;simp (disch:=omega) only [RR];have c: [a,b].getD (Int.toNat 0) default=a:=rfl;have d: [a,b].getD (Int.toNat 1) default=b:=rfl;have m:([a,b].length:Int)=2:=rfl;refine⟨λg=> ?_,λg=> ?_⟩
 .rcases h with⟨rfl,rfl⟩ | ⟨rfl,rfl⟩ | ⟨rfl,rfl⟩
  .rw [c,w64 ah ah];exact⟨ah,ah,λh=>by omega,λh=>⟨Or.inr (Or.inl ⟨ah,ah⟩),ah⟩⟩
  .rw [d,w64 ah ah];exact⟨ah,ah,λh=>by omega,λh=>⟨Or.inr (Or.inr ⟨ah,ah⟩),ah⟩⟩
  .omega
 .have hs:0<=s/\s<=200000000:=by omega
  refine⟨(U s ah ah).1,?_⟩;rw [(U s ah ah).2]
  refine ay (λ(y:List (List au)×ny)=>y.1=[a,b]/\y.2.1=2/\((y.2.2.1=0/\y.2.2.2.1=[])\/(y.2.2.1=1/\y.2.2.2.1=a)\/(y.2.2.1=2/\y.2.2.2.1=a++b))) (λy=>(2-y.2.2.1).toNat)
   ⟨rfl,rfl,Or.inl ⟨rfl,rfl⟩⟩ ?_
  rintro⟨(l:List (List au)),(n:Int),(j:Int),(o:List au),⟨⟩⟩ hI;dsimp only at hI ⊢;obtain⟨rfl,rfl,e⟩:=hI;simp (disch:=omega) only [RR];refine⟨λk=> ?_,λk=> ?_⟩
  .rcases e with⟨rfl,rfl⟩ | ⟨rfl,rfl⟩ | ⟨rfl,rfl⟩
   .rw [c];exact⟨ah,ah,by simp only [fE];omega,Or.inr (Or.inl ⟨ah,rfl⟩),ah⟩
   .rw [d];exact⟨ah,ah,ah,Or.inr (Or.inr ⟨ah,rfl⟩),ah⟩
   .omega
  .rcases e with⟨rfl,rfl⟩ | ⟨rfl,rfl⟩ | ⟨rfl,rfl⟩
   .omega
   .omega
   .rfl
def arL(n:Int)(b:0<=n)(a:n<=1073741824):Z8.F () (n,()) (λy=>y=([],())):=by
 dsimp only [Z8,gm];simp (disch:=omega) only [RR];refine⟨λh=>by omega,λ_ h=> ?_⟩
 repeat' (refine And.intro ?_ ?_)
 all_goals first | omega | (rw [length_replicate];omega) | rfl
theorem arM{f:eu->bn}(U:∀n:Int,0<=n->n<=1073741824->p (n,())=true/\f (n,())=([],()))(a b:List Int)(r:a.length<=100000000)(q:b.length<=100000000):Z9.F (p,f,()) ([a,b],()) (λy=>y=(a++b,())):=by
 dsimp only [Z9,gm]
 refine ay (λ(y:List (List Int)×Int×List (List Int)×sj)=>y.1=[a,b]/\y.2.2.1=[a,b]/\y.2.2.2.1=2/\((y.2.2.2.2.1=0/\y.2.1=0)\/(y.2.2.2.2.1=1/\y.2.1=a.length)\/(y.2.2.2.2.1=2/\y.2.1=a.length+b.length))) (λy=>(2-y.2.2.2.2.1).toNat)
  ⟨rfl,rfl,rfl,Or.inl ⟨rfl,rfl⟩⟩ ?_
 rintro⟨(l:List (List Int)),(s:Int),(t:List (List Int)),(n:Int),(i:Int),⟨⟩⟩ hI;dsimp only at hI ⊢;obtain⟨rfl,rfl,rfl,h⟩:=hI;simp (disch:=omega) only [RR];have c: [a,b].getD (Int.toNat 0) default=a:=rfl;have d: [a,b].getD (Int.toNat 1) default=b:=rfl;have m:([a,b].length:Int)=2:=rfl;refine⟨λg=> ?_,λg=> ?_⟩
 .rcases h with⟨rfl,rfl⟩ | ⟨rfl,rfl⟩ | ⟨rfl,rfl⟩
  .rw [c,w64 ah ah];exact⟨ah,ah,λh=>by omega,λh=>⟨Or.inr (Or.inl ⟨ah,ah⟩),ah⟩⟩
  .rw [d,w64 ah ah];exact⟨ah,ah,λh=>by omega,λh=>⟨Or.inr (Or.inr ⟨ah,ah⟩),ah⟩⟩
  .omega
 .have hs:0<=s/\s<=200000000:=by omega
  refine⟨(U s ah ah).1,?_⟩;rw [(U s ah ah).2]
  refine ay (λ(y:List (List Int)×aBS)=>y.1=[a,b]/\y.2.1=2/\((y.2.2.1=0/\y.2.2.2.1=[])\/(y.2.2.1=1/\y.2.2.2.1=a)\/(y.2.2.1=2/\y.2.2.2.1=a++b))) (λy=>(2-y.2.2.1).toNat)
   ⟨rfl,rfl,Or.inl ⟨rfl,rfl⟩⟩ ?_
  rintro⟨(l:List (List Int)),(n:Int),(j:Int),(o:List Int),⟨⟩⟩ hI;dsimp only at hI ⊢;obtain⟨rfl,rfl,e⟩:=hI;simp (disch:=omega) only [RR];refine⟨λk=> ?_,λk=> ?_⟩
  .rcases e with⟨rfl,rfl⟩ | ⟨rfl,rfl⟩ | ⟨rfl,rfl⟩
   .rw [c];exact⟨ah,ah,by simp only [fE];omega,Or.inr (Or.inl ⟨ah,rfl⟩),ah⟩
   .rw [d];exact⟨ah,ah,ah,Or.inr (Or.inr ⟨ah,rfl⟩),ah⟩
   .omega
  .rcases e with⟨rfl,rfl⟩ | ⟨rfl,rfl⟩ | ⟨rfl,rfl⟩
   .omega
   .omega
   .rfl
def mOk.le{m:au}(h:mOk m):m.atoms.length<=4:=h.2.1
def aW.at{p:List au}(h:aW p){m:au}(hm:m∈p):mOk m:=by
 obtain⟨i,a,rfl⟩:=getElem_of_mem hm;have:=(h.1 i ah ah).1;rw [show(i:Int).toNat=i from rfl,getD_lt a]at this;exact this
def aW.len{p:List au}(h:aW p):p.length<=12:=h.2.1
noncomputable def qA (a b:List au):Bool×List au:=if bp (aW a)&&bp (aW b)then su (a++b)else(false,[])
abbrev Y21(c:kr->Bool)(b:kr->Bool×wm):Prop:=∀a,Sh a->Cb a->c (a,())=true/\(b (a,())).1=(su a).1/\(b (a,())).2.2.1=(su a).2
def ayi{p1 f1 p2 f2}{g:mI->Bool}{o:mI->kr}(n:Y11 p1 f1)(k:Y21 p2 f2)(j:∀a b:List au,a.length<=100000000->b.length<=100000000->g ([a,b],())=true/\o ([a,b],())=(a++b,()))(a b:List au)(p:Sh a)(i:Sh b):ahV.F (p1,f1,p2,f2,g,o,()) (a,b,()) (λy=>y=((qA a b).1,(qA a b).2,())):=by
 dsimp only [ahV,gm];simp (disch:=omega) only [RR,n a p,n b i,aF,gK];unfold qA;refine⟨λh=> ?_,λ⟨e,c⟩=> ?_⟩
 .rw [dY];rw [Bool.and_eq_true,aF,aF];rintro⟨f,d⟩;rcases h with h | h
  .exact h f
  .exact h d
 .have l1:=e.len;have q:=c.len;rw [(j a b ah ah).1,(j a b ah ah).2];have l:Sh (a++b):=⟨by rw [eG];omega,λm hm=>by
   rw [mem_append]at hm;rcases hm with hm | hm
   .exact p.2 m hm
   .exact i.2 m hm⟩
  have hc:Cb (a++b):=λm hm=>by
   rw [mem_append]at hm;rcases hm with hm | hm
   .have:=(e.at hm).1;omega
   .have:=(c.at hm).1;omega
  obtain⟨f,d⟩:=(k _ l hc).2;refine⟨rfl,(k _ l hc).1,?_⟩;rw [eB (by rw [aJ e,aJ c];rfl),f,d]
def oD(l:List Int):List Int:=l.mergeSort λx y=>decide (x<=y)
def NR(l:List Int):(oD l).length=l.length:=length_mergeSort l
def mulM(m n:au):au:=⟨m.bD*n.bD%65536,oD (m.atoms++n.atoms)⟩
def prods(a b:List au):List au:=a.flatMap λm=>b.map (mulM m)
def J3(a b:List au)(m:au):prods (a++ [m]) b=prods a b++b.map (mulM m):=by simp [prods]
noncomputable def qB (a b:List au):Bool×List au:=if bp (aW a)&&bp (aW b)then su (prods a b)else(false,[])
def Qo{a b:Int}(f:0<=a)(d:a<=65535)(c:0<=b)(e:b<=65535):0<=a*b/\a*b<=65535*65535:=⟨Int.mul_nonneg f c,Int.mul_le_mul d e c ah⟩
def ayj{p1 f1 p0 f0 p2 f2}{x:List (List Int)×Unit->Bool}{F:List (List Int)×Unit->bn}{z:bn->Bool}{E:bn->bn}(G:Y11 p1 f1)(S:Y10 p0 f0)(C:Y21 p2 f2)(M:∀a b:List Int,a.length<=100000000->b.length<=100000000->x ([a,b],())=true/\F ([a,b],())=(a++b,()))(R:∀a:List Int,a.length<=8->z (a,())=true/\E (a,())=(oD a,()))(a b:List au)(T:Sh a)(L:Sh b):ahW.F (p1,f1,p0,f0,p2,f2,x,F,z,E,()) (a,b,()) (λy=>y=((qB a b).1,(qB a b).2,())):=by
 dsimp only [ahW,gm];simp (disch:=omega) only [RR,G a T,G b L,aF,gK];unfold qB;refine⟨λh=> ?_,λ⟨r,l⟩=> ?_⟩
 .rw [dY];rw [Bool.and_eq_true,aF,aF];rintro⟨s,p⟩;rcases h with h | h
  .exact h s
  .exact h p
 have l1:=r.len;have l2:=l.len;rw [eB (by rw [aJ r,aJ l];rfl)];have P:∀i j:Int,0<=i->i<a.length->0<=j->j<b.length->mOk ((a).getD (i).toNat default)/\mOk ((b).getD (j).toNat default):=λi j Q K J U=>⟨r.at (bV Q K),l.at (bV J U)⟩
 refine ay (λ(y:List au×Int×aCo)=>y.1=a/\y.2.1=a.length/\0<=y.2.2.1/\y.2.2.1<=a.length/\y.2.2.2.1=b/\y.2.2.2.2.1=prods (a.take y.2.2.1.toNat) b/\y.2.2.2.2.1.length<=12*y.2.2.1/\Sh y.2.2.2.2.1/\Cb y.2.2.2.2.1) (λy=>(a.length-y.2.2.1).toNat)
  ⟨rfl,rfl,by simp,by simp,rfl,rfl,by simp,⟨by simp,λm hm=>absurd hm (by simp)⟩,λm hm=>absurd hm (by simp)⟩ ?_
 rintro⟨(k:List au),(n:Int),(i:Int),(e:List au),(o:List au),⟨⟩⟩ hI;dsimp only at hI ⊢;obtain⟨rfl,rfl,D,W,rfl,A,Y,q,t⟩:=hI;simp (disch:=omega) only [RR];refine⟨λu=>⟨ah,ah,?_⟩,λu=> ?_⟩
 .refine ay (λ(y:List au×Int×Int×List au×Int×Int×List au×List au×aCs)=>y.1=k/\y.2.1=k.length/\y.2.2.1=i/\y.2.2.2.1=e/\y.2.2.2.2.1=e.length/\0<=y.2.2.2.2.2.1/\y.2.2.2.2.2.1<=e.length/\y.2.2.2.2.2.2.1=e/\y.2.2.2.2.2.2.2.2.1=((k).getD (i).toNat default)
    /\y.2.2.2.2.2.2.2.1=o++(e.take y.2.2.2.2.2.1.toNat).map (mulM ((k).getD (i).toNat default))/\Sh y.2.2.2.2.2.2.2.1/\Cb y.2.2.2.2.2.2.2.1) (λy=>(e.length-y.2.2.2.2.2.1).toNat)
   ⟨rfl,rfl,rfl,rfl,rfl,by simp,by simp,rfl,rfl,by simp,q,t⟩ ?_
  rintro⟨(c:List au),(n:Int),(g:Int),(I:List au),(V:Int),(j:Int),(f:List au),(O:List au),(m:au),⟨⟩⟩ hI;dsimp only at hI ⊢;obtain⟨rfl,rfl,rfl,rfl,rfl,w,Z,rfl,rfl,k3,H,B⟩:=hI;have lo:(O.length:Int)<=12*g+j:=by
   rw [k3,eG,length_map];have:=length_take_le j.toNat f;omega
  by_cases v:j<f.length
  .obtain⟨m1,m2⟩:=P g j D u w v;have e1:=m1.le;have X:=m2.le;have N:(((c).getD (g).toNat default).atoms++((f).getD (j).toNat default).atoms).length<=8:=by rw [eG];omega
   have hm:=Qo (show 0<=((c).getD (g).toNat default).bD by have:=m1.1;omega) (by have:=m1.1;omega) (show 0<=((f).getD (j).toNat default).bD by have:=m2.1;omega) (by have:=m2.1;omega);simp (disch:=omega) only [RR,M ((c).getD (g).toNat default).atoms ((f).getD (j).toNat default).atoms ah ah,R _ N,S];refine⟨λ_=>⟨ah,ah,by simp only [fA,fE];omega,⟨ah,ah,?_,⟨?_,?_⟩,?_⟩,ah⟩,λh=>by omega⟩
   .rw [<-bA (d:=default) w v rfl,map_append,k3,append_assoc];rfl
   .rw [eG];simp only [fA,fE];omega
   .intro m hm;rw [mem_append,mem_singleton]at hm;rcases hm with hm | rfl
    .exact H.2 m hm
    .dsimp only;rw [NR];omega
   .intro m hm;rw [mem_append,mem_singleton]at hm;rcases hm with hm | rfl
    .exact B m hm
    .dsimp only;omega
  .simp (disch:=omega) only [RR];refine⟨λh=>absurd h v,λ_=>⟨⟨ah,ah,?_,ah,H,B⟩,ah⟩⟩;rw [<-bA (d:=default) D u rfl,J3,<-A,k3,take_of_length_le ah]
 .obtain⟨s,p⟩:=(C _ q t).2;refine⟨(C _ q t).1,?_⟩;rw [s,p,A,take_of_length_le ah]
noncomputable def jP (a:List au) (n:Int):List au:=if bp (aW a)&&inB n 0 65535 then(qB a (dV n)).2 else []
def aeB(n:Int):Sh (dV n):=by
 unfold dV;split
 .exact⟨by simp,λm hm=>by rw [mem_singleton]at hm;subst hm;simp⟩
 .exact⟨by simp,λm hm=>absurd hm (by simp)⟩
abbrev Y22(b:eu->Bool)(a:eu->kr):Prop:=∀n,b (n,())=true/\a (n,())=(dV n,())
abbrev Y23(d:wm->Bool)(c:wm->Bool×kr):Prop:=∀a b,Sh a->Sh b->d (a,b,())=true/\c (a,b,())=((qB a b).1,(qB a b).2,())
def ayk{p1 f1 p2 f2 p3 f3 p4 f4}(g:Y11 p1 f1)(j:Y22 p2 f2)(f:Y9 p3 f3)(d:Y23 p4 f4)(a:List au)(n:Int)(b:Sh a):ahX.F (p1,f1,p2,f2,p3,f3,p4,f4,()) (a,n,()) (λy=>y=(jP a n,())):=by
 dsimp only [ahX,gm];simp (disch:=omega) only [RR,g a b,j,f,d a _ b (aeB n)];unfold jP;refine⟨λh=> ?_,λ⟨k,i⟩=> ?_⟩
 .rw [dY];rw [Bool.and_eq_true];rintro⟨e,c⟩;rcases h with h | h
  .rw [e]at h;cases h
  .rw [c]at h;cases h
 .rw [k,i];rfl
end Go.TX.F
namespace Go.TX.F
open Go Go.AE Go.TX List
noncomputable def Gw (a:Int) (x y:List au):List au×Bool:=
 if(bP x).2&& (bP y).2 then(dV (wdo a (bP x).1 (bP y).1),true)
 else if ji x y=0/\a=4 then(x,true)
 else if ji x y=0 then([],true)
 else if(bP x).2 then
  (if a=4/\(bP x).1=0 then([],true)else if(a=4/\(bP x).1=65535)\/(a=5/\(bP x).1=0)then(y,true)else([],false))
 else if(bP y).2 then
  (if a=4/\(bP y).1=0 then([],true)else if(a=4/\(bP y).1=65535)\/(a=5/\(bP y).1=0)then(x,true)else([],false))
 else([],false)
noncomputable def ig (a:Int) (x y:List au):List au×Bool:=
 if a=1 then((qA x y).2,(qA x y).1)else if a=2 then((qA x (jP y 65535)).2,(qA x (jP y 65535)).1)else if a=3 then((qB x y).2,(qB x y).1)else Gw a x y
def aW.sh{l:List au}:aW l->Sh l:=λh=>⟨by have:=h.len;omega,λm hm=>by have:=(h.at hm).le;omega⟩
def anz(l:List au):Sh (su l).2:=by
 unfold su;by_cases h:aW (nf l)
 .rw [aJ h];exact h.sh
 .rw [aV h];exact⟨by simp,λm hm=>absurd hm (by simp)⟩
def rC:Sh []:=⟨by simp,λm hm=>absurd hm (by simp)⟩
def anA(a b:List au):Sh (qB a b).2:=by unfold qB;split;exact anz _;exact rC
def NS(a:List au)(n:Int):Sh (jP a n):=by unfold jP;split;exact anA _ _;exact rC
abbrev Y24(e:aCf->Bool)(d:aCf->eu):Prop:=∀c a b,e (c,a,b,())=true/\d (c,a,b,())=(wdo c a b,())
abbrev Y25(d:wm->Bool)(c:wm->Bool×kr):Prop:=∀a b,Sh a->Sh b->d (a,b,())=true/\c (a,b,())=((qA a b).1,(qA a b).2,())
abbrev Y26(c:List au×eu->Bool)(b:List au×eu->kr):Prop:=∀a n,Sh a->c (a,n,())=true/\b (a,n,())=(jP a n,())
abbrev Y27(c:kr->Bool)(b:kr->Int×lX):Prop:=∀a,Sh a->c (a,())=true/\b (a,())=((bP a).1,(bP a).2,())
def arN{p1 f1 p2 f2 p3 f3 p4 f4 p5 f5 p6 f6 p7 f7}(v:Y14 p1 f1)(t:Y22 p2 f2)(s:Y24 p3 f3)(k:Y25 p4 f4)(p:Y23 p5 f5)(q:Y26 p6 f6)(j:Y27 p7 f7)(b:Int)(x y:List au)(d:Sh x)(g:Sh y):aaf.F (p1,f1,p2,f2,p3,f3,p4,f4,p5,f5,p6,f6,p7,f7,()) (b,x,y,()) (λz=>z=((ig b x y).1,(ig b x y).2,())):=by
 dsimp only [aaf,gm];simp (disch:=omega) only [RR,v x y d,t,s,k x y d g,k x _ d (NS y 65535),p x y d g,q y _ g,j x d,j y g];unfold ig;refine⟨λh=>by rw [eB h],λh=>⟨λf=>by rw [dY h,eB f],λf=>⟨λi=>by rw [dY h,dY f,eB i],λi=> ?_⟩⟩⟩;rw [dY h,dY f,dY i];unfold Gw;generalize bP x=w;generalize bP y=o;obtain⟨n,l⟩:=w;obtain⟨m,r⟩:=o;dsimp only;by_cases e:ji x y=0<;>by_cases u:b=4<;>cases l<;>cases r<;>simp [e,u]
 .by_cases c:m=0<;>by_cases a:m=65535<;>simp [c,a]
 .by_cases c:n=0<;>by_cases a:n=65535<;>simp [c,a]
 .by_cases c:b=5<;>by_cases a:m=0<;>simp [c,a]
 .by_cases c:b=5<;>by_cases a:n=0<;>simp [c,a]
noncomputable def tDo (t:List Atom) (a:Int) (x y:List au):List Atom×List au:=
 if(ig a x y).2 then(t,(ig a x y).1)else
 if a≠2/\0<ji x y then(if(aU t ⟨4,a,y,x⟩).2<0 then([],[])else((aU t ⟨4,a,y,x⟩).1,fJ (aU t ⟨4,a,y,x⟩).2))
 else(if(aU t ⟨4,a,x,y⟩).2<0 then([],[])else((aU t ⟨4,a,x,y⟩).1,fJ (aU t ⟨4,a,x,y⟩).2))
noncomputable def tOk (t:List Atom) (a:Int) (x y:List au):Bool:=(ig a x y).2 || !decide ((if a≠2/\0<ji x y then(aU t ⟨4,a,y,x⟩).2 else(aU t ⟨4,a,x,y⟩).2)<0)
abbrev Y28(b:eu->Bool)(a:eu->kr):Prop:=∀n,b (n,())=true/\a (n,())=(fJ n,())
def ayl{p1 f1 p4 f4}{f:aCo->Bool}{j:aCo->List au×lX}{e:El->Bool}{k:El->List Atom×eu}(w:Y8 p1 f1)(q:∀b x y,Sh x->Sh y->f (b,x,y,())=true/\j (b,x,y,())=((ig b x y).1,(ig b x y).2,()))(i:∀t a,t.length<1000000000->ShA a->e (t,a,())=true/\k (t,a,())=((aU t a).1,(aU t a).2,()))(v:Y28 p4 f4)(t:List Atom)(b:Int)(x y:List au)(g:t.length<1000000000)(c:Sh x)(d:Sh y):ahY.F (p1,f1,f,j,e,k,p4,f4,()) (t,b,x,y,()) (λz=>z.1=(tDo t b x y).1/\z.2.1=(tDo t b x y).2/\z.2.2.1=tOk t b x y):=by
 have s:ShA ⟨4,b,x,y⟩:=⟨c,d⟩;have m:ShA ⟨4,b,y,x⟩:=⟨d,c⟩;dsimp only [ahY,gm];simp (disch:=omega) only [RR,w x y c,q b x y c d,i t _ g s,i t _ g m,v];unfold tDo tOk;refine⟨λh=>by rw [eB h,h];exact⟨rfl,rfl,rfl⟩,λh=> ?_⟩;rw [dY (by rw [h];simp),h,Bool.false_or];generalize aU t ⟨4,b,y,x⟩=l;generalize aU t ⟨4,b,x,y⟩=u;generalize ji x y=o;by_cases n:b=2<;>by_cases p:0<o<;>by_cases r:l.2<0<;>by_cases A:u.2<0<;>simp [n,p,r,A]
def anB:ShT []:=⟨by simp,λm hm=>absurd hm (by simp)⟩
abbrev Y29(c:r9->Bool)(b:r9->lX):Prop:=∀a,ShT a->c (a,())=true/\b (a,())=(bp (aI a),())
abbrev Y30(b:List Atom×aCo->Bool)(a:List Atom×aCo->List Atom×List au×lX):Prop:=∀(t:List Atom) op x y,t.length<1000000000->Sh x->Sh y->b (t,op,x,y,())=true/\(a (t,op,x,y,())).1=(tDo t op x y).1/\(a (t,op,x,y,())).2.1=(tDo t op x y).2/\(a (t,op,x,y,())).2.2.1=tOk t op x y
abbrev Y31(c:r9->Bool)(b:r9->r9):Prop:=∀a,ShT a->c (a,())=true/\b (a,())=(a,())
def arO{p1 f1}(a:Y9 p1 f1):aaO.F (p1,f1,()) () (λz=>z=(true,())):=by
 dsimp only [aaO,gm];simp (disch:=omega) only [RR,a];rfl
def lS{α:Type}{d:α}{a b:List α}(h:a.length=b.length)(c:All a.length (λi=>a.getD i.toNat d=b.getD i.toNat d)):a=b:=by
 refine ext_getElem h λi f e=> ?_
 have:=c i ah ah;dsimp only at this;rw [show(i:Int).toNat=i from rfl,getD_lt f,getD_lt e]at this;exact this
def arP(a b:List Int)(m:a.length<1000000000):aaH.F () (a,b,()) (λz=>z=(bp (a=b),())):=by
 dsimp only [aaH,gm];simp (disch:=omega) only [RR];refine⟨λh=> ?_,λh=> ?_⟩
 .rw [aV (λe=>h (by rw [e]))]
 have f:a.length=b.length:=by omega
 refine ay (λ(y:aCt)=>y.1=a/\y.2.1=b/\0<=y.2.2.1/\y.2.2.1<=a.length/\All y.2.2.1 (λi=>a.getD i.toNat default=b.getD i.toNat default)) (λy=>(a.length-y.2.2.1).toNat) ⟨rfl,rfl,by simp,by simp,All.zero⟩ ?_;rintro⟨(k:List Int),(n:List Int),(i:Int),⟨⟩⟩ hI;dsimp only at hI ⊢;obtain⟨rfl,rfl,l,j,d⟩:=hI;simp (disch:=omega) only [RR];refine⟨λg=>⟨ah,ah,ah,ah,λc=> ?_,λc=>⟨⟨ah,ah,d.snoc c⟩,ah⟩⟩,λg=> ?_⟩
 .rw [aV (λe=>c (by rw [e]))]
 .rw [aJ (lS f (d.le ah))]
abbrev Y32(d:zx->Bool)(c:zx->lX):Prop:=∀a b,a.length<1000000000->d (a,b,())=true/\c (a,b,())=(bp (a=b),())
variable{α:Type}{p:List au}{o:List au}
def ai0{a b:Int}:or2 a b=0↔a=0/\b=0:=by unfold or2;split<;>omega
def NT{a b:au}:Qj a b=0↔a=b:=by
 unfold Qj;rw [ai0,kM,kL];constructor
 .rintro⟨h1,h2⟩;cases a;cases b;simp_all
 .rintro rfl;exact⟨rfl,rfl⟩
def NU:∀ {a b:List au},a.length=b.length->EZ a b=0->a=b
 | [],[],_,_=>rfl | [],_::_,h,_=>by simp at h
 | _::_,[],h,_=>by simp at h
 | a::az,b::bs,hl,h=>by
  simp only [EZ]at h;split at h
  .exact absurd h (by assumption)
  .rename_i h1;rw [NT.1 (Classical.not_not.1 h1),NU (by simpa using hl) h]
def NV:∀a:List au,EZ a a=0
 | []=>rfl
 | a::az=>by simp only [EZ,NT.2 rfl];simp [NV az]
def iZ{a b:List au}:ji a b=0↔a=b:=by
 unfold ji;constructor
 .intro h;split at h
  .exact absurd h (by assumption)
  .rename_i h1;have:=kL.1 (Classical.not_not.1 h1);exact NU ah h
 .rintro rfl;rw [dY (by rw [kL.2 rfl];simp),NV]
def qM{a b:Atom}:xg a b=true↔a=b:=by
 unfold xg;rw [Bool.and_eq_true,Bool.and_eq_true,Bool.and_eq_true,decide_eq_true_eq,decide_eq_true_eq,decide_eq_true_eq,decide_eq_true_eq,iZ,iZ];constructor
 .rintro⟨⟨⟨h1,h2⟩,h3⟩,h4⟩;cases a;cases b;simp_all
 .rintro rfl;exact⟨⟨⟨rfl,rfl⟩,rfl⟩,rfl⟩
def qC{d:α}{l:List α}{G:α->Prop}:All l.length (λi=>G (l.getD i.toNat d))↔∀m∈l,G m:=by
 constructor
 .intro h m hm;obtain⟨i,a,rfl⟩:=getElem_of_mem hm;have:=h i ah ah;dsimp only at this;rw [show(i:Int).toNat=i from rfl,getD_lt a]at this;exact this
 .intro h i h1 h2;exact h _ (bV h1 h2)
def dw{n:Int}:bB p n↔∀m∈p,∀k∈m.atoms,k<n:=by
 unfold bB Qi;rw [qC (d:=default) (G:=λm:au=>All m.atoms.length (λi=>¬n<=m.atoms.getD i.toNat default))];refine forall_congr' λm=>forall_congr' λ_=> ?_
 rw [qC (d:=default) (G:=λk:Int=>¬n<=k)];exact forall_congr' λk=>forall_congr' λ_=>by omega
def dG{d:α}{R:α->α->Prop}(f:∀ {a b c},R a b->R b c->R a c){l:List α}:l.Pairwise R↔∀i:Int,0<i->i<l.length->R (l.getD (i-1).toNat d) (l.getD i.toNat d):=by
 rw [pairwise_iff_getElem];constructor
 .intro h i e h2;rw [getD_lt ah,getD_lt ah];exact h _ _ ah ah ah
 .intro h i j hi hj hij;obtain⟨n,rfl⟩:∃n,j=i+1+n:=⟨j-i-1,ah⟩
  clear hij
  induction n with
  | zero=>
   have:=h (i+1:Nat) ah ah;rw [show(((i+1:Nat):Int)-1).toNat=i by omega,show(((i+1:Nat):Int)).toNat=i+1 by omega,getD_lt hi,getD_lt ah]at this;exact this
  | succ n g=>
   have e:=g ah;have:=h (i+1+n+1:Nat) ah ah;rw [show(((i+1+n+1:Nat):Int)-1).toNat=i+1+n by omega,show(((i+1+n+1:Nat):Int)).toNat=i+1+n+1 by omega,getD_lt ah,getD_lt ah]at this;exact f e this
def Qp{l:List Int}:Srt l↔l.Pairwise (· <= ·):=by
 rw [dG (d:=default) (R:=λa b:Int=>a<=b) (λe c=>Int.le_trans e c)];unfold Srt;constructor
 .intro h i e c;have:=h (i-1) ah ah;dsimp only at this;rw [show i-1+1=i by omega]at this;exact this
 .intro h i e c;have:=h (i+1) ah ah;rw [show i+1-1=i by omega]at this;exact this
def eO{a b c:au}(e:lt a b)(d:lt b c):lt a c:=dS (le_of_lt e) d
def aok(l:List Int):Prop:=l.Pairwise (· <= ·)/\∀k∈l,0<=k/\k<=199
def jc:aW p↔Nf p/\p.length<=12/\∀m∈p,m.atoms.length<=4/\aok m.atoms:=by
 constructor
 .rintro⟨h1,h2,h3,h4⟩;have c:∀m∈p,mOk m:=qC (d:=default) (G:=mOk).1 (λi e a=>(h1 i e a).1);have f:∀m∈p,¬(0<m.atoms.length/\m.atoms.getD 0 default<0):=qC (d:=default) (G:=λm:au=>¬(0<m.atoms.length/\m.atoms.getD 0 default<0)).1 h4;refine⟨⟨(dG (d:=default) (R:=lt) eO).2 λi e a=>(h1 i ah a).2 e,λm hm=>(c m hm).1⟩,h2,λm hm=>⟨(c m hm).2.1,Qp.1 (c m hm).2.2,λk hk=>⟨?_,by have:=dw.1 h3 m hm k hk;omega⟩⟩⟩;have g:=Qp.1 (c m hm).2.2;have hn:=f m hm;cases ha:m.atoms with
  | nil=>rw [ha]at hk;exact absurd hk (by simp)
  | cons b l=>
   rw [ha]at hk g hn;simp at hn;rcases mem_cons.1 hk with rfl | hk
   .exact hn
   .have:=rel_of_pairwise_cons g hk;omega
 .rintro⟨h1,h2,h3⟩;refine⟨λi e a=>⟨⟨h1.co _ (bV e a),(h3 _ (bV e a)).1,Qp.2 (h3 _ (bV e a)).2.1⟩,λh=>(dG (d:=default) (R:=lt) eO).1 h1.ss i h a⟩,h2,dw.2 λm hm k hk=>by have:=((h3 m hm).2.2 k hk);omega,?_⟩;refine qC (d:=default) (G:=λm:au=>¬(0<m.atoms.length/\m.atoms.getD 0 default<0)).2 λm hm=> ?_
  rintro⟨e,a⟩;have:=(h3 m hm).2.2 _ (bV (i:=0) (d:=default) (xs:=m.atoms) ah ah);rw [show Int.toNat 0=0 from rfl]at this;omega
def ai1{l:List au}{k:List Int}(h:cf l k≠0):∃m∈l,m.atoms=k:=Classical.byContradiction λa=>h (iF λm hm e=>a ⟨m,hm,e⟩)
def Nf.cf(h:Nf o){m:au}(hm:m∈o):cf o m.atoms=m.bD:=by
 induction o with
 | nil=>exact absurd hm (by simp)
 | cons a o c=>
  rw [bE];rcases mem_cons.1 hm with rfl | hm
  .rw [eB rfl,iF (λd b=>((rel_of_pairwise_cons h.ss b).ne).symm)];omega
  .rw [dY (rel_of_pairwise_cons h.ss hm).ne,c ⟨h.ss.tail,λm hm=>h.co m (by simp [hm])⟩ hm];omega
def Nf.from{o l:List au}(h:Nf o)(h2:∀k,F.cf o k=F.cf l k%65536){m:au}(hm:m∈o):∃a∈l,a.atoms=m.atoms:=by
 refine ai1 λe=> ?_
 have:=h2 m.atoms;rw [h.cf hm,e]at this;have:=h.co m hm;omega
def Nf.bnd(h:Nf o)(k:List Int):0<=F.cf o k/\F.cf o k<=65535:=by
 by_cases e:F.cf o k=0
 .omega
 .obtain⟨m,hm,rfl⟩:=ai1 e;rw [h.cf hm];have:=h.co m hm;omega
def anC{l o:List au}(h:Nf o)(a:∀k,F.cf o k=F.cf l k%65536)(f:∀m∈l,aok m.atoms):
  su l=(decide (o.length<=12/\∀m∈o,m.atoms.length<=4),if o.length<=12/\∀m∈o,m.atoms.length<=4 then o else []):=by
 unfold su;rw [Tt h a];by_cases c:o.length<=12/\∀m∈o,m.atoms.length<=4
 .have:aW o:=jc.2 ⟨h,c.1,λm hm=>⟨c.2 m hm,by obtain⟨e,d,b⟩:=h.from a hm;rw [<-b];exact f e d⟩⟩;rw [aJ this,decide_eq_true c,eB rfl,eB c]
 .have:¬aW o:=λg=>c ⟨(jc.1 g).2.1,λm hm=>((jc.1 g).2.2 m hm).1⟩
  rw [aV this,decide_eq_false c,dY (by simp),dY c]
end Go.TX.F
namespace Go.TX.F
open Go Go.AE Go.TX List
def arQ(a b c:Int):Wq.F () (a,b,c,()) (λy=>y=(inB a b c,())):=by
 dsimp only [Wq,gm];simp (disch:=omega) only [RR];rfl
def arR(a:Int):Wn.F () (a,()) (λy=>y=(inB a 0 65535,())):=by
 dsimp only [Wn,gm];simp (disch:=omega) only [RR];refine congrArg (λb=>(b,())) ?_;rw [Bool.eq_iff_iff,bF,Bool.and_eq_true,decide_eq_true_eq,decide_eq_true_eq];omega
def arS{p1 f1}(b:Y1 p1 f1)(a:Int):
  Xj.F (p1,f1,()) (a,()) (λy=>y=(dV a,())):=by
 dsimp only [Xj,gm];simp (disch:=omega) only [RR,b,bF,jJ];unfold dV;exact⟨λh=>by rw [dY ah],λh=>by rw [eB ah]⟩
def arT{p1 f1}(b:Y1 p1 f1)(a:Int):
  WS.F (p1,f1,()) (a,()) (λy=>y=(fJ a,())):=by
 dsimp only [WS,gm];simp (disch:=omega) only [RR,b,bF,jJ];unfold fJ;exact⟨λh=>by rw [dY ah],λh=>by rw [eB ah]⟩
def ai2(a:Int):a.tmod 65536=if 0<=a then a%65536 else- (-a%65536):=by
 split
 .rw [Int.tmod_eq_emod_of_nonneg ah]
 .have:=Int.neg_tmod (-a) 65536;rw [Int.neg_neg]at this;rw [this,Int.tmod_eq_emod_of_nonneg ah]
def arU(a:Int):Xk.F () (a,()) (λy=>y=(a%65536,())):=by
 dsimp only [Xk,gm];simp only [aiV];by_cases h:0<=a
 .rw [show a.tmod 65536=a%65536 by rw [ai2,eB h]];simp (disch:=omega) only [RR];refine⟨ah,λb=> ?_⟩;exfalso;omega
 .rw [show a.tmod 65536= - (-a%65536) by rw [ai2,dY h]];simp (disch:=omega) only [RR];refine⟨ah,λb=> ?_,λb=> ?_⟩
  .rw [show-(-a%65536)+65536=a%65536 by omega]
  .rw [show-(-a%65536)=a%65536 by omega]
def arV(a b:List Int)(p:a.length<1000000000):WU.F () (a,b,()) (λy=>y=(dZ a b,())):=by
 dsimp only [WU,gm];simp (disch:=omega) only [RR];refine⟨λh=>⟨λf=> ?_,λf=> ?_⟩,λh=> ?_⟩
 .rw [show dZ a b= -1 by(have e:jh a.length b.length= -1:=by unfold jh;rw [eB f]);unfold dZ or2;rw [e];rfl]
 .rw [show dZ a b=1 by(have e:jh a.length b.length=1:=by unfold jh;rw [dY f,eB ah]);unfold dZ or2;rw [e];rfl]
 have n:a.length=b.length:=by omega
 have l:dZ a b=nN a b:=by unfold dZ or2;rw [kL.2 ah,dY (by simp)]
 refine ay (λ(y:aCt)=>y.1=a/\y.2.1=b/\0<=y.2.2.1/\y.2.2.1<=a.length/\dZ a b=nN (a.drop y.2.2.1.toNat) (b.drop y.2.2.1.toNat)) (λy=>(a.length-y.2.2.1).toNat) ⟨rfl,rfl,by simp,by simp,by simpa using l⟩ ?_;rintro⟨(c:List Int),(d:List Int),(i:Int),⟨⟩⟩ hI;dsimp only at hI ⊢;obtain⟨rfl,rfl,f,o,j⟩:=hI;simp (disch:=omega) only [RR];refine⟨λm=> ?_,λm=> ?_⟩
 .have e:=EU c d i.toNat ah ah;rw [getD_lt ah,getD_lt ah];refine⟨ah,ah,ah,ah,λg=> ?_,λg=>⟨ah,ah,ah,ah,λk=> ?_,λk=>⟨⟨ah,ah,?_⟩,ah⟩⟩⟩
  .rw [j,e,show jh c[i.toNat] d[i.toNat]= -1 by unfold jh;rw [eB g]];rfl
  .rw [j,e,show jh c[i.toNat] d[i.toNat]=1 by unfold jh;rw [dY g,eB k]];rfl
  .rw [j,e,show jh c[i.toNat] d[i.toNat]=0 by unfold jh;rw [dY g,dY k],show(i+1).toNat=i.toNat+1 by omega];rfl
 .rw [j,drop_eq_nil_of_le ah,drop_eq_nil_of_le ah];rfl
def arW{p1 f1}(r:Y1 p1 f1)(m:au)(hm:m.atoms.length<1000000000):
  WW.F (p1,f1,()) (m,()) (λy=>y=(bp ((1<=m.bD/\m.bD<=65535)/\m.atoms.length<=4/\aok m.atoms),())):=by
 dsimp only [WW,gm];simp (disch:=omega) only [RR,r,bF,jJ];refine⟨λh=> ?_,λ⟨g,f⟩=> ?_⟩
 .rw [aV];rintro⟨v,t,s⟩;omega
 refine ay (λ(y:Int×aCs)=>y.2.1=m/\0<=y.1/\y.1<=m.atoms.length/\All y.1 (λi=>(0<=m.atoms.getD i.toNat default/\m.atoms.getD i.toNat default<=199)/\(0<i->m.atoms.getD (i-1).toNat default<=m.atoms.getD i.toNat default))) (λy=>(m.atoms.length-y.1).toNat) ⟨rfl,by simp,by simp,All.zero⟩ ?_;rintro⟨(i:Int),(x:au),⟨⟩⟩ hI;dsimp only at hI ⊢;obtain⟨rfl,w,z,q⟩:=hI;simp (disch:=omega) only [RR,r,bF,jJ];refine⟨λo=>⟨ah,ah,by by_cases c:0<i;(· right;omega);(· left;simp [c]),by by_cases c:0<i;(· right;omega);(· left;simp [c]),ah,ah,λe=> ?_,λe=>⟨⟨ah,ah,q.snoc ⟨e.1,λc=> ?_⟩⟩,ah⟩⟩,λo=> ?_⟩
 .rw [aV];rintro⟨v,t,s,u⟩;rcases e with e | ⟨e,n⟩
  .exact e (u _ (bV w o))
  .have:=(dG (d:=default) (R:=λa b:Int=>a<=b) (λg f=>Int.le_trans g f)).1 s i e o;omega
 .have:=e.2;rw [decide_eq_true c,Bool.true_and,decide_eq_false_iff_not]at this;omega
 .have n:=q.le (by omega:(x.atoms.length:Int)<=i);rw [aJ];refine⟨ah,ah,(dG (d:=default) (R:=λa b:Int=>a<=b) (λg f=>Int.le_trans g f)).2 λj l p=>(n j ah p).2 l,qC (d:=default) (G:=λk:Int=>0<=k/\k<=199).1 λj l p=>(n j l p).1⟩
def arX{p4 f4}{q:aCs->Bool}{n:aCs->lX}(v:∀m:au,m.atoms.length<1000000000->q (m,())=true/\n (m,())=(bp ((1<=m.bD/\m.bD<=65535)/\m.atoms.length<=4/\aok m.atoms),()))(u:Y7 p4 f4)(a:List au)(g:Sh a):WX.F (q,n,p4,f4,()) (a,()) (λy=>y=(bp (aW a),())):=by
 have p:=g.1;dsimp only [WX,gm];simp (disch:=omega) only [RR];refine⟨λh=> ?_,λh=> ?_⟩
 .rw [aV (λl=>by have:=l.len;omega)]
 refine ay (λ(y:Int×kr)=>y.2.1=a/\0<=y.1/\y.1<=a.length/\All y.1 (λi=>((1<=((a).getD (i).toNat default).bD/\((a).getD (i).toNat default).bD<=65535)/\((a).getD (i).toNat default).atoms.length<=4/\aok ((a).getD (i).toNat default).atoms)/\(0<i->lt ((a).getD (i-1).toNat default) ((a).getD (i).toNat default)))) (λy=>(a.length-y.1).toNat) ⟨rfl,by simp,by simp,All.zero⟩ ?_;rintro⟨(i:Int),(w:List au),⟨⟩⟩ hI;dsimp only at hI ⊢;obtain⟨rfl,o,l,s⟩:=hI;simp (disch:=omega) only [RR,v _ (g.at _),u _ _ (g.at _),aF,gK];refine⟨λe=>⟨ah,ah,by by_cases c:0<i;(· right;omega);(· left;simp [c]),by by_cases c:0<i;(· right;omega);(· left;simp [c]),ah,ah,λb=> ?_,λb=>⟨⟨ah,ah,s.snoc ⟨b.1,λc=> ?_⟩⟩,ah⟩⟩,λe=> ?_⟩
 .rw [aV (λh=> ?_)];obtain⟨r,z,x⟩:=jc.1 h;rcases b with b | ⟨b,A⟩
  .exact b ⟨r.co _ (bV o e),x _ (bV o e)⟩
  .have:=(dG (d:=default) (R:=lt) eO).1 r.ss i b e;unfold lt at this;omega
 .have:=b.2;rw [decide_eq_true c,Bool.true_and,decide_eq_false_iff_not]at this;unfold lt;omega
 .have h8:=s.le (by omega:(w.length:Int)<=i);rw [aJ];have t:=qC (d:=default) (G:=λm:au=>(1<=m.bD/\m.bD<=65535)/\m.atoms.length<=4/\aok m.atoms).1 λj f k=>(h8 j f k).1
  exact jc.2 ⟨⟨(dG (d:=default) (R:=lt) eO).2 λj f k=>(h8 j ah k).2 f,λm hm=>(t m hm).1⟩,ah,λm hm=>(t m hm).2⟩
def arY(a:List au)(n:Int)(k:Sh a):WZ.F () (a,n,()) (λy=>y=(bp (bB a n),())):=by
 have e:=k.1;dsimp only [WZ,gm];simp (disch:=omega) only [RR];refine ay (λ(y:ny)=>y.1=n/\y.2.2.1=a/\0<=y.2.1/\y.2.1<=a.length/\All y.2.1 (λi=>Qi n ((a).getD (i).toNat default))) (λy=>(a.length-y.2.1).toNat) ⟨rfl,rfl,by simp,by simp,All.zero⟩ ?_;rintro⟨(b:Int),(i:Int),(l:List au),⟨⟩⟩ hI;dsimp only at hI ⊢;obtain⟨rfl,rfl,p,s,g⟩:=hI;simp (disch:=omega) only [RR];refine⟨λd=> ?_,λd=> ?_⟩
 .have h5:=k.at i.toNat;refine ay (λ(y:aBV)=>y.1=b/\y.2.1=i/\y.2.2.2.1=l/\0<=y.2.2.1/\y.2.2.1<=((l).getD (i).toNat default).atoms.length/\All y.2.2.1 (λj=>¬b<=((l).getD (i).toNat default).atoms.getD j.toNat default)) (λy=>(((l).getD (i).toNat default).atoms.length-y.2.2.1).toNat) ⟨rfl,rfl,rfl,by simp,by simp,All.zero⟩ ?_;rintro⟨(o:Int),(r:Int),(j:Int),(u:List au),⟨⟩⟩ hI;dsimp only at hI ⊢;obtain⟨rfl,rfl,rfl,q,t,m⟩:=hI;simp (disch:=omega) only [RR];refine⟨ah,ah,λf=>⟨ah,ah,ah,ah,λc=> ?_,λc=>⟨⟨ah,ah,m.snoc c⟩,ah⟩⟩,λf=>⟨⟨ah,ah,g.snoc (m.le ah)⟩,ah⟩⟩;rw [aV (λh=>h r p d j q f c)]
 .rw [aJ (show bB l b from g.le ah)]
theorem arZ{p4 f4}(r:Y7 p4 f4)(a b:List au)(n:Sh a):Xb.F (p4,f4,()) (a,b,()) (λy=>y=(ji a b,())):=by
 have k:=n.1;dsimp only [Xb,gm];simp (disch:=omega) only [RR];refine⟨λh=>⟨λg=> ?_,λg=> ?_⟩,λh=> ?_⟩
 .rw [show ji a b= -1 by(have e:jh a.length b.length= -1:=by unfold jh;rw [eB g]);unfold ji;rw [e];rfl]
 .rw [show ji a b=1 by(have e:jh a.length b.length=1:=by unfold jh;rw [dY g,eB ah]);unfold ji;rw [e];rfl]
 have t:a.length=b.length:=by omega
 have p:ji a b=EZ a b:=by unfold ji;rw [kL.2 ah,dY (by simp)]
 refine ay (λ(y:aCo)=>y.2.1=a/\y.2.2.1=b/\0<=y.1/\y.1<=a.length/\ji a b=EZ (a.drop y.1.toNat) (b.drop y.1.toNat)) (λy=>(a.length-y.1).toNat) ⟨rfl,rfl,by simp,by simp,by simpa using p⟩ ?_;rintro⟨(i:Int),(l:List au),(o:List au),⟨⟩⟩ hI;dsimp only at hI ⊢;obtain⟨rfl,rfl,g,s,f⟩:=hI;simp (disch:=omega) only [RR,r _ _ (n.at _)];refine⟨λq=> ?_,λq=> ?_⟩
 .have e:=E5 l o i.toNat ah ah;rw [getD_lt ah,getD_lt ah];generalize w:l[i.toNat]=u at e ⊢;generalize x:o[i.toNat]=v at e ⊢;have c:Qj u v=if dZ u.atoms v.atoms≠0 then dZ u.atoms v.atoms else jh u.bD v.bD:=rfl
  refine⟨ah,ah,ah,ah,λd=> ?_,λd=>⟨ah,ah,ah,ah,λm=>⟨ah,ah,ah,ah,λj=> ?_,λj=> ?_⟩,λm=>⟨⟨ah,ah,?_⟩,ah⟩⟩⟩
  .rw [eB d]at c;rw [f,e,c,eB d]
  .rw [dY (by simpa using d),show jh u.bD v.bD= -1 by unfold jh;rw [eB j]]at c;rw [f,e,c];rfl
  .rw [dY (by simpa using d),show jh u.bD v.bD=1 by unfold jh;rw [dY j,eB ah]]at c;rw [f,e,c];rfl
  .rw [dY (by simpa using d),kL.2 m]at c;rw [f,e,c,show(i+1).toNat=i.toNat+1 by omega];rfl
 .rw [f,drop_eq_nil_of_le ah];rfl
def ar0(a:Atom):WY.F () (a,()) (λy=>y=(bp (a.x=[]/\a.y=[]),())):=by
 dsimp only [WY,gm];simp (disch:=omega) only [RR];refine congrArg (λb=>(b,())) ?_;rw [Bool.eq_iff_iff,aF,Bool.and_eq_true,decide_eq_true_eq,decide_eq_true_eq];constructor
 .rintro⟨h1,h2⟩;exact⟨eq_nil_of_length_eq_zero ah,eq_nil_of_length_eq_zero ah⟩
 .rintro⟨h1,h2⟩;rw [h1,h2];exact⟨rfl,rfl⟩
def ar1{p1 f1 p4 f4 p3 f3}{e:aCb->Bool}{k:aCb->lX}(q:Y1 p1 f1)(m:Y11 p4 f4)(i:Y6 p3 f3)(p:∀a,e (a,())=true/\k (a,())=(bp (a.x=[]/\a.y=[]),()))(a:Atom)(n:Int)(r:ShA a):
  Xa.F (p1,f1,p4,f4,p3,f3,e,k,()) (a,n,()) (λy=>y=(bp (jk a n),())):=by
 obtain⟨l,j⟩:=r;dsimp only [Xa,gm];simp (disch:=omega) only [RR,q,p,i a.x n l,i a.y n j,m a.x l,m a.y j];unfold jk;have E:∀(b:Bool) (P:Prop),(b=true↔P)->(b,())=(bp P,()):=λb P h=>by
  rw [show b=bp P from Bool.eq_iff_iff.2 (h.trans aF.symm)]
 have T:∀ {P:Prop},¬P->(false,())=(bp P,()):=λh=>by rw [aV h]
 refine⟨λh=>E _ _ ?_,λh=>⟨λc=>⟨λ_=>E _ _ ?_,λo=>absurd c o⟩,λc=>⟨λf=>E _ _ ?_,λf=>⟨λd=>E _ _ ?_,λd=>T ?_⟩⟩⟩⟩
 .rw [dY ah,Bool.and_eq_true,bF,aF];constructor
  .rintro⟨g1,g2⟩;exact⟨g2,Or.inl ⟨h,g1⟩⟩
  .rintro⟨g2,⟨_,g1⟩ | ⟨g3,g1⟩⟩
   .exact⟨g1,g2⟩
   .omega
 .rw [dY ah,Bool.and_eq_true,bF,aF];constructor
  .rintro⟨g1,g2⟩;exact⟨g2,Or.inr ⟨Or.inl c,g1⟩⟩
  .rintro⟨g2,⟨_,g1⟩ | ⟨g3,g1⟩⟩
   .omega
   .exact⟨g1,g2⟩
 .rw [dY ah,Bool.and_eq_true,bF,aF];constructor
  .rintro⟨g1,g2⟩;exact⟨g2,Or.inr ⟨Or.inr f,g1⟩⟩
  .rintro⟨g2,⟨_,g1⟩ | ⟨g3,g1⟩⟩
   .omega
   .exact⟨g1,g2⟩
 .rw [eB d];simp only [Bool.and_eq_true,bF,aF,and_assoc]
 .rw [dY d];rintro⟨_,⟨g,_⟩ | ⟨g,_⟩⟩<;>omega
def ar2{p1 f1}(c:Y8 p1 f1)(a b:Atom)(d:ShA a):
  Xc.F (p1,f1,()) (a,b,()) (λy=>y=(xg a b,())):=by
 dsimp only [Xc,gm];simp (disch:=omega) only [RR,c a.x b.x d.1,c a.y b.y d.2];rfl
def ai3(G:Int->Prop):∀n:Nat,∃r,Idx n G r
 | 0=>⟨-1,Or.inl ⟨rfl,All.zero⟩⟩
 | n+1=>by
  obtain⟨r,h⟩:=ai3 G n;rcases h with⟨b,a⟩ | ⟨b,a,d,c⟩
  .by_cases g:G n
   .exact⟨n,Or.inr ⟨ah,ah,g,a⟩⟩
   .exact⟨-1,Or.inl ⟨rfl,by have:=a.snoc g;exact this.le ah⟩⟩
  .exact⟨r,Or.inr ⟨b,ah,d,c⟩⟩
def aaT(G:Int->Prop)(n:Nat):Idx n G (idxOf n G):=by
 obtain⟨r,h⟩:=ai3 G n;rw [<-h.eq];exact h
def iN(t:List Atom)(a:Atom):Idx t.length (λi=>a=t.getD i.toNat default) (pE t a):=by
 have:=aaT (λi=>xg a (t.getD i.toNat default)=true) t.length;simp only [qM]at this;unfold pE;simp only [qM];exact this
def qN{t:List Atom}:aI t↔All t.length (λi=>jk (t.getD i.toNat default) i/\All i (λj=>¬t.getD i.toNat default=t.getD j.toNat default))/\t.length<=200:=by
 unfold aI;refine and_congr ⟨λh i b a=>⟨(h i b a).1,?_⟩,λh i b a=>⟨(h i b a).1,?_⟩⟩ Iff.rfl
 .have:=iN t (t.getD i.toNat default);rw [(h i b a).2]at this;rcases this with⟨c,_⟩ | ⟨_,_,_,g⟩
  .omega
  .exact g
 .exact((iN t (t.getD i.toNat default)).uniq (Or.inr ⟨b,a,rfl,(h i b a).2⟩))
def ar3{p1 f1 p2 f2}(s:Y18 p1 f1)(r:Y15 p2 f2)(a:List Atom)(f:ShT a):
  Xd.F (p1,f1,p2,f2,()) (a,()) (λy=>y=(bp (aI a),())):=by
 have m:=f.1;dsimp only [Xd,gm];simp (disch:=omega) only [RR];refine⟨λh=> ?_,λh=> ?_⟩
 .rw [aV (λg=>by have:=g.2;omega)]
 refine ay (λ(y:Int×r9)=>y.2.1=a/\0<=y.1/\y.1<=a.length/\All y.1 (λi=>jk ((a).getD (i).toNat default) i/\All i (λj=>¬((a).getD (i).toNat default)=((a).getD (j).toNat default)))) (λy=>(a.length-y.1).toNat) ⟨rfl,by simp,by simp,All.zero⟩ ?_;rintro⟨(i:Int),(l:List Atom),⟨⟩⟩ hI;dsimp only at hI ⊢;obtain⟨rfl,k,g,o⟩:=hI;simp (disch:=omega) only [RR,s _ _ (f.at _),aF,gK];refine⟨λc=>⟨ah,ah,λd=> ?_,λd=> ?_⟩,λc=> ?_⟩
 .rw [aV (λh=>d (h.1 i k c).1)]
 .refine ay (λ(y:Int×Int×r9)=>y.1=i/\y.2.2.1=l/\0<=y.2.1/\y.2.1<=i/\All y.2.1 (λj=>¬((l).getD (i).toNat default)=((l).getD (j).toNat default))) (λy=>(i-y.2.1).toNat) ⟨rfl,rfl,by simp,by simp;omega,All.zero⟩ ?_;rintro⟨(t:Int),(j:Int),(v:List Atom),⟨⟩⟩ hI;dsimp only at hI ⊢;obtain⟨rfl,rfl,q,u,p⟩:=hI;simp (disch:=omega) only [RR,r _ _ (f.at _)];refine⟨λn=>⟨ah,ah,ah,ah,λb=> ?_,λb=>⟨⟨ah,ah,p.snoc ?_⟩,ah⟩⟩,λn=>⟨⟨ah,ah,o.snoc ⟨d,p.le ah⟩⟩,ah⟩⟩
  .rw [aV (λh=>((qN.1 h).1 t k c).2 j q n (qM.1 b).symm)]
  .intro e;rw [qM.2 e.symm]at b;cases b
 .rw [aJ (qN.2 ⟨o.le ah,ah⟩)]
def ar4{p1 f1 p2 f2}(g:Y9 p1 f1)(i:Y10 p2 f2)(d a b:Int):
  Xu.F (p2,f2,p1,f1,()) (d,a,b,()) (λy=>y=(wdo d a b,())):=by
 dsimp only [Xu,gm];simp (disch:=omega) only [RR,g,i,Qk,aaS,bF,jJ];by_cases c:(0<=a/\a<=65535)/\(0<=b/\b<=65535)
 .have hm:0<=a*b/\a*b<=65535*65535:=⟨Int.mul_nonneg c.1.1 c.2.1,Int.mul_le_mul c.1.2 c.2.2 c.2.1 ah⟩;rw [w64 (x:=a+b) ah ah,w64 (x:=a-b) ah ah,w64 (x:=a*b) ah ah];unfold wdo;rw [eB c];refine⟨λh=>absurd h ah,λ_=>⟨λh=> ?_,λh=>⟨λj=> ?_,λj=>⟨λe=> ?_,λe=>⟨λk=> ?_,λk=>⟨λf=> ?_,λf=> ?_⟩⟩⟩⟩⟩⟩<;>(subst_vars;first | rfl | simp only [if_true,if_false, *])
 .refine⟨λh=> ?_,λh=>absurd h ?_⟩
  .unfold wdo;rw [dY c]
  .exact c
theorem ar5{p1 f1}(b:Y11 p1 f1)(a:List au)(d:Sh a):
  Xv.F (p1,f1,()) (a,()) (λy=>y=((bP a).1,(bP a).2,())):=by
 dsimp only [Xv,gm];simp (disch:=omega) only [RR,b a d];unfold bP;have z:Int.toNat 0=0:=rfl;rw [z];refine⟨λh=> ?_,λh=>⟨λe=> ?_,λe=>⟨ah,ah,λc=> ?_,λc=>⟨ah,ah,?_⟩⟩⟩⟩
 .rw [dY (by simpa using h)]
 .rw [eB h,eB ah]
 .rw [eB h,dY ah,dY ah]
 .rw [eB h,dY ah,eB ah]
def ar6(a:List au)(c:Sh a):Xe.F () (a,()) (λy=>y=(a,())):=by
 have d:=c.1;dsimp only [Xe,gm];simp (disch:=omega) only [RR];refine ay (λ(y:List au×Int×kr)=>y.1=a/\y.2.2.1=a.take y.2.1.toNat/\0<=y.2.1/\y.2.1<=a.length) (λy=>(a.length-y.2.1).toNat) ⟨rfl,by simp,by simp,by simp⟩ ?_;rintro⟨(l:List au),(i:Int),(o:List au),⟨⟩⟩ hI;dsimp only at hI ⊢;obtain⟨rfl,rfl,e,f⟩:=hI;have g:=c.at i.toNat;have b:=length_take_le' i.toNat l;simp (disch:=omega) only [RR];simp only [fE,nil_append,fA];refine⟨λb=>⟨ah,ah,ah,ah,Or.inr ah,ah,ah,⟨bA e b rfl,ah,ah⟩,ah⟩,λb=>by rw [take_of_length_le ah]⟩
def Qq(l:List au):Prop:=l.length<=12/\∀m∈l,m.atoms.length<=4
def ar7{p1 f1}(j:Y13 p1 f1)(a:List au)(e:Sh a):
  Xm.F (p1,f1,()) (a,()) (λy=>y=(bp (Qq a),if bp (Qq a)then a else [],())):=by
 have g:=e.1;dsimp only [Xm,gm];simp (disch:=omega) only [RR];refine⟨λh=> ?_,λh=> ?_⟩
 .rw [aV (λb=>by have:=b.1;omega)];rfl
 refine ay (λ(y:List au×eu)=>y.1=a/\0<=y.2.1/\y.2.1<=a.length/\All y.2.1 (λi=>((a).getD (i).toNat default).atoms.length<=4)) (λy=>(a.length-y.2.1).toNat) ⟨rfl,by simp,by simp,All.zero⟩ ?_;rintro⟨(l:List au),(i:Int),⟨⟩⟩ hI;dsimp only at hI ⊢;obtain⟨rfl,k,b,f⟩:=hI;simp (disch:=omega) only [RR,j l e];refine⟨λc=>⟨ah,ah,λn=> ?_,λn=>⟨⟨ah,ah,f.snoc ah⟩,ah⟩⟩,λc=> ?_⟩
 .rw [aV (λh=>by have:=h.2 _ (bV (d:=default) k c);omega)];rfl
 .rw [aJ (show Qq l from⟨ah,qC (d:=default) (G:=λm:au=>m.atoms.length<=4).1 (f.le ah)⟩)];rfl
def ar8{p1 f1}(b:Y13 p1 f1)(a:Atom)(c:ShA a):
  Xf.F (p1,f1,()) (a,()) (λy=>y=(a.kind,a.k,a.x,a.y,())):=by
 dsimp only [Xf,gm];simp (disch:=omega) only [RR,b a.x c.1,b a.y c.2]
abbrev Y34(c:aCb->Bool)(b:aCb->Int×aCo):Prop:=∀a,ShA a->c (a,())=true/\b (a,())=(a.kind,a.k,a.x,a.y,())
def ar9{p1 f1}(e:Y34 p1 f1)(a:List Atom)(b:ShT a):
  Xg.F (p1,f1,()) (a,()) (λy=>y=(a,())):=by
 have d:=b.1;dsimp only [Xg,gm];simp (disch:=omega) only [RR];refine ay (λ(y:Int×List Atom×r9)=>y.2.1=a/\y.2.2.1=a.take y.1.toNat/\0<=y.1/\y.1<=a.length) (λy=>(a.length-y.1).toNat) ⟨rfl,by simp,by simp,by simp⟩ ?_;rintro⟨(i:Int),(l:List Atom),(o:List Atom),⟨⟩⟩ hI;dsimp only at hI ⊢;obtain⟨rfl,rfl,f,g⟩:=hI;simp (disch:=omega) only [RR,e _ (b.at _)];have h:=length_take_le' i.toNat l;refine⟨λc=>⟨ah,ah,?_,⟨bA f c rfl,ah,ah⟩,ah⟩,λc=>by rw [take_of_length_le ah]⟩;simp only [fA,fE];omega
def qO{p:List au}{n m:Int}(h:bB p n)(c:n<=m):bB p m:=dw.2 λa b k hk=>by have:=dw.1 h a b k hk;omega
def ai4{a:Atom}{n m:Int}(h:jk a n)(b:n<=m):jk a m:=by
 unfold jk at h ⊢;split
 .rename_i h3;rw [eB h3]at h;exact⟨h.1,h.2.1,h.2.2.1,qO h.2.2.2.1 b,qO h.2.2.2.2 b⟩
 .rename_i h3;rw [dY h3]at h;exact h
def asa{p1 f1 p2 f2 p3 f3}(v:Y18 p1 f1)(u:Y15 p2 f2)(s:Y34 p3 f3)(a:Atom)(t:List Atom)(p:ShA a)(j:ShT t)(f:aI t):Xh.F (p1,f1,p2,f2,p3,f3,()) (a,t,()) (λy=>y=((aU t a).2,(aU t a).1,())):=by
 have o:=j.1;dsimp only [Xh,gm];simp (disch:=omega) only [RR,v _ _ p,aF,gK];have b:=iN t a;refine⟨λh=> ?_,λh=> ?_⟩
 .have:pE t a= -1:=by
   rcases b with⟨g,_⟩ | ⟨r,q,w,_⟩
   .exact g
   .exfalso;apply h;have:=(f.1 _ r q).1;rw [<-w]at this;exact ai4 this ah
  unfold aU;rw [this,dY ah,eB (Or.inl h)]
 refine ay (λ(y:Int×El)=>y.2.1=t/\y.2.2.1=a/\0<=y.1/\y.1<=t.length/\All y.1 (λi=>¬a=t.getD i.toNat default)) (λy=>(t.length-y.1).toNat) ⟨rfl,rfl,by simp,by simp,All.zero⟩ ?_;rintro⟨(i:Int),(l:List Atom),(m:Atom),⟨⟩⟩ hI;dsimp only at hI ⊢;obtain⟨rfl,rfl,n,x,d⟩:=hI;simp (disch:=omega) only [RR,u _ _ (j.at _),s _ p];refine⟨λk=>⟨ah,ah,ah,ah,λc=> ?_,λc=>⟨⟨ah,ah,d.snoc ?_⟩,ah⟩⟩,λk=> ?_⟩
 .have e:=(qM.1 c).symm;have:pE l m=i:=b.uniq (Or.inr ⟨n,k,e,d⟩);unfold aU;rw [this,eB n]
 .intro e;rw [qM.2 e.symm]at c;cases c
 .have:pE l m= -1:=b.uniq (Or.inl ⟨rfl,d.le ah⟩);unfold aU;rw [this,dY ah];refine⟨λc=> ?_,λc=>⟨?_,?_⟩⟩
  .rw [eB (Or.inr ah)]
  .simp only [fA,fE];omega
  .rw [dY (by rintro(g | g);exact g h;omega),eG];rw [w64 (by simp only [fA,fE];omega) (by simp only [fA,fE];omega)];simp only [fA,fE];rw [show(((l.length+(0+1):Nat):Int)-1)=l.length by omega]
def Gf(a n:Int)(y:List au):List au×Bool:=if a=4/\n=0 then([],true)else if(a=4/\n=65535)\/(a=5/\n=0)then(y,true)else([],false)
def asb{p1 f1}(c:Y13 p1 f1)(a n:Int)(y:List au)(d:Sh y):
  Xw.F (p1,f1,()) (a,n,y,()) (λz=>z=((Gf a n y).2,(Gf a n y).1,())):=by
 dsimp only [Xw,gm];simp (disch:=omega) only [RR,c y d];unfold Gf;by_cases g:a=4<;>by_cases b:n=0<;>by_cases e:n=65535<;>by_cases f:a=5<;>simp [g,b,e,f]<;>omega
def anD(a:Int)(x y:List au):Gw a x y=if(bP x).2&& (bP y).2 then(dV (wdo a (bP x).1 (bP y).1),true)
  else if ji x y=0 then(if a=4 then(x,true)else([],true))else if(bP x).2 then Gf a (bP x).1 y else if(bP y).2 then Gf a (bP y).1 x else([],false):=by
 unfold Gw Gf;by_cases c:ji x y=0<;>by_cases b:a=4<;>simp [c,b]
def asc{p1 f1 p2 f2 p3 f3 p4 f4 p7 f7}{f:ny->Bool}{c:ny->Bool×kr}(r:Y8 p1 f1)(o:Y13 p2 f2)(l:Y24 p3 f3)(q:Y22 p4 f4)(d:Y27 p7 f7)(g:∀a n y,Sh y->f (a,n,y,())=true/\c (a,n,y,())=((Gf a n y).2,(Gf a n y).1,()))(a:Int)(x y:List au)(b:Sh x)(h:Sh y):Xx.F (p1,f1,p2,f2,p3,f3,p4,f4,p7,f7,f,c,()) (a,x,y,()) (λz=>z=((Gw a x y).2,(Gw a x y).1,())):=by
 dsimp only [Xx,gm];simp (disch:=omega) only [RR,r x y b,o x b,l,q,d x b,d y h,g a _ y h,g a _ x b];rw [anD];generalize bP x=s;generalize bP y=j;obtain⟨n,i⟩:=s;obtain⟨m,k⟩:=j;dsimp only;by_cases e:ji x y=0<;>by_cases p:a=4<;>cases i<;>cases k<;>simp [e,p]
noncomputable def J4 (a:Int) (x y:List au):List au×Bool:=
 if a=1 then((qA x y).2,(qA x y).1)else if a=2 then((qA x (jP y 65535)).2,(qA x (jP y 65535)).1)else if a=3 then((qB x y).2,(qB x y).1)else([],false)
def ase{p5 f5 p4 f4 p6 f6}(g:Y23 p5 f5)(f:Y25 p4 f4)(i:Y26 p6 f6)(b:Int)(x y:List au)(e:Sh x)(d:Sh y):Xt.F (p5,f5,p4,f4,p6,f6,()) (b,x,y,()) (λz=>z=((J4 b x y).2,(J4 b x y).1,())):=by
 dsimp only [Xt,gm];simp (disch:=omega) only [RR,f x y e d,f x _ e (NS y 65535),g x y e d,i y _ d];unfold J4;refine⟨λh=>by rw [eB h],λh=>⟨λa=>by rw [dY h,eB a],λa=>⟨λc=>by rw [dY h,dY a,eB c],λc=>by rw [dY h,dY a,dY c]⟩⟩⟩
abbrev Y35(c:Atom×r9->Bool)(b:Atom×r9->Int×r9):Prop:=∀a t,ShA a->ShT t->aI t->c (a,t,())=true/\b (a,t,())=((aU t a).2,(aU t a).1,())
def asf{p1 f1 p2 f2 p5 f5}{n:aCo->Bool}{w:aCo->Bool×kr}{q:aCo->Bool}{v:aCo->Bool×kr}(L:Y28 p1 f1)(H:Y8 p2 f2)(G:∀a x y,Sh x->Sh y->n (a,x,y,())=true/\w (a,x,y,())=((J4 a x y).2,(J4 a x y).1,()))(J:∀a x y,Sh x->Sh y->q (a,x,y,())=true/\v (a,x,y,())=((Gw a x y).2,(Gw a x y).1,()))(u:Y35 p5 f5)(a:Int)(x y:List au)(t:List Atom)(C:1<=a/\a<=5)(f:Sh x)(i:Sh y)(r:ShT t)(g:aI t):Xy.F (p1,f1,p2,f2,n,w,q,v,p5,f5,()) (a,x,y,t,()) (λz=>z=((tDo t a x y).1,(tDo t a x y).2,())):=by
 have I:ShA ⟨4,a,x,y⟩:=⟨f,i⟩;have E:ShA ⟨4,a,y,x⟩:=⟨i,f⟩;dsimp only [Xy,gm];simp (disch:=omega) only [RR,L,H x y f,G a x y f i,J a x y f i,u _ _ I r g,u _ _ E r g];have K:(a=4\/a=5)->Gw a x y=ig a x y:=λh=>by unfold ig;rw [dY ah,dY ah,dY ah]
 have F:¬(a=4\/a=5)->J4 a x y=ig a x y:=λh=>by
  unfold ig J4;by_cases e:a=1
  .rw [eB e,eB e]
  .rw [dY e,dY e];by_cases d:a=2
   .rw [eB d,eB d]
   .rw [dY d,dY d,eB ah,eB ah]
 unfold tDo;by_cases c:a=4\/a=5
 .rw [K c];generalize aU t ⟨4,a,y,x⟩=j;generalize aU t ⟨4,a,x,y⟩=l;generalize ji x y=o;generalize ig a x y=s;obtain⟨p,b⟩:=s;have B:¬a=2:=by omega
  cases b<;>by_cases d:0<o<;>by_cases k:j.2<0<;>by_cases m:l.2<0<;>simp [c,B,d,k,m]<;>omega
 .rw [F c];generalize aU t ⟨4,a,y,x⟩=j;generalize aU t ⟨4,a,x,y⟩=l;generalize ji x y=o;generalize ig a x y=s;obtain⟨p,b⟩:=s;obtain⟨D,A⟩:=not_or.1 c;cases b<;>by_cases e:a=2<;>by_cases d:0<o<;>by_cases k:j.2<0<;>by_cases m:l.2<0<;>simp [D,A,e,d,k,m]
structure Plus(l:List au)(m:au)(o:List au):Prop where
 nf:Nf o
 cf:∀k,cf o k=F.cf (l++ [m]) k%65536
 len:o.length<=l.length+1
def asg{p1 f1 p2 f2}(U1:Y7 p1 f1)(U2:Y10 p2 f2)(l:List au)(m:au)(hl:l.length<1000000000)(hn:Nf l)(hm:1<=m.bD/\m.bD<=65535)(M:m.atoms.length<1000000000):Xl.F (p1,f1,p2,f2,()) (l,m,()) (λy=>Plus l m y.1):=by
  dsimp only [Xl,gm]
  refine ay (λ(y:List au×Bool×Int×au×kr)=>y.1=l/\y.2.2.2.1=m/\0<=y.2.2.1/\y.2.2.1<=l.length/\
      ((y.2.1=false/\y.2.2.2.2.1=l.take y.2.2.1.toNat/\∀x∈l.take y.2.2.1.toNat,lt x m)\/
       (y.2.1=true/\Nf y.2.2.2.2.1/\(∀k,cf y.2.2.2.2.1 k=cf (l.take y.2.2.1.toNat++ [m]) k%65536)/\(y.2.2.2.2.1.length:Int)<=y.2.2.1+1/\(y.2.2.1<l.length->lt m ((l).getD (y.2.2.1).toNat default)/\∀x∈y.2.2.2.2.1,lt x ((l).getD (y.2.2.1).toNat default))))) (λy=>(l.length-y.2.2.1).toNat)
    ⟨rfl,rfl,by simp,by simp,Or.inl ⟨rfl,by simp,by simp⟩⟩ ?_
  rintro⟨(b:List au),(dn:Bool),(i:Int),(f:au),(o:List au),⟨⟩⟩ hI;dsimp only at hI ⊢;obtain⟨rfl,rfl,U,h2,Q⟩:=hI;simp (disch:=omega) only [RR,U1 _ _ M,U2];have A:=hn.ss;have j:i+1<b.length->lt ((b).getD (i).toNat default) ((b).getD (i+1).toNat default):=λh=>by
    have:=(dG (d:=default) (R:=lt) eO).1 A (i+1) ah h;rw [show i+1-1=i by omega]at this;exact this
  have H:i<b.length->b.take (i+1).toNat=b.take i.toNat++ [((b).getD (i).toNat default)]:=λh=>(bA U h rfl).symm
  have t:i<b.length->∀x∈b.take i.toNat,lt x ((b).getD (i).toNat default):=λh x c=>by
    have:=A;rw [<-take_append_drop i.toNat b,pairwise_append]at this;refine this.2.2 x c _ ?_;rw [getD_lt ah,drop_eq_getElem_cons (show i.toNat<b.length by omega)];exact mem_cons_self
  have Z:=length_take_le' i.toNat b;have a0:=length_take_le i.toNat b;have co:i<b.length->1<=((b).getD (i).toNat default).bD/\((b).getD (i).toNat default).bD<=65535:=λh=>hn.co _ (bV U h)
  have p:Nf (b.take i.toNat):=⟨Pairwise.sublist (take_sublist _ _) A,λx c=>hn.co x (mem_of_mem_take c)⟩;have ai5:∀ {a:List au} {x:au},Nf a->(∀y∈a,lt y x)->1<=x.bD/\x.bD<=65535->Nf (a++ [x]):=λ{a x} I L Y=>⟨by
    rw [pairwise_append];exact⟨I.ss,pairwise_singleton _ _,λy D z W=>by rw [mem_singleton]at W;subst W;exact L y D⟩,λy D=>by
    rw [mem_append,mem_singleton]at D;rcases D with D | rfl
    · exact I.co y D
    · exact Y⟩
  have E:∀(x:List au) (y:au),(x++ [y]).length=x.length+1:=λx y=>by rw [eG];rfl
  have fin:∀o,i=b.length->Nf o->(∀k,cf o k=cf (b.take i.toNat++ [f]) k%65536)->(o.length:Int)<=i+1->Plus b f o:=λo e I L Y=>⟨I,λk=>by rw [L k,take_of_length_le ah],ah⟩
  by_cases r:i<b.length
  · have j:=j;have H:=H r;have t:=t r;have co:=co r;rw [H];have hv:∀ {P:Prop},P->(∀x,x=((b).getD (i).toNat default)->P)->P:=λh _=>h
    generalize ((b).getD (i).toNat default)=v at j H t co Q ⊢;have q:∀k,cf (b.take i.toNat++ [v]++ [f]) k=cf (b.take i.toNat) k+(if v.atoms=k then v.bD else 0)+(if f.atoms=k then f.bD else 0):=λk=>by
      rw [dA,dA,bE,bE,jO];simp only [Int.add_zero]
    have G:∀k,cf (b.take i.toNat++ [f]) k=cf (b.take i.toNat) k+(if f.atoms=k then f.bD else 0):=λk=>by
      rw [dA,bE,jO,Int.add_zero]
    rcases Q with⟨rfl,rfl,s⟩ | ⟨rfl,s,O,X,N⟩
    ·
      simp (disch:=omega) only [RR,decide_true,Bool.not_false,Bool.true_and,decide_eq_true_eq,r];by_cases C:dZ f.atoms v.atoms<0
      · have w:¬dZ f.atoms v.atoms=0:=by omega
        simp (disch:=omega) only [RR,C,w];have K:=ai5 p s hm;have F:∀x∈b.take i.toNat++ [f],lt x v:=λx c=>by
          rw [mem_append,mem_singleton]at c;rcases c with c | rfl
          · exact t x c
          · exact C
        have u:=ai5 K F co;refine⟨ah,by rw [show([f]:List au).length=1 from rfl];omega,ah,by rw [E,show([v]:List au).length=1 from rfl];omega,⟨ah,ah,Or.inr ⟨u,λk=> ?_,by rw [E,E];omega,λh=>⟨eO C (j h),λx c=> ?_⟩⟩⟩,ah⟩
        · have B:=q k;have n:=u.bnd k;have S:cf (b.take i.toNat++ [f]++ [v]) k=cf (b.take i.toNat++ [v]++ [f]) k:=by rw [B,dA,G,bE,jO];omega
          rw [<-S];omega
        · rw [mem_append,mem_singleton]at c;rcases c with c | rfl
          · exact eO (F x c) (j h)
          · exact j h
      · by_cases w:dZ f.atoms v.atoms=0
        · have ev:=kM.1 w;simp (disch:=omega) only [RR,C,w,append_nil];have T:cf (b.take i.toNat) v.atoms=0:=iF λx c=>(t x c).ne
          refine⟨ah,λh=>absurd h ah,λ_=>⟨ah,λJ=> ?_,λJ=> ?_⟩⟩
          · have u:=ai5 (x:=⟨(v.bD+f.bD)%65536,v.atoms⟩) p t ⟨by dsimp only;omega,by dsimp only;omega⟩;refine⟨ah,by simp only [fA,fE];omega,⟨ah,ah,Or.inr ⟨u,λk=> ?_,by rw [E];omega,λh=>⟨?_,λx c=> ?_⟩⟩⟩,ah⟩
            · have B:=q k;have n:=u.bnd k;rw [B];rw [dA,bE,jO]at n ⊢;dsimp only at n ⊢;by_cases g:v.atoms=k
              · rw [eB g]at n ⊢;rw [eB g,eB (ev.trans g)];rw [<-g,T]at n ⊢;omega
              · rw [dY g]at n ⊢;rw [dY g,dY (λe=>g (ev.symm.trans e))];omega
            · have:=j h;unfold lt at this ⊢;rw [ev];exact this
            · rw [mem_append,mem_singleton]at c;rcases c with c | rfl
              · exact eO (t x c) (j h)
              · exact j h
          · refine⟨⟨ah,ah,Or.inr ⟨p,λk=> ?_,ah,λh=>⟨?_,λx c=>eO (t x c) (j h)⟩⟩⟩,ah⟩
            · have B:=q k;have n:=p.bnd k;rw [B];by_cases g:v.atoms=k
              · rw [eB g,eB (ev.trans g),<-g,T];omega
              · rw [dY g,dY (λe=>g (ev.symm.trans e))];omega
            · have:=j h;unfold lt at this ⊢;rw [ev];exact this
        · simp (disch:=omega) only [RR,C,w];refine⟨ah,ah,by simp only [fA,fE];omega,⟨ah,ah,Or.inl (λx c=> ?_)⟩,ah⟩;rw [mem_append,mem_singleton]at c;rcases c with c | rfl
          · exact s x c
          · unfold lt;rw [qL];omega
    · have J:=(N r).1;have F:=(N r).2;have C:dZ f.atoms v.atoms<0:=J;have w:¬dZ f.atoms v.atoms=0:=by omega
      simp (disch:=omega) only [RR,decide_true,Bool.not_true,Bool.false_and,decide_eq_true_eq,r,w];have u:=ai5 s F co;refine⟨ah,λh=>h.1.elim,ah,by simp only [fA,fE];omega,⟨ah,ah,Or.inr ⟨u,λk=> ?_,by rw [E];omega,λh=>⟨eO J (j h),λx c=> ?_⟩⟩⟩,ah⟩
      · have B:=q k;have n:=u.bnd k;have S:=O k;rw [G]at S;rw [dA,bE,jO]at n ⊢;rw [B];by_cases g:v.atoms=k
        · rw [eB g]at n ⊢;omega
        · rw [dY g]at n ⊢;omega
      · rw [mem_append,mem_singleton]at c;rcases c with c | rfl
        · exact eO (F x c) (j h)
        · exact j h
  · have V:i=b.length:=by omega
    rcases Q with⟨rfl,rfl,s⟩ | ⟨rfl,s,O,X,N⟩
    · simp (disch:=omega) only [RR,decide_true,Bool.not_false,Bool.true_and,decide_eq_true_eq,r];have K:=ai5 p s hm;refine⟨by simp only [fA,fE];omega,fin _ V K (λk=> ?_) (by rw [E];omega)⟩;have n:=K.bnd k;omega
    · simp (disch:=omega) only [RR,decide_true,Bool.not_true,Bool.false_and,decide_eq_true_eq,r];exact fin _ V s O X
def Ce{a o:List Int}(h:o.Pairwise (· <= ·))(f:o.Perm a):o=oD a:=by
 refine Perm.eq_of_pairwise (le:=λx y:Int=>x<=y) (λa b _ _ e d=>Int.le_antisymm e d) h ?_ (f.trans (mergeSort_perm a _).symm);have:=pairwise_mergeSort (le:=λx y:Int=>decide (x<=y)) (λa b c e d=>by simp at*;omega) (λa b=>by simp;omega) a;exact this.imp (λh=>by simpa using h)
def ash(a b:List Int)(ha:a.length<100000000)(V:b.length<100000000)(H:a.Pairwise (· <= ·))(Q:b.Pairwise (· <= ·)):
  Xq.F () (a,b,()) (λy=>y=(oD (a++b),())):=by
 dsimp only [Xq,gm];have D:=(dG (d:=default) (R:=λa b:Int=>a<=b) (λj l=>Int.le_trans j l)).1 H;have F:=(dG (d:=default) (R:=λa b:Int=>a<=b) (λj l=>Int.le_trans j l)).1 Q
 let I:List Int->Int->Int->Prop:=λo i k=>0<=i/\i<=a.length/\0<=k/\k<=b.length/\o.Pairwise (· <= ·)/\o.Perm (a.take i.toNat++b.take k.toNat)/\(i<a.length->∀x∈o,x<=((a).getD (i).toNat default))/\(k<b.length->∀x∈o,x<=((b).getD (k).toNat default))
 have L:∀ {o:List Int} {y:Int},o.Pairwise (· <= ·)->(∀x∈o,x<=y)->(o++ [y]).Pairwise (· <= ·):=λ{o y} q E=>by
  rw [pairwise_append];exact⟨q,pairwise_singleton _ _,λx c z K=>by rw [mem_singleton]at K;subst K;exact E x c⟩
 have J:∀o i k,I o i k->(o.length:Int)=i+k:=λo i k ⟨j,l,u,v,_,m,_⟩=>by
  have:=m.length_eq;rw [eG,length_take,length_take]at this;omega
 have B:∀o i k,I o i k->i<a.length->(k<b.length->((a).getD (i).toNat default)<=((b).getD (k).toNat default))->I (o++ [((a).getD (i).toNat default)]) (i+1) k:=by
  rintro o i k ⟨j,l,u,v,m,s,p,t⟩ n hk;refine⟨ah,ah,u,v,L m (p n),?_,λg x c=> ?_,λg x c=> ?_⟩
  .rw [<-bA (d:=default) j n rfl];refine(s.append_right _).trans ?_;rw [append_assoc,append_assoc];exact(perm_append_comm).append_left _
  .have:=D (i+1) ah g;rw [show i+1-1=i by omega]at this;rw [mem_append,mem_singleton]at c;rcases c with c | rfl
   .exact Int.le_trans (p n x c) this
   .exact this
  .rw [mem_append,mem_singleton]at c;rcases c with c | rfl
   .exact t g x c
   .exact hk g
 have C:∀o i k,I o i k->k<b.length->(i<a.length->((b).getD (k).toNat default)<=((a).getD (i).toNat default))->I (o++ [((b).getD (k).toNat default)]) i (k+1):=by
  rintro o i k ⟨j,l,u,v,m,s,p,t⟩ hk n;refine⟨j,l,ah,ah,L m (t hk),?_,λg x c=> ?_,λg x c=> ?_⟩
  .rw [<-bA (d:=default) u hk rfl,<-append_assoc];exact s.append_right _
  .rw [mem_append,mem_singleton]at c;rcases c with c | rfl
   .exact p g x c
   .exact n g
  .have:=F (k+1) ah g;rw [show k+1-1=k by omega]at this;rw [mem_append,mem_singleton]at c;rcases c with c | rfl
   .exact Int.le_trans (t hk x c) this
   .exact this
 refine ay (λ(y:List Int×List Int×aBS)=>y.1=a/\y.2.1=b/\I y.2.2.2.2.1 y.2.2.1 y.2.2.2.1) (λy=>(b.length-y.2.2.2.1).toNat)
  ⟨rfl,rfl,by simp,by simp,by simp,by simp,Pairwise.nil,by simp,λ_ x c=>absurd c (by simp),λ_ x c=>absurd c (by simp)⟩ ?_
 rintro⟨(f:List Int),(A:List Int),(i:Int),(k:Int),(o:List Int),⟨⟩⟩ h;dsimp only at h ⊢;obtain⟨rfl,rfl,h⟩:=h;have P:=h.1;have N:=h.2.1;have S:=h.2.2.1;have O:=h.2.2.2.1;have w:=J _ _ _ h;simp (disch:=omega) only [RR];refine⟨λG=> ?_,λG=> ?_⟩
 .refine ay (λ(y:List Int×List Int×aBS)=>y.1=f/\y.2.1=A/\y.2.2.2.1=k/\I y.2.2.2.2.1 y.2.2.1 k) (λy=>(f.length-y.2.2.1).toNat) ⟨rfl,rfl,rfl,h⟩ ?_;rintro⟨(Z:List Int),(X:List Int),(U:Int),(Y:Int),(W:List Int),⟨⟩⟩ e;dsimp only at e ⊢;obtain⟨rfl,rfl,rfl,e⟩:=e;have T:=e.1;have M:=e.2.1;have w:=J _ _ _ e;simp (disch:=omega) only [RR];refine⟨ah,ah,ah,ah,λ⟨q,E⟩=>⟨ah,q,by simp only [fA,fE];omega,B _ _ _ e q (λ_=>E),ah⟩,λg=>⟨ah,G,by simp only [fA,fE];omega,C _ _ _ e G (λq=> ?_),ah⟩⟩;rw [decide_eq_true q,Bool.true_and,decide_eq_false_iff_not]at g;omega
 .have e1:drop i.toNat (take ((f.length:Int)).toNat f)=f.drop i.toNat:=by rw [take_of_length_le ah]
  rw [e1];refine⟨ah,ah,ah,by rw [length_drop];omega,?_⟩;obtain⟨j,l,u,v,m,s,p,t⟩:=h;rw [Ce (a:=f++A) (o:=o++f.drop i.toNat)]
  .rw [pairwise_append];refine⟨m,Pairwise.sublist (drop_sublist _ _) H,λx c y r=> ?_⟩;by_cases n:i<f.length
   .refine Int.le_trans (p n x c) ?_;rw [drop_eq_getElem_cons (show i.toNat<f.length by omega)]at r;have hd:=Pairwise.sublist (drop_sublist i.toNat _) H;rw [drop_eq_getElem_cons (show i.toNat<f.length by omega)]at hd;rw [getD_lt (show i.toNat<f.length by omega)];rcases mem_cons.1 r with rfl | r
    .exact Int.le_refl _
    .exact rel_of_pairwise_cons hd r
   .rw [drop_eq_nil_of_le ah]at r;exact absurd r (by simp)
  .rw [take_of_length_le (show A.length<=k.toNat by omega)]at s;refine(s.append_right _).trans ?_;rw [append_assoc];refine((perm_append_comm).append_left _).trans ?_;rw [<-append_assoc,take_append_drop]
variable{p:List au}
def aW.nf(h:aW p):Nf p:=(jc.1 h).1
def aW.aok(h:aW p){m:au}(hm:m∈p):m.atoms.length<=4/\F.aok m.atoms:=(jc.1 h).2.2 m hm
def Qr{l o:List au}(h:Nf o)(a:∀k,cf o k=cf l k%65536)(b:∀m∈l,aok m.atoms):(bp (Qq o),if bp (Qq o)then o else [])=((su l).1,(su l).2):=by
 rw [anC h a b];by_cases c:Qq o
 .rw [aJ c,eB rfl];dsimp only;rw [decide_eq_true (show o.length<=12/\∀m∈o,m.atoms.length<=4 from c),eB (show o.length<=12/\∀m∈o,m.atoms.length<=4 from c)]
 .rw [aV c,dY (by simp)];dsimp only;rw [decide_eq_false (show¬(o.length<=12/\∀m∈o,m.atoms.length<=4)from c),dY (show¬(o.length<=12/\∀m∈o,m.atoms.length<=4)from c)]
def ai6{o l:List au}(h:Nf o)(c:∀k,cf o k=cf l k%65536)(e:∀m∈l,m.atoms.length<1000000000)(d:o.length<1000000000):Sh o:=⟨d,λm hm=>by
 obtain⟨f,b,a⟩:=h.from c hm;rw [<-a];exact e f b⟩
abbrev Y36(b:List au×aCs->Bool)(a:List au×aCs->kr):Prop:=∀(l:List au) m,l.length<1000000000->Nf l->1<=m.bD/\m.bD<=65535->m.atoms.length<1000000000->b (l,m,())=true/\Plus l m (a (l,m,())).1
abbrev Y37(c:kr->Bool)(b:kr->Bool×kr):Prop:=∀a,Sh a->c (a,())=true/\b (a,())=(bp (Qq a),if bp (Qq a)then a else [],())
def asi{p1 f1 p2 f2 p3 f3}(u:Y11 p1 f1)(s:Y36 p2 f2)(A:Y37 p3 f3)(a b:List au)(v:Sh a)(f:Sh b):Xo.F (p1,f1,p2,f2,p3,f3,()) (a,b,()) (λy=>y=((qA a b).1,(qA a b).2,())):=by
 dsimp only [Xo,gm];simp (disch:=omega) only [RR,u a v,u b f,aF,gK];unfold qA;refine⟨λh=> ?_,λ⟨c,e⟩=> ?_⟩
 .rw [dY];rw [Bool.and_eq_true,aF,aF];rintro⟨x,w⟩;rcases h with h | h
  .exact h x
  .exact h w
 rw [eB (by rw [aJ c,aJ e];rfl)];have D:=c.len;have E:=e.len;have r:∀m∈a++b,F.aok m.atoms/\m.atoms.length<1000000000:=λm hm=>by
  rw [mem_append]at hm;rcases hm with hm | hm
  .exact⟨(c.aok hm).2,v.2 m hm⟩
  .exact⟨(e.aok hm).2,f.2 m hm⟩
 refine ay (λ(y:List au×Int×kr)=>y.2.2.1=b/\0<=y.2.1/\y.2.1<=b.length/\Nf y.1/\(∀k,cf y.1 k=cf (a++b.take y.2.1.toNat) k%65536)/\(y.1.length:Int)<=12+y.2.1) (λy=>(b.length-y.2.1).toNat)
  ⟨rfl,by simp,by simp,c.nf,λk=>by have:=c.nf.bnd k;simp only [Int.toNat_zero,take_zero,append_nil];omega,by simp only;omega⟩ ?_
 rintro⟨(o:List au),(i:Int),(q:List au),⟨⟩⟩ hI;dsimp only at hI ⊢;obtain⟨rfl,t,B,g,n,C⟩:=hI;have j:Sh o:=ai6 g n (λm hm=>(r m (by rw [mem_append]at hm ⊢;exact hm.imp id mem_of_mem_take)).2) ah;simp (disch:=omega) only [RR,A o j];refine⟨λp=> ?_,λp=> ?_⟩
 .have hm:=e.nf.co _ (bV (d:=default) t p);have l:=(s o ((q).getD (i).toNat default) j.1 g hm (f.at _)).2;refine⟨ah,ah,(s o ((q).getD (i).toNat default) j.1 g hm (f.at _)).1,⟨ah,ah,l.nf,λk=> ?_,by have:=l.len;omega⟩,ah⟩;rw [l.cf k,dA,n k,<-bA (d:=default) t p rfl,<-append_assoc,dA (a++_)];omega
 .have:=Qr g (λk=>by rw [n k,take_of_length_le ah]) (λm hm=>(r m hm).1);exact congrArg (λz:Bool×List au=>(z.1,z.2,())) this
def asj{p1 f1 p0 f0 p2 f2 p3 f3}{Z:zx->Bool}{Y:zx->bn}(U1:Y11 p1 f1)(U0:Y10 p0 f0)(U2:Y36 p2 f2)(U4:∀a b:List Int,a.length<100000000->b.length<100000000->a.Pairwise (· <= ·)->b.Pairwise (· <= ·)->Z (a,b,())=true/\Y (a,b,())=(oD (a++b),()))(U3:Y37 p3 f3)(a b:List au)(ha:Sh a)(V:Sh b):Xr.F (p1,f1,p0,f0,p2,f2,Z,Y,p3,f3,()) (a,b,()) (λy=>y=((qB a b).1,(qB a b).2,())):=by
 have w:=λz1 z2=>(U1 z1 z2).1
 have B:=λz1 z2=>(U1 z1 z2).2
 have R:=λz1=>(U0 z1).1
 have Q:=λz1=>(U0 z1).2
 have O:=λz1 z2 z3 z4 j p=>(U2 z1 z2 z3 z4 j p).1
 have M:=λz1 z2 z3 z4 j p=>(U2 z1 z2 z3 z4 j p).2
 have G:=λz1 z2 z3 z4 j p=>(U4 z1 z2 z3 z4 j p).1
 have L:=λz1 z2 z3 z4 j p=>(U4 z1 z2 z3 z4 j p).2
 have E:=λz1 z2=>(U3 z1 z2).1
 have I:=λz1 z2=>(U3 z1 z2).2
 dsimp only [Xr,gm];simp (disch:=omega) only [RR,w a ha,B a ha,w b V,B b V,aF,gK];unfold qB;refine⟨λh=> ?_,λ⟨u,s⟩=> ?_⟩
 .rw [dY];rw [Bool.and_eq_true,aF,aF];rintro⟨A,D⟩;rcases h with h | h
  .exact h A
  .exact h D
 rw [eB (by rw [aJ u,aJ s];rfl)];have l1:=u.len;have l2:=s.len;have T:∀m∈a,∀n∈b,aok (mulM m n).atoms/\(mulM m n).atoms.length<=8:=λm hm n hn=>by
  obtain⟨A,D⟩:=u.aok hm;obtain⟨C,P⟩:=s.aok hn;refine⟨⟨?_,λk hk=> ?_⟩,?_⟩
  .have:=pairwise_mergeSort (le:=λx y:Int=>decide (x<=y)) (λa b c u s=>by simp at*;omega) (λa b=>by simp;omega) (m.atoms++n.atoms);exact this.imp (λh=>by simpa using h)
  .have:k∈m.atoms++n.atoms:=List.mem_mergeSort.1 hk;rw [mem_append]at this;rcases this with hk | hk
   .exact D.2 k hk
   .exact P.2 k hk
  .show(oD _).length<=8;rw [NR,eG];omega
 have pm:∀m∈prods a b,aok m.atoms/\m.atoms.length<=8:=λm hm=>by
  unfold prods at hm;rw [mem_flatMap]at hm;obtain⟨x,H,hm⟩:=hm;rw [mem_map]at hm;obtain⟨y,hy,rfl⟩:=hm;exact T x H y hy
 let J:List au->Int->Int->Prop:=λo i k=>Nf o/\(∀t,cf o t=cf (prods (a.take i.toNat) b++(b.take k.toNat).map (mulM ((a).getD (i).toNat default))) t%65536)/\(o.length:Int)<=12*i+k
 refine ay (λ(y:Int×List au×wm)=>y.2.1=a/\y.2.2.1=b/\0<=y.1/\y.1<=a.length/\J y.2.2.2.1 y.1 0) (λy=>(a.length-y.1).toNat)
  ⟨rfl,rfl,by simp,by simp,⟨⟨Pairwise.nil,λm hm=>absurd hm (by simp)⟩,λk=>by simp [cf,prods],by simp⟩⟩ ?_
 rintro⟨(i:Int),(v:List au),(r:List au),(o:List au),⟨⟩⟩ hI;dsimp only at hI ⊢;obtain⟨rfl,rfl,X,h4,q⟩:=hI;have a1:=q.2.2;have U:Sh o:=ai6 (l:=prods (v.take i.toNat) r) q.1 (λt=>by rw [q.2.1 t];simp) (λm hm=>by
  have:m∈prods v r:=by
   unfold prods at hm ⊢;rw [mem_flatMap]at hm ⊢;obtain⟨x,H,hm⟩:=hm;exact⟨x,mem_of_mem_take H,hm⟩
  have:=(pm m this).2;omega) ah
 simp (disch:=omega) only [RR,E o U,I o U];refine⟨λS=> ?_,λS=> ?_⟩
 .refine ay (λ(y:Int×Int×List au×wm)=>y.1=i/\y.2.2.1=v/\y.2.2.2.1=r/\0<=y.2.1/\y.2.1<=r.length/\J y.2.2.2.2.1 i y.2.1) (λy=>(r.length-y.2.1).toNat) ⟨rfl,rfl,rfl,by simp,by simp,q⟩ ?_;rintro⟨(g:Int),(k:Int),(f:List au),(e:List au),(o2:List au),⟨⟩⟩ hI;dsimp only at hI ⊢;obtain⟨rfl,rfl,rfl,A,D,hK⟩:=hI;have a0:=hK.2.2;by_cases C:k<e.length
  .have ma:((f).getD (g).toNat default)∈f:=bV X S;have N:((e).getD (k).toNat default)∈e:=bV A C;have ca:=u.nf.co _ ma;have cb:=s.nf.co _ N;obtain⟨q1,q2⟩:=u.aok ma;obtain⟨q3,q4⟩:=s.aok N;have hm:=Qo (show 0<=((f).getD (g).toNat default).bD by omega) ah (show 0<=((e).getD (k).toNat default).bD by omega) ah;have K:=(T _ ma _ N).2;simp (disch:=omega) only [RR,R,Q,G _ _ (show((f).getD (g).toNat default).atoms.length<100000000 by omega) (show((e).getD (k).toNat default).atoms.length<100000000 by omega) q2.1 q4.1,L _ _ (show((f).getD (g).toNat default).atoms.length<100000000 by omega) (show((e).getD (k).toNat default).atoms.length<100000000 by omega) q2.1 q4.1];have W:prods (f.take g.toNat) e++(e.take (k+1).toNat).map (mulM ((f).getD (g).toNat default))=prods (f.take g.toNat) e++(e.take k.toNat).map (mulM ((f).getD (g).toNat default))++ [mulM ((f).getD (g).toNat default) ((e).getD (k).toNat default)]:=by
    rw [<-bA (d:=default) A C rfl,map_append,append_assoc];rfl
   refine⟨λ_=>⟨ah,ah,ah,ah,λP=> ?_,λP=>⟨⟨ah,ah,hK.1,λt=> ?_,ah⟩,ah⟩⟩,λh=>absurd C h⟩
   .have aym:(⟨((f).getD (g).toNat default).bD*((e).getD (k).toNat default).bD%65536,oD (((f).getD (g).toNat default).atoms++((e).getD (k).toNat default).atoms)⟩:au).atoms.length<1000000000:=by have:(oD (((f).getD (g).toNat default).atoms++((e).getD (k).toNat default).atoms)).length<=8:=K;dsimp only;omega
    have cc:1<=(⟨((f).getD (g).toNat default).bD*((e).getD (k).toNat default).bD%65536,oD (((f).getD (g).toNat default).atoms++((e).getD (k).toNat default).atoms)⟩:au).bD/\(⟨((f).getD (g).toNat default).bD*((e).getD (k).toNat default).bD%65536,oD (((f).getD (g).toNat default).atoms++((e).getD (k).toNat default).atoms)⟩:au).bD<=65535:=by dsimp only;omega
    have F:=M o2 _ ah hK.1 cc aym;refine⟨ah,ah,ah,ah,O o2 _ ah hK.1 cc aym,⟨ah,ah,F.nf,λt=> ?_,by have:=F.len;omega⟩,ah⟩;rw [F.cf t,dA,hK.2.1 t,W,dA (prods _ _++_)];show(_+cf [mulM ((f).getD (g).toNat default) ((e).getD (k).toNat default)] t)%65536=_;omega
   .rw [W,dA,hK.2.1 t];have:cf [mulM ((f).getD (g).toNat default) ((e).getD (k).toNat default)] t=0:=by
     rw [bE,jO];have:(mulM ((f).getD (g).toNat default) ((e).getD (k).toNat default)).bD=0:=by show((f).getD (g).toNat default).bD*((e).getD (k).toNat default).bD%65536=0;omega
     rw [this];split<;>rfl
    rw [this];omega
  .simp (disch:=omega) only [RR];refine⟨λh=>absurd h C,λ_=>⟨⟨ah,ah,hK.1,λt=> ?_,ah⟩,ah⟩⟩;rw [hK.2.1 t,take_of_length_le (show e.length<=k.toNat by omega),<-J3,bA (d:=default) X S rfl];simp
 .have:=Qr q.1 (l:=prods v r) (λt=>by rw [q.2.1 t,take_of_length_le (show v.length<=i.toNat by omega)];simp) (λm hm=>(pm m hm).1);exact congrArg (λz:Bool×List au=>(z.1,z.2,())) this
end Go.TX.F
namespace Go.TX.F
open Go Go.AE Go.TX List
variable{t:List Atom}{l:List au}{n:Int}
def J5{m:au}(n:Int)(h:aok m.atoms):mulM m ⟨n,[]⟩=⟨m.bD*n%65536,m.atoms⟩:=by
 unfold mulM;rw [<-Ce (a:=m.atoms++ []) (o:=m.atoms) h.1 (by simp)]
def Fa(a:List au)(n:au):prods a [n]=a.map (λm=>mulM m n):=by
 induction a with
 | nil=>rfl
 | cons x a b=>simp only [prods,flatMap_cons,map_cons,map_nil]at b ⊢;rw [b];rfl
def Tv{t:List Int}:∀ {l:List au},(∀m∈l,m.bD=0)->cf l t=0
 | [],_=>rfl
 | m::l,h=>by rw [bE,Tv (λm hm=>h m (by simp [hm])),h m (by simp)];split<;>rfl
def eP:aW []:=jc.2 ⟨⟨Pairwise.nil,λm hm=>absurd hm (by simp)⟩,by simp,λm hm=>absurd hm (by simp)⟩
def sZ(n:Int):aW (dV n):=by
 unfold dV;split
 .refine jc.2 ⟨⟨pairwise_singleton _ _,λm hm=> ?_⟩,by simp,λm hm=> ?_⟩
  .rw [mem_singleton]at hm;subst hm;assumption
  .rw [mem_singleton]at hm;subst hm;exact⟨by simp,Pairwise.nil,λk hk=>absurd hk (by simp)⟩
 .exact eP
def oN(n:Int):aW (fJ n):=by
 unfold fJ;split
 .refine jc.2 ⟨⟨pairwise_singleton _ _,λm hm=> ?_⟩,by simp,λm hm=> ?_⟩
  .rw [mem_singleton]at hm;subst hm;dsimp only;omega
  .rw [mem_singleton]at hm;subst hm;exact⟨by simp,pairwise_singleton _ _,λk hk=>by rw [mem_singleton]at hk;omega⟩
 .exact eP
def asl{p1 f1 p0 f0 p4 f4 p3 f3}(J:Y11 p1 f1)(K:Y10 p0 f0)(I:Y13 p4 f4)(G:Y9 p3 f3)(a:List au)(n:Int)(M:Sh a):Xp.F (p1,f1,p0,f0,p4,f4,p3,f3,()) (a,n,()) (λy=>y=(jP a n,())):=by
 dsimp only [Xp,gm];simp (disch:=omega) only [RR,J a M,G,aF,gK,bF,jJ];unfold jP;refine⟨λh=> ?_,λ⟨j,u⟩=> ?_⟩
 .rw [dY];rw [Bool.and_eq_true,aF,bF];rintro⟨F,p⟩;rcases h with h | h
  .exact h F
  .exact h p
 rw [eB (by rw [aJ j,Bool.true_and,bF];exact u)];have Q:=j.len;have A:=j.nf.ss
 refine ay (λ(y:Int×aCo)=>y.1=n/\y.2.2.1=a/\0<=y.2.1/\y.2.1<=a.length/\Nf y.2.2.2.1/\(y.2.2.2.1.length:Int)<=y.2.1/\(∀t,cf y.2.2.2.1 t=cf ((a.take y.2.1.toNat).map (λm=>⟨m.bD*n%65536,m.atoms⟩)) t%65536)
   /\(∀x∈y.2.2.2.1,x.atoms.length<=4/\(y.2.1<a.length->lt x ((a).getD (y.2.1).toNat default)))) (λy=>(a.length-y.2.1).toNat)
  ⟨rfl,rfl,by simp,by simp,⟨Pairwise.nil,λm hm=>absurd hm (by simp)⟩,by simp,λt=>by simp [cf],λx b=>absurd b (by simp)⟩ ?_
 rintro⟨(f:Int),(i:Int),(c:List au),(o:List au),⟨⟩⟩ hI;dsimp only at hI ⊢;obtain⟨rfl,rfl,D,N,r,P,q,k⟩:=hI;have E:Sh o:=⟨ah,λm hm=>by have:=(k m hm).1;omega⟩;by_cases l:i<c.length
 .have ma:((c).getD (i).toNat default)∈c:=bV D l;have O:=j.nf.co _ ma;have L:=j.aok ma;have hm:=Qo (show 0<=((c).getD (i).toNat default).bD by omega) ah u.1 u.2;have B:i+1<c.length->lt ((c).getD (i).toNat default) ((c).getD (i+1).toNat default):=λh=>by
   have:=(dG (d:=default) (R:=lt) eO).1 A (i+1) ah h;rw [show i+1-1=i by omega]at this;exact this
  have C:(c.take (i+1).toNat).map (λm:au=>(⟨m.bD*f%65536,m.atoms⟩:au))=(c.take i.toNat).map (λm:au=>(⟨m.bD*f%65536,m.atoms⟩:au))++ [⟨((c).getD (i).toNat default).bD*f%65536,((c).getD (i).toNat default).atoms⟩]:=by
   rw [<-bA (d:=default) D l rfl,map_append];rfl
  simp (disch:=omega) only [RR,K];refine⟨λ_=>⟨ah,ah,λg=>⟨ah,ah,by simp only [fA,fE];omega,⟨ah,ah,?_,?_,λt=> ?_,λx b=> ?_⟩,ah⟩,λg=>⟨⟨ah,ah,r,ah,λt=> ?_,λx b=>⟨(k x b).1,λp=>eO ((k x b).2 l) (B p)⟩⟩,ah⟩⟩,λh=>absurd l h⟩
  .refine⟨?_,λx b=> ?_⟩
   .rw [pairwise_append];exact⟨r.ss,pairwise_singleton _ _,λx b z s=>by rw [mem_singleton]at s;subst s;exact(k x b).2 l⟩
   .rw [mem_append,mem_singleton]at b;rcases b with b | rfl
    .exact r.co x b
    .dsimp only;omega
  .rw [eG];simp only [fA,fE];omega
  .rw [C,dA,dA,q t,bE,jO];dsimp only;by_cases v:((c).getD (i).toNat default).atoms=t
   .rw [eB v];have z:cf o t=0:=iF λx b e=>((k x b).2 l).ne (e.trans v.symm)
    rw [q t]at z;omega
   .rw [dY v];omega
  .rw [mem_append,mem_singleton]at b;rcases b with b | rfl
   .exact⟨(k x b).1,λp=>eO ((k x b).2 l) (B p)⟩
   .exact⟨L.1,λp=>B p⟩
  .rw [C,dA,q t,bE,jO];dsimp only;have:((c).getD (i).toNat default).bD*f%65536=0:=by omega
   rw [this];split<;>omega
 .simp (disch:=omega) only [RR,I o E];refine⟨λh=>absurd h l,λ_=> ?_⟩;have eq:∀t,cf o t=cf (prods c (dV f)) t%65536:=λt=>by
   rw [q t,take_of_length_le ah];unfold dV;by_cases hn:1<=f/\f<=65535
   .rw [eB hn,Fa]
    congr 2
    exact map_congr_left λm hm=>(J5 f (j.aok hm).2).symm
   .rw [dY hn];have s:f=0:=by omega
    have w:cf (c.map (λm=>(⟨m.bD*f%65536,m.atoms⟩:au))) t=0:=Tv λm hm=>by
     rw [mem_map]at hm;obtain⟨x,_,rfl⟩:=hm;dsimp only;rw [s];simp
    rw [w,show prods c []=[] by simp [prods]];rfl
  have H:Qq o:=⟨ah,λm hm=>(k m hm).1⟩;have:=Qr r eq (λm hm=>by
   unfold dV at hm;split at hm
   .rw [Fa,mem_map]at hm;obtain⟨x,b,rfl⟩:=hm;rw [J5 f (j.aok b).2];exact(j.aok b).2
   .rw [show prods c []=[] by simp [prods]]at hm;exact absurd hm (by simp))
  unfold qB;rw [eB (by rw [aJ j,aJ (sZ f)];rfl),<-congrArg Prod.snd this];dsimp only;rw [aJ H];rfl
def ai7(l:List au):(Nf (nf l)/\∀k,cf (nf l) k=cf l k%65536)\/nf l=[]:=by
 by_cases a:∃o,Nf o/\∀k,cf o k=cf l k%65536
 .obtain⟨o,h1,h2⟩:=a;rw [Tt h1 h2];exact Or.inl ⟨h1,h2⟩
 .right;unfold nf;rw [dif_neg a]
def ai8(h:bB l n):bB (nf l) n:=by
 rcases ai7 l with⟨a,d⟩ | a
 .refine dw.2 λm hm k hk=> ?_
  obtain⟨e,c,b⟩:=a.from d hm;exact dw.1 h e c k (b▸hk)
 .rw [a];exact dw.2 λm hm=>absurd hm (by simp)
def kN(n:Int):bB [] n:=dw.2 λm hm=>absurd hm (by simp)
def acY(l:List au):aW (su l).2:=by
 unfold su;by_cases h:aW (nf l)
 .rw [aJ h];exact h
 .rw [aV h];exact eP
def J6(h:bB l n):bB (su l).2 n:=by
 unfold su;dsimp only;split
 .exact ai8 h
 .exact kN n
def aeC{a b:List au}(d:bB a n)(c:bB b n):bB (a++b) n:=dw.2 λm hm k hk=>by
 rw [mem_append]at hm;rcases hm with hm | hm
 .exact dw.1 d m hm k hk
 .exact dw.1 c m hm k hk
def Tw{a b:List au}(e:bB a n)(d:bB b n):bB (prods a b) n:=dw.2 λm hm k hk=>by
 unfold prods at hm;rw [mem_flatMap]at hm;obtain⟨x,f,hm⟩:=hm;rw [mem_map]at hm;obtain⟨y,c,rfl⟩:=hm;have:k∈x.atoms++y.atoms:=List.mem_mergeSort.1 hk;rw [mem_append]at this;rcases this with hk | hk
 .exact dw.1 e x f k hk
 .exact dw.1 d y c k hk
def acZ(a b:List au):aW (qA a b).2:=by unfold qA;split;exact acY _;exact eP
def anE(a b:List au):aW (qB a b).2:=by unfold qB;split;exact acY _;exact eP
def J7{a b:List au}(d:bB a n)(c:bB b n):bB (qA a b).2 n:=by unfold qA;split;exact J6 (aeC d c);exact kN n
def J8{a b:List au}(d:bB a n)(c:bB b n):bB (qB a b).2 n:=by unfold qB;split;exact J6 (Tw d c);exact kN n
def y9(c n:Int):bB (dV c) n:=dw.2 λm hm k hk=>by
 unfold dV at hm;split at hm
 .rw [mem_singleton]at hm;subst hm;exact absurd hk (by simp)
 .exact absurd hm (by simp)
def vY{k n:Int}(h:k<n):bB (fJ k) n:=dw.2 λm hm j a=>by
 unfold fJ at hm;split at hm
 .rw [mem_singleton]at hm;subst hm;rw [mem_singleton]at a;omega
 .exact absurd hm (by simp)
def aI.sh(h:aI t):ShT t:=⟨by have:=h.2;omega,λa b=>by
 obtain⟨i,c,rfl⟩:=getElem_of_mem b;have:=(h.1 i ah ah).1;rw [show(i:Int).toNat=i from rfl,getD_lt c]at this;unfold jk at this;split at this
 .exact⟨this.2.1.sh,this.2.2.1.sh⟩
 .rw [ShA,this.1.1,this.1.2];exact⟨rC,rC⟩⟩
def Dt{a:Atom}(h:aI t)(q:t.length<200):aI (aU t a).1/\t.length<=(aU t a).1.length/\(aU t a).1.length<=t.length+1/\(jk a t.length->0<=(aU t a).2):=by
 have l:=iN t a;unfold aU;split
 .rename_i h3;exact⟨h,Nat.le_refl _,Nat.le_succ _,λ_=>h3⟩
 .rename_i h3;split
  .rename_i b;exact⟨h,Nat.le_refl _,Nat.le_succ _,λd=>by rcases b with b | b;exact absurd d b;omega⟩
  .rename_i b;have d:jk a t.length:=Classical.byContradiction λd=>b (Or.inl d)
   refine⟨qN.2 ⟨?_,by rw [eG];simp only [fA,fE];omega⟩,by rw [eG];exact Nat.le_add_right _ _,by rw [eG];exact Nat.le_refl _,λ_=>by dsimp only;omega⟩;have p:((t++ [a]).length:Int)=t.length+1:=by rw [eG];rfl
   have f:∀i:Int,0<=i->i<t.length->(t++ [a]).getD i.toNat default=t.getD i.toNat default:=λi k n=>by
    rw [getD_lt (show i.toNat< (t++ [a]).length by omega),getD_lt (show i.toNat<t.length by omega),getElem_append_left]
   have o:(t++ [a]).getD ((t.length:Int)).toNat default=a:=by
    rw [getD_lt (show((t.length:Int)).toNat< (t++ [a]).length by omega)];simp
   rw [p];intro i k n;dsimp only;by_cases m:i<t.length
   .rw [f i k m];have:=(qN.1 h).1 i k m;exact⟨this.1,λj c e=>by dsimp only;rw [f j c ah];exact this.2 j c e⟩
   .have:i=t.length:=by omega
    subst this;rw [o];refine⟨d,λj c e=> ?_⟩;dsimp only;rw [f j c e];rcases l with⟨_,g⟩ | ⟨g,_⟩
    .exact g j c e
    .exact absurd g h3
end Go.TX.F
namespace Go.TX.F
open Go Go.AE Go.TX List
def By(b:List Int):Prop:=∀z∈b,0<=z/\z<=255
structure Bt(b:List Int):Prop where
 len:b.length<=2000
 rng:By b
def By.at{b:List Int}(h:By b)(n:Nat):0<=b.getD n default/\b.getD n default<=255:=by
 by_cases a:n<b.length
 .rw [getD_lt a];exact h _ (getElem_mem _)
 .simp only [getD,getElem?_eq_none (by omega:b.length<=n)];decide
def asn(b:List Int)(a:By b)(c:b.length<1000000000):XY.F () (b,()) (λy=>Bt y.1/\y.2.1=0):=by
 dsimp only [XY,gm];simp (disch:=omega) only [RR];refine⟨λh=>⟨ah,ah,ah,⟨?_,?_⟩⟩,λh=>⟨ah,a⟩⟩
 .rw [length_drop,length_take];omega
 .intro z hz;exact a z (mem_of_mem_take (mem_of_mem_drop hz))
def aso{a b:Int}(g:0<=a)(d:a<4611686018427387904)(h:0<=b)(f:b<4611686018427387904):0<=fF .xor .i64 a b/\fF .xor .i64 a b<4611686018427387904:=by
 have e:((2^IntKind.i64.bits:Nat):Int)=18446744073709551616:=by decide
 have c:fF .xor .i64 a b=((a.toNat^^^b.toNat:Nat):Int):=by
  unfold fF;dsimp only;rw [BitVec.toNat_xor,BitVec.toNat_ofInt,BitVec.toNat_ofInt,e,show a%18446744073709551616=a by omega,show b%18446744073709551616=b by omega];have:=Nat.xor_lt_two_pow (show a.toNat<2^62 by omega) (show b.toNat<2^62 by omega);rw [w64 ah ah]
 rw [c];have:=Nat.xor_lt_two_pow (show a.toNat<2^62 by omega) (show b.toNat<2^62 by omega);omega
def Hl{a b:Int}(h:0<=a):a.tmod b=a%b:=Int.tmod_eq_emod_of_nonneg h
def ac0{a b:Int}(h:0<=a):a.tdiv b=a/b:=Int.tdiv_eq_ediv_of_nonneg h
def Pk(n:Int)(b:List Int)(p:Int)(y:He):Prop:=y.2.1=b/\y.2.2.1=p+1/\0<=y.1/\(y.1<n\/y.1=0)
def asq(n:Int)(b:List Int)(p:Int)(c:Bt b)(f:0<=p)(x:p<1000000000):XZ.F () (n,b,p,()) (λy=>Pk n b p y):=by
 have z:=c.1;have d:∀k:Nat,IntKind.i64.wrap (b.getD k default)=b.getD k default:=λk=>by have:=c.2.at k;exact w64 ah ah
 dsimp only [XZ,gm];simp (disch:=omega) only [RR,d];refine⟨λh=>⟨rfl,rfl,ah,Or.inr rfl⟩,λ⟨A,e⟩=> ?_⟩;have r:p+1-1=p:=by omega
 rw [r];refine⟨λh=>⟨ah,ah,ah,?_⟩,λh=> ?_⟩
 .have:=c.2.at p.toNat;rw [Hl this.1];exact⟨rfl,rfl,Int.emod_nonneg _ ah,Or.inl (Int.emod_lt_of_pos _ ah)⟩
 .have hb0:(0:Int)<b.length:=by omega
  have i:=Int.emod_nonneg p (show(b.length:Int)≠0 by omega);have o:=Int.emod_lt_of_pos p hb0;have k3:=Int.emod_nonneg (p*7+3) (show(b.length:Int)≠0 by omega);have s:=Int.emod_lt_of_pos (p*7+3) hb0;have l:0<=p/b.length:=Int.ediv_nonneg f ah;have m:p/b.length<=p:=Int.ediv_le_self _ f;simp (disch:=omega) only [w64,Hl,ac0];have j:=c.2.at (p%b.length).toNat;have t:=c.2.at ((p*7+3)%b.length).toNat;generalize (b.getD (p%b.length).toNat default)=u at j ⊢;generalize (b.getD ((p*7+3)%b.length).toNat default)=v at t ⊢;generalize p/b.length=w at l m ⊢;simp (disch:=omega) only [w64,Hl,ac0];have q:=aso (a:=u*131+v*1117+p*29+w*53) (b:=(u*131+v*1117+p*29+w*53)/64) ah ah ah ah;rw [aaS];generalize fF .xor .i64 (u*131+v*1117+p*29+w*53) ((u*131+v*1117+p*29+w*53)/64)=g at q ⊢;rw [Hl q.1];exact⟨e,i,o,e,k3,s,e,ah,ah,rfl,rfl,Int.emod_nonneg _ ah,Or.inl (Int.emod_lt_of_pos _ ah)⟩
abbrev Y38(c:He->Bool)(a:He->He):Prop:=∀n b p,Bt b->0<=p->p<1000000000->c (n,b,p,())=true/\Pk n b p (a (n,b,p,()))
def asr{p1 f1}(a:Y38 p1 f1)(n:Int)(b:List Int)(p:Int)(e:Bt b)(d:0<=p)(c:p<1000000000):X3.F (p1,f1,()) (n,b,p,()) (λy=>y.2.1=b/\y.2.2.1=p+1):=by
 obtain⟨f,g,_⟩:=(a n b p e d c).2;dsimp only [X3,gm];simp (disch:=omega) only [RR,(a n b p e d c).1,f,g]
def Wd(b:List Int)(p:Int)(y:He):Prop:=y.2.1=b/\p<=y.2.2.1/\y.2.2.1<=p+3/\(0<=y.1/\y.1<=65535)
def asu{p1 f1}(c:Y38 p1 f1)(b:List Int)(p:Int)(a:Bt b)(e:0<=p)(v:p<900000000):Zh.F (p1,f1,()) (b,p,()) (λy=>Wd b p y):=by
 obtain⟨r,j,D,E⟩:=(c 4 b p a e ah).2;have m:∀n,p1 (n,b,p+1,())=true:=λn=>(c n b (p+1) a ah ah).1
 have o:∀n,p1 (n,b,p+1+1,())=true:=λn=>(c n b (p+1+1) a ah ah).1
 obtain⟨s,t,i,x⟩:=(c 9 b (p+1) a ah ah).2;obtain⟨g,q,w,B⟩:=(c 70 b (p+1) a ah ah).2;obtain⟨k,l,A,F⟩:=(c 256 b (p+1) a ah ah).2;obtain⟨h,f,u,C⟩:=(c 256 b (p+1+1) a ah ah).2;dsimp only [Zh,gm];simp (disch:=omega) only [RR,(c 4 b p a e ah).1,m,o,r,j,s,t,g,q,k,l,h,f,fA,fE];refine⟨λ_=>⟨ah,ah,ah,ah,rfl,by dsimp only;omega,by dsimp only;omega,?_⟩,λ_=>⟨λ_=>⟨rfl,by dsimp only;omega,by dsimp only;omega,by dsimp only;omega⟩,λ_=>⟨rfl,by dsimp only;omega,by dsimp only;omega,?_⟩⟩⟩
 .dsimp only;have:=bV (d:=default) (xs:=[(0:Int),1,2,3,65535,32768,255,256,65534]) i (by simp only [fA,fE];omega);generalize getD [(0:Int),1,2,3,65535,32768,255,256,65534] _ default=z at this ⊢;simp at this;omega
 .dsimp only;omega
abbrev Y39(c:He->Bool)(a:He->Bool×lT):Prop:=∀n b p,Bt b->0<=p->p<1000000000->c (n,b,p,())=true/\(a (n,b,p,())).2.1=b/\(a (n,b,p,())).2.2.1=p+1
abbrev Y40(c:lT->Bool)(a:lT->He):Prop:=∀b p,Bt b->0<=p->p<900000000->c (b,p,())=true/\Wd b p (a (b,p,()))
abbrev Y41(c:bn->Bool)(a:bn->lT):Prop:=∀b,By b->b.length<1000000000->c (b,())=true/\Bt (a (b,())).1/\(a (b,())).2.1=0
def aaU(n:Int)(t:List Atom):Prop:=(t.length:Int)=n/\All n (λi=>((t).getD (i).toNat default)=⟨1,i,[],[]⟩)
def asv{p2 f2}(e:Y28 p2 f2):WT.F (p2,f2,()) () (λy=>aaU 4 y.1/\y.2.1.length=4/\∀p∈y.2.1,Sh p):=by
 dsimp only [WT,gm];simp (disch:=omega) only [RR,e];refine ay (λ(y:Int×List (List au)×r9)=>0<=y.1/\y.1<=4/\(y.2.1.length:Int)=y.1/\(∀p∈y.2.1,Sh p)/\aaU y.1 y.2.2.1) (λy=>(4-y.1).toNat) ⟨by simp,by simp,by simp,by simp,by simp,All.zero⟩ ?_;rintro⟨(i:Int),(q:List (List au)),(t:List Atom),⟨⟩⟩ hI;dsimp only at hI ⊢;obtain⟨m,l,o,b,d,a⟩:=hI;simp (disch:=omega) only [RR,e,fA,fE];refine⟨λk=>⟨ah,ah,⟨ah,ah,by rw [eG];simp only [fA,fE];omega,λp h=>(mem_append.1 h).elim (b p) (λg=>by rw [mem_singleton.1 g];exact(oN _).sh),by rw [eG];simp only [fA,fE];omega,λj f r=> ?_⟩,ah⟩,λk=> ?_⟩
 .dsimp only;have n:((t++ [(⟨1,i,[],[]⟩:Atom)]).length:Int)=t.length+1:=by rw [eG];rfl
  by_cases c:j<i
  .have:=a j f c;dsimp only at this;rw [getD_lt (show j.toNat<t.length by omega)]at this;rw [getD_lt (show j.toNat< (t++ [(⟨1,i,[],[]⟩:Atom)]).length by omega),getElem_append_left (show j.toNat<t.length by omega)];exact this
  .have:j=i:=by omega
   subst this;rw [getD_lt (show j.toNat< (t++ [(⟨1,j,[],[]⟩:Atom)]).length by omega),getElem_append_right ah];simp
 .rw [show i=4 by omega]at d a;exact⟨⟨d,a⟩,ah,b⟩
abbrev Y44(b:Unit->Bool)(a:Unit->List Atom×mI):Prop:=b ()=true/\(aaU 4 (a ()).1/\(a ()).2.1.length=4/\∀p∈(a ()).2.1,Sh p)
end Go.TX.F
