/- Part 3 of a proof: what the last part needs. No condition. -/
import Derived.Test.YtmkkljppflidfaaGreatDoorZb
import Derived.Test.YtmkkljppflidfaaGreatDoorProg
import Derived.KernelRfl
set_option maxHeartbeats 1000000
set_option linter.all false
set_option linter.unusedSectionVars false
set_option linter.unusedVariables false
set_option linter.unusedSimpArgs false
namespace Go.TX
open Go Go.AE List
structure FM{ρ:Type}(m:(ρ->Prop)->Prop):Prop where
 mono:∀Q Q':ρ->Prop,(∀y,Q y->Q' y)->m Q->m Q'
 one:∀Q:ρ->Prop,m Q->∃y,Q y/\m (λz=>z=y)
 two:∀Q Q':ρ->Prop,m Q->m Q'->∃y,Q y/\Q' y
section
variable {n:Nat} {ρ:Type}
theorem FM.fail:FM (λ_:ρ->Prop=>False):=⟨λ_ _ _ h=>h,λ_ h=>h.elim,λ_ _ h=>h.elim⟩
theorem FM.ret(t:ρ):FM (λQ:ρ->Prop=>Q t):=⟨λ_ _ h a=>h _ a,λ_ a=>⟨t,a,rfl⟩,λ_ _ h g=>⟨t,h,g⟩⟩
theorem FM.bind{α:Type}{m:(α->Prop)->Prop}{k:α->(ρ->Prop)->Prop}(hm:FM m)(hk:∀t,FM (k t)):FM (λQ=>m λt=>k t Q):=
 ⟨λQ d h a=>hm.mono _ _ (λt i=>(hk t).mono _ _ h i) a,λQ a=>by
  obtain⟨t,c,b⟩:=hm.one _ a;obtain⟨y,j,f⟩:=(hk t).one _ c;exact⟨y,j,hm.mono _ _ (λl e=>by subst e;exact f) b⟩,λQ d h g=>by
  obtain⟨t,c,b⟩:=hm.two _ _ h g;exact(hk t).two _ _ c b⟩
theorem FM.vH{α:Type}{m:(α ⊕ ρ->Prop)->Prop}{k:α->(ρ->Prop)->Prop}(hm:FM m)(hk:∀t,FM (k t)):FM (λQ=>m (CX k Q)):=
 ⟨λQ l h c=>hm.mono _ _ (λt d=>by
  cases t with
  | inl x=>exact(hk x).mono _ _ h d
  | inr r=>exact h _ d) c,λQ c=>by
  obtain⟨t,b,a⟩:=hm.one _ c;cases t with
  | inl x=>
   obtain⟨y,j,i⟩:=(hk x).one _ b;exact⟨y,j,hm.mono _ _ (λf e=>by subst e;exact i) a⟩
  | inr r=>exact⟨r,b,hm.mono _ _ (λf e=>by subst e;rfl) a⟩,λQ l h g=>by
  obtain⟨t,b,a⟩:=hm.two _ _ h g;cases t with
  | inl x=>exact(hk x).two _ _ b a
  | inr r=>exact⟨r,b,a⟩⟩
theorem FM.itW{α:Type}{f:α->(α ⊕ ρ->Prop)->Prop}(a:∀x,FM (f x)):∀(N:Nat) (x:α),FM (TX.itW N f x)
 | 0,x=>by simp_all [TX.itW,fail]
 | N+1,x=>by
  have e:TX.itW (N+1) f x=λQ=>f x (CX (TX.itW N f) Q):=by funext Q;rw [TX.itW]
  rw [e];exact .vH (a x) (FM.itW a N)
theorem BG{α:Type}{k b:α->(ρ->Prop)->Prop}{Q a:ρ->Prop}(hk:∀x,k x Q->b x a)(c:∀y,Q y->a y):∀s,CX k Q s->CX b a s
 | .inl x=>hk x
 | .inr r=>c r
theorem OG{α:Type}{f:α->(α ⊕ ρ->Prop)->Prop}(a:∀x,FM (f x)){Q:ρ->Prop}:∀ {N M:Nat} {x:α},N<=M->TX.itW N f x Q->TX.itW M f x Q
 | 0,_,_,_,h=>by grind [TX.itW]
 | N+1,0,_,h,_=>absurd h ah
 | N+1,M+1,x,h,g=>by
  rw [TX.itW]at g ⊢;exact(a x).mono _ _ (BG (λy k=>OG a ah k) (λ_ k=>k)) g
theorem EW{α:Type}{f:α->(α ⊕ ρ->Prop)->Prop}(c:∀x,FM (f x)){x:α}{Q:ρ->Prop}(h:TP f x Q):∃r,Q r/\∃N,TX.itW N f x (λz=>z=r):=by
 obtain⟨I,μ,g,k⟩:=h;have b:∀(n:Nat) (y:α),μ y<n->I y->∃r,Q r/\∃N,TX.itW N f y (λz=>z=r):=by
  intro n
  induction n with
  | zero=>intro y h;omega
  | succ n l=>
   intro y o j;obtain⟨s,a,d⟩:=(c y).one _ (k y j);cases s with
   | inl z=>
    obtain⟨r,i,N,m⟩:=l z (by have:=a.2;omega) a.1;refine⟨r,i,N+1,?_⟩;rw [TX.itW];exact(c y).mono _ _ (λs e=>by subst e;exact m) d
   | inr r=>
    refine⟨r,a,1,?_⟩;rw [TX.itW];exact(c y).mono _ _ (λs e=>by subst e;rfl) d
 exact b _ x (Nat.lt_succ_self _) g
theorem FM.iter{α:Type}{f:α->(α ⊕ ρ->Prop)->Prop}(a:∀x,FM (f x))(x:α):FM (λQ=>TP f x Q):=by
 refine⟨λQ p h ⟨I,μ,l,o⟩=>⟨I,μ,l,λy i=>(a y).mono _ _ (BG (λ_ h=>h) h) (o y i)⟩,λQ h=> ?_,λQ p h g=> ?_⟩
 rotate_left
 .obtain⟨r,d,N,j⟩:=EW a h;obtain⟨t,n,M,m⟩:=EW a g;obtain⟨z,rfl,rfl⟩:=(FM.itW a (max N M) x).two _ _ (OG a (Nat.le_max_left ..) j) (OG a (Nat.le_max_right ..) m);exact⟨_,d,n⟩
 obtain⟨r,d,N,j⟩:=EW a h;refine⟨r,d,?_⟩;have b:∀y,(∃N,TX.itW N f y (λz=>z=r))->∃N,TX.itW N f y (λz=>z=r)/\∀M,M<N->¬TX.itW M f y (λz=>z=r):=by
  intro y ⟨N,q⟩
  induction N using Nat.strongRecOn with
  | ind N v=>grind
 have c:∀y,∃N,(∃N,TX.itW N f y (λz=>z=r))->TX.itW N f y (λz=>z=r)/\∀M,M<N->¬TX.itW M f y (λz=>z=r):=λy=>by
  by_cases h:∃N,TX.itW N f y (λz=>z=r)
  .obtain⟨N,q⟩:=b y h;grind
  simp_all
 obtain⟨ν,hν⟩:=Classical.axiomOfChoice c;refine⟨λy=>∃N,TX.itW N f y (λz=>z=r),ν,⟨N,j⟩,λy i=> ?_⟩;obtain⟨e,s⟩:=hν y i;cases hn:ν y with
 | zero=>grind [TX.itW]
 | succ k=>
  rw [hn]at e;rw [TX.itW]at e;refine(a y).mono _ _ (BG (λz u=> ?_) (λ_ h=>h)) e
  grind
theorem FM.chk{b:Bool}{m:(ρ->Prop)->Prop}(h:FM m):FM (λQ=>b=true/\m Q):=
 ⟨λ_ _ e ⟨a,c⟩=>⟨a,h.mono _ _ e c⟩,λ_ ⟨a,c⟩=>let⟨y,f,g⟩:=h.one _ c;⟨y,f,a,g⟩,λ_ _ ⟨_,c⟩ ⟨_,d⟩=>h.two _ _ c d⟩
theorem FM.gY{m:(ρ->Prop)->Prop}(h:FM m):∀(ps:List Bool),FM (TX.gY (std n) ps m)
 | []=>h
 | _::ps=> .chk (FM.gY h ps)
theorem FM.cond{b:Bool}{x y:(ρ->Prop)->Prop}(e:FM x)(d:FM y):FM (λQ=>(b=true->x Q)/\(b=false->y Q)):=
 ⟨λ_ _ f ⟨a,c⟩=>⟨λh=>e.mono _ _ f (a h),λh=>d.mono _ _ f (c h)⟩,λ_ ⟨a,c⟩=>by
  cases b with
  | true=>obtain⟨y,i,k⟩:=e.one _ (a rfl);grind
  | false=>obtain⟨y,i,k⟩:=d.one _ (c rfl);grind,λ_ _ ⟨a,c⟩ ⟨g,j⟩=>by
  cases b with
  | true=>exact e.two _ _ (a rfl) (g rfl)
  | false=>exact d.two _ _ (c rfl) (j rfl)⟩
theorem FM.bind'{a:List LTy}{m:(iD a->Prop)->Prop}{k:iD a->(ρ->Prop)->Prop}(hm:FM m)(hk:∀t,FM (k t)):FM ((std n).bind a m k):=by simp_all [FM.bind]
theorem FM.aic{a:List LTy}{m:(iD a ⊕ ρ->Prop)->Prop}{k:iD a->(ρ->Prop)->Prop}(hm:FM m)(hk:∀t,FM (k t)):FM ((std n).vH a m k):=by simp_all [FM.vH]
theorem FM.inl'{a:List LTy}(t:iD a):FM ((std n).inl (ρ:=ρ) a t):=FM.ret _
theorem FM.inr'{a:List LTy}{m:(ρ->Prop)->Prop}(h:FM m):FM ((std n).inr (ρ:=ρ) a m):=by simp_all [FM.bind,iD,FM.ret]
theorem FM.iter'{a:List LTy}{f:iD a->(iD a ⊕ ρ->Prop)->Prop}(b:∀x,FM (f x))(x:iD a):FM ((std n).iter a f x):=FM.iter b x
theorem FM.ret'{a:List LTy}(t:iD a):FM ((std n).ret a t):=FM.ret t
theorem FM.use{c:CR (std n)}{K:SVal->List aN->(ρ->Prop)->Prop}(h:∀v k,FM (K v k)):FM (tZ (std n) c K):=by
 obtain⟨f,d,y,k,e,p⟩:=c;unfold tZ;cases d with
 | nil=>grind [fail]
 | cons a b=>grind [fail]
end
theorem vU:∀(a:List LTy),Nonempty (iD a)
 | []=>⟨()⟩
 | t::r=>by
  obtain⟨y⟩:=vU r;have x:Nonempty (LT aG t):=by
   cases t with
   | i=>exact⟨(0:Int)⟩
   | b=>exact⟨false⟩
   | s=>exact⟨(default:ByteArray)⟩
   | l c=>exact⟨([]:List c.den)⟩
   | x c=>exact⟨(default:c.den)⟩
  obtain⟨x⟩:=x;exact⟨(x,y)⟩
noncomputable def cn {s:Sig} (F:iD s.inp->(iD s.out->Prop)->Prop):Ct aG s:=
 {pre:=λx=> @decide (∃y,F x λz=>z=y) (Classical.propDecidable _)
  fn:=λx=> @Classical.epsilon _ (vU _) λy=>F x λz=>z=y}
structure Fn(E:Tab)(f:FuncId){s:Sig}(F:iD s.inp->(iD s.out->Prop)->Prop)(c:Ct aG s):Prop where
 e:c=cn F
 fm:∀x,FM (F x)
 ok:dA E f (cZ c)
theorem Fn.cs{E:Tab}{f:FuncId}{s:Sig}{F:iD s.inp->(iD s.out->Prop)->Prop}{c:Ct aG s}(h:Fn E f F c){x:iD s.inp}{Q:iD s.out->Prop}(g:F x Q):c.pre x=true/\Q (c.fn x):=by
 rw [h.e];obtain⟨y,i,a⟩:=(h.fm x).one _ g;have e:∃y,F x λz=>z=y:=⟨y,a⟩
 refine⟨by grind [cn,decide_eq_true,Classical.propDecidable],?_⟩;obtain⟨z,b,d⟩:=(h.fm x).two _ _ g (@Classical.epsilon_spec _ (λy=>F x λz=>z=y) e)
 grind [cn]
variable [aD]
section
variable {n:Nat} {ρ:Type}
theorem FM.region{X:XT}{C:Calls aG}{ops:List Oper}{K:RSt (std n)->(ρ->Prop)->Prop}(hK:∀s,FM (K s)):∀(a:List Oper) (s:RSt (std n)),FM (dZ (std n) X C ops a K s)
 | [],s=>by unfold dZ;exact hK s
 | o::a,s=>by
  have b:=FM.region (X:=X) (C:=C) (ops:=ops) hK a;unfold dZ;split
  .split
   .split
    .split
     .refine FM.gY ?_ _;rw [Dr];exact b _
     .exact .fail
    .split
     .exact FM.gY (FM.use λv k=>b _) _
     .exact .fail
   .split
    .split
     .exact b _
     .split
      .split
       .exact FM.gY (b _) _
       .exact .fail
      .split
       .split
        .exact FM.gY (FM.use λv k=>b _) _
        .exact .cond (FM.gY (FM.use λv k=>b _) _) (b _)
       .exact .fail
     .exact .fail
    .exact .fail
  .exact .fail
theorem FM.draw{X:XT}{C:Calls aG}{ops:List Oper}{K:RSt (std n)->(ρ->Prop)->Prop}(hK:∀s,FM (K s)):∀(a:List eF) (c:List (Nat×List Nat)) (s:RSt (std n)),FM (ig (std n) X C ops a c K s)
 | [],c,s=>by unfold ig;exact hK s
 | (i,rs,cs)::a,c,s=>by
  have b:=FM.draw (X:=X) (C:=C) (ops:=ops) hK a;unfold ig;split
  .exact .fail
  split
  .simp only
   repeat' split
   all_goals first
    | exact .fail
    | exact b _ _
    | exact FM.gY (b _ _) _
    | exact FM.gY (FM.use λv k=>b _ _) _
    | exact .cond (FM.gY (FM.use λv k=>b _ _) _) (b _ _)
    | (refine FM.gY ?_ _;rw [Dr];exact b _ _)
  .exact .fail
theorem FM.cut{k:Nat}{c:gL}{d:Bool}{s:RSt (std n)}{K:Exit->RSt (std n)->(ρ->Prop)->Prop}(hK:∀e s,FM (K e s)){W: {σ:Type}->(Exit->RSt (std n)->(σ->Prop)->Prop)->(σ->Prop)->Prop}
  (a:∀ {σ:Type} {b:Exit->RSt (std n)->(σ->Prop)->Prop},(∀e s,FM (b e s))->FM (W b)):FM (Ou (std n) k c d s K W):=by
 unfold Ou;split
 .refine FM.bind' (a λe s=> ?_) (λt=>hK _ _);split
  .split
   .exact FM.gY (FM.ret' _) _
   .exact .fail
  .exact .fail
 .refine FM.aic (a λe s=> ?_) (λt=>hK _ _);split
  .split
   .exact FM.gY (FM.inl' _) _
   .exact .fail
  .exact FM.inr' (hK _ _)
theorem FM.reg{X:XT}{C:Calls aG}{b:Nat->List eF}{chk:Nat->Array Oper->Nat->Bool}{id:Nat}{a:Array Oper}{draw:Bool}{s:RSt (std n)}{K:Exit->RSt (std n)->(ρ->Prop)->Prop}(hK:∀e s,FM (K e s)):
 FM ((if draw then(if chk id a s.m then ig (std n) X C a.toList (b id) [] (λs=>K .normal s) s else(std n).fail)else dZ (std n) X C a.toList a.toList (λs=>K .normal s) s:(std n).M ρ)):=by grind [FM.draw,fail,FM.region]
end
theorem FM.exec{n:Nat}{X:XT}{C:Calls aG}{m:Nat->List eF}{chk:Nat->Array Oper->Nat->Bool}{k:Nat}:∀(q:Code) {ρ:Type} (d:Ann) (s:RSt (std n)) (K:Exit->RSt (std n)->(ρ->Prop)->Prop),(∀e s,FM (K e s))->FM (bK (std n) X C m chk k d q s K)
  | .skip,ρ,d,s,K,hK=>by cases d<;>exact hK _ _
  | .region id ops draw,ρ,d,s,K,hK=>by
    simp only [bK];split
    · exact FM.cut hK λf=>FM.reg f
    · exact FM.reg hK
  | .seq x y,ρ,d,s,K,hK=>by
    have c:∀l r (j:Exit->RSt (std n)->(ρ->Prop)->Prop),(∀a,j .normal a=bK (std n) X C m chk k r y a K)->(∀e a,e≠ .normal->j e a=K e a)->FM (bK (std n) X C m chk k l x s j):=by
      intro l r j t v;refine FM.exec x l s j λe a=> ?_
      by_cases p:e= .normal
      · subst p;rw [t];exact FM.exec y r a K hK
      · rw [v e a p];exact hK _ _
    cases d with
    | seq l r=>rw [bK];exact c l r _ (λ_=>rfl) (λe a p=>by cases e<;>first | rfl | exact absurd rfl p)
    | u=>rw [bK];exact c .u .u _ (λ_=>rfl) (λe a p=>by cases e<;>first | rfl | exact absurd rfl p)
    | _=>simp only [bK];exact .fail
  | .cond cd x y,ρ,d,s,K,hK=>by
    simp only [bK];split
    · split
      · exact .cond (FM.exec x _ s K hK) (FM.exec y _ s K hK)
      · exact .cond (FM.exec x _ s K hK) (FM.exec y _ s K hK)
      · exact FM.cut hK λf=> .cond (FM.exec x _ s _ f) (FM.exec y _ s _ f)
      · exact .fail
    · exact .fail
  | .block id b,ρ,d,s,K,hK=>by
    have c:∀ {σ:Type} {g:Exit->RSt (std n)->(σ->Prop)->Prop},(∀e s,FM (g e s))->∀l (j:Exit->RSt (std n)->(σ->Prop)->Prop),(∀e a,j e a=g e a\/j e a=g .normal a)->FM (bK (std n) X C m chk k l b s j):=by
      intro σ g f l j t;refine FM.exec b l s j λe a=> ?_
      rcases t e a with h | h<;>rw [h]<;>exact f _ _
    have o:∀ {σ:Type} {g:Exit->RSt (std n)->(σ->Prop)->Prop} (e:Exit) (a:RSt (std n)),(match e with | .exit i=>if i==id then g .normal a else g (.exit i) a | e=>g e a:(std n).M σ)=g e a\/(match e with | .exit i=>if i==id then g .normal a else g (.exit i) a | e=>g e a:(std n).M σ)=g .normal a:=by
      intro σ g e a;cases e with
      | exit i => simp only; split
                  · exact .inr rfl
                  · exact .inl rfl
      | _=>exact .inl rfl
    simp only [bK];split
    · exact c hK _ _ o
    · exact c hK _ _ o
    · exact FM.cut hK λf=>c f _ _ o
    · exact .fail
  | .loop b,ρ,d,s,K,hK=>by
    cases d with
    | loop w l=>
      rw [bK];split
      · refine FM.gY (FM.iter' (λx=>FM.exec b l _ _ λe a=> ?_) _) _;split
        · split
          · exact FM.gY (FM.inl' _) _
          · exact .fail
        · exact FM.inr' (hK _ _)
      · exact .fail
    | _=>simp only [bK];exact .fail
  | .exit i,ρ,d,s,K,hK=>by cases d<;>exact hK _ _
  | .ret,ρ,d,s,K,hK=>by cases d<;>exact hK _ _
  | .rangeFunc ..,ρ,d,s,K,hK=>by grind [bK,fail]
  | .scope _,ρ,d,s,K,hK=>by grind [bK,fail]
  | .label _,ρ,d,s,K,hK=>by grind [bK,fail]
  | .goto _,ρ,d,s,K,hK=>by grind [bK,fail]
  | .refuse _,ρ,d,s,K,hK=>by grind [bK,fail]
theorem FM.run{n:Nat}{X:XT}{C:Calls aG}{ord:Nat->List eF}{chk:Nat->Array Oper->Nat->Bool}{an:Ann}{b:Sig}{c:Func}{a:Code}(x:iD b.inp):FM (kV (std n) X C ord chk an b c a x):=by
 unfold kV;split
 .exact .fail
 .split
  .split
   .refine FM.exec a an _ _ λe s=> ?_
    have d:FM (V6 (std n) X b c s):=by
     unfold V6;split
     .split
      .split
       .split
        .split
         .exact FM.gY (FM.ret' _) _
         .exact .fail
        .exact .fail
       .exact .fail
      .exact .fail
     .exact .fail
    grind [fail]
   .exact .fail
  .exact .fail
def ofL(C:Car)(l:List (FuncId×Sigma (Ct C))):Calls C:=λf=>(l.filter λp=>p.1==f).map (·.2)
def Wt(l:List (Nat×List eF))(i:Nat):List eF:=match l.find? λp=>p.1==i with | some p=>p.2 | none=> []
def aes(E:Tab)(l:List (Nat×List eF))(id:Nat)(a:Array Oper)(m:Nat):Bool:=Jv a.toList (Wt l id)&&zU E m a.toList&&Jy E.P a.toList
theorem aeu{E:Tab}{l:List (Nat×List eF)}:∀id a m,aes E l id a m=true->Static E (Wt l) id a m:=λ_ _ _ h=>h
theorem aie{E:Tab}{l:List (FuncId×Sigma (Ct aG))}(h:∀p∈l,dA E p.1 (cZ p.2.2)):qz E (kW (ofL aG l)):=by
 intro f R e;unfold kW at e;split at e
 .cases e
 .cases e;rename_i g;have b:∀c∈ofL aG l f,dA E f (cZ c.2):=λc a=>by
   obtain⟨p,i,rfl⟩:=mem_map.1 a
   grind
  obtain⟨c,a⟩:=exists_mem_of_ne_nil _ g;exact⟨(b c a).enters,λd h n K ⟨c,a,hk⟩=>(b c a).calls d h n K hk⟩
def Ru(X:XT)(E:Tab)(A:Alg)(ord:List (Nat×List eF))(an:Ann)(s:Sig)(a:Func)(l:List (FuncId×Sigma (Ct A.aA)))(F:Tup A.aA s.inp->A.M (Tup A.aA s.out)):Prop:=
 ∀x,kV A X (ofL A.aA l) (Wt ord) (aes E ord) an s a (a.body.getD .skip) x=F x
section
variable {X:XT} {E:Tab} (hE:aH E) (hX:XOK X E) (hm:E.P.follows .mixedOrders=true)
include hE hX hm
theorem ap0{f:FuncId}{e:Func}(m:E.P.funcs[f]? =some e)(g:e.body.isSome=true)(b:∀c,e.body=some c->Enters E.P f){l:List (FuncId×Sigma (Ct aG))}(n:∀p∈l,dA E p.1 (cZ p.2.2)){ord:List (Nat×List eF)}{h:Sig}{an:Ann}
  {F:iD h.inp->(iD h.out->Prop)->Prop} (d:Ru X E (std 0) ord an h e l F):Fn E f F (cn F):=by
 obtain⟨a,g⟩:=Option.isSome_iff_exists.1 g;have j:∀x,kV (std 0) X (ofL aG l) (Wt ord) (aes E ord) an h e a x=F x:=λx=>by have:=d x;simp_all
 have i:∀x,FM (F x):=λx=>by rw [<-j x];exact FM.run x
 refine⟨rfl,i,amD hE hX (aie n) hm (ord:=Wt ord) (chk:=aes E ord) aeu m g (b _ g) (an:=an) (λx k=> ?_)⟩;rw [j x];simp only [cn]at k;exact @Classical.epsilon_spec _ (λy=>F x λz=>z=y) (@of_decide_eq_true _ (Classical.propDecidable _) k)
end
abbrev aD.z:aD:=⟨[],[]⟩
abbrev Tup.q{C:Car}{a b c d:LTy}{ts:List LTy}(x:Tup C (a::b::c::d::ts)):Tup C ts:=x.2.2.2.2
abbrev Tup.o{C:Car}{a b c d e f g h:LTy}{i:List LTy}(x:Tup C (a::b::c::d::e::f::g::h::i)):Tup C i:=x.2.2.2.2.2.2.2.2
abbrev Pt(A:Alg)(s:Sig):Type:=Tup A.aA s.inp->A.B
abbrev Ft(A:Alg)(s:Sig):Type:=Tup A.aA s.inp->Tup A.aA s.out
abbrev Ot(A:Alg)(s:Sig):Type:=A.M (Tup A.aA s.out)
structure Al(A:Alg) where
 n:Int->A.I
 z:A.I
 u:A.I
 T:A.B
 F:A.B
 e:A.I->A.I->A.B
 d:A.I->A.I->A.B
 l:A.I->A.I->A.B
 m:A.I->A.I->A.B
 g:A.I->A.I->A.B
 h:A.I->A.I->A.B
 p:A.I->A.I->A.I
 q:A.I->A.I->A.I
 t:A.I->A.I->A.I
 i: {ρ:Type}->A.I->(Tup A.aA [.i]->A.M ρ)->A.M ρ
 b: {ρ:Type}->A.B->(Tup A.aA [.b]->A.M ρ)->A.M ρ
 s: {ρ:Type}->(t:LTy)->LT A.aA t->(Tup A.aA [t]->A.M ρ)->A.M ρ
 j: {ρ:Type}->{i o:List LTy}->(Tup A.aA i->A.B)->(Tup A.aA i->Tup A.aA o)->Tup A.aA i->(Tup A.aA o->A.M ρ)->A.M ρ
 k: {ρ:Type}->{i o:List LTy}->A.B->(Tup A.aA i->A.B)->(Tup A.aA i->Tup A.aA o)->Tup A.aA i->(Tup A.aA o->A.M ρ)->A.M ρ
 v:A.B->A.M (Tup A.aA [.b])
 w: {ρ:Type}->(c:Co)->A.L c->A.I->A.M ρ->A.M ρ
 c: {ρ:Type}->A.B->A.M ρ->A.M ρ->A.M ρ
 C: {ρ:Type}->A.B->A.M ρ->A.M ρ
 r: {ts:List LTy}->Tup A.aA ts->A.M (Tup A.aA ts)
 L: {ρ:Type}->{ts:List LTy}->Tup A.aA ts->A.M (Sum (Tup A.aA ts) ρ)
 R: {ρ:Type}->{ts:List LTy}->A.M ρ->A.M (Sum (Tup A.aA ts) ρ)
 I: {ρ:Type}->(ts:List LTy)->(Tup A.aA ts->A.M (Sum (Tup A.aA ts) ρ))->Tup A.aA ts->A.M ρ
 f:(c:Co)->Nat->A.X c->A.I
 D:(c:Co)->Nat->(c':Co)->A.X c->A.L c'
 x:(c:Co)->Tup A.aA c.qY->A.X c
 y:(c:Co)->A.L c->A.I
 o:(c:Co)->A.L c->A.I->A.X c
 a:A.B->A.B->A.B->A.B
 N:A.B->A.B
 O:A.B->A.B->A.B
abbrev Alg.al(A:Alg):Al A where
 n:=A.lit
 z:=A.lit 0
 u:=A.lit 1
 T:=A.bl true
 F:=A.bl false
 e:=A.cmp .eql
 d:=A.cmp .neq
 l:=A.cmp .lss
 m:=A.cmp .leq
 g:=A.cmp .gtr
 h:=A.cmp .geq
 p:=A.arith .add .i64
 q:=A.arith .sub .i64
 t:=A.arith .mul .i64
 i:=λv k=>A.uF [.i] (v,()) k
 b:=λv k=>A.uF [.b] (v,()) k
 s:=λt v k=>A.uF [t] (v,()) k
 j:=λp f a k=>A.chk (p a) (A.uF _ (f a) k)
 k:=λb p f a k=>A.chk (A.orB (A.yU b) (p a)) (A.uF _ (f a) k)
 v:=λv=>A.uF [.b] (v,()) λx=>A.ret [.b] (x.1,())
 w:=λc l i m=>A.chk (A.cmp .leq (A.lit 0) i) (A.chk (A.cmp .lss i (A.len c l)) m)
 c:=A.cond
 C:=A.chk
 r:=A.ret _
 L:=A.inl _
 R:=A.inr _
 I:=A.iter
 f:=A.fI
 D:=A.fL
 x:=A.mkX
 y:=A.len
 o:=A.get
 a:=A.JA
 N:=A.yU
 O:=A.orB
abbrev SkC.i:SkC:= .int .i64
abbrev SkV.i:SkV:= .c (.int .i64)
abbrev SkV.b:SkV:= .c .bool
abbrev SkV.p(l s:Nat):SkV:= .c (.pb l s 0)
abbrev SkV.o(l:Nat):SkV:= .c (.own l)
abbrev SkV.r(f:Bool)(c:Co):SkV:= .c (.rows f c)
abbrev SkO.g(l:List SkC):SkO:= .box (.agg l)
abbrev SkC.e:SkC:= .rows true .i64
abbrev SkO.e:SkO:= .rows true .i64
abbrev SkO.s(f:Bool)(c:Co):SkO:= .box (.sv f c)
abbrev Ann.v(a:Ann):Ann:= .seq .u a
end Go.TX
namespace Go.TX
open Go Go.AE List
section
variable [aD]
def tmps(l:List Operand):List Nat:=l.filterMap λ| .tmp t=>some t | _=>none
def opT(d:List Oper)(o:Oper):List Nat:=
 (match o.op with
 | .build _ e | .buildSlice _ _ e=>tmps (e.toList.map (·.2))
 | .slice _ x a b c=>tmps (x::(a.toList++b.toList++c.toList))
 | .makeFunc _ a b=>tmps (a.toList++b.toList)
 | .call c=>tmps c.operands.toList
 | .lookup _ a v _=>tmps [a,v]++(l8 d).map (·.2)
 | op=>tmps op.operands.toList)++(match o.guard with | some (j,_)=>(gslot d j).toList | none=> [])
def X6(b:List Oper)(m:List Nat)(e:Nat):Nat->Nat->List eF->List eF
 | 0,_,out=>out
 | k+1,dn,out=>
  let g (i:Nat):Nat:=match b[i]? with | some o=>Xn [] o.after.toList | none=>0
  let c (i q:Nat):Bool:= !dn.testBit i&& (g i&&&q)==g i
  let f (i:Nat):List Nat:=match b[i]? with | some o=>opT b o | none=> []
  let n:=range b.length
  match n.find? λi=>Nat.ble (bq b i) 1&&c i (n.foldl (λd j=>if e.testBit j&& !(match gslot b j with | some x=>(f i).contains x | none=>false)then d ||| 2^j else d) dn)with
  | some i=>X6 b m e k (dn ||| 2^i) (out++ [(i,f i,[])])
  | none=>match n.find? λi=>bq b i==3&&c i (dn ||| e)with
   | some i=>
    let a:=n.filter λj=>bq b j==2&& !dn.testBit j&& (m.getD i 0).testBit j
    X6 b m e k (a.foldl (λd j=>d ||| 2^j) dn ||| 2^i) (out++a.map (λj=>(j,[],[]))++ [(i,f i,(out.filter λp=>loadAt b p.1&& !kM m i p.1).map (·.1))])
   | none=>out++(n.filter λj=> !dn.testBit j).map (λj=>(j,[],[]))
def amN(a:List Oper):List eF:=X6 a (masks a) ((range a.length).foldl (λd i=>if bq a i==2 then d ||| 2^i else d) 0) (a.length+1) 0 []
def aev:Code->List (Nat×List eF)
 | .region id c true=> [(id,amN c.toList)]
 | .seq a b | .cond _ a b=>aev a++aev b
 | .block _ b | .loop b=>aev b
 | _=> []
def aif(f:Func):List (Nat×List eF):=aev (f.body.getD .skip)
end
inductive Ex where
 | v (n j:Nat) | ln (n:Nat) | lz (n:Nat) | bl (b:Bool) | st (s:ByteArray)
 | ar (op:BinOp) (k:IntKind) (x y:Ex) | cm (op:BinOp) (x y:Ex) | addN (x y:Ex) | LP (x y:Ex) | neg (k:IntKind) (x:Ex) | conv (k:IntKind) (x:Ex) | Oc (x y:Ex) | jK (x y:Ex)
 | yU (x:Ex) | LQ (x y:Ex) | orB (x y:Ex) | eqB (x y:Ex) | eqS (x y:Ex) | Od (x:Ex)
 | Oe (b x y:Ex) | JA (b x y:Ex) | Og (b:Ex) (c:Co) (x y:Ex) | V4 (b:Ex) (c:Co) (x y:Ex)
 | len (c:Co) (x:Ex) | Eo (c:Co) | get (c:Co) (x i:Ex) | set (c:Co) (x i y:Ex) | app (c:Co) (x y:Ex) | sub (c:Co) (x i j:Ex) | rep (c:Co) (n x:Ex) | lst (c:Co) (xs:List Ex) | glob (n:Nat) (c:Co)
 | fI (c:Co) (j:Nat) (x:Ex) | fB (c:Co) (j:Nat) (x:Ex) | fS (c:Co) (j:Nat) (x:Ex) | fL (c:Co) (j:Nat) (c':Co) (x:Ex) | mkX (c:Co) (ts:List LTy) (t:List Ex) | eqX (c:Co) (x y:Ex)
 | cp (i:Nat) (ts:List LTy) (t:List Ex) | cf (i:Nat) (ts:List LTy) (t:List Ex) (j:Nat)
inductive Pg where
 | ret (ts:List LTy) (t:List Ex) | uF (ts:List LTy) (t:List Ex) (k:Pg) | amO (i:Nat) (ts:List LTy) (t:List Ex) (k:Pg) | fail | chk (b:Ex) (m:Pg) | cond (b:Ex) (x y:Pg) | bind (ts:List LTy) (m k:Pg) | vH (ts:List LTy) (m k:Pg)
 | inl (ts:List LTy) (t:List Ex) | inr (ts:List LTy) (m:Pg) | iter (ts:List LTy) (b:Pg) (t:List Ex)
abbrev JX:Car:={I:=Ex,B:=Ex,S:=Ex,L:=λ_=>Ex,X:=λ_=>Ex}
def lvE:LV JX->Ex | .i x=>x | .b x=>x | .s x=>x | .l _ x=>x | .x _ x=>x
def tE(a:List LTy)(t:Tup JX a):List Ex:=(unpack JX a t).map lvE
def eT(f:Nat->Ex):(a:List LTy)->Nat->Tup JX a
 | [],_=>()
 | t::r,j=>(match t with | .i=>f j | .b=>f j | .s=>f j | .l _=>f j | .x _=>f j,eT f r (j+1))
def vT(a:List LTy)(n:Nat):Tup JX a:=eT (.v n) a 0
def amP(i:Nat):Nat->List Ex->Bool
 | _,[]=>true
 | j,.cf i' _ _ j'::r=>Nat.beq i i'&&Nat.beq j j'&&amP i (j+1) r
 | _,_=>false
structure MS where
 run:Nat->Pg
def ap1:Alg:={
 aA:=JX
 M:=λ_=>MS
 lit:=λn=>(match n with | .ofNat k=> .ln k | .negSucc k=> .lz (k+1)),bl:= .bl,st:= .st,arith:= .ar,cmp:= .cm,addN:= .addN,LP:= .LP,neg:= .neg,conv:= .conv,Oc:= .Oc,jK:= .jK
 yU:= .yU,LQ:= .LQ,orB:= .orB,eqB:= .eqB,eqS:= .eqS,Od:= .Od,Oe:= .Oe,JA:= .JA,Og:= .Og,V4:= .V4
 len:= .len,Eo:= .Eo,get:= .get,set:= .set,app:= .app,sub:= .sub,rep:= .rep,lst:= .lst,glob:= .glob
 fI:= .fI,fB:= .fB,fS:= .fS,fL:= .fL,mkX:=λc t=> .mkX c c.qY (tE c.qY t),eqX:= .eqX
 ret:=λa t=>⟨λ_=> .ret a (tE a t)⟩
 uF:=λa t k=>⟨λn=>match tE a t with | .cf i q e 0::r=>if amP i 1 r then .amO i q e ((k (vT a n)).run (n+1))else .uF a (.cf i q e 0::r) ((k (vT a n)).run (n+1)) | e=> .uF a e ((k (vT a n)).run (n+1))⟩
 fail:=⟨λ_=> .fail⟩
 chk:=λb m=>⟨λn=> .chk b (m.run n)⟩
 cond:=λb x y=>⟨λn=> .cond b (x.run n) (y.run n)⟩
 bind:=λa m k=>⟨λn=> .bind a (m.run n) ((k (vT a n)).run (n+1))⟩
 vH:=λa m k=>⟨λn=> .vH a (m.run n) ((k (vT a n)).run (n+1))⟩
 inl:=λa t=>⟨λ_=> .inl a (tE a t)⟩
 inr:=λa m=>⟨λn=> .inr a (m.run n)⟩
 iter:=λa b t=>⟨λn=> .iter a ((b (vT a n)).run (n+1)) (tE a t)⟩}
def sCt(i:Nat)(s:Sig):Ct JX s:={pre:=λt=> .cp i s.inp (tE s.inp t),fn:=λt=>eT (.cf i s.inp (tE s.inp t)) s.out 0}
def scs:List (Nat×Sig)->Nat->List (FuncId×Sigma (Ct JX))
 | [],_=> []
 | p::r,i=>(p.1,⟨p.2,sCt i p.2⟩)::scs r (i+1)
def ap2(k:aD)(X:XT)(a:Ann)(s:Sig)(f:Func)(l:List (Nat×Sig)):Pg:=
 (kV ap1 X (ofL JX (scs l 0)) (Wt (aif f)) (λ_ _ _=>true) a s f (f.body.getD .skip) (vT s.inp 0)).run 1
abbrev Cs(A:Alg):List (Nat×Sig)->Type
 | []=>Unit
 | p::r=>Pt A p.2×Ft A p.2×Cs A r
abbrev csl(A:Alg):(l:List (Nat×Sig))->Cs A l->List (FuncId×Sigma (Ct A.aA))
 | [],_=> []
 | p::r,c=>(p.1,⟨p.2,⟨c.1,c.2.1⟩⟩)::csl A r c.2.2
abbrev Vs(A:Alg):=List ((a:List LTy)×Tup A.aA a)
section
variable (A:Alg) (L Z:Nat->A.I) (W:ByteArray->A.S) (P:∀ {α β:Type},α×β->α) (Q:∀ {α β:Type},α×β->β) (U:Unit) (l:List (Nat×Sig)) (C:Cs A l) (N:Nat) (V:Vs A)
def dfl:(t:LTy)->LT A.aA t
 | .i=>L 0 | .b=>A.bl true | .s=>W default | .l c=>A.Eo c | .x c=>A.get c (A.Eo c) (L 0)
def aii:(a:List LTy)->Tup A.aA a | []=>() | t::r=>(dfl A L W t,aii r)
def cst(a t:LTy)(x:LT A.aA a):LT A.aA t:=if h:a=t then h▸x else dfl A L W t
def Wu(a b:List LTy)(x:Tup A.aA a):Tup A.aA b:=if h:a=b then h▸x else aii A L W b
def vrT:(a:List LTy)->Tup A.aA a->Nat->(t:LTy)->LT A.aA t
 | [],_,_,t=>dfl A L W t
 | t'::_,x,0,t=>cst A L W t' t (P x)
 | _::r,x,j+1,t=>vrT r (Q x) j t
def vr(n j:Nat)(t:LTy):LT A.aA t:=match V[N-1-n]? with | some p=>vrT A L W P Q p.1 p.2 j t | none=>dfl A L W t
def cP:(l:List (Nat×Sig))->Cs A l->Nat->((s:Sig)->Tup A.aA s.inp)->A.B
 | [],_,_,_=>A.bl true
 | p::_,c,0,g=>c.1 (g p.2)
 | _::r,c,i+1,g=>cP r c.2.2 i g
def cF{R:Type}(d:R):(l:List (Nat×Sig))->Cs A l->Nat->((s:Sig)->Ft A s->R)->R
 | [],_,_,_=>d
 | p::_,c,0,g=>g p.2 c.2.1
 | _::r,c,i+1,g=>cF d r c.2.2 i g
mutual
def ev:Ex->(t:LTy)->LT A.aA t
 | .v n j,t=>vr A L W P Q N V n j t
 | .ln n,.i=>L n
 | .lz n,.i=>Z n
 | .bl b,.b=>A.bl b
 | .st s,.s=>W s
 | .ar op k x y,.i=>A.arith op k (ev x .i) (ev y .i)
 | .cm op x y,.b=>A.cmp op (ev x .i) (ev y .i)
 | .addN x y,.i=>A.addN (ev x .i) (ev y .i)
 | .LP x y,.i=>A.LP (ev x .i) (ev y .i)
 | .neg k x,.i=>A.neg k (ev x .i)
 | .conv k x,.i=>A.conv k (ev x .i)
 | .Oc x y,.i=>A.Oc (ev x .i) (ev y .i)
 | .jK x y,.i=>A.jK (ev x .i) (ev y .i)
 | .yU x,.b=>A.yU (ev x .b)
 | .LQ x y,.b=>A.LQ (ev x .b) (ev y .b)
 | .orB x y,.b=>A.orB (ev x .b) (ev y .b)
 | .eqB x y,.b=>A.eqB (ev x .b) (ev y .b)
 | .eqS x y,.b=>A.eqS (ev x .s) (ev y .s)
 | .Od x,.s=>A.Od (ev x (.l .u8))
 | .Oe b x y,.i=>A.Oe (ev b .b) (ev x .i) (ev y .i)
 | .JA b x y,.b=>A.JA (ev b .b) (ev x .b) (ev y .b)
 | .Og b _ x y,.l c=>A.Og (ev b .b) c (ev x (.l c)) (ev y (.l c))
 | .V4 b _ x y,.x c=>A.V4 (ev b .b) c (ev x (.x c)) (ev y (.x c))
 | .len c x,.i=>A.len c (ev x (.l c))
 | .Eo _,.l c=>A.Eo c
 | .get _ x i,.x c=>A.get c (ev x (.l c)) (ev i .i)
 | .set _ x i y,.l c=>A.set c (ev x (.l c)) (ev i .i) (ev y (.x c))
 | .app _ x y,.l c=>A.app c (ev x (.l c)) (ev y (.l c))
 | .sub _ x i j,.l c=>A.sub c (ev x (.l c)) (ev i .i) (ev j .i)
 | .rep _ n x,.l c=>A.rep c (ev n .i) (ev x (.x c))
 | .lst _ xs,.l c=>A.lst c (evs c xs)
 | .glob n _,.l c=>A.glob n c
 | .fI c j x,.i=>A.fI c j (ev x (.x c))
 | .fB c j x,.b=>A.fB c j (ev x (.x c))
 | .fS c j x,.s=>A.fS c j (ev x (.x c))
 | .fL c j _ x,.l c'=>A.fL c j c' (ev x (.x c))
 | .mkX _ ts t,.x c=>A.mkX c (Wu A L W ts c.qY (tp t ts))
 | .eqX c x y,.b=>A.eqX c (ev x (.x c)) (ev y (.x c))
 | .cp i ts t,.b=>cP A l C i λs=>Wu A L W ts s.inp (tp t ts)
 | .cf i ts t j,ty=>cF A (dfl A L W ty) l C i λs f=>vrT A L W P Q s.out (f (Wu A L W ts s.inp (tp t ts))) j ty
 | _,t=>dfl A L W t
termination_by structural e=>e
def tp:List Ex->(a:List LTy)->Tup A.aA a
 | _,[]=>U
 | e::r,t::a=>(ev e t,tp r a)
 | [],t::a=>aii A L W (t::a)
termination_by structural e=>e
def evs(c:Co):List Ex->List (A.X c)
 | []=> []
 | e::r=>ev e (.x c)::evs c r
termination_by structural e=>e
end
end
inductive RT where
 | t (ts:List LTy) | s (ts:List LTy) (r:RT)
abbrev RT.den(A:Alg):RT->Type
 | .t a=>Tup A.aA a
 | .s a r=>Sum (Tup A.aA a) (r.den A)
def den(A:Alg)(L Z:Nat->A.I)(W:ByteArray->A.S)(P:∀ {α β:Type},α×β->α)(Q:∀ {α β:Type},α×β->β)(U:Unit)(l:List (Nat×Sig))(C:Cs A l):Pg->(r:RT)->Nat->Vs A->A.M (r.den A)
 | .ret q t,.t ts,N,V=>A.ret ts (Wu A L W q ts (tp A L Z W P Q U l C N V t q))
 | .uF ts t k,r,N,V=>A.uF ts (tp A L Z W P Q U l C N V t ts) λy=>den A L Z W P Q U l C k r (N+1) (⟨ts,y⟩::V)
 | .amO i q t k,r,N,V=>cF A A.fail l C i λs f=>A.uF s.out (f (Wu A L W q s.inp (tp A L Z W P Q U l C N V t q))) λy=>den A L Z W P Q U l C k r (N+1) (⟨s.out,y⟩::V)
 | .chk b m,r,N,V=>A.chk (ev A L Z W P Q U l C N V b .b) (den A L Z W P Q U l C m r N V)
 | .cond b x y,r,N,V=>A.cond (ev A L Z W P Q U l C N V b .b) (den A L Z W P Q U l C x r N V) (den A L Z W P Q U l C y r N V)
 | .bind ts m k,r,N,V=>A.bind ts (den A L Z W P Q U l C m (.t ts) N V) λy=>den A L Z W P Q U l C k r (N+1) (⟨ts,y⟩::V)
 | .vH ts m k,r,N,V=>A.vH ts (den A L Z W P Q U l C m (.s ts r) N V) λy=>den A L Z W P Q U l C k r (N+1) (⟨ts,y⟩::V)
 | .inl q t,.s ts _,N,V=>A.inl ts (Wu A L W q ts (tp A L Z W P Q U l C N V t q))
 | .inr _ m,.s ts r,N,V=>A.inr ts (den A L Z W P Q U l C m r N V)
 | .iter ts b t,r,N,V=>A.iter ts (λy=>den A L Z W P Q U l C b (.s ts r) (N+1) (⟨ts,y⟩::V)) (tp A L Z W P Q U l C N V t ts)
 | _,_,_,_=>A.fail
inductive Hx {α:Type}:α->α->Prop | r (a:α):Hx a a
theorem nz(n:Nat):(Nat.cast (no_index (@OfNat.ofNat Nat n (instOfNatNat n))):Int)=OfNat.ofNat n:=rfl
structure Gt(k:aD)(X:XT)(E:Tab)(a:Ann)(s:Sig)(f:Func)(l:List (Nat×Sig)) where
 F:Cs (std 0) l->iD s.inp->(iD s.out->Prop)->Prop
 h:∀C,Ru X E (std 0) (aif f) a s f (csl (std 0) l C) (F C)
def gm{k:aD}{X:XT}{E:Tab}{a:Ann}{s:Sig}{f:Func}{l:List (Nat×Sig)}{F:(A:Alg)->Cs A l->Tup A.aA s.inp->Ot A s}
 (i:∀A (P:∀ {α β:Type},α×β->α) (Q:∀ {α β:Type},α×β->β) (U:Unit), @P= @Prod.fst-> @Q= @Prod.snd->U=()->∀C x,Hx (den A (λn=>A.lit (Nat.cast n)) (λn=>A.lit (-(Nat.cast n))) A.st P Q U l C (ap2 k X a s f l) (.t s.out) 1 [⟨s.inp,x⟩]) (F A C x):=by
  intro A P Q U g b c C x;generalize d:(λn:Nat=>A.lit (Nat.cast n))=L;generalize e:(λn:Nat=>A.lit (-(Nat.cast n)))=Z
  conv=>arg 1;arg 10;reduce
  conv=>arg 1;reduce
  subst d e g b c
  try dsimp only [nz]
  exact .r _)
 (h:∀A C,Ru X E A (aif f) a s f (csl A l C) (F A C):=by intro _ _ _;kernel_rfl):Gt k X E a s f l:=⟨F (std 0),h (std 0)⟩
end Go.TX
namespace Go.TX.Seat
open Go Go.AE Go.TX Go.Proofs List
variable{P:Program}{t:TypeId}{y:TY}
set_option maxRecDepth 100000
abbrev z0:Cell:= .d true (.int .i64 0)
abbrev z1:Cell:= .d true (.bool false)
abbrev u0:TY:=⟨(.int .i64),1,8,[z0]⟩
abbrev u1:TY:=⟨(.int .u8),1,1,[.d true (.int .u8 0)]⟩
abbrev u2:TY:=⟨(.struct [(0,2),(1,3),(2,4),(3,6)]),4,24,[z0,z0,z1,.d true (.int .u8 0)]⟩
abbrev u3:TY:=⟨.str,1,16,[.d true (.str ⟨#[]⟩)]⟩
abbrev u4:TY:=⟨(.int .u64),1,8,[.d true (.int .u64 0)]⟩
abbrev u5:TY:=⟨(.struct [(0,9),(1,12)]),2,24,[.d true (.str ⟨#[]⟩),.d true (.int .u64 0)]⟩
abbrev u6:TY:=⟨.scalar,1,8,[.np]⟩
abbrev u7:TY:=⟨(.int .i32),1,4,[.d true (.int .i32 0)]⟩
abbrev u8:TY:=⟨(.struct [(0,23),(1,3),(2,23),(3,3),(4,4),(5,4),(6,3),(7,23),(8,23),(9,3)]),10,136,[.nil,z0,.nil,z0,z1,z1,z0,.nil,.nil,z0]⟩
abbrev u9:TY:=⟨(.struct [(0,25),(10,28),(11,29)]),12,184,[.nil,z0,.nil,z0,z1,z1,z0,.nil,.nil,z0,.nil,.nil]⟩
abbrev u10:TY:=⟨(.struct [(0,4),(1,22)]),2,32,[z1,.nil]⟩
abbrev u11:TY:=⟨(.struct [(0,3),(1,3),(2,50),(3,3),(4,3),(5,3),(6,3)]),7,72,[z0,z0,.nil,z0,z0,z0,z0]⟩
abbrev u12:TY:=⟨(.struct [(0,23),(1,52)]),8,96,[.nil,z0,z0,.nil,z0,z0,z0,z0]⟩
abbrev u13:TY:=⟨(.struct [(0,52),(7,3)]),8,80,[z0,z0,.nil,z0,z0,z0,z0,z0]⟩
abbrev u14:TY:=⟨(.struct [(0,3),(1,3),(2,3),(3,3)]),4,32,[z0,z0,z0,z0]⟩
abbrev u15:TY:=⟨(.struct [(0,3),(1,3),(2,3),(3,3),(4,3)]),5,40,[z0,z0,z0,z0,z0]⟩
abbrev u16:TY:=⟨(.struct [(0,112),(1,109),(2,3),(3,115),(4,115),(5,3)]),6,112,[.nil,.nil,z0,.nil,.nil,z0]⟩
abbrev u17:TY:=⟨(.struct [(0,22),(1,3)]),2,32,[.nil,z0]⟩
abbrev u18:TY:=⟨(.struct [(0,52),(7,52)]),14,144,[z0,z0,.nil,z0,z0,z0,z0,z0,z0,.nil,z0,z0,z0,z0]⟩
abbrev u19:TY:=⟨(.struct [(0,108),(1,4)]),2,32,[.nil,z1]⟩
abbrev u20:TY:=⟨(.struct [(0,3),(1,3),(2,115),(3,115),(4,109)]),5,88,[z0,z0,.nil,.nil,.nil]⟩
abbrev u21:TY:=⟨(.struct [(0,4),(1,4),(2,3),(3,187)]),4,40,[z1,z1,z0,.nil]⟩
abbrev u22:TY:=⟨(.struct [(0,3),(1,3),(2,115),(3,115)]),4,64,[z0,z0,.nil,.nil]⟩
abbrev u23:TY:=⟨(.struct [(0,3),(1,23)]),2,32,[z0,.nil]⟩
abbrev u24:TY:=⟨(.struct [(0,17),(1,17),(2,17),(3,9)]),4,40,[.np,.np,.np,.d true (.str ⟨#[]⟩)]⟩
def ty:TypeId->Option TY
 | 2=>some u0
 | 3=>some u0
 | 4=>some ⟨.bool,1,1,[z1]⟩
 | 5=>some u1
 | 6=>some u1
 | 7=>some u2
 | 8=>some u2
 | 9=>some u3
 | 10=>some u3
 | 11=>some u3
 | 12=>some u4
 | 13=>some u5
 | 14=>some u5
 | 15=>some u6
 | 16=>some u6
 | 17=>some u6
 | 18=>some ⟨(.struct [(0,17)]),1,8,[.np]⟩
 | 19=>some ⟨(.struct [(0,17)]),1,8,[.np]⟩
 | 21=>some u7
 | 22=>some ⟨(.slice 5),1,24,[.nil]⟩
 | 23=>some ⟨(.slice 3),1,24,[.nil]⟩
 | 24=>some u8
 | 25=>some u8
 | 28=>some ⟨(.slice 60),1,24,[.nil]⟩
 | 29=>some ⟨(.slice 134),1,24,[.nil]⟩
 | 30=>some u9
 | 31=>some u9
 | 34=>some ⟨(.slice 44),1,24,[.nil]⟩
 | 43=>some u10
 | 44=>some u10
 | 50=>some ⟨(.slice 102),1,24,[.nil]⟩
 | 51=>some u11
 | 52=>some u11
 | 54=>some ⟨(.slice 94),1,24,[.nil]⟩
 | 59=>some u12
 | 60=>some u12
 | 67=>some u6
 | 90=>some u6
 | 91=>some u13
 | 92=>some u13
 | 93=>some u14
 | 94=>some u14
 | 99=>some u4
 | 101=>some u15
 | 102=>some u15
 | 106=>some ⟨(.slice 194),1,24,[.nil]⟩
 | 107=>some ⟨(.struct [(0,106)]),1,24,[.nil]⟩
 | 108=>some ⟨(.struct [(0,106)]),1,24,[.nil]⟩
 | 109=>some ⟨(.slice 115),1,24,[.nil]⟩
 | 112=>some ⟨(.slice 155),1,24,[.nil]⟩
 | 113=>some ⟨(.slice 198),1,24,[.nil]⟩
 | 114=>some ⟨(.struct [(0,113)]),1,24,[.nil]⟩
 | 115=>some ⟨(.struct [(0,113)]),1,24,[.nil]⟩
 | 116=>some u16
 | 117=>some u16
 | 122=>some u17
 | 123=>some u17
 | 127=>some u6
 | 130=>some u6
 | 133=>some u18
 | 134=>some u18
 | 146=>some u6
 | 147=>some u19
 | 148=>some u19
 | 154=>some u20
 | 155=>some u20
 | 169=>some ⟨(.slice 4),1,24,[.nil]⟩
 | 181=>some u6
 | 187=>some ⟨(.slice 9),1,24,[.nil]⟩
 | 188=>some u21
 | 189=>some u21
 | 190=>some ⟨(.slice 189),1,24,[.nil]⟩
 | 193=>some u22
 | 194=>some u22
 | 197=>some u23
 | 198=>some u23
 | 209=>some u6
 | 286=>some ⟨(.slice 113),1,24,[.nil]⟩
 | 288=>some ⟨(.slice 23),1,24,[.nil]⟩
 | 295=>some u0
 | 302=>some ⟨(.int .u32),1,4,[.d true (.int .u32 0)]⟩
 | 304=>some u4
 | 310=>some u4
 | 315=>some u6
 | 319=>some u24
 | 320=>some u24
 | 324=>some u1
 | 325=>some u1
 | 327=>some u6
 | 328=>some u7
 | 329=>some u7
 | _=>none
def yA(i:TypeInfo)(d:Jj P t y.desc)(h:P.info? t=some i:=by kernel_rfl)(s:i.size=y.size:=by rfl)(b:i.bytes=y.bytes:=by rfl)
 (z:∃z,i.zero=some z/\zcs z.cells.toList=some y.zero:=by exact⟨_,rfl,rfl⟩) (l:y.zero.length=y.size:=by rfl):WT P t y:=⟨⟨i,h,s,b,z.elim λx h=>⟨x,h.1,λ_ _=>Tw h.2⟩⟩,d,l⟩
def yS{F:Array Field}(i:TypeInfo)(u:P.underlying t=some (.struct F))(e:y.desc= .struct (F.toList.map λf=>(f.offset,f.type)):=by rfl)(h:P.info? t=some i:=by kernel_rfl)(s:i.size=y.size:=by rfl)(b:i.bytes=y.bytes:=by rfl)
 (z:∃z,i.zero=some z/\zcs z.cells.toList=some y.zero:=by exact⟨_,rfl,rfl⟩) (l:y.zero.length=y.size:=by rfl):WT P t y:=yA i (by rw [e];exact⟨F,u,rfl⟩) h s b z l
def yP{e:TypeId}(i:TypeInfo)(u:P.underlying t=some (.pointer e))(e:y.desc= .scalar:=by rfl)(h:P.info? t=some i:=by kernel_rfl)(s:i.size=y.size:=by rfl)(b:i.bytes=y.bytes:=by rfl)
 (z:∃z,i.zero=some z/\zcs z.cells.toList=some y.zero:=by exact⟨_,rfl,rfl⟩) (l:y.zero.length=y.size:=by rfl):WT P t y:=yA i (by rw [e];exact⟨_,u,(λ_ h=>by cases h),(λ_ _ h=>by cases h)⟩) h s b z l
def ap3:∀t y,ty t=some y->WT Tryz.prog t y:=by
 intro t y h;unfold ty at h;split at h<;>cases h
 .exact yA Tryz.t2 Tryz.underlying2
 .exact yA Tryz.t3 Tryz.underlying3
 .exact yA Tryz.t4 Tryz.underlying4
 .exact yA Tryz.t5 Tryz.underlying5
 .exact yA Tryz.t6 Tryz.underlying6
 .exact yS Tryz.t7 Tryz.underlying7
 .exact yS Tryz.t8 Tryz.underlying8
 .exact yA Tryz.t9 Tryz.underlying9
 .exact yA Tryz.t10 Tryz.underlying10
 .exact yA Tryz.t11 Tryz.underlying11
 .exact yA Tryz.t12 Tryz.underlying12
 .exact yS Tryz.t13 Tryz.underlying13
 .exact yS Tryz.t14 Tryz.underlying14
 .exact yP Tryz.t15 Tryz.underlying15
 .exact yP Tryz.t16 Tryz.underlying16
 .exact yP Tryz.t17 Tryz.underlying17
 .exact yS Tryz.t18 Tryz.underlying18
 .exact yS Tryz.t19 Tryz.underlying19
 .exact yA Tryz.t21 Tryz.underlying21
 .exact yA Tryz.t22 Tryz.underlying22
 .exact yA Tryz.t23 Tryz.underlying23
 .exact yS Tryz.t24 Tryz.underlying24
 .exact yS Tryz.t25 Tryz.underlying25
 .exact yA Tryz.t28 Tryz.underlying28
 .exact yA Tryz.t29 Tryz.underlying29
 .exact yS Tryz.t30 Tryz.underlying30
 .exact yS Tryz.t31 Tryz.underlying31
 .exact yA Tryz.t34 Tryz.underlying34
 .exact yS Tryz.t43 Tryz.underlying43
 .exact yS Tryz.t44 Tryz.underlying44
 .exact yA Tryz.t50 Tryz.underlying50
 .exact yS Tryz.t51 Tryz.underlying51
 .exact yS Tryz.t52 Tryz.underlying52
 .exact yA Tryz.t54 Tryz.underlying54
 .exact yS Tryz.t59 Tryz.underlying59
 .exact yS Tryz.t60 Tryz.underlying60
 .exact yP Tryz.t67 Tryz.underlying67
 .exact yP Tryz.t90 Tryz.underlying90
 .exact yS Tryz.t91 Tryz.underlying91
 .exact yS Tryz.t92 Tryz.underlying92
 .exact yS Tryz.t93 Tryz.underlying93
 .exact yS Tryz.t94 Tryz.underlying94
 .exact yA Tryz.t99 Tryz.underlying99
 .exact yS Tryz.t101 Tryz.underlying101
 .exact yS Tryz.t102 Tryz.underlying102
 .exact yA Tryz.t106 Tryz.underlying106
 .exact yS Tryz.t107 Tryz.underlying107
 .exact yS Tryz.t108 Tryz.underlying108
 .exact yA Tryz.t109 Tryz.underlying109
 .exact yA Tryz.t112 Tryz.underlying112
 .exact yA Tryz.t113 Tryz.underlying113
 .exact yS Tryz.t114 Tryz.underlying114
 .exact yS Tryz.t115 Tryz.underlying115
 .exact yS Tryz.t116 Tryz.underlying116
 .exact yS Tryz.t117 Tryz.underlying117
 .exact yS Tryz.t122 Tryz.underlying122
 .exact yS Tryz.t123 Tryz.underlying123
 .exact yP Tryz.t127 Tryz.underlying127
 .exact yP Tryz.t130 Tryz.underlying130
 .exact yS Tryz.t133 Tryz.underlying133
 .exact yS Tryz.t134 Tryz.underlying134
 .exact yP Tryz.t146 Tryz.underlying146
 .exact yS Tryz.t147 Tryz.underlying147
 .exact yS Tryz.t148 Tryz.underlying148
 .exact yS Tryz.t154 Tryz.underlying154
 .exact yS Tryz.t155 Tryz.underlying155
 .exact yA Tryz.t169 Tryz.underlying169
 .exact yP Tryz.t181 Tryz.underlying181
 .exact yA Tryz.t187 Tryz.underlying187
 .exact yS Tryz.t188 Tryz.underlying188
 .exact yS Tryz.t189 Tryz.underlying189
 .exact yA Tryz.t190 Tryz.underlying190
 .exact yS Tryz.t193 Tryz.underlying193
 .exact yS Tryz.t194 Tryz.underlying194
 .exact yS Tryz.t197 Tryz.underlying197
 .exact yS Tryz.t198 Tryz.underlying198
 .exact yP Tryz.t209 Tryz.underlying209
 .exact yA Tryz.t286 Tryz.underlying286
 .exact yA Tryz.t288 Tryz.underlying288
 .exact yA Tryz.t295 Tryz.underlying295
 .exact yA Tryz.t302 Tryz.underlying302
 .exact yA Tryz.t304 Tryz.underlying304
 .exact yA Tryz.t310 Tryz.underlying310
 .exact yP Tryz.t315 Tryz.underlying315
 .exact yS Tryz.t319 Tryz.underlying319
 .exact yS Tryz.t320 Tryz.underlying320
 .exact yA Tryz.t324 Tryz.underlying324
 .exact yA Tryz.t325 Tryz.underlying325
 .exact yP Tryz.t327 Tryz.underlying327
 .exact yA Tryz.t328 Tryz.underlying328
 .exact yA Tryz.t329 Tryz.underlying329
def co:TypeId->Option Co
 | 3=>some .i64
 | 4=>some .bool
 | 5=>some .u8
 | 9=>some .str
 | 23=>some .ints
 | 25=>some .aj
 | 31=>some .eng
 | 44=>some .ask
 | 52=>some .blk
 | 60=>some .cac
 | 94=>some .ins
 | 102=>some .iop
 | 108=>some .tab
 | 113=>some .poly
 | 115=>some .poly
 | 117=>some .sym
 | 134=>some .cer
 | 155=>some .ev
 | 189=>some .form
 | 194=>some .atom
 | 198=>some .mono
 | _=>none
def ieq:TypeId->Option Co
 | 94=>some .ins
 | 102=>some .iop
 | _=>none
def X:XT:={ty:=ty,co:=co,glob:=λg=>if g==0 then some .form else none,ieq:=ieq}
noncomputable def E:Tab:={P:=Tryz.prog,ty:=ty,glob:=λg=>if g==0 then some (.rows 4 (aM .form sJ))else none,ieq:=λt=>(ieq t).map λc=>c.size}
end Go.TX.Seat
namespace Go.TX.F
open Go Go.AE Go.TX List
set_option maxRecDepth 100000
abbrev OH:Sig:=⟨[.r true .u8],[],[.p 0 2],[.g [.rows true .u8,.i]]⟩
abbrev mY:Sig:=⟨[.p 0 2,.i],[.g [.rows true .u8,.i]],[.i],[.g [.rows true .u8,.i]]⟩
abbrev EX:Sig:=⟨[.p 0 2,.i],[.g [.rows true .u8,.i]],[.b],[.g [.rows true .u8,.i]]⟩
abbrev EY:Sig:=⟨[.p 0 2],[.g [.rows true .u8,.i]],[.o 1],[.g [.rows true .u8,.i],.e]⟩
abbrev dw:Sig:=⟨[.i],[],[.b],[]⟩
abbrev y9:Sig:=⟨[.r false .i64],[],[.b],[]⟩
abbrev X7:Sig:=⟨[.r false .i64,.r false .i64],[],[.agg [.own 0,.i,.own 1,.i,.bool,.bool,.i,.own 2,.nil,.i]],[.e,.e,.e]⟩
abbrev OI:Sig:=⟨[.p 0 2],[.g [.rows true .u8,.i]],[.i],[.g [.rows true .u8,.i]]⟩
abbrev BH:Sig:=⟨[.p 0 2],[.g [.rows true .u8,.i]],[.agg [.i,.i,.i,.i]],[.g [.rows true .u8,.i]]⟩
abbrev bZ:Sig:=⟨[.i,.i,.i],[],[.b],[]⟩
abbrev mZ:Sig:=⟨[.sv false .ins],[],[.b],[]⟩
abbrev JY:Sig:=⟨[.p 0 2,.i],[.g [.rows true .u8,.i]],[.o 1],[.g [.rows true .u8,.i],.rows true .ins]⟩
abbrev EZ:Sig:=⟨[.sv false .ins],[],[.i],[]⟩
abbrev JZ:Sig:=⟨[.r false .ins],[],[.o 0],[.e]⟩
abbrev X8:Sig:=⟨[.p 0 2,.i],[.g [.rows true .u8,.i]],[.o 1],[.g [.rows true .u8,.i],.e]⟩
abbrev kX:Sig:=⟨[.sv false .aj],[],[.b],[]⟩
abbrev vV:Sig:=⟨[.sv false .aj],[],[.agg [.own 0,.i,.own 1,.i,.bool,.bool,.i,.own 2,.own 3,.i]],[.e,.e,.e,.e]⟩
abbrev E5:Sig:=⟨[.r false .i64,.i],[],[.b],[]⟩
abbrev za:Sig:=⟨[.i],[],[.agg [.i,.i,.i,.i],.b],[]⟩
abbrev X9:Sig:=⟨[.agg [.own 0,.i,.own 1,.i,.bool,.bool,.i,.e,.own 2,.i],.b],[.e,.e,.e],[.agg [.own 0,.i,.own 1,.i,.bool,.bool,.i,.e,.own 2,.i]],[.e,.e,.e]⟩
abbrev ni:Sig:=⟨[.agg [.own 0,.i,.own 1,.i,.bool,.bool,.i,.e,.own 2,.i],.i],[.e,.e,.e],[.agg [.own 0,.i,.own 1,.i,.bool,.bool,.i,.e,.own 2,.i]],[.e,.e,.e]⟩
abbrev oO:Sig:=⟨[.i],[],[.i],[]⟩
abbrev vW:Sig:=⟨[.i,.i,.i],[],[.i],[]⟩
abbrev J2:Sig:=⟨[.agg [.own 0,.i,.own 1,.i,.bool,.bool,.i,.e,.own 2,.i],.i,.i],[.e,.e,.e],[.agg [.own 0,.i,.own 1,.i,.bool,.bool,.i,.e,.own 2,.i]],[.e,.e,.e]⟩
abbrev BI:Sig:=⟨[.i,.i],[],[.i],[]⟩
abbrev Ya:Sig:=⟨[.agg [.own 0,.i,.own 1,.i,.bool,.bool,.i,.e,.own 2,.i],.sv false .ins],[.e,.e,.e],[.agg [.own 0,.i,.own 1,.i,.bool,.bool,.i,.e,.own 2,.i]],[.e,.e,.e]⟩
abbrev J3:Sig:=⟨[.agg [.own 0,.i,.own 1,.i,.bool,.bool,.i,.e,.own 2,.i],.sv false .ins],[.e,.e,.e],[.agg [.own 0,.i,.own 1,.i,.bool,.bool,.i,.e,.own 3,.i]],[.e,.e,.gone,.e]⟩
abbrev Yb:Sig:=⟨[.sv false .aj,.b],[],[.agg [.own 0,.i,.own 1,.i,.bool,.bool,.i,.e,.own 2,.i]],[.e,.e,.e]⟩
abbrev Yc:Sig:=⟨[.sv false .aj,.r false .i64,.i],[],[.agg [.own 0,.i,.own 1,.i,.bool,.bool,.i,.e,.own 2,.i]],[.e,.e,.e]⟩
abbrev Yd:Sig:=⟨[.p 0 2],[.g [.rows true .u8,.i]],[.agg [.own 1,.i,.own 2,.i,.bool,.bool,.i,.e,.own 3,.i]],[.g [.rows true .u8,.i],.e,.e,.e]⟩
abbrev OJ:Sig:=⟨[.p 0 2,.i],[.g [.rows true .u8,.i]],[.agg [.own 1,.i,.e,.i,.bool,.bool,.i,.e,.own 2,.i]],[.g [.rows true .u8,.i],.e,.e]⟩
abbrev Ye:Sig:=⟨[.r true .u8],[],[.agg [.own 0,.i,.e,.i,.bool,.bool,.i,.e,.own 1,.i],.o 2,.i],[.e,.e,.e]⟩
abbrev afW:Sig:=⟨[.sv false .cac,.p 0 1],[.box (.i)],[.b],[.box (.i)]⟩
abbrev E8:Sig:=⟨[.r false .i64,.r false .i64],[],[.b],[]⟩
abbrev Yf:Sig:=⟨[.sv false .cac,.r false .i64],[],[.b],[]⟩
abbrev Yg:Sig:=⟨[.sv false .cac,.p 0 1],[.box (.r false .i64)],[.b],[.box (.r false .i64)]⟩
abbrev Yh:Sig:=⟨[.sv false .cac,.p 0 8],[.s true .cac],[.b],[.s true .cac]⟩
abbrev Yi:Sig:=⟨[.r false .cac,.c (.fn 60 [(0,1)])],[.box (.i)],[.i],[.box (.i)]⟩
abbrev Yj:Sig:=⟨[.r false .cac,.c (.fn 271 [(0,8)])],[.s true .cac],[.i],[.s true .cac]⟩
abbrev Yk:Sig:=⟨[.o 0,.c (.fn 149 [(1,1)])],[.rows true .cac,.box (.r false .i64)],[.i],[.rows true .cac,.box (.r false .i64)]⟩
abbrev Yl:Sig:=⟨[.r false .cac,.i],[],[.i],[]⟩
abbrev aij:Sig:=⟨[.i,.r false .ins],[],[.b],[]⟩
abbrev MG:Sig:=⟨[.sv false .iop],[],[.b],[]⟩
abbrev BJ:Sig:=⟨[.p 0 8,.i,.i,.i,.i],[.g [.i,.i,.own 1,.i,.i,.i,.i,.i],.rows true .iop],[.i],[.g [.i,.i,.own 2,.i,.i,.i,.i,.i],.gone,.rows true .iop]⟩
abbrev Ym:Sig:=⟨[.i,.p 0 1,.p 1 4],[.box (.p 2 8),.s false .ins,.g [.i,.i,.own 3,.i,.i,.i,.i,.i],.rows true .iop],[],[.box (.p 2 8),.s false .ins,.g [.i,.i,.own 4,.i,.i,.i,.i,.i],.gone,.rows true .iop]⟩
abbrev J4:Sig:=⟨[.p 0 8,.i],[.g [.i,.i,.own 1,.i,.i,.i,.i,.i],.rows true .iop],[.i],[.g [.i,.i,.own 2,.i,.i,.i,.i,.i],.gone,.rows true .iop]⟩
abbrev Yn:Sig:=⟨[.p 0 8,.i,.i,.i],[.g [.i,.i,.own 1,.i,.i,.i,.i,.i],.rows true .iop],[.i],[.g [.i,.i,.own 2,.i,.i,.i,.i,.i],.gone,.rows true .iop]⟩
abbrev Yp:Sig:=⟨[.p 0 8,.sv false .ins],[.g [.i,.i,.own 1,.i,.i,.i,.i,.i],.rows true .iop],[],[.g [.i,.i,.own 2,.i,.i,.i,.i,.i],.gone,.rows true .iop]⟩
abbrev Iz:Sig:=⟨[.sv false .blk],[],[.agg [.i,.i,.own 0,.i,.i,.i,.i]],[.rows true .iop]⟩
abbrev aik:Sig:=⟨[.i,.r false .ins],[],[.agg [.i,.i,.own 0,.i,.i,.i,.i]],[.rows true .iop]⟩
abbrev MH:Sig:=⟨[.sv false .iop],[],[.b,.b,.b,.b],[]⟩
abbrev Yq:Sig:=⟨[.sv false .blk,.i,.i],[],[.b],[]⟩
abbrev afX:Sig:=⟨[.sv false .blk,.i],[],[.b],[]⟩
abbrev MI:Sig:=⟨[.sv false .blk],[],[.b,.b,.b],[]⟩
abbrev yu:Sig:=⟨[.sv false .blk],[],[.b],[]⟩
abbrev Yr:Sig:=⟨[.r false .iop,.r false .iop],[],[.b],[]⟩
abbrev yx:Sig:=⟨[.sv false .blk,.sv false .blk],[],[.b],[]⟩
abbrev afY:Sig:=⟨[.i,.p 0 1,.p 1 7],[.box (.p 2 12),.s true .blk,.g [.own 3,.i,.own 4,.i,.bool,.bool,.i,.e,.own 5,.i,.rows true .cac,.rows true .cer],.e,.e,.e],[.b],[.box (.p 2 12),.s true .blk,.g [.own 3,.i,.own 4,.i,.bool,.bool,.i,.e,.own 5,.i,.rows true .cac,.rows true .cer],.e,.e,.e]⟩
abbrev afZ:Sig:=⟨[.i,.p 0 1],[.box (.i)],[.b],[.box (.i)]⟩
abbrev Yt:Sig:=⟨[.r false .i64,.c (.fn 278 [(0,1)])],[.box (.i)],[.i],[.box (.i)]⟩
abbrev Yu:Sig:=⟨[.r false .i64,.c (.fn 146 [(0,1),(1,7)])],[.box (.p 2 12),.s true .blk,.g [.own 3,.i,.own 4,.i,.bool,.bool,.i,.e,.own 5,.i,.rows true .cac,.rows true .cer],.e,.e,.e],[.i],[.box (.p 2 12),.s true .blk,.g [.own 3,.i,.own 4,.i,.bool,.bool,.i,.e,.own 5,.i,.rows true .cac,.rows true .cer],.e,.e,.e]⟩
abbrev Yv:Sig:=⟨[.r false .i64,.c (.fn 278 [(0,1)])],[.box (.i)],[.b],[.box (.i)]⟩
abbrev Yw:Sig:=⟨[.r false .i64,.c (.fn 146 [(0,1),(1,7)])],[.box (.p 2 12),.s true .blk,.g [.own 3,.i,.own 4,.i,.bool,.bool,.i,.e,.own 5,.i,.rows true .cac,.rows true .cer],.e,.e,.e],[.b],[.box (.p 2 12),.s true .blk,.g [.own 3,.i,.own 4,.i,.bool,.bool,.i,.e,.own 5,.i,.rows true .cac,.rows true .cer],.e,.e,.e]⟩
abbrev Yx:Sig:=⟨[.sv false .poly,.i],[],[.b],[]⟩
abbrev ail:Sig:=⟨[.r false .i64],[],[.i],[]⟩
abbrev ze:Sig:=⟨[.r false .i64,.r false .i64],[],[.i],[]⟩
abbrev aew:Sig:=⟨[.i,.i],[],[.b],[]⟩
abbrev af0:Sig:=⟨[.sv false .mono],[],[.b],[]⟩
abbrev Yy:Sig:=⟨[.r false .mono,.c (.fn 238 [])],[],[.i],[]⟩
abbrev Yz:Sig:=⟨[.r false .mono,.c (.fn 238 [])],[],[.b],[]⟩
abbrev CF:Sig:=⟨[.sv false .poly],[],[.b],[]⟩
abbrev YA:Sig:=⟨[.sv false .atom,.i],[],[.b],[]⟩
abbrev Ui:Sig:=⟨[.sv false .poly,.sv false .poly],[],[.i],[]⟩
abbrev sQ:Sig:=⟨[.sv false .poly,.sv false .poly],[],[.b],[]⟩
abbrev af2:Sig:=⟨[.sv false .atom,.sv false .atom],[],[.b],[]⟩
abbrev af3:Sig:=⟨[.sv false .atom,.p 0 4],[.s false .atom],[.b],[.s false .atom]⟩
abbrev YB:Sig:=⟨[.r false .atom,.c (.fn 227 [(0,4)])],[.s false .atom],[.i],[.s false .atom]⟩
abbrev YC:Sig:=⟨[.sv false .tab,.sv false .atom],[],[.i],[]⟩
abbrev YD:Sig:=⟨[.r true .atom],[],[.c (.clip true .atom)],[]⟩
abbrev YE:Sig:=⟨[.sv true .tab,.sv true .atom],[],[.sv true .tab,.i],[]⟩
abbrev E9:Sig:=⟨[.i],[],[.agg [.own 0]],[.rows true .mono]⟩
abbrev OL:Sig:=⟨[.p 0 2,.i,.i],[.g [.rows true .atom,.bool]],[.sv true .poly],[.g [.rows true .atom,.bool]]⟩
abbrev OM:Sig:=⟨[.p 0 2],[.g [.rows true .atom,.bool]],[.o 1],[.g [.rows true .atom,.bool],.rows true .poly]⟩
abbrev Fa:Sig:=⟨[.r false .i64],[],[.o 0],[.e]⟩
abbrev Uj:Sig:=⟨[.sv false .poly],[],[.agg [.own 0]],[.rows true .mono]⟩
abbrev YF:Sig:=⟨[.sv false .tab],[],[.agg [.own 0]],[.rows true .atom]⟩
abbrev af4:Sig:=⟨[],[],[.sv true .tab,.r true .poly],[]⟩
abbrev af5:Sig:=⟨[.sv false .tab],[],[.b],[]⟩
abbrev YG:Sig:=⟨[.o 0],[.rows true .poly],[.o 1],[.rows true .poly,.rows true .poly]⟩
abbrev YH:Sig:=⟨[.sv false .poly],[],[.i,.b],[]⟩
abbrev OO:Sig:=⟨[.sv false .mono,.sv false .mono],[],[.i],[]⟩
abbrev YI:Sig:=⟨[.o 0,.i,.i,.c (.fn 311 [])],[.rows false .mono],[],[.rows false .mono]⟩
abbrev zf:Sig:=⟨[.o 0,.i,.i,.i,.c (.fn 311 [])],[.rows false .mono],[],[.rows false .mono]⟩
abbrev OQ:Sig:=⟨[.o 0,.i,.i,.i,.c (.fn 311 [])],[.rows false .mono],[],[.rows false .mono]⟩
abbrev YJ:Sig:=⟨[.o 0,.i,.c (.fn 311 [])],[.rows false .mono],[],[.rows false .mono]⟩
abbrev YK:Sig:=⟨[.o 0,.c (.fn 311 [])],[.rows false .mono],[],[.rows false .mono]⟩
abbrev OT:Sig:=⟨[.o 0],[.rows false .mono],[.agg [.own 1],.b],[.rows false .mono,.rows true .mono]⟩
abbrev YL:Sig:=⟨[.c (.nil),.i],[],[.o 0],[.rows true .mono]⟩
abbrev YM:Sig:=⟨[.r false .poly],[],[.o 0],[.rows false .mono]⟩
abbrev MK:Sig:=⟨[.sv false .poly,.sv false .poly],[],[.agg [.own 0],.b],[.rows true .mono]⟩
abbrev YN:Sig:=⟨[.c (.nil),.i],[],[.o 0],[.e]⟩
abbrev YO:Sig:=⟨[.r false .ints],[],[.o 0],[.e]⟩
abbrev Fb:Sig:=⟨[.o 0,.i,.i],[.e],[],[.e]⟩
abbrev YP:Sig:=⟨[.o 0,.i,.i],[.e],[],[.e]⟩
abbrev YQ:Sig:=⟨[.o 0,.i,.i],[.e],[],[.e]⟩
abbrev OU:Sig:=⟨[.o 0,.i,.i],[.e],[.i,.i],[.e]⟩
abbrev YR:Sig:=⟨[.o 0,.i,.i],[.e],[],[.e]⟩
abbrev OV:Sig:=⟨[.o 0,.i,.i],[.e],[.b],[.e]⟩
abbrev OW:Sig:=⟨[.o 0,.i,.i,.i],[.e],[.i],[.e]⟩
abbrev OX:Sig:=⟨[.o 0,.i,.i,.i],[.e],[.i,.b],[.e]⟩
abbrev Fe:Sig:=⟨[.o 0,.i,.i,.i],[.e],[],[.e]⟩
abbrev YS:Sig:=⟨[.c (.int .u64)],[],[.i],[]⟩
abbrev YT:Sig:=⟨[.o 0],[.e],[],[.e]⟩
abbrev af6:Sig:=⟨[.sv false .poly,.i],[],[.agg [.own 0]],[.rows true .mono]⟩
abbrev YU:Sig:=⟨[.i,.sv true .poly,.sv true .poly],[],[.sv true .poly,.b],[]⟩
abbrev af7:Sig:=⟨[.sv true .tab,.i,.sv true .poly,.sv true .poly],[],[.sv true .tab,.sv true .poly,.b],[]⟩
abbrev YV:Sig:=⟨[.r false .poly],[],[.o 0],[.rows true .poly]⟩
abbrev af8:Sig:=⟨[.sv false .sym],[],[.agg [.own 0,.own 1,.i,.own 2,.own 3,.i]],[.rows true .ev,.rows true .poly,.rows true .mono,.rows true .mono]⟩
abbrev af9:Sig:=⟨[.sv false .sym,.i],[],[.sv true .sym],[]⟩
abbrev aga:Sig:=⟨[.sv true .tab,.sv false .blk],[],[.sv true .tab,.sv true .sym],[]⟩
abbrev YW:Sig:=⟨[.r false .poly,.r false .poly,.c (.fn 180 [])],[],[.b],[]⟩
abbrev OY:Sig:=⟨[.r false .poly,.r false .poly],[],[.b],[]⟩
abbrev agb:Sig:=⟨[.sv false .ev,.sv false .ev],[],[.b],[]⟩
abbrev YX:Sig:=⟨[.r false .ev,.r false .ev,.c (.fn 125 [])],[],[.b],[]⟩
abbrev agc:Sig:=⟨[.sv false .sym,.sv false .sym],[],[.b],[]⟩
abbrev amQ:Sig:=⟨[.r false .i64],[],[.o 0],[.rows true .ins]⟩
abbrev agd:Sig:=⟨[.r false .cac,.r false .i64],[],[.b],[]⟩
abbrev agf:Sig:=⟨[.sv false .cer],[],[.b],[]⟩
abbrev agh:Sig:=⟨[.sv false .cer,.p 0 7,.p 1 7],[.s false .blk,.s false .blk],[.b],[.s false .blk,.s false .blk]⟩
abbrev YZ:Sig:=⟨[.r false .cer,.c (.fn 269 [(0,7),(1,7)])],[.s false .blk,.s false .blk],[.i],[.s false .blk,.s false .blk]⟩
abbrev Y0:Sig:=⟨[.r false .cer,.c (.fn 93 [])],[],[.i],[]⟩
abbrev Za:Sig:=⟨[.r false .cer,.c (.fn 269 [(0,7),(1,7)])],[.s false .blk,.s false .blk],[.b],[.s false .blk,.s false .blk]⟩
abbrev Zb:Sig:=⟨[.r false .cer,.c (.fn 93 [])],[],[.b],[]⟩
abbrev agi:Sig:=⟨[.r false .cer],[],[.b],[]⟩
abbrev Uk:Sig:=⟨[.sv false .eng],[],[.b],[]⟩
abbrev agj:Sig:=⟨[.sv false .cac],[],[.agg [.own 0,.i,.i,.own 1,.i,.i,.i,.i]],[.e,.rows true .iop]⟩
abbrev J5:Sig:=⟨[.r false .cac],[],[.o 0],[.rows true .cac]⟩
abbrev agk:Sig:=⟨[.sv false .cer],[],[.agg [.i,.i,.own 0,.i,.i,.i,.i,.i,.i,.own 1,.i,.i,.i,.i]],[.rows true .iop,.rows true .iop]⟩
abbrev OZ:Sig:=⟨[.r false .cer],[],[.o 0],[.rows true .cer]⟩
abbrev agl:Sig:=⟨[.sv false .eng],[],[.agg [.own 0,.i,.own 1,.i,.bool,.bool,.i,.e,.own 2,.i,.rows true .cac,.rows true .cer]],[.e,.e,.e]⟩
abbrev amR:Sig:=⟨[.sv false .aj],[],[.o 0],[.rows true .ins]⟩
abbrev agm:Sig:=⟨[.p 0 10],[.g [.own 1,.i,.own 2,.i,.bool,.bool,.i,.e,.own 3,.i],.e,.e,.e],[.i],[.g [.own 1,.i,.own 2,.i,.bool,.bool,.i,.e,.own 3,.i],.e,.e,.e]⟩
abbrev Zc:Sig:=⟨[.p 0 12],[.g [.own 1,.i,.own 2,.i,.bool,.bool,.i,.e,.own 3,.i,.rows true .cac,.rows true .cer],.e,.e,.e],[.i],[.g [.own 1,.i,.own 2,.i,.bool,.bool,.i,.e,.own 3,.i,.rows true .cac,.rows true .cer],.e,.e,.e]⟩
abbrev agn:Sig:=⟨[.p 0 10,.sv false .ins],[.g [.own 1,.i,.own 2,.i,.bool,.bool,.i,.e,.own 3,.i],.e,.e,.e],[],[.g [.own 1,.i,.own 2,.i,.bool,.bool,.i,.e,.own 4,.i],.e,.e,.gone,.e]⟩
abbrev agp:Sig:=⟨[.p 0 12,.sv false .ins],[.g [.own 1,.i,.own 2,.i,.bool,.bool,.i,.e,.own 3,.i,.rows true .cac,.rows true .cer],.e,.e,.e],[],[.g [.own 1,.i,.own 2,.i,.bool,.bool,.i,.e,.own 4,.i,.rows true .cac,.rows true .cer],.e,.e,.gone,.e]⟩
abbrev agq:Sig:=⟨[.p 0 10,.b],[.g [.own 1,.i,.own 2,.i,.bool,.bool,.i,.e,.own 3,.i],.e,.e,.e],[],[.g [.own 1,.i,.own 2,.i,.bool,.bool,.i,.e,.own 4,.i],.e,.e,.gone,.e]⟩
abbrev agr:Sig:=⟨[.p 0 12,.b],[.g [.own 1,.i,.own 2,.i,.bool,.bool,.i,.e,.own 3,.i,.rows true .cac,.rows true .cer],.e,.e,.e],[],[.g [.own 1,.i,.own 2,.i,.bool,.bool,.i,.e,.own 4,.i,.rows true .cac,.rows true .cer],.e,.e,.gone,.e]⟩
abbrev Zd:Sig:=⟨[.r false .i64,.i],[],[.i],[]⟩
abbrev ags:Sig:=⟨[.c (.int .u8),.c (.int .u8)],[],[.i],[]⟩
abbrev amS:Sig:=⟨[.r false .u8,.r false .u8],[],[.b],[]⟩
abbrev agt:Sig:=⟨[.sv false .blk],[],[.o 0],[.rows true .u8]⟩
abbrev agu:Sig:=⟨[.r false .u8],[],[.agg [.i,.i,.own 0,.i,.i,.i,.i],.b],[.rows true .iop]⟩
abbrev Ze:Sig:=⟨[.p 0 7,.r false .i64],[.g [.i,.i,.own 1,.i,.i,.i,.i],.rows true .iop],[],[.g [.i,.i,.own 1,.i,.i,.i,.i],.rows true .iop]⟩
abbrev Zf:Sig:=⟨[.sv false .blk,.r false .bool],[],[.agg [.i,.i,.own 0,.i,.i,.i,.i]],[.rows true .iop]⟩
abbrev agv:Sig:=⟨[.sv false .blk],[],[.o 0],[.rows true .bool]⟩
abbrev yB:Sig:=⟨[.sv false .blk],[],[.sv true .blk],[]⟩
abbrev agw:Sig:=⟨[.i,.p 0 7],[.g [.i,.i,.own 1,.i,.i,.i,.i],.rows true .iop],[.b],[.g [.i,.i,.own 1,.i,.i,.i,.i],.rows true .iop]⟩
abbrev agx:Sig:=⟨[.sv false .ask,.sv false .blk],[],[.sv true .blk,.b],[]⟩
abbrev agy:Sig:=⟨[.r false .cer,.sv false .blk,.sv false .blk],[],[.b],[]⟩
abbrev Zg:Sig:=⟨[.r false .cer,.i],[],[.r false .cer],[]⟩
abbrev agz:Sig:=⟨[.r false .cer,.sv false .cer],[],[.o 0],[.rows true .cer]⟩
abbrev Zh:Sig:=⟨[.o 0,.c (.fn 271 [(1,8)])],[.rows true .cac,.s true .cac],[.o 2],[.gone,.s true .cac,.rows true .cac]⟩
abbrev Zi:Sig:=⟨[.o 0,.c (.fn 149 [(1,1)])],[.rows true .cac,.box (.r false .i64)],[.o 2],[.gone,.box (.r false .i64),.rows true .cac]⟩
abbrev Zj:Sig:=⟨[.r false .cac,.i],[],[.r false .cac],[]⟩
abbrev agA:Sig:=⟨[.r false .cac,.sv true .cac],[],[.o 0],[.rows true .cac]⟩
abbrev agB:Sig:=⟨[.p 0 12,.r false .ins,.sv false .ask],[.g [.own 1,.i,.own 2,.i,.bool,.bool,.i,.e,.own 3,.i,.rows true .cac,.rows true .cer],.e,.e,.e],[],[.g [.own 1,.i,.own 2,.i,.bool,.bool,.i,.e,.own 3,.i,.own 4,.rows true .cer],.e,.e,.e,.rows true .cac]⟩
abbrev agC:Sig:=⟨[.sv false .blk,.p 0 12],[.g [.own 1,.i,.own 2,.i,.bool,.bool,.i,.e,.own 3,.i,.rows true .cac,.rows true .cer],.e,.e,.e],[],[.g [.own 1,.i,.own 2,.i,.bool,.bool,.i,.e,.own 4,.i,.rows true .cac,.rows true .cer],.e,.e,.gone,.e]⟩
abbrev agD:Sig:=⟨[.p 0 12,.r false .i64,.i,.sv false .ask],[.g [.own 1,.i,.own 2,.i,.bool,.bool,.i,.e,.own 3,.i,.rows true .cac,.rows true .cer],.e,.e,.e],[.b],[.g [.own 1,.i,.own 2,.i,.bool,.bool,.i,.e,.own 4,.i,.rows true .cac,.rows true .cer],.e,.e,.gone,.e]⟩
abbrev agE:Sig:=⟨[.r false .cac,.r false .i64],[],[.o 0],[.rows true .cac]⟩
abbrev agF:Sig:=⟨[.p 0 12,.r false .i64,.i,.sv false .ask],[.g [.own 1,.i,.own 2,.i,.bool,.bool,.i,.e,.own 3,.i,.rows true .cac,.rows true .cer],.e,.e,.e],[.b],[.g [.own 1,.i,.own 2,.i,.bool,.bool,.i,.e,.own 4,.i,.own 5,.rows true .cer],.e,.e,.gone,.e,.rows true .cac]⟩
abbrev Zk:Sig:=⟨[.sv false .eng,.r false .i64,.i,.r false .ask],[],[.sv true .eng],[]⟩
abbrev Zl:Sig:=⟨[.sv false .aj],[],[.sv true .eng],[]⟩
abbrev O1:Sig:=⟨[],[],[.b],[]⟩
abbrev J6:Sig:=⟨[.sv false .aj,.sv false .aj],[],[.b],[]⟩
abbrev agG:Sig:=⟨[.sv false .aj,.r false .i64,.i],[],[.agg [.own 0,.i,.own 1,.i,.bool,.bool,.i,.own 2,.own 3,.i]],[.e,.e,.e,.e]⟩
abbrev Zm:Sig:=⟨[.r true .u8],[],[.b],[]⟩
abbrev Zn:Sig:=⟨[.r true .u8],[],[.agg [.own 0,.i,.e,.i,.bool,.bool,.i,.e,.own 1,.i]],[.e,.e]⟩
abbrev Zp:Sig:=⟨[.r false .cac,.r false .cac],[],[.b],[]⟩
abbrev Zq:Sig:=⟨[.r false .cer,.r false .cer],[],[.b],[]⟩
abbrev Zr:Sig:=⟨[.sv false .eng,.sv false .eng],[],[.b],[]⟩
abbrev Zt:Sig:=⟨[.sv false .aj],[],[.agg [.e,.i,.own 1,.i,.bool,.bool,.i,.e,.e,.i,.own 2,.own 0]],[.rows true .cer,.e,.rows true .cac]⟩
abbrev ML:List SkC:=[.nil,.nil,.i,.nil,.nil,.i]
abbrev O4:List SkC:=[.rows true .atom,.bool]
abbrev qq0:gL:=⟨[(3,.p 0 7),(4,.p 1 1),(5,.p 2 6),(6,.p 3 2),(7,.p 4 6),(8,.o 5),(9,.i),(10,.i),(57,.r false .iop),(58,.i),(59,.i)],[.s false .blk,.g [.nil],.g ML,.g O4,.g [.own 6,.own 7,.i,.nil,.nil,.i],.rows true .poly,.rows true .ev,.rows true .poly]⟩
abbrev qq1:gL:=⟨[(1,.p 0 12),(2,.p 4 7),(4,.o 5),(14,.r false .iop),(15,.i),(16,.i)],[.g [.own 1,.i,.own 2,.i,.bool,.bool,.i,.e,.own 6,.i,.rows true .cac,.rows true .cer],.e,.e,.gone,.s false .blk,.e,.e]⟩
abbrev qq2:List SkC:=[.nil,.i,.nil,.i,.bool,.bool,.i,.nil,.nil,.i]
abbrev zh:List SkC:=[.rows true .u8,.i]
abbrev ain:List SkC:=[.nil,.i,.nil,.i,.bool,.bool,.i,.nil,.nil,.i,.nil,.nil]
abbrev qq5:List SkC:=[.i,.i,.nil,.i,.i,.i,.i]
abbrev qq6:List SkO:=[.g [.own 1,.i,.own 2,.i,.bool,.bool,.i,.e,.own 4,.i,.rows true .cac,.rows true .cer],.e,.e,.gone,.e]
abbrev qq7:Ann:=(.cond .u .u)
abbrev qq9:List SkO:=[.g ML,.g [.own 2,.own 3,.i,.own 4,.own 5,.i],.rows true .ev,.rows true .poly,.rows true .mono,.rows true .mono]
abbrev J7:gL:=⟨[(0,.p 0 10),(4,.i)],[.g [.own 1,.i,.own 2,.i,.bool,.bool,.i,.e,.own 4,.i],.e,.e,.gone,.e]⟩
abbrev Zu:List SkC:=[.own 1,.i,.own 2,.i,.bool,.bool,.i,.e,.own 3,.i,.rows true .cac,.rows true .cer]
abbrev aio:List SkO:=[.g zh,.g qq2,.g [.own 3,.i,.own 4,.i,.bool,.bool,.i,.e,.own 5,.i],.e,.e,.e]
abbrev J8:gL:=⟨[],[.g [.i,.i,.own 2,.i,.i,.i,.i,.i],.gone,.rows true .iop]⟩
abbrev amT:List SkO:=[.g qq5,.g [.i,.i,.own 2,.i,.i,.i,.i],.rows true .iop]
abbrev amU:gL:=⟨[(3,.p 0 7),(4,.p 1 1),(5,.p 2 6),(6,.p 3 2),(7,.p 4 6),(8,.o 5),(9,.i),(10,.i),(11,.i),(12,.p 6 5),(17,.p 7 1),(18,.p 8 1),(57,.r false .iop),(58,.i),(59,.i)],[.s false .blk,.g [.nil],.g ML,.g O4,.g [.own 9,.own 10,.i,.nil,.nil,.i],.rows true .poly,.s false .iop,.s true .poly,.s true .poly,.rows true .ev,.rows true .poly]⟩
abbrev aex:gL:=⟨[(1,.p 0 7),(2,.p 1 7),(3,.o 2),(4,.o 3),(18,.r false .iop),(19,.i),(20,.i)],[.s false .blk,.g qq5,.e,.e]⟩
abbrev aey:gL:=⟨[(1,.p 0 7),(2,.p 1 7),(3,.o 2),(4,.o 3),(5,.i)],[.s false .blk,.g qq5,.rows true .bool,.rows true .bool]⟩
abbrev aez:gL:=⟨[(4,.p 1 10),(5,.p 2 10)],[.g zh,.g qq2,.g [.own 3,.i,.e,.i,.bool,.bool,.i,.e,.own 4,.i],.e,.e]⟩
abbrev xM:List SkO:=[.rows false .mono]
abbrev amV:List SkC:=[.own 0,.i,.own 1,.i,.bool,.bool,.i,.e,.own 2,.i]
abbrev aip:List SkC:=[.own 1,.i,.own 2,.i,.bool,.bool,.i,.e,.own 3,.i]
abbrev aeA:gL:=⟨[(0,.p 0 10),(4,.i)],[.g aip,.e,.e,.e]⟩
abbrev aiq:List SkO:=[.s false .blk,.rows true .bool]
abbrev J9:gL:=⟨[(0,.p 0 12),(4,.i)],qq6⟩
abbrev air:List SkO:=[.s false .blk,.g qq5,.g [.i,.i,.own 3,.i,.i,.i,.i],.rows true .iop]
abbrev ais:gL:=⟨[(0,.p 0 2),(3,.o 1),(4,.i)],[.g zh,.rows true .ins]⟩
abbrev ap4:List SkC:=[.i,.i,.own 4,.i,.i,.i,.i]
abbrev ait:gL:=⟨[(0,.p 0 12),(1,.r false .ins),(7,.p 4 7)],[.g Zu,.e,.e,.e,.s true .blk]⟩
abbrev amW:gL:=⟨[(1,.r false .bool),(4,.p 0 7),(5,.o 1),(6,.p 2 7),(16,.r false .iop),(17,.i),(18,.i)],[.g qq5,.e,.g [.i,.i,.own 3,.i,.i,.i,.i],.rows true .iop]⟩
abbrev aeB:gL:=⟨[(1,.p 0 4),(4,.i),(30,.b)],[.s false .ins]⟩
abbrev aiu:List SkO:=[.g [.i,.i,.own 1,.i,.i,.i,.i],.rows true .iop]
abbrev aeC:gL:=⟨[(0,.p 0 12),(4,.i)],[.g Zu,.e,.e,.e]⟩
abbrev aiv:gL:=⟨[(0,.o 0),(1,.i),(2,.i),(3,.i),(8,.b),(9,.b)],[.e]⟩
abbrev aiw:Ann:=(.v (.cut ⟨[(0,.p 0 2),(2,.p 1 10),(3,.p 2 10)],aio⟩ qq7))
abbrev aeD:gL:=⟨[(4,.p 0 6),(5,.p 1 6)],qq9⟩
abbrev amX:gL:=⟨[(0,.o 0),(1,.i),(2,.i),(3,.i),(4,.c (.fn 311 [])),(18,.i),(19,.i),(20,.i),(21,.i),(22,.i)],xM⟩
abbrev aix:gL:=⟨[(2,.p 3 10),(4,.p 4 10)],[.e,.e,.e,.g amV,.g qq2]⟩
abbrev ap5:Ann:=(.v (.v (.seq (.v (.block (.loop ⟨[(2,.p 0 7),(3,.p 1 7),(5,.i)],[.s false .blk,.s false .blk]⟩ .u))) .u)))
abbrev amY:gL:=⟨[(0,.o 0),(2,.p 1 1),(4,.p 2 1),(5,.i)],[.rows false .mono,.g [.nil],.g [.own 3],.rows true .mono]⟩
abbrev aeE:gL:=⟨[(4,.p 1 10),(5,.p 2 10)],aio⟩
abbrev amZ:gL:=⟨[(1,.p 0 7),(2,.p 1 7),(3,.p 2 7),(4,.c (.fn 130 [(2,7)])),(15,.o 3),(16,.i),(17,.i)],air⟩
abbrev ap6:Ann:=(.v (.v (.seq (.v (.block (.loop ⟨[(0,.r false .i64),(1,.r false .i64),(5,.i)],[]⟩ .u))) .u)))
abbrev am0:gL:=⟨[(0,.o 0),(1,.c (.fn 149 [(1,1)])),(5,.i),(6,.i)],[.rows true .cac,.box (.r false .i64)]⟩
abbrev am1:Ann:=(.block (.loop ⟨[(0,.o 0),(1,.i),(2,.c (.fn 311 [])),(6,.i),(7,.i),(8,.i)],xM⟩ .u))
abbrev aiy:gL:=⟨[(2,.p 0 7),(3,.p 1 7)],amT⟩
abbrev am2:gL:=⟨[(0,.p 0 2),(2,.p 1 4),(3,.i),(4,.i),(10,.i),(30,.b)],[.g zh,.g [.i,.i,.i,.i]]⟩
abbrev ap7:Ann:=(.v (.cut ⟨[(1,.p 0 7),(3,.o 1)],aiq⟩ qq7))
abbrev am3:gL:=⟨[(0,.o 0),(1,.c (.fn 271 [(1,8)])),(5,.i),(6,.i)],[.rows true .cac,.s true .cac]⟩
abbrev ap8:Ann:=(.block (.loop ⟨[(1,.p 0 10),(3,.o 1),(4,.i)],[.s false .aj,.rows true .ins]⟩ .u))
abbrev am4:List SkC:=[.own 3,.i,.own 4,.i,.bool,.bool,.i,.e,.own 5,.i,.rows true .cac,.rows true .cer]
abbrev am5:List (Nat×SkV):=[(1,.r false .i64),(2,.i),(3,.r false .ask),(8,.p 0 12),(9,.p 1 12),(10,.i)]
abbrev am6:List SkO:=[.g qq2,.g [.own 2,.i,.own 3,.i,.bool,.bool,.i,.own 4,.nil,.i],.e,.e,.e]
abbrev aiz:gL:=⟨[(1,.p 0 7),(3,.o 1),(7,.i)],aiq⟩
abbrev am7:Ann:=(.v (.seq (.v (.block (.loop ⟨[(0,.r false .i64),(3,.i)],[]⟩ .u))) .u))
abbrev am8:List SkO:=[.g qq2,.g [.own 2,.i,.own 3,.i,.bool,.bool,.i,.e,.own 4,.i],.e,.e,.e]
abbrev aiA:List SkO:=[.e,.e,.e,.g amV,.s false .ins,.g qq2]
abbrev am9:gL:=⟨[(0,.p 0 7),(1,.r false .i64),(16,.o 1),(17,.i),(18,.i)],aiu⟩
abbrev ana:gL:=⟨[(0,.o 0),(2,.i),(4,.c (.fn 311 [])),(14,.i),(15,.i)],xM⟩
abbrev anb:gL:=⟨[(0,.o 0),(2,.i),(4,.c (.fn 311 [])),(10,.i),(11,.i)],xM⟩
abbrev ane:gL:=⟨[(0,.o 0),(1,.i),(4,.c (.fn 311 [])),(10,.i),(11,.i)],xM⟩
abbrev anf:gL:=⟨[(0,.o 0),(1,.i),(2,.c (.fn 311 [])),(6,.i)],xM⟩
end Go.TX.F
noncomputable section
namespace Go.TX.F
open Go Go.AE Go.TX Go.TX.Seat Go.Proofs List
set_option maxRecDepth 100000
set_option maxHeartbeats 4000000
def O5:Gt aD.z X E (.v (.seq (.v (.cut ⟨[(0,.r true .u8)],[]⟩ qq7)) .u)) OH Tryz.f36 []:=gm
def O6:Gt aD.z X E .u mY Tryz.f39 []:=gm
def O7:Gt aD.z X E .u EX Tryz.f40 [(39,mY)]:=gm
def O8:Gt aD.z X E (.v (.v (.seq (.v (.block (.loop ⟨[(0,.p 0 2),(3,.o 1),(4,.i)],[.g zh,.e]⟩ .u))) .u))) EY Tryz.f38 [(39,mY)]:=gm
def O9:Gt aD.z X E .u dw Tryz.f47 []:=gm
def Pb:Gt aD.z X E am7 y9 Tryz.f46 [(47,dw)]:=gm
def Pf:Gt aD.z X E (.v (.v (.v (.seq (.v (.block (.loop ⟨[(0,.r false .i64),(4,.p 0 10),(5,.p 1 10),(6,.i)],am6⟩ (.v (.seq (.block (.v (.seq (.v (.cut ⟨[(0,.r false .i64),(4,.p 0 10),(5,.p 1 10),(6,.i),(7,.i)],am6⟩ qq7)) .u))) .u))))) .u)))) X7 Tryz.f138 [(46,y9)]:=gm
def Ph:Gt aD.z X E .u OI Tryz.f98 [(39,mY)]:=gm
def Pj:Gt aD.z X E (.v (.v (.v (.seq (.v (.block (.seq (.v (.cut ⟨[(0,.p 0 2),(2,.p 1 4),(3,.i),(4,.i),(10,.i),(11,.b)],[.g zh,.g [.i,.i,.i,.i]]⟩ qq7)) (.cond .u (.v (.cond .u (.seq (.v (.cut am2 (.cond .u (.v (.cut am2 qq7))))) (.cond .u (.v (.cond .u (.seq (.v (.cut ⟨[(0,.p 0 2),(2,.p 1 4),(3,.i),(4,.i),(10,.i),(54,.b)],[.g zh,.g [.i,.i,.i,.i]]⟩ qq7)) .u))))))))))) .u)))) BH Tryz.f195 [(39,mY)]:=gm
def Pm:Gt aD.z X E .u dw Tryz.f160 []:=gm
def Pn:Gt aD.z X E .u bZ Tryz.f48 []:=gm
def Po:Gt aD.z X E (.v (.seq (.v (.block (.v (.cond .u (.v (.cond .u (.v (.cond .u (.seq (.v (.cut aeB (.cond .u (.v (.cut aeB (.cond .u (.v (.cut aeB (.cond .u (.v (.cut aeB qq7))))))))))) (.cond .u (.v (.cond .u (.v (.cond .u (.seq (.v (.cut ⟨[(1,.p 0 4),(54,.b)],[.s false .ins]⟩ qq7)) .u))))))))))))))) .u)) mZ Tryz.f274 []:=gm
def Pp:Gt aD.z X E .u mZ Tryz.f207 [(48,bZ),(274,mZ)]:=gm
def Pq:Gt aD.z X E .u mZ Tryz.f206 [(160,dw),(207,mZ)]:=gm
def Pv:Gt aD.z X E .u BH Tryz.f198 [(195,BH),(39,mY),(206,mZ)]:=gm
def Pw:Gt aD.z X E (.v (.v (.v (.seq (.v (.block (.loop ⟨[(0,.p 0 2),(1,.i),(6,.o 1),(7,.i)],[.g zh,.rows true .ins]⟩ (.v (.seq (.block (.v (.seq (.v (.cut ⟨[(0,.p 0 2),(1,.i),(6,.o 1),(7,.i),(8,.p 2 4)],[.g zh,.rows true .ins,.g [.i,.i,.i,.i]]⟩ qq7)) .u))) .u))))) .u)))) JY Tryz.f193 [(198,BH),(39,mY)]:=gm
def Px:Gt aD.z X E .u JY Tryz.f194 [(39,mY)]:=gm
def Py:Gt aD.z X E .u EZ Tryz.f197 [(207,mZ)]:=gm
def Pz:Gt aD.z X E (.v (.v (.seq (.v (.block (.loop ⟨[(0,.r false .ins),(3,.o 0),(4,.i)],[.e]⟩ .u))) .u))) JZ Tryz.f196 [(197,EZ)]:=gm
def PD:Gt aD.z X E (.v (.v (.seq (.v (.cut ⟨[(0,.p 0 2),(3,.o 1)],[.g zh,.rows true .ins]⟩ qq7)) (.seq (.v (.block (.loop ais (.v (.seq (.block (.v (.block (.v (.cut ais (.cond .u (.v (.cut ais (.cond .u (.v (.block (.loop ⟨[(0,.p 0 2),(3,.o 1),(4,.i),(5,.i)],[.g zh,.rows true .ins]⟩ .u)))))))))))) .u))))) (.v (.v (.seq (.block (.loop ⟨[(0,.p 0 2),(6,.o 1)],[.g zh,.e]⟩ .u)) (.v (.seq (.v (.block (.loop ⟨[(0,.p 0 2),(6,.o 1),(7,.i)],[.g zh,.e]⟩ .u))) (.v (.seq (.v (.cut ⟨[(6,.o 1)],[.g zh,.e]⟩ qq7)) .u))))))))))) EY Tryz.f139 [(196,JZ),(197,EZ),(193,JY),(198,BH),(195,BH),(194,JY),(40,EX),(39,mY),(98,OI)]:=gm
def PE:Gt aD.z X E (.v (.v (.seq (.v (.block (.loop ⟨[(0,.p 0 2),(1,.i),(5,.o 1),(6,.i)],[.g zh,.e]⟩ .u))) .u))) X8 Tryz.f140 [(98,OI)]:=gm
def PG:Gt aD.z X E .u kX Tryz.f14 [(47,dw),(48,bZ),(46,y9)]:=gm
def PI:Gt aD.z X E .u vV Tryz.f56 []:=gm
def PK:Gt aD.z X E (.v (.seq (.v (.block (.loop ⟨[(0,.r false .i64),(1,.i),(5,.i)],[]⟩ .u))) .u)) E5 Tryz.f182 []:=gm
def PL:Gt aD.z X E .u za Tryz.f159 [(207,mZ),(47,dw)]:=gm
def PN:Gt aD.z X E (.v (.v (.seq (.v (.cut aix qq7)) .u))) X9 Tryz.f266 []:=gm
def PO:Gt aD.z X E .u ni Tryz.f267 []:=gm
def PU:Gt aD.z X E (.v (.v (.seq (.v (.cut ⟨[(3,.i)],[]⟩ qq7)) .u))) oO Tryz.f276 []:=gm
def PW:Gt aD.z X E .u vW Tryz.f222 [(276,oO),(47,dw)]:=gm
def PX:Gt aD.z X E .u ni Tryz.f307 [(276,oO)]:=gm
def PY:Gt aD.z X E (.v (.seq (.v (.block (.v (.cond .u (.v (.cut aix (.cond .u (.v (.cut aix qq7))))))))) .u)) ni Tryz.f303 [(267,ni),(307,ni)]:=gm
def PZ:Gt aD.z X E .u J2 Tryz.f304 [(307,ni)]:=gm
def P8:Gt aD.z X E (.v (.v (.seq (.v (.block (.loop ⟨[(1,.i),(5,.i),(6,.i)],[]⟩ .u))) .u))) BI Tryz.f305 [(276,oO)]:=gm
def P9:Gt aD.z X E .u Ya Tryz.f306 [(276,oO),(267,ni),(307,ni),(304,J2)]:=gm
def Qa:Gt aD.z X E (.v (.v (.v (.seq (.v (.cut ⟨[(2,.p 3 10),(3,.p 4 4),(4,.p 5 10),(5,.i)],aiA⟩ qq7)) .u)))) J3 Tryz.f308 [(307,ni),(304,J2)]:=gm
def Qb:Gt aD.z X E (.v (.v (.seq (.v (.block (.v (.cond .u (.v (.cond .u (.v (.cond .u (.v (.cond .u (.seq (.v (.cut ⟨[(2,.p 3 10),(3,.p 4 4),(4,.p 5 10),(5,.i),(13,.i),(45,.b)],aiA⟩ qq7)) (.cond .u (.v (.cond .u (.v (.cond .u (.v (.cond .u (.seq (.v (.cut ⟨[(2,.p 3 10),(3,.p 4 4),(4,.p 5 10),(5,.i),(94,.b)],aiA⟩ qq7)) .u))))))))))))))))))) .u))) J3 Tryz.f268 [(222,vW),(307,ni),(308,J3),(306,Ya),(304,J2),(305,BI),(303,ni)]:=gm
def Qc:Gt aD.z X E .u Yb Tryz.f199 [(159,za),(14,kX),(56,vV),(268,J3),(267,ni),(266,X9)]:=gm
def Qd:Gt aD.z X E (.v (.v (.v (.seq (.v (.block (.loop ⟨[(1,.r false .i64),(2,.i),(6,.p 0 10),(7,.p 1 10),(8,.i)],am8⟩ .u))) .u)))) Yc Tryz.f141 [(14,kX),(199,Yb),(56,vV),(182,E5)]:=gm
def Qe:Gt aD.z X E (.v (.v (.v (.seq aiw (.seq aiw (.seq aiw (.seq (.v (.cut ⟨[(2,.p 1 10),(3,.p 2 10)],aio⟩ qq7)) .u))))))) Yd Tryz.f81 [(138,X7),(141,Yc),(139,EY),(38,EY),(40,EX),(39,mY),(140,X8)]:=gm
def Qf:Gt aD.z X E (.v (.v (.seq (.v (.cut aez (.cond (.v (.block (.v (.cut aez (.cond .u (.v (.cut aez (.cond .u (.v (.cut aez (.cond .u (.v (.cut aeE (.cond .u (.v (.cut aeE (.cond .u (.v (.cut aeE (.cond .u (.v (.cut aeE qq7)))))))))))))))))))))) .u))) .u))) OJ Tryz.f37 [(81,Yd),(40,EX),(39,mY)]:=gm
def Qg:Gt aD.z X E (.v (.v (.v (.v (.v (.seq (.v (.cut ⟨[(2,.p 0 10),(6,.p 1 10),(7,.o 2),(8,.i)],[.g qq2,.g [.own 3,.i,.e,.i,.bool,.bool,.i,.e,.own 4,.i],.e,.e,.e]⟩ qq7)) .u)))))) Ye Tryz.f11 [(38,EY),(37,OJ),(36,OH),(40,EX),(39,mY)]:=gm
end Go.TX.F
end
noncomputable section
namespace Go.TX.F
open Go Go.AE Go.TX Go.TX.Seat Go.Proofs List
set_option maxRecDepth 100000
set_option maxHeartbeats 4000000
def Qh:Gt aD.z X E .u bZ Tryz.f87 []:=gm
def Qi:Gt aD.z X E .u dw Tryz.f49 [(87,bZ)]:=gm
def Qj:Gt aD.z X E (.v (.seq (.v (.block (.loop ⟨[(5,.r false .i64),(6,.i),(7,.i)],[]⟩ .u))) .u)) y9 Tryz.f86 [(49,dw)]:=gm
def Zv:Gt aD.z X E .u kX Tryz.f44 [(49,dw),(87,bZ),(86,y9)]:=gm
def Zw:Gt aD.z X E .u afW Tryz.f60 []:=gm
def Qk:Gt aD.z X E (.v (.v (.seq (.v (.block (.loop ⟨[(0,.r false .i64),(1,.r false .i64),(12,.i),(13,.i)],[]⟩ .u))) .u))) E8 Tryz.f152 []:=gm
def Zx:Gt aD.z X E .u Yf Tryz.f91 [(87,bZ),(152,E8)]:=gm
def Zy:Gt aD.z X E .u Yg Tryz.f149 [(91,Yf)]:=gm
def Zz:Gt aD.z X E .u Yh Tryz.f271 []:=gm
def Ql:Gt aD.z X E (.v (.seq (.v (.block (.loop ⟨[(0,.r false .cac),(1,.c (.fn 60 [(0,1)])),(7,.i),(8,.i)],[.box (.i)]⟩ .u))) .u)) Yi Tryz.f59 [(60,afW)]:=gm
def Qm:Gt aD.z X E (.v (.seq (.v (.block (.loop ⟨[(0,.r false .cac),(1,.c (.fn 271 [(0,8)])),(7,.i),(8,.i)],[.s true .cac]⟩ .u))) .u)) Yj Tryz.f59 [(271,Yh)]:=gm
def Qn:Gt aD.z X E (.v (.seq (.v (.block (.loop ⟨[(0,.o 0),(1,.c (.fn 149 [(1,1)])),(7,.i),(8,.i)],[.rows true .cac,.box (.r false .i64)]⟩ .u))) .u)) Yk Tryz.f59 [(149,Yg)]:=gm
def ZA:Gt aD.z X E .u Yl Tryz.f24 [(59,Yi)]:=gm
def ZB:Gt aD.z X E .u dw Tryz.f65 [(87,bZ)]:=gm
def Qo:Gt aD.z X E .u dw Tryz.f166 [(87,bZ)]:=gm
def ZE:Gt aD.z X E .u mZ Tryz.f104 [(87,bZ),(166,dw)]:=gm
def aiB:Gt aD.z X E (.v (.v (.seq (.v (.block (.loop ⟨[(1,.r false .ins),(19,.r false .ins),(20,.i),(21,.i)],[]⟩ .u))) .u))) aij Tryz.f61 [(65,dw),(104,mZ),(87,bZ)]:=gm
def ZF:Gt aD.z X E .u MG Tryz.f117 [(87,bZ)]:=gm
def Qp:Gt aD.z X E (.v (.v (.seq (.v (.cut ⟨[(0,.p 0 8),(11,.p 2 5)],[.g [.i,.i,.own 1,.i,.i,.i,.i,.i],.rows true .iop,.g [.i,.i,.i,.i,.i]]⟩ qq7)) .u))) BJ Tryz.f106 [(117,MG)]:=gm
def Qq:Gt aD.z X E .u Ym Tryz.f105 [(106,BJ)]:=gm
def Qr:Gt aD.z X E .u J4 Tryz.f107 [(106,BJ)]:=gm
def Qs:Gt aD.z X E .u J4 Tryz.f108 [(106,BJ)]:=gm
def Qt:Gt aD.z X E .u Yn Tryz.f109 [(106,BJ)]:=gm
def Qu:Gt aD.z X E (.v (.v (.v (.block (.v (.cut J8 (.cond .u (.v (.cut J8 (.cond .u (.v (.cut J8 (.cond .u (.v (.cut J8 (.cond .u (.v (.cut J8 (.cond .u (.v (.cut J8 (.cond .u (.v (.cut J8 (.cond .u (.seq (.v (.cut ⟨[(2,.p 2 1),(3,.p 3 4),(4,.c (.fn 105 [(2,1),(3,4)])),(11,.i),(112,.b)],[.g [.i,.i,.own 1,.i,.i,.i,.i,.i],.rows true .iop,.box (.p 0 8),.s false .ins]⟩ qq7)) (.cut J8 (.cond .u (.v (.cut J8 qq7)))))))))))))))))))))))))))))) Yp Tryz.f62 [(109,Yn),(108,J4),(105,Ym),(106,BJ),(107,J4)]:=gm
def ZG:Gt aD.z X E .u Iz Tryz.f63 []:=gm
def aiC:Gt aD.z X E (.v (.v (.v (.seq (.v (.block (.loop ⟨[(4,.p 0 7),(5,.p 1 8),(23,.r false .ins),(24,.i),(25,.i)],[.g qq5,.g [.i,.i,.own 2,.i,.i,.i,.i,.i],.rows true .iop]⟩ .u))) .u)))) aik Tryz.f25 [(61,aij),(63,Iz),(62,Yp)]:=gm
def ZH:Gt aD.z X E .u MH Tryz.f116 [(87,bZ)]:=gm
def Qv:Gt aD.z X E .u dw Tryz.f167 [(87,bZ)]:=gm
def ZI:Gt aD.z X E .u MG Tryz.f224 [(87,bZ)]:=gm
def ZJ:Gt aD.z X E .u Yq Tryz.f168 [(224,MG),(87,bZ)]:=gm
def ZK:Gt ⟨[],[27,40]⟩ X E .u afX Tryz.f110 [(168,Yq),(116,MH),(49,dw),(87,bZ),(167,dw),(166,dw)]:=gm
def ZL:Gt aD.z X E .u MI Tryz.f122 []:=gm
def ZM:Gt aD.z X E .u yu Tryz.f111 [(122,MI),(168,Yq),(49,dw),(87,bZ)]:=gm
def ZN:Gt aD.z X E (.v (.v (.seq (.v (.block (.loop ⟨[(1,.p 0 7),(25,.i),(26,.i)],[.s false .blk]⟩ .u))) .u))) yu Tryz.f69 [(111,yu),(110,afX),(87,bZ)]:=gm
def Qw:Gt aD.z X E (.v (.v (.seq (.v (.block (.loop ⟨[(0,.r false .iop),(1,.r false .iop),(12,.i),(13,.i)],[]⟩ .u))) .u))) Yr Tryz.f112 []:=gm
def ZO:Gt aD.z X E .u yx Tryz.f70 [(112,Yr)]:=gm
def ZP:Gt aD.z X E .u afY Tryz.f146 [(87,bZ)]:=gm
def ZQ:Gt aD.z X E .u afZ Tryz.f278 []:=gm
def Qx:Gt aD.z X E (.v (.seq (.v (.block (.loop ⟨[(0,.r false .i64),(1,.c (.fn 278 [(0,1)])),(7,.i),(8,.i)],[.box (.i)]⟩ .u))) .u)) Yt Tryz.f205 [(278,afZ)]:=gm
def Qy:Gt aD.z X E (.v (.seq (.v (.block (.loop ⟨[(0,.r false .i64),(1,.c (.fn 146 [(0,1),(1,7)])),(7,.i),(8,.i)],[.box (.p 2 12),.s true .blk,.g am4,.e,.e,.e]⟩ .u))) .u)) Yu Tryz.f205 [(146,afY)]:=gm
def Qz:Gt aD.z X E .u Yv Tryz.f145 [(205,Yt)]:=gm
def QA:Gt aD.z X E .u Yw Tryz.f145 [(205,Yu)]:=gm
def ZR:Gt aD.z X E (.v (.seq (.v (.block (.loop ⟨[(3,.p 0 1),(8,.r false .mono),(9,.i),(10,.i)],[.box (.i)]⟩ .u))) .u)) Yx Tryz.f225 [(145,Yv)]:=gm
def aiD:Gt aD.z X E .u dw Tryz.f283 []:=gm
def aiE:Gt aD.z X E .u BI Tryz.f232 [(283,dw)]:=gm
def aiF:Gt aD.z X E (.v (.v (.seq (.v (.block (.loop ⟨[(3,.i),(6,.r false .i64),(7,.i),(8,.i)],[]⟩ .u))) .u))) ail Tryz.f233 []:=gm
def QB:Gt aD.z X E (.v (.seq (.v (.block (.loop ⟨[(0,.r false .i64),(1,.r false .i64),(9,.r false .i64),(10,.i),(11,.i)],[]⟩ .u))) .u)) ze Tryz.f284 [(232,BI)]:=gm
def QC:Gt aD.z X E .u ze Tryz.f234 [(233,ail),(232,BI),(284,ze)]:=gm
def aiG:Gt aD.z X E .u aew Tryz.f285 [(283,dw)]:=gm
def QD:Gt aD.z X E am7 y9 Tryz.f236 [(285,aew)]:=gm
def ZT:Gt aD.z X E .u af0 Tryz.f238 []:=gm
def QE:Gt aD.z X E (.v (.seq (.v (.block (.loop ⟨[(0,.r false .mono),(1,.c (.fn 238 [])),(7,.i),(8,.i)],[]⟩ .u))) .u)) Yy Tryz.f286 [(238,af0)]:=gm
def QF:Gt aD.z X E .u Yz Tryz.f237 [(286,Yy)]:=gm
def ZU:Gt aD.z X E (.v (.seq (.v (.block (.loop ⟨[(1,.p 0 1),(6,.r false .mono),(7,.i),(8,.i)],[.s false .poly]⟩ .u))) .u)) CF Tryz.f176 [(87,bZ),(225,Yx),(236,y9),(234,ze),(237,Yz)]:=gm
def ZV:Gt aD.z X E .u YA Tryz.f170 [(87,bZ),(167,dw),(225,Yx),(176,CF),(166,dw)]:=gm
def ZW:Gt aD.z X E (.v (.v (.seq (.v (.block (.loop ⟨[(3,.p 0 1),(20,.r false .mono),(21,.i),(22,.i)],[.s false .poly]⟩ .u))) .u))) Ui Tryz.f173 [(233,ail),(232,BI),(234,ze)]:=gm
def QG:Gt aD.z X E .u sQ Tryz.f126 [(173,Ui)]:=gm
def ZX:Gt aD.z X E .u af2 Tryz.f228 [(126,sQ)]:=gm
def ZY:Gt aD.z X E .u af3 Tryz.f227 [(228,af2)]:=gm
def QH:Gt aD.z X E (.v (.seq (.v (.block (.loop ⟨[(0,.r false .atom),(1,.c (.fn 227 [(0,4)])),(7,.i),(8,.i)],[.s false .atom]⟩ .u))) .u)) YB Tryz.f226 [(227,af3)]:=gm
def Z0:Gt aD.z X E .u YC Tryz.f171 [(226,YB)]:=gm
def QI:Gt aD.z X E .u YD Tryz.f235 []:=gm
def Z4:Gt aD.z X E .u YE Tryz.f174 [(170,YA),(171,YC),(235,YD)]:=gm
def Z5:Gt aD.z X E .u E9 Tryz.f175 [(87,bZ)]:=gm
def QJ:Gt aD.z X E .u OL Tryz.f121 [(175,E9),(174,YE)]:=gm
def QK:Gt aD.z X E (.v (.v (.seq (.v (.block (.loop ⟨[(0,.p 0 2),(3,.o 1),(5,.i)],[.g O4,.rows true .poly]⟩ .u))) .u))) OM Tryz.f113 [(121,OL)]:=gm
def QL:Gt aD.z X E .u Fa Tryz.f88 []:=gm
def Z6:Gt ⟨[20],[]⟩ X E (.v (.v (.seq (.v (.block (.loop ⟨[(2,.p 0 1),(3,.p 1 1),(7,.r false .mono),(8,.i),(9,.i)],[.g [.nil],.g [.own 2],.rows true .mono]⟩ .u))) .u))) Uj Tryz.f169 [(88,Fa)]:=gm
def Z7:Gt ⟨[25],[]⟩ X E (.v (.v (.seq (.v (.block (.loop ⟨[(2,.p 0 1),(3,.p 1 1),(7,.r false .atom),(8,.i),(9,.i)],[.g [.nil],.g [.own 2],.rows true .atom]⟩ .u))) .u))) YF Tryz.f114 [(169,Uj)]:=gm
def Z8:Gt aD.z X E .u af4 Tryz.f71 [(114,YF),(113,OM)]:=gm
def Z9:Gt aD.z X E (.v (.seq (.v (.block (.loop ⟨[(1,.p 0 1),(6,.r false .atom),(7,.i),(8,.i)],[.s false .tab]⟩ .u))) .u)) af5 Tryz.f115 [(170,YA),(171,YC)]:=gm
def QM:Gt aD.z X E .u YG Tryz.f118 []:=gm
def aac:Gt aD.z X E .u E9 Tryz.f119 [(87,bZ)]:=gm
def QN:Gt aD.z X E .u oO Tryz.f150 []:=gm
def QO:Gt aD.z X E .u vW Tryz.f131 [(49,dw),(150,oO)]:=gm
def aad:Gt aD.z X E .u YH Tryz.f178 [(176,CF)]:=gm
def QS:Gt aD.z X E .u OO Tryz.f311 [(234,ze)]:=gm
def QT:Gt aD.z X E (.v (.block (.loop ⟨[(0,.o 0),(1,.i),(2,.i),(3,.c (.fn 311 [])),(8,.i)],xM⟩ (.v (.seq (.block (.v (.block (.loop ⟨[(0,.o 0),(1,.i),(2,.i),(3,.c (.fn 311 [])),(8,.i),(9,.i)],xM⟩ .u)))) .u))))) YI Tryz.f339 [(311,OO)]:=gm
def QU:Gt aD.z X E (.v (.block (.loop ⟨[(0,.o 0),(1,.i),(2,.i),(3,.i),(10,.i)],xM⟩ .u))) zf Tryz.f348 []:=gm
def QV:Gt aD.z X E (.v (.v (.seq (.block (.loop anb (.v (.block (.v (.cut anb qq7)))))) .u))) zf Tryz.f346 [(348,zf)]:=gm
def Fg:Gt aD.z X E (.seq (.v (.cond (.v (.v (.seq (.block (.loop ane (.v (.block (.v (.v (.cut ane qq7))))))) (.seq (.v (.block (.loop ⟨[(0,.o 0),(10,.i),(13,.i)],xM⟩ .u))) .u)))) .u)) (.seq (.v (.cond (.v (.v (.seq (.block (.loop ana (.v (.block (.v (.v (.cut ana qq7))))))) (.seq (.v (.block (.loop ⟨[(0,.o 0),(14,.i),(17,.i)],xM⟩ .u))) .u)))) .u)) (.v (.v (.v (.seq (.v (.cut ⟨[(0,.o 0),(1,.i),(2,.i),(3,.i),(4,.c (.fn 311 [])),(18,.i),(19,.i),(20,.i),(21,.i)],xM⟩ qq7)) (.v (.seq (.block (.loop amX (.v (.block (.v (.v (.cut amX qq7))))))) (.v (.seq (.v (.cut ⟨[(0,.o 0),(1,.i),(3,.i),(4,.c (.fn 311 [])),(18,.i),(20,.i),(24,.i)],xM⟩ qq7)) (.seq (.v (.cut ⟨[(0,.o 0),(3,.i),(4,.c (.fn 311 [])),(18,.i),(24,.i)],xM⟩ qq7)) (.v (.cut ⟨[],xM⟩ qq7))))))))))))) zf Tryz.f340 [(311,OO),(346,zf),(340,zf)]:=gm
def QW:Gt aD.z X E (.v (.v (.seq am1 (.v (.block (.loop anf (.v (.block (.v (.seq am1 (.seq (.v (.v (.cut anf qq7))) .u))))))))))) YJ Tryz.f324 [(339,YI),(340,zf)]:=gm
def QX:Gt aD.z X E .u YK Tryz.f310 [(324,YJ)]:=gm
def QY:Gt ⟨[51],[]⟩ X E (.v (.v (.v (.seq (.v (.block (.loop amY (.v (.block (.v (.seq (.block (.loop ⟨[(0,.o 0),(2,.p 1 1),(4,.p 2 1),(5,.i),(6,.i),(7,.p 3 2)],[.rows false .mono,.g [.nil],.g [.own 4],.s false .mono,.rows true .mono]⟩ .u)) (.v (.cut amY qq7))))))))) .u)))) OT Tryz.f279 [(234,ze),(176,CF),(150,oO),(88,Fa),(310,YK)]:=gm
end Go.TX.F
end
noncomputable section
namespace Go.TX.F
open Go Go.AE Go.TX Go.TX.Seat Go.Proofs List
set_option maxRecDepth 100000
set_option maxHeartbeats 4000000
def QZ:Gt aD.z X E (.v (.v (.seq (.v (.v (.cut ⟨[(0,.o 0)],[.rows true .mono]⟩ qq7))) .u))) YL Tryz.f312 []:=gm
def Q0:Gt aD.z X E (.v (.v (.seq (.v (.block (.loop ⟨[(0,.r false .poly),(3,.i),(9,.r false .poly),(10,.i),(11,.i)],[]⟩ .u))) (.v (.seq (.v (.block (.loop ⟨[(6,.o 0),(25,.r false .poly),(26,.i),(27,.i)],xM⟩ .u))) .u))))) YM Tryz.f280 [(312,YL)]:=gm
def aae:Gt aD.z X E .u MK Tryz.f229 [(176,CF),(279,OT),(280,YM)]:=gm
def Q5:Gt aD.z X E (.v (.v (.seq (.v (.v (.cut ⟨[(0,.o 0)],[.e]⟩ qq7))) .u))) YN Tryz.f313 []:=gm
def Q6:Gt aD.z X E (.v (.v (.seq (.v (.block (.loop ⟨[(0,.r false .ints),(3,.i),(9,.r false .ints),(10,.i),(11,.i)],[]⟩ .u))) (.v (.seq (.v (.block (.loop ⟨[(6,.o 0),(25,.r false .ints),(26,.i),(27,.i)],[.e]⟩ .u))) .u))))) YO Tryz.f281 [(313,YN)]:=gm
def Q7:Gt aD.z X E (.v (.block (.loop ⟨[(0,.o 0),(1,.i),(2,.i),(6,.i)],[.e]⟩ (.v (.seq (.block (.v (.block (.loop ⟨[(0,.o 0),(1,.i),(2,.i),(6,.i),(7,.i)],[.e]⟩ .u)))) .u))))) Fb Tryz.f325 [(285,aew)]:=gm
def Q8:Gt aD.z X E (.v (.v (.block (.loop aiv (.cut aiv (.block (.v (.v (.v (.seq (.v (.cut ⟨[(0,.o 0),(1,.i),(2,.i),(3,.i),(8,.b),(9,.b),(10,.i)],[.e]⟩ qq7)) (.v (.seq (.v (.cut ⟨[(0,.o 0),(1,.i),(2,.i),(3,.i),(8,.b),(9,.b),(10,.i),(11,.i),(12,.i)],[.e]⟩ qq7)) (.seq (.v (.cut ⟨[(0,.o 0),(1,.i),(2,.i),(3,.i),(8,.b),(9,.b),(10,.i),(11,.i)],[.e]⟩ qq7)) (.v (.v (.v (.v (.v (.v (.cut aiv qq7)))))))))))))))))))) Fe Tryz.f314 [(285,aew),(325,Fb),(326,Fb),(327,Fb),(328,OU),(329,Fb),(330,OV),(331,OW),(332,OX),(314,Fe)]:=gm
def Q9:Gt aD.z X E .u YT Tryz.f282 [(314,Fe),(315,YS)]:=gm
def aaf:Gt aD.z X E (.v (.v (.v (.seq (.v (.block (.loop ⟨[(3,.p 0 1),(4,.p 1 1),(6,.o 2),(22,.r false .mono),(23,.i),(24,.i)],[.s false .poly,.g [.nil],.rows true .mono]⟩ (.v (.v (.seq (.block (.v (.v (.block (.loop ⟨[(3,.p 0 1),(4,.p 1 1),(6,.o 2),(8,.p 3 2),(22,.r false .mono),(23,.i),(24,.i),(29,.r false .mono),(30,.i),(31,.i)],[.s false .poly,.g [.nil],.rows true .mono,.s false .mono]⟩ .u))))) .u)))))) .u)))) MK Tryz.f231 [(176,CF),(150,oO),(279,OT),(281,YO),(282,YT)]:=gm
def aag:Gt aD.z X E .u af6 Tryz.f230 [(176,CF),(119,E9),(49,dw),(231,MK)]:=gm
def Ra:Gt aD.z X E (.v (.v (.v (.v (.v (.seq (.v (.cut ⟨[(0,.i),(4,.p 0 1),(6,.p 1 1),(10,.i),(11,.b)],[.s true .poly,.g [.nil]]⟩ qq7)) .u)))))) YU Tryz.f172 [(126,sQ),(119,E9),(131,vW),(229,MK),(231,MK),(230,af6),(178,YH)]:=gm
def aah:Gt aD.z X E (.v (.v (.seq (.v (.cut ⟨[(1,.i),(4,.p 0 1),(6,.p 1 1),(7,.p 2 1),(8,.p 3 1),(9,.p 4 1)],[.s true .tab,.s true .poly,.s true .poly,.g [.nil],.g [.nil]]⟩ qq7)) .u))) af7 Tryz.f120 [(173,Ui),(172,YU),(174,YE),(175,E9)]:=gm
def Rb:Gt aD.z X E .u bZ Tryz.f132 [(49,dw)]:=gm
def Rc:Gt aD.z X E (.v (.v (.seq (.v (.block (.loop ⟨[(3,.o 0),(6,.r false .poly),(7,.i),(8,.i)],[.rows true .poly]⟩ .u))) .u))) YV Tryz.f239 [(169,Uj)]:=gm
def aai:Gt ⟨[42],[]⟩ X E (.v (.v (.seq (.v (.block (.loop ⟨[(2,.p 0 6),(3,.p 1 6),(21,.r false .ev),(22,.i),(23,.i)],qq9⟩ .u))) .u))) af8 Tryz.f177 [(169,Uj),(239,YV)]:=gm
def aaj:Gt aD.z X E (.v (.v (.v (.v (.v (.v (.seq (.block (.v (.cut aeD (.cond .u (.v (.cut aeD (.cond .u (.v (.cut aeD (.cond (.v (.v (.v (.cut ⟨[(4,.p 0 6),(5,.p 1 6)],[.g ML,.g [.own 2,.own 3,.i,.nil,.nil,.i],.rows true .ev,.rows true .poly]⟩ qq7)))) (.v (.cut aeD qq7)))))))))))) .u))))))) af9 Tryz.f123 [(178,YH),(176,CF),(173,Ui),(177,af8),(126,sQ),(132,bZ)]:=gm
def aak:Gt aD.z X E (.v (.v (.v (.v (.v (.v (.seq (.v (.block (.loop qq0 (.v (.v (.seq (.block (.v (.v (.v (.seq (.v (.cut ⟨[(3,.p 0 7),(4,.p 1 1),(5,.p 2 6),(6,.p 3 2),(7,.p 4 6),(8,.o 5),(9,.i),(10,.i),(11,.i),(12,.p 6 5),(14,.b),(17,.p 7 1),(18,.p 8 1),(57,.r false .iop),(58,.i),(59,.i)],[.s false .blk,.g [.nil],.g ML,.g O4,.g [.own 9,.own 10,.i,.nil,.nil,.i],.rows true .poly,.s false .iop,.s true .poly,.g [.nil],.rows true .ev,.rows true .poly]⟩ qq7)) (.seq (.v (.cut amU qq7)) (.seq (.v (.cut amU (.cond (.v (.seq (.v (.cut ⟨[(3,.p 0 7),(4,.p 1 1),(5,.p 2 6),(6,.p 3 2),(7,.p 4 6),(8,.o 5),(9,.i),(10,.i),(11,.i),(12,.p 6 5),(17,.p 7 1),(18,.p 8 1),(19,.p 9 5),(57,.r false .iop),(58,.i),(59,.i)],[.s false .blk,.g [.nil],.g ML,.g O4,.g [.own 10,.own 11,.i,.nil,.nil,.i],.rows true .poly,.s false .iop,.s true .poly,.s true .poly,.g [.i,.i,.rows true .mono,.rows true .mono,.own 12],.rows true .ev,.rows true .poly,.rows true .poly]⟩ qq7)) .u)) .u))) (.v (.block (.v (.cut qq0 (.cond .u (.v (.cut qq0 (.cond .u (.v (.cut qq0 (.cond .u (.v (.cut qq0 (.cond .u (.v (.cut qq0 (.cond .u (.v (.cut qq0 qq7)))))))))))))))))))))))))) .u)))))) (.v (.seq (.v (.cut ⟨[(3,.p 0 7),(4,.p 1 1),(5,.p 2 6),(6,.p 3 2),(7,.p 4 6),(8,.o 5),(24,.b)],[.s false .blk,.g [.nil],.g ML,.g O4,.g [.own 6,.own 7,.i,.rows true .mono,.nil,.i],.rows true .poly,.rows true .ev,.rows true .poly]⟩ qq7)) (.seq (.v (.cut ⟨[(3,.p 0 7),(4,.p 1 1),(5,.p 2 6),(6,.p 3 2),(7,.p 4 6)],[.s false .blk,.g [.nil],.g ML,.g O4,.g [.own 5,.own 6,.i,.rows true .mono,.rows true .mono,.i],.rows true .ev,.rows true .poly]⟩ qq7)) .u)))))))))) aga Tryz.f72 [(122,MI),(69,yu),(117,MG),(116,MH),(119,E9),(123,af9),(115,af5),(114,YF),(120,af7),(121,OL),(113,OM),(118,YG)]:=gm
def Rf:Gt aD.z X E .u sQ Tryz.f180 [(126,sQ)]:=gm
def Rh:Gt aD.z X E (.v (.v (.seq (.v (.block (.loop ⟨[(1,.r false .poly),(2,.c (.fn 180 [])),(15,.r false .poly),(16,.i),(17,.i)],[]⟩ .u))) .u))) YW Tryz.f179 [(180,sQ)]:=gm
def Ri:Gt aD.z X E .u OY Tryz.f127 [(179,YW)]:=gm
def aal:Gt aD.z X E .u agb Tryz.f125 [(126,sQ),(127,OY)]:=gm
def Rj:Gt aD.z X E (.v (.v (.seq (.v (.block (.loop ⟨[(1,.r false .ev),(2,.c (.fn 125 [])),(15,.r false .ev),(16,.i),(17,.i)],[]⟩ .u))) .u))) YX Tryz.f124 [(125,agb)]:=gm
def aam:Gt aD.z X E .u agc Tryz.f73 [(126,sQ),(127,OY),(124,YX)]:=gm
def aan:Gt aD.z X E .u yx Tryz.f28 [(69,yu),(70,yx),(71,af4),(72,aga),(73,agc)]:=gm
def aao:Gt aD.z X E .u za Tryz.f64 [(104,mZ),(49,dw)]:=gm
def aiH:Gt aD.z X E (.v (.v (.seq (.v (.cut ⟨[(3,.o 0)],[.rows true .ins]⟩ (.block (.loop ⟨[(3,.o 0),(8,.r false .i64),(9,.i),(10,.i)],[.rows true .ins]⟩ .u)))) .u))) amQ Tryz.f33 [(64,za)]:=gm
def aap:Gt aD.z X E (.v (.seq (.v (.block (.loop ⟨[(0,.r false .cac),(1,.r false .i64),(8,.r false .cac),(9,.i),(10,.i)],[]⟩ (.v (.v (.seq (.block (.v (.v (.seq (.cut ⟨[(0,.r false .cac),(1,.r false .i64),(8,.r false .cac),(9,.i),(10,.i),(57,.b)],[]⟩ .u) .u)))) .u)))))) .u)) agd Tryz.f53 [(25,aik),(61,aij),(33,amQ),(91,Yf),(24,Yl),(28,yx)]:=gm
def aaq:Gt aD.z X E .u agf Tryz.f93 [(28,yx)]:=gm
def aar:Gt aD.z X E .u agh Tryz.f269 [(70,yx)]:=gm
def Rk:Gt aD.z X E (.v (.seq (.v (.block (.loop ⟨[(0,.r false .cer),(1,.c (.fn 269 [(0,7),(1,7)])),(7,.i),(8,.i)],[.s false .blk,.s false .blk]⟩ .u))) .u)) YZ Tryz.f153 [(269,agh)]:=gm
def Rl:Gt aD.z X E (.v (.seq (.v (.block (.loop ⟨[(0,.r false .cer),(1,.c (.fn 93 [])),(7,.i),(8,.i)],[]⟩ .u))) .u)) Y0 Tryz.f153 [(93,agf)]:=gm
def Rm:Gt aD.z X E .u Za Tryz.f92 [(153,YZ)]:=gm
def Rn:Gt aD.z X E .u Zb Tryz.f92 [(153,Y0)]:=gm
def aas:Gt aD.z X E .u agi Tryz.f54 [(92,Zb)]:=gm
def aat:Gt aD.z X E .u Uk Tryz.f18 [(53,agd),(54,agi),(44,kX)]:=gm
def aau:Gt aD.z X E .u vV Tryz.f45 [(88,Fa)]:=gm
def aav:Gt aD.z X E .u agj Tryz.f142 [(63,Iz),(88,Fa)]:=gm
def Ro:Gt aD.z X E (.v (.v (.seq (.v (.block (.loop ⟨[(3,.o 0),(6,.r false .cac),(7,.i),(8,.i)],[.rows true .cac]⟩ .u))) .u))) J5 Tryz.f82 [(142,agj)]:=gm
def aaw:Gt aD.z X E .u agk Tryz.f143 [(63,Iz)]:=gm
def Rp:Gt aD.z X E (.v (.v (.seq (.v (.block (.loop ⟨[(3,.o 0),(6,.r false .cer),(7,.i),(8,.i)],[.rows true .cer]⟩ .u))) .u))) OZ Tryz.f83 [(143,agk)]:=gm
def aax:Gt aD.z X E .u agl Tryz.f41 [(45,vV),(82,J5),(83,OZ)]:=gm
def aay:Gt aD.z X E .u kX Tryz.f42 []:=gm
def aiI:Gt aD.z X E (.v (.v (.v (.seq (.v (.cut ⟨[(3,.o 0)],[.rows true .ins]⟩ ap8)) .u)))) amR Tryz.f26 [(65,dw),(64,za),(44,kX)]:=gm
def aaz:Gt aD.z X E .u agm Tryz.f151 []:=gm
def aaA:Gt aD.z X E .u Zc Tryz.f151 []:=gm
def aaB:Gt aD.z X E (.v (.v (.v (.v (.v (.seq (.v (.block (.v (.cut J7 (.cond (.v (.block (.v (.cut aeA (.cond .u (.v (.cut aeA qq7))))))) (.v (.cut J7 (.cond .u (.v (.cut J7 (.cond .u (.v (.cut J7 (.cond .u (.v (.cut J7 (.cond .u (.v (.cut J7 (.cond .u (.seq (.v (.cut ⟨[(0,.p 0 10),(3,.p 4 4),(4,.i),(5,.c (.pr 1 0)),(6,.i),(50,.i),(133,.b)],[.g aip,.e,.e,.e,.s false .ins]⟩ qq7)) (.cut J7 (.cond (.v (.cut aeA qq7)) (.v (.cut J7 (.cond .u (.v (.cut J7 (.cond .u (.v (.cut aeA qq7))))))))))))))))))))))))))))))) .u)))))) agn Tryz.f89 [(151,agm),(131,vW),(132,bZ),(150,oO)]:=gm
def aaC:Gt aD.z X E (.v (.v (.v (.v (.v (.seq (.v (.block (.v (.cut J9 (.cond (.v (.block (.v (.cut aeC (.cond .u (.v (.cut aeC qq7))))))) (.v (.cut J9 (.cond .u (.v (.cut J9 (.cond .u (.v (.cut J9 (.cond .u (.v (.cut J9 (.cond .u (.v (.cut J9 (.cond .u (.seq (.v (.cut ⟨[(0,.p 0 12),(3,.p 4 4),(4,.i),(5,.c (.pr 1 0)),(6,.i),(50,.i),(133,.b)],[.g Zu,.e,.e,.e,.s false .ins]⟩ qq7)) (.cut J9 (.cond (.v (.cut aeC qq7)) (.v (.cut J9 (.cond .u (.v (.cut J9 (.cond .u (.v (.cut aeC qq7))))))))))))))))))))))))))))))) .u)))))) agp Tryz.f89 [(151,Zc),(131,vW),(132,bZ),(150,oO)]:=gm
end Go.TX.F
end
noncomputable section
namespace Go.TX.F
open Go Go.AE Go.TX Go.TX.Seat Go.Proofs List
set_option maxRecDepth 100000
set_option maxHeartbeats 4000000
def aaD:Gt aD.z X E (.v (.seq (.v (.cut ⟨[(0,.p 0 10)],[.g aip,.e,.e,.e]⟩ qq7)) .u)) agq Tryz.f51 [(64,za),(89,agn)]:=gm
def aaE:Gt aD.z X E (.v (.seq (.v (.cut ⟨[(0,.p 0 12)],[.g Zu,.e,.e,.e]⟩ qq7)) .u)) agr Tryz.f51 [(64,za),(89,agp)]:=gm
def Rq:Gt aD.z X E (.v (.seq (.v (.block (.loop ⟨[(0,.r false .i64),(1,.i),(7,.i),(8,.i)],[]⟩ .u))) .u)) Zd Tryz.f90 []:=gm
def Rs:Gt aD.z X E .u E5 Tryz.f52 [(90,Zd)]:=gm
def aaF:Gt aD.z X E .u ags Tryz.f66 []:=gm
def aiJ:Gt aD.z X E .u amS Tryz.f67 []:=gm
def aaG:Gt aD.z X E (.v (.v (.v (.seq (.v (.block (.loop ⟨[(3,.o 0),(33,.r false .iop),(34,.i),(35,.i)],[.rows true .u8]⟩ .u))) .u)))) agt Tryz.f68 [(69,yu)]:=gm
def aaH:Gt aD.z X E (.v (.v (.v (.v (.seq (.v (.block (.loop ⟨[(0,.r false .u8),(2,.p 0 7),(4,.c (.fn 66 [])),(5,.p 1 7),(6,.i)],amT⟩ .u))) .u))))) agu Tryz.f27 [(67,amS),(68,agt),(66,ags)]:=gm
def aaI:Gt aD.z X E (.seq (.v (.block (.loop am9 (.v (.v (.seq (.block (.v (.v (.seq (.v (.cut ⟨[(0,.p 0 7),(1,.r false .i64),(4,.i),(5,.p 2 5),(7,.b),(16,.o 1),(17,.i),(18,.i)],[.g [.i,.i,.own 1,.i,.i,.i,.i],.rows true .iop,.s true .iop]⟩ qq7)) (.v (.cut am9 qq7)))))) .u)))))) (.v (.seq (.v (.cut ⟨[(0,.p 0 7),(1,.r false .i64),(11,.b)],aiu⟩ qq7)) (.v (.cut ⟨[],aiu⟩ qq7))))) Ze Tryz.f133 [(122,MI),(116,MH)]:=gm
def aaJ:Gt aD.z X E (.v (.v (.v (.v (.seq (.v (.block (.loop amW (.v (.v (.seq (.block (.v (.v (.v (.cut amW qq7))))) .u)))))) .u))))) Zf Tryz.f128 [(133,Ze)]:=gm
def aaK:Gt aD.z X E (.v (.v (.v (.seq (.v (.cut ⟨[(1,.p 0 7),(3,.o 1),(5,.b)],aiq⟩ qq7)) (.seq ap7 (.seq (.v (.block (.loop aiz (.v (.seq (.cut aiz (.block (.v (.v (.v (.v (.seq (.v (.cut ⟨[(1,.p 0 7),(3,.o 1),(7,.i),(8,.p 2 5),(10,.b)],[.s false .blk,.rows true .bool,.s false .iop]⟩ qq7)) (.v (.cut aiz qq7))))))))) .u))))) .u)))))) agv Tryz.f129 [(122,MI),(116,MH)]:=gm
def aaL:Gt aD.z X E .u yB Tryz.f74 [(128,Zf),(129,agv),(69,yu)]:=gm
def aaM:Gt aD.z X E (.v (.v (.v (.v (.seq (.v (.block (.loop aey (.v (.seq (.block (.v (.v (.v (.block (.v (.cut aey (.cond .u (.v (.cut aey (.cond .u (.seq (.v (.cut ⟨[(1,.p 0 7),(2,.p 1 7),(3,.o 2),(4,.o 3),(5,.i),(55,.b)],[.s false .blk,.g qq5,.rows true .bool,.rows true .bool]⟩ qq7)) (.cut aey qq7))))))))))))) .u))))) .u))))) yB Tryz.f75 [(128,Zf),(69,yu)]:=gm
def aaN:Gt aD.z X E .u agw Tryz.f130 []:=gm
def aaO:Gt aD.z X E (.v (.v (.v (.v (.seq (.v (.block (.loop amZ (.v (.v (.seq (.block (.v (.seq (.cut ⟨[(1,.p 0 7),(2,.p 1 7),(3,.p 2 7),(4,.c (.fn 130 [(2,7)])),(5,.i),(6,.p 3 5),(15,.o 4),(16,.i),(17,.i),(36,.b)],[.s false .blk,.g qq5,.g ap4,.s true .iop,.rows true .iop]⟩ .u) (.cut amZ qq7)))) .u)))))) (.seq (.block (.seq (.cut ⟨[(1,.p 0 7),(2,.p 1 7),(3,.p 2 7),(4,.c (.fn 130 [(2,7)])),(60,.b)],air⟩ .u) (.cut aiy (.cond .u (.seq (.cut ⟨[(1,.p 0 7),(2,.p 1 7),(3,.p 2 7),(80,.b)],air⟩ .u) (.cut aiy (.cond (.v (.v (.cut aiy qq7))) .u))))))) .u)))))) yB Tryz.f76 [(63,Iz),(69,yu),(130,agw),(131,vW),(132,bZ)]:=gm
def aaP:Gt aD.z X E (.v (.v (.v (.v (.seq (.v (.block (.loop aex (.v (.v (.seq (.block (.v (.v (.block (.v (.cut aex (.cond .u (.v (.cut aex (.cond .u (.v (.cut aex qq7)))))))))))) .u)))))) .u))))) yB Tryz.f77 [(63,Iz),(133,Ze),(69,yu)]:=gm
def aaQ:Gt aD.z X E .u yB Tryz.f30 [(76,yB),(77,yB),(74,yB),(75,yB)]:=gm
def aaR:Gt aD.z X E .u agx Tryz.f200 [(27,agu),(30,yB)]:=gm
def aaS:Gt aD.z X E .u agy Tryz.f201 [(92,Za)]:=gm
def Rt:Gt aD.z X E .u Zg Tryz.f270 []:=gm
def aaT:Gt aD.z X E .u agz Tryz.f202 [(83,OZ),(270,Zg)]:=gm
def Rv:Gt aD.z X E (.v (.v (.v (.seq (.v (.block (.loop am3 (.v (.seq (.block (.v (.v (.cut am3 qq7)))) .u))))) .u)))) Zh Tryz.f148 [(271,Yh),(59,Yj)]:=gm
def Rw:Gt aD.z X E (.v (.v (.v (.seq (.v (.block (.loop am0 (.v (.seq (.block (.v (.v (.cut am0 qq7)))) .u))))) .u)))) Zi Tryz.f148 [(149,Yg),(59,Yk)]:=gm
def Rx:Gt aD.z X E .u Zj Tryz.f272 []:=gm
def aaU:Gt aD.z X E .u agA Tryz.f203 [(82,J5),(272,Zj),(148,Zh)]:=gm
def aaV:Gt aD.z X E .u EZ Tryz.f273 [(104,mZ)]:=gm
def aiK:Gt aD.z X E (.v (.v (.seq (.v (.block (.loop ⟨[(3,.o 0),(6,.r false .ins),(7,.i),(8,.i)],[.e]⟩ .u))) .u))) JZ Tryz.f204 [(273,EZ)]:=gm
def aaW:Gt aD.z X E (.v (.v (.v (.seq (.v (.v (.cut ait (.cond (.v (.v (.cut ait (.cond (.v (.v (.cut ait qq7))) .u)))) .u)))) .u)))) agB Tryz.f144 [(25,aik),(204,JZ),(203,agA),(201,agy),(202,agz),(28,yx),(200,agx)]:=gm
def aaX:Gt aD.z X E (.v (.v (.seq (.v (.block (.loop qq1 (.v (.v (.seq (.block (.v (.v (.seq (.v (.cut ⟨[(1,.p 0 12),(2,.p 4 7),(4,.o 5),(5,.i),(6,.p 6 5),(7,.i),(8,.i),(14,.r false .iop),(15,.i),(16,.i)],[.g [.own 1,.i,.own 2,.i,.bool,.bool,.i,.e,.own 7,.i,.rows true .cac,.rows true .cer],.e,.e,.gone,.s false .blk,.e,.s false .iop,.e]⟩ qq7)) (.v (.v (.block (.v (.cut qq1 (.cond .u (.v (.cut qq1 (.cond .u (.v (.cut qq1 (.cond .u (.v (.cut qq1 (.cond .u (.v (.cut qq1 (.cond .u (.v (.cut qq1 (.cond .u (.v (.cut qq1 (.cond .u (.v (.cut qq1 qq7)))))))))))))))))))))))))))))) .u)))))) (.v (.v (.block (.v (.cut ⟨[],qq6⟩ (.cond .u (.v (.cut ⟨[],qq6⟩ (.cond .u (.v (.v (.cut ⟨[],qq6⟩ qq7))))))))))))))) agC Tryz.f147 [(151,Zc),(131,vW),(132,bZ),(87,bZ)]:=gm
end Go.TX.F
end
noncomputable section
namespace Go.TX.F
open Go Go.AE Go.TX Go.TX.Seat Go.Proofs List
set_option maxRecDepth 100000
set_option maxHeartbeats 4000000
def aaY:Gt aD.z X E (.v (.v (.v (.v (.v (.v (.seq (.v (.cut ⟨[(0,.p 0 12),(1,.r false .i64),(2,.i),(9,.p 4 1),(10,.b),(11,.b),(12,.i)],[.g Zu,.e,.e,.e,.box (.p 0 12)]⟩ qq7)) .u))))))) agD Tryz.f84 [(26,amR),(24,Yl),(144,agB),(147,agC),(51,agr),(145,Yw),(52,E5)]:=gm
def aaZ:Gt aD.z X E .u agE Tryz.f85 [(82,J5),(148,Zi)]:=gm
def aa0:Gt aD.z X E .u agF Tryz.f43 [(85,agE),(84,agD)]:=gm
def aa1:Gt aD.z X E (.v (.v (.v (.v (.seq (.block (.loop ⟨am5,[.g ain,.g [.own 2,.i,.own 3,.i,.bool,.bool,.i,.e,.own 4,.i,.rows true .cac,.rows true .cer],.e,.e,.e]⟩ (.v (.block (.v (.seq (.v (.cut ⟨[(1,.r false .i64),(2,.i),(3,.r false .ask),(8,.p 0 12),(9,.p 1 12),(10,.i),(11,.p 2 2)],[.g ain,.g am4,.s false .ask,.e,.e,.e]⟩ qq7)) (.v (.cut ⟨am5,[.g ain,.g [.own 2,.i,.own 3,.i,.bool,.bool,.i,.e,.own 4,.i,.own 5,.rows true .cer],.e,.e,.e,.rows true .cac]⟩ qq7)))))))) .u))))) Zk Tryz.f12 [(41,agl),(43,agF),(18,Uk),(42,kX)]:=gm
def aa2:Gt aD.z X E .u Zl Tryz.f13 [(45,vV),(44,kX)]:=gm
def Ry:Gt aD.z X E .u O1 Tryz.f15 [(49,dw)]:=gm
def Rz:Gt aD.z X E ap6 E8 Tryz.f50 []:=gm
def RA:Gt aD.z X E .u J6 Tryz.f16 [(50,E8)]:=gm
def aa3:Gt aD.z X E (.v (.v (.v (.seq (.block (.loop ⟨[(1,.r false .i64),(2,.i),(6,.p 0 10),(7,.p 1 10)],am8⟩ .u)) .u)))) agG Tryz.f17 [(45,vV),(42,kX),(51,agq),(44,kX),(52,E5)]:=gm
def RD:Gt aD.z X E .u Zm Tryz.f3 [(13,Zl),(18,Uk),(12,Zk),(17,agG),(16,J6),(15,O1),(11,Ye),(14,kX)]:=gm
def RF:Gt aD.z X E .u Zn Tryz.f19 [(37,OJ),(36,OH)]:=gm
def RG:Gt aD.z X E ap5 yx Tryz.f29 []:=gm
def RH:Gt aD.z X E (.v (.v (.seq (.v (.block (.loop ⟨[(0,.r false .cac),(1,.r false .cac),(5,.i)],[]⟩ .u))) .u))) Zp Tryz.f35 [(29,yx),(50,E8)]:=gm
def RL:Gt aD.z X E (.v (.v (.seq (.v (.block (.loop ⟨[(0,.r false .cer),(1,.r false .cer),(5,.i)],[]⟩ .u))) .u))) Zq Tryz.f55 [(29,yx)]:=gm
def RN:Gt aD.z X E .u Zr Tryz.f20 [(35,Zp),(55,Zq),(16,J6)]:=gm
def RO:Gt aD.z X E .u Zt Tryz.f21 [(14,kX),(56,vV)]:=gm
def RP:Gt aD.z X E .u Zm Tryz.f4 [(13,Zl),(18,Uk),(12,Zk),(20,Zr),(16,J6),(15,O1),(19,Zn),(21,Zt),(14,kX)]:=gm
end Go.TX.F
end
noncomputable section
namespace Go.TX.F
open Go Go.AE Go.TX Go.TX.Seat Go.Proofs List
set_option maxRecDepth 100000
set_option maxHeartbeats 4000000
end Go.TX.F
end
noncomputable section
namespace Go.TX.F
open Go Go.AE Go.TX Go.TX.Seat Go.Proofs List
set_option maxRecDepth 100000
set_option maxHeartbeats 4000000
end Go.TX.F
end
noncomputable section
namespace Go.TX.F
open Go Go.AE Go.TX Go.TX.Seat Go.Proofs List
set_option maxRecDepth 100000
set_option maxHeartbeats 4000000
end Go.TX.F
end

namespace Go.TX
open Go Go.AE List
theorem aiL(x y:Int):bD .lss x y=decide (x<y):=rfl
theorem aiM(x y:Int):bD .leq x y=decide (x<=y):=rfl
theorem aiN(x y:Int):bD .gtr x y=decide (y<x):=rfl
theorem aiO(x y:Int):bD .geq x y=decide (y<=x):=rfl
theorem aa4(x y:Int):bD .eql x y=decide (x=y):=rfl
theorem aiP(x y:Int):bD .neq x y= !decide (x=y):=rfl
theorem aiQ(k:IntKind)(x y:Int):eX .add k x y=k.wrap (x+y):=rfl
theorem aiR(k:IntKind)(x y:Int):eX .sub k x y=k.wrap (x-y):=rfl
theorem aiS(k:IntKind)(x y:Int):eX .mul k x y=k.wrap (x*y):=rfl
theorem aiT(k:IntKind)(x y:Int):eX .quo k x y=k.wrap (x.tdiv y):=rfl
theorem aa5(k:IntKind)(x y:Int):eX .rem k x y=x.tmod y:=rfl
theorem w64{x:Int}(a: -9223372036854775808<=x)(b:x<=9223372036854775807):IntKind.i64.wrap x=x:=IntWalk.i64_in _ ah
theorem aeF(m:au):bR .mono 0 m=m.dI:=rfl
theorem aeG(m:au):iW .mono 1 .i64 m=m.atoms:=rfl
theorem aiU(p:List au):iW .poly 0 .mono p=p:=rfl
theorem ang(p:List Atom):iW .tab 0 .atom p=p:=rfl
theorem aiV(p:List Int):iW .ints 0 .i64 p=p:=rfl
theorem aeH(m:Atom):bR .atom 0 m=m.kind:=rfl
theorem aeI(m:Atom):bR .atom 1 m=m.k:=rfl
theorem aeJ(m:Atom):iW .atom 2 .mono m=m.x:=rfl
theorem aeK(m:Atom):iW .atom 3 .mono m=m.y:=rfl
theorem anh(n:Int):bR .i64 0 n=n:=rfl
theorem ap9(n:Int):bR .u8 0 n=n:=rfl
theorem aeL(x):Co.mk .mono x=⟨x.1,x.2.1⟩:=rfl
theorem aeM(x):Co.mk .poly x=x.1:=rfl
theorem aiW(x):Co.mk .tab x=x.1:=rfl
theorem aeN(x):Co.mk .ints x=x.1:=rfl
theorem fQ(x):Co.mk .i64 x=x.1:=rfl
theorem aeO(x):Co.mk .atom x=⟨x.1,x.2.1,x.2.2.1,x.2.2.2.1⟩:=rfl
def ay{α ρ:Type}{f:α->(α ⊕ ρ->Prop)->Prop}{x:α}{Q:ρ->Prop}(I:α->Prop)(μ:α->Nat)(a:I x)(b:∀y,I y->f y (CX (λz _=>I z/\μ z<μ y) Q)):TP f x Q:=⟨I,μ,a,b⟩
theorem aa6{α ρ:Type}(k:α->(ρ->Prop)->Prop)(Q:ρ->Prop)(x:α):CX k Q (.inl x)=k x Q:=rfl
theorem aa7{α ρ:Type}(k:α->(ρ->Prop)->Prop)(Q:ρ->Prop)(r:ρ):CX k Q (.inr r)=Q r:=rfl
def getD_lt{α:Type}{a:List α}{d:α}{i:Nat}(h:i<a.length):a.getD i d=a[i]:=by simp [getD,h]
def gu{α:Type}{xs:List α}{d:α}{i:Int}(a:0<=i)(h:i<xs.length):xs.getD i.toNat d∈xs:=by
 rw [getD_lt ah];exact getElem_mem _
def RR:(∀(x y:Int),bD BinOp.lss x y=decide (x<y))/\(∀(x y:Int),bD BinOp.leq x y=decide (x<=y))/\(∀(x y:Int),bD BinOp.gtr x y=decide (y<x))/\(∀(x y:Int),bD BinOp.geq x y=decide (y<=x))/\(∀(x y:Int),bD BinOp.eql x y=decide (x=y))/\(∀(x y:Int),bD BinOp.neq x y= !decide (x=y))/\(∀(k:IntKind) (x y:Int),eX BinOp.add k x y=k.wrap (x+y))/\(∀(k:IntKind) (x y:Int),eX BinOp.sub k x y=k.wrap (x-y))/\(∀(k:IntKind) (x y:Int),eX BinOp.mul k x y=k.wrap (x*y))/\(∀(k:IntKind) (x y:Int),eX BinOp.quo k x y=k.wrap (x.tdiv y))/\(∀(k:IntKind) (x y:Int),eX BinOp.rem k x y=x.tmod y)/\(∀ {x:Int}, -9223372036854775808<=x->x<=9223372036854775807->IntKind.i64.wrap x=x)/\(∀(m:au),bR Co.mono 0 m=m.dI)/\(∀(m:au),iW Co.mono 1 Co.i64 m=m.atoms)/\(∀(p:List au),iW Co.poly 0 Co.mono p=p)/\(∀(p:List Atom),iW Co.tab 0 Co.atom p=p)/\(∀(p:List Int),iW Co.ints 0 Co.i64 p=p)/\(∀(m:Atom),bR Co.atom 0 m=m.kind)/\(∀(m:Atom),bR Co.atom 1 m=m.k)/\(∀(m:Atom),iW Co.atom 2 Co.mono m=m.x)/\(∀(m:Atom),iW Co.atom 3 Co.mono m=m.y)/\(∀(n:Int),bR Co.i64 0 n=n)/\(∀(n:Int),bR Co.u8 0 n=n)/\(∀(x:iD Co.mono.qY),Co.mono.mk x=au.mk x.fst x.snd.fst)/\(∀(x:iD Co.poly.qY),Co.poly.mk x=x.fst)/\(∀(x:iD Co.tab.qY),Co.tab.mk x=x.fst)/\(∀(x:iD Co.ints.qY),Co.ints.mk x=x.fst)/\(∀(x:iD Co.i64.qY),Co.i64.mk x=x.fst)/\(∀(x:iD Co.atom.qY),Co.atom.mk x=Atom.mk x.fst x.snd.fst x.snd.snd.fst x.snd.snd.snd.fst)/\(∀ {α ρ:Type} (k:α->(ρ->Prop)->Prop) (Q:ρ->Prop) (x:α),CX k Q (Sum.inl x)=k x Q)/\(∀ {α ρ:Type} (k:α->(ρ->Prop)->Prop) (Q:ρ->Prop) (r:ρ),CX k Q (Sum.inr r)=Q r)/\(∀(c f:Bool),(bif c then true else f)=(c || f))/\(∀(c t:Bool),(bif c then t else false)=(c&&t))/\(∀(c f:Bool),(bif c then false else f)=(!c&&f))/\(∀(c t:Bool),(bif c then t else true)=(!c || t))/\(∀(a b:Bool),((a || b)=true)=(a=true\/b=true))/\(∀ {x y:Bool},(x || y)=false↔x=false/\y=false)/\(∀(a b:Bool),((a&&b)=true)=(a=true/\b=true))/\(∀ {p:Prop} [inst:Decidable p],(decide p=true)=p)/\(∀ {p:Prop} {x:Decidable p},decide p=false↔¬p)/\(∀(b:Bool),((!b)=true)=(b=false))/\(∀(b:Bool),((!b)=false)=(b=true))/\(∀(b:Bool),(!!b)=b)/\(∀(p:Prop),(True/\p)=p)/\(∀(p:Prop),(p/\True)=p)/\(∀ {α:Type} [inst:LE α] {x y:α},x>=y↔y<=x)/\(¬True)=False/\(¬False)=True/\(false=true)=False/\(true=false)=False/\(∀(p:Prop),(False->p)=True)/\(∀(p:Prop),(True->p)=p)/\(∀(α:Prop),(α->True)=True)/\(∀(α:Type),(∀(a:α),True)=True)/\(∀(p:Prop),(False\/p)=p)/\(∀(p:Prop),(p\/False)=p)/\(∀(p:Prop),(True\/p)=True)/\(∀(p:Prop),(p\/True)=True)/\(∀ {α:Type} {x:Decidable True} (t e:α),(if True then t else e)=t)/\∀ {α:Type} {x:Decidable False} (t e:α),(if False then t else e)=e:=And.intro (@aiL)<| And.intro (@aiM)<| And.intro (@aiN)<| And.intro (@aiO)<| And.intro (@aa4)<| And.intro (@aiP)<| And.intro (@aiQ)<| And.intro (@aiR)<| And.intro (@aiS)<| And.intro (@aiT)<| And.intro (@aa5)<| And.intro (@w64)<| And.intro (@aeF)<| And.intro (@aeG)<| And.intro (@aiU)<| And.intro (@ang)<| And.intro (@aiV)<| And.intro (@aeH)<| And.intro (@aeI)<| And.intro (@aeJ)<| And.intro (@aeK)<| And.intro (@anh)<| And.intro (@ap9)<| And.intro (@aeL)<| And.intro (@aeM)<| And.intro (@aiW)<| And.intro (@aeN)<| And.intro (@fQ)<| And.intro (@aeO)<| And.intro (@aa6)<| And.intro (@aa7)<| And.intro (@Bool.cond_true_left)<| And.intro (@Bool.cond_false_right)<| And.intro (@Bool.cond_false_left)<| And.intro (@Bool.cond_true_right)<| And.intro (@Bool.or_eq_true)<| And.intro (@Bool.or_eq_false_iff)<| And.intro (@Bool.and_eq_true)<| And.intro (@decide_eq_true_eq)<| And.intro (@decide_eq_false_iff_not)<| And.intro (@Bool.not_eq_true')<| And.intro (@Bool.not_eq_false')<| And.intro (@Bool.not_not)<| And.intro (@true_and)<| And.intro (@and_true)<| And.intro (@ge_iff_le.{0})<| And.intro (@not_true_eq_false)<| And.intro (@not_false_eq_true)<| And.intro (@Bool.false_eq_true)<| And.intro (@Bool.true_eq_false)<| And.intro (@false_implies)<| And.intro (@true_implies)<| And.intro (@implies_true.{0})<| And.intro (@implies_true.{1})<| And.intro (@false_or)<| And.intro (@or_false)<| And.intro (@true_or)<| And.intro (@or_true)<| And.intro (@if_true.{1})<| @if_false.{1}
abbrev eu:=List Int×Unit
abbrev ql:=List Int×eu
abbrev iK:=List Int×ql
abbrev ak:=Int×Int×Bool×Bool×Int×List Int×Int×List Cac×List Cer×iK
abbrev bn:=Int×Int×Bool×Bool×Int×List Int×Int×iK
abbrev Yo:=List IOp×Unit
abbrev dY:=Int×Int×Int×Int×Int×Int×Yo
abbrev eB:=Int×Unit
abbrev eG:=List au×Unit
abbrev fA:=Bool×Unit
abbrev fE:=List Int×eB
abbrev kr:=Blk×Unit
abbrev lT:=Int×Bool×Bool×Int×List Int×Int×Int×iK
abbrev H8:=Int×Int×eG
abbrev lX:=Int×H8
abbrev l7:=List (List au)×Unit
abbrev mF:=Int×Int×Bool×Bool×Int×List Int×Int×Ins×iK
abbrev sj:=List Cac×Unit
abbrev mG:=Int×Int×Bool×Bool×Int×List Int×Int×List Cer×List Int×List Int×List Int×sj
abbrev ny:=List Ins×Unit
abbrev oz:=Int×eB
abbrev r9:=List Cer×Unit
abbrev sw:=Int×Int×dY
abbrev uy:=List au×eG
abbrev vw:=List Int×Int×eu
abbrev arl:=Atom×Unit
abbrev wm:=List Atom×arl
abbrev wz:=List Atom×Unit
abbrev yc:=List IOp×Int×Int×Int×Int×Bool×Bool×Int×List Int×Int×List Cac×List Cer×List Int×List Int×Blk×ql
abbrev yt:=List Cac×Cac×Unit
abbrev yw:=Int×fE
abbrev zx:=List Cac×eu
abbrev z8:=List Int×Int×ny
abbrev Bp:=Int×Int×Bool×Bool×Int×Int×List Int×iK
abbrev F3:=List Int×Int×Int×Bool×Bool×Int×List Int×List Int×Int×List Cer×List Int×sj
abbrev F5:=Int×Int×Int×Int×Int×Int×Int×Int×Int×Int×Int×Int×List IOp×Yo
abbrev He:=aC×Unit
abbrev H6:=Int×Int×eu
abbrev aro:=Blk×kr
abbrev I4:=List Cer×aro
abbrev Sk:=List Int×Int×Ask×ak
abbrev U0:=Int×Int×Int×sw
abbrev Zo:=List Cac×eB
abbrev ara:=Int×List Int×Int×Bool×Bool×Int×List Int×Int×ql
abbrev arb:=Int×Int×Bool×Bool×Int×List Int×Int×Int×Int×iK
abbrev ard:=List Bool×Unit
abbrev arf:=Eng×Unit
abbrev arh:=Int×Int×Bool×Bool×Int×List Int×Int×Bool×iK
abbrev ari:=Int×oz
abbrev arj:=Blk×ak
abbrev ark:=Ins×Unit
abbrev arn:=List Atom×fA
abbrev arp:=Int×Int×Int×Int×Int×Int×List Int×Yo
end Go.TX
namespace Go.TX.F
open Go Go.AE Go.TX List
def inB(a b c:Int):Bool:=decide (b<=a)&&decide (a<=c)
def aiX(a b c:Int):Qh.F () (a,b,c,()) (λy=>y=(inB a b c,())):=by
 dsimp only [Qh,gm];simp (disch:=omega) only [RR];rfl
abbrev Y1(e:ari->Bool)(d:ari->fA):Prop:=∀a b c,e (a,b,c,())=true/\d (a,b,c,())=(inB a b c,())
def aiY{p f}(U:Y1 p f)(a:Int):Qi.F (p,f,()) (a,()) (λy=>y=(inB a 0 65535,())):=by
 dsimp only [Qi,gm];simp (disch:=omega) only [RR,U]
def aiZ{p f}(U:Y1 p f)(a:Int):Qv.F (p,f,()) (a,()) (λy=>y=(inB a 1 5,())):=by
 dsimp only [Qv,gm];simp (disch:=omega) only [RR,U]
def ai0{p f}(U:Y1 p f)(a:Int):Qo.F (p,f,()) (a,()) (λy=>y=(inB a 0 3,())):=by
 dsimp only [Qo,gm];simp (disch:=omega) only [RR,U]
def aqa(a:Int):aiD.F () (a,()) (λy=>y=(false,())):=by
 dsimp only [aiD,gm];simp (disch:=omega) only [RR];simp
def qE(a b:Int):Int:=if a<b then-1 else if b<a then 1 else 0
abbrev Y2(c:eB->Bool)(b:eB->fA):Prop:=∀a,c (a,())=true/\b (a,())=(false,())
def aqb{p f}(U:Y2 p f)(a b:Int):aiE.F (p,f,()) (a,b,()) (λy=>y=(qE a b,())):=by
 dsimp only [aiE,gm];simp (disch:=omega) only [RR,U];unfold qE;refine⟨λh=>by simp [h],λh=>⟨λc=>by simp [h,c],λc=>by simp [h,c]⟩⟩
def aqc{p f}(U:Y2 p f)(a b:Int):aiG.F (p,f,()) (a,b,()) (λy=>y=(decide (a<b),())):=by
 dsimp only [aiG,gm];simp (disch:=omega) only [RR,U];simp
def or2(a b:Int):Int:=if a≠0 then a else b
def aqd(a b:Int):aiF.F () ([a,b],()) (λy=>y=(or2 a b,())):=by
 dsimp only [aiF,gm];refine ay (λ(y:Int×List Int×oz)=>y.1=0/\y.2.1=[a,b]/\y.2.2.1=2/\0<=y.2.2.2.1/\y.2.2.2.1<=2/\(0<y.2.2.2.1->a=0)/\(1<y.2.2.2.1->b=0)) (λy=>(2-y.2.2.2.1).toNat) ⟨rfl,rfl,rfl,by simp,by simp,λh=>absurd h (by simp),λh=>absurd h (by simp)⟩ ?_;rintro⟨(z:Int),(l:List Int),(n:Int),(i:Int),⟨⟩⟩ hI;dsimp only at hI ⊢;obtain⟨rfl,rfl,rfl,j,g,c,d⟩:=hI;simp (disch:=omega) only [RR];have f:i=0\/i=1\/i=2:=by omega
 rcases f with rfl | rfl | rfl
 .by_cases ha:a=0<;>simp [or2,ha]<;>(try omega)
 .have:=c ah;by_cases e:b=0<;>simp [or2,this,e]<;>(try omega)
 .have:=c ah;have:=d ah;simp [or2, *]
def mh:List Int->List Int->Int
 | [],[]=>0
 | [],_::_=> -1
 | _::_,[]=>1
 | a::az,b::bs=>if qE a b≠0 then qE a b else mh az bs
def IB(a b:List Int)(i:Nat):(d:i<a.length)->(c:i<b.length)->mh (a.drop i) (b.drop i)=if qE a[i] b[i]≠0 then qE a[i] b[i]else mh (a.drop (i+1)) (b.drop (i+1)):=by
 intro d c;rw [drop_eq_getElem_cons d,drop_eq_getElem_cons c];rfl
def aa8(l:List Int)(h:l≠ []):mh l []=1:=by cases l<;>simp_all [mh]
abbrev Y3(d:oz->Bool)(c:oz->eB):Prop:=∀a b,d (a,b,())=true/\c (a,b,())=(qE a b,())
def ai1{p f}(U:Y3 p f)(a b:List Int)(o:a.length<1000000000):
  QB.F (p,f,()) (a,b,()) (λy=>y=(mh a b,())):=by
 dsimp only [QB,gm]
 refine ay (λ(y:List Int×List Int×List Int×oz)=>y.1=a/\y.2.1=b/\y.2.2.1=a/\y.2.2.2.1=a.length/\0<=y.2.2.2.2.1/\y.2.2.2.2.1<=a.length/\y.2.2.2.2.1<=b.length/\mh a b=mh (a.drop y.2.2.2.2.1.toNat) (b.drop y.2.2.2.2.1.toNat))
  (λy=>(a.length-y.2.2.2.2.1).toNat) ⟨rfl,rfl,rfl,rfl,by simp,by simp,by simp,by simp⟩ ?_
 rintro⟨(s:List Int),(c:List Int),(e:List Int),(n:Int),(i:Int),⟨⟩⟩ hI;dsimp only at hI ⊢;obtain⟨rfl,rfl,rfl,rfl,j,l,m,d⟩:=hI;simp (disch:=omega) only [RR,U];refine⟨λk=>⟨j,k,λh=> ?_,λh=>⟨j,ah,λhc=> ?_,λhc=> ?_⟩⟩,λk=>⟨λh=> ?_,λh=> ?_⟩⟩
 .rw [d,drop_eq_nil_of_le (show c.length<=i.toNat by omega),aa8 _ (by simp;omega)]
 .rw [d,IB e c i.toNat ah ah];rw [getD_lt ah,getD_lt ah]at hc;rw [getD_lt ah,getD_lt ah,if_pos hc]
 .rw [getD_lt ah,getD_lt ah]at hc;refine⟨⟨ah,ah,ah,?_⟩,ah⟩;rw [d,IB e c i.toNat ah ah,if_neg (by simpa using hc),show(i+1).toNat=i.toNat+1 by omega]
 .rw [d,drop_eq_nil_of_le (show e.length<=i.toNat by omega)];have:∃q r,c.drop i.toNat=q::r:=by
   cases g:c.drop i.toNat with
   | nil=>have:=congrArg List.length g;simp at this;omega
   | cons q r=>exact⟨q,r,rfl⟩
  obtain⟨q,r,g⟩:=this;rw [g];rfl
 .rw [d,drop_eq_nil_of_le (show e.length<=i.toNat by omega),drop_eq_nil_of_le (show c.length<=i.toNat by omega)];rfl
def gT(a b:List Int):Int:=or2 (qE a.length b.length) (mh a b)
abbrev Y4(d:eu->Bool)(c:eu->eB):Prop:=∀a b,d ([a,b],())=true/\c ([a,b],())=(or2 a b,())
def ai2{p1 f1 p3 f3}{d:ql->Bool}{c:ql->eB}(f:Y3 p1 f1)(h:∀a b,a.length<1000000000->d (a,b,())=true/\c (a,b,())=(mh a b,()))(e:Y4 p3 f3)(a b:List Int)(g:a.length<1000000000):
  QC.F (p3,f3,p1,f1,d,c,()) (a,b,()) (λy=>y=(gT a b,())):=by
 dsimp only [QC,gm];simp (disch:=omega) only [RR,f,h a b g,e];rfl
variable{P:Prop}{G:Int->Prop}{p:fE->Bool}
noncomputable def bp (P:Prop):Bool:= @decide P (Classical.propDecidable P)
theorem aR(h:P):bp P=true:=by simp [bp,h]
theorem bJ(h:¬P):bp P=false:=by simp [bp,h]
theorem aX:bp P=true↔P:=by simp [bp]
def lS:bp P=false↔¬P:=by simp [bp]
def fT{P Q:Prop}:bp (P/\Q)=(bp P&&bp Q):=by by_cases a:P<;>by_cases b:Q<;>simp [bp,a,b]
def iF{P Q:Prop}(h:P↔Q):bp P=bp Q:=by simp [bp,h]
def All(n:Int)(G:Int->Prop):Prop:=∀j,0<=j->j<n->G j
def All.zero:All 0 G:=λj b a=>absurd a ah
def All.snoc{n:Int}(h:All n G)(c:G n):All (n+1) G:=λj b d=>by
 by_cases a:j=n
 .exact a▸c
 .exact h j b ah
def All.le{n m:Int}(h:All n G)(c:m<=n):All m G:=λj a b=>h j a ah
def Idx(n:Int)(G:Int->Prop)(r:Int):Prop:=(r= -1/\All n (λj=>¬G j))\/(0<=r/\r<n/\G r/\All r (λj=>¬G j))
def Idx.ge{n:Int}{r:Int}(h:Idx n G r):(0<=r)↔¬All n (λj=>¬G j):=by
 rcases h with⟨rfl,h⟩ | ⟨a,b,c,d⟩
 .simp [h]
 .simp only [a,true_iff];exact λh=>h r a b c
def Srt(l:List Int):Prop:=All (l.length-1) (λi=>l.getD i.toNat default<=l.getD (i+1).toNat default)
abbrev Y5(d:oz->Bool)(c:oz->fA):Prop:=∀a b,d (a,b,())=true/\c (a,b,())=(decide (a<b),())
def ai3{p f}(U:Y5 p f)(a:List Int)(n:a.length<1000000000):
  QD.F (p,f,()) (a,()) (λy=>y=(bp (Srt a),())):=by
 dsimp only [QD,gm];simp (disch:=omega) only [RR,U];refine ay (λ(y:fE)=>y.1=a/\ -1<=y.2.1/\y.2.1<=a.length-1/\∀j,y.2.1<=j->0<=j->j< (a.length:Int)-1->a.getD j.toNat default<=a.getD (j+1).toNat default) (λy=>(y.2.1+1).toNat) ⟨rfl,by simp;omega,by simp,by simp;omega⟩ ?_;rintro⟨(l:List Int),(i:Int),⟨⟩⟩ hI;dsimp only at hI ⊢;obtain⟨rfl,o,m,d⟩:=hI;simp (disch:=omega) only [RR,U];refine⟨λg=>⟨ah,ah,ah,ah,λk=> ?_,λk=>⟨⟨ah,ah,λj c b e=> ?_⟩,ah⟩⟩,λg=> ?_⟩
 .rw [bJ];intro h;have:=h (i-1) ah ah;dsimp only at this;rw [show i-1+1=i by omega]at this;omega
 .by_cases hj:j=i-1
  .subst hj;rw [show i-1+1=i by omega];omega
  .exact d j ah b e
 .rw [aR];exact λj c b=>d j ah c b
def ani(a n:Int):ZQ.F () (a,n,()) (λy=>y=(decide (n<=a),n,())):=by
 dsimp only [ZQ,gm];simp (disch:=omega) only [RR]
def ai4{p:oz->Bool}{f:oz->Bool×eB}(U:∀a b,p (a,b,())=true/\f (a,b,())=(decide (b<=a),b,()))(a:List Int)(n:Int)(h:a.length<1000000000):
  Qx.F (p,f,()) (a,n,()) (λy=>Idx a.length (λi=>n<=a.getD i.toNat default) y.1/\y.2.1=n):=by
 dsimp only [Qx,gm];refine ay (λ(y:List Int×ari)=>y.1=a/\y.2.1=a.length/\y.2.2.2.1=n/\0<=y.2.2.1/\y.2.2.1<=a.length/\All y.2.2.1 (λi=>¬n<=a.getD i.toNat default)) (λy=>(a.length-y.2.2.1).toNat) ⟨rfl,rfl,rfl,by simp,by simp,All.zero⟩ ?_;rintro⟨(l:List Int),(m:Int),(i:Int),(g:Int),⟨⟩⟩ hI;dsimp only at hI ⊢;obtain⟨rfl,rfl,rfl,k,j,d⟩:=hI;simp (disch:=omega) only [RR,U];refine⟨λe=>⟨ah,ah,λc=> ?_,λc=>⟨⟨ah,ah,d.snoc c⟩,ah⟩⟩,λe=> ?_⟩
 .exact Or.inr ⟨ah,ah,c,d⟩
 .exact Or.inl ⟨rfl,d.le ah⟩
def ai5{f:fE->oz}(d:∀a b,a.length<1000000000->p (a,b,())=true)
  (e:∀a n,a.length<1000000000->Idx a.length (λi=>n<=a.getD i.toNat default) (f (a,n,())).1/\(f (a,n,())).2.1=n) (a:List Int) (n:Int) (c:a.length<1000000000):
  Qz.F (p,f,()) (a,n,()) (λy=>y=(bp (¬All a.length (λi=>¬n<=a.getD i.toNat default)),n,())):=by
 obtain⟨h,g⟩:=e a n c;dsimp only [Qz,gm];simp (disch:=omega) only [RR,d a n c,g];rw [show decide ((0:Int)<=(f (a,n,())).1)=bp (¬All a.length (λi=>¬n<=a.getD i.toNat default))from ?_];rw [<-iF h.ge];simp [bp]
def RQ(n:Int)(m:au):Prop:=All m.atoms.length (λi=>¬n<=m.atoms.getD i.toNat default)
def aZ(p:List au)(n:Int):Prop:=All p.length (λi=>RQ n (p.getD i.toNat default))
def Sh(p:List au):Prop:=p.length<1000000000/\∀m∈p,m.atoms.length<1000000000
def Sh.at{p:List au}(h:Sh p)(n:Nat):(p.getD n default).atoms.length<1000000000:=by
 by_cases a:n<p.length
 .rw [getD_lt a];exact h.2 _ (getElem_mem _)
 .simp only [getD,getElem?_eq_none (by omega:p.length<=n)];decide
def anj{f:fE->Bool×eB}(q:∀a b,a.length<1000000000->p (a,b,())=true)
  (r:∀a n,a.length<1000000000->f (a,n,())=(bp (¬All a.length (λi=>¬n<=a.getD i.toNat default)),n,())) (a:List au) (n:Int) (j:Sh a):
  ZR.F (p,f,()) (a,n,()) (λy=>y=(bp (aZ a n),())):=by
 have e:=j.1;dsimp only [ZR,gm];refine ay (λ(y:List au×ari)=>y.1=a/\y.2.1=a.length/\y.2.2.2.1=n/\0<=y.2.2.1/\y.2.2.1<=a.length/\All y.2.2.1 (λi=>RQ n (a.getD i.toNat default))) (λy=>(a.length-y.2.2.1).toNat) ⟨rfl,rfl,rfl,by simp,by simp,All.zero⟩ ?_;rintro⟨(l:List au),(m:Int),(i:Int),(k:Int),⟨⟩⟩ hI;dsimp only at hI ⊢;obtain⟨rfl,rfl,rfl,o,s,g⟩:=hI;simp (disch:=omega) only [RR];refine⟨λd=> ?_,λd=> ?_⟩
 .have h5:=j.at i.toNat;rw [q _ _ h5,r _ _ h5];refine⟨ah,ah,rfl,λc=> ?_,λc=>⟨⟨rfl,ah,ah,g.snoc ?_⟩,ah⟩⟩
  .rw [bJ (λh=> ?_)];exact aX.1 c (h i o d)
  .exact Classical.byContradiction (λh=>lS.1 c h)
 .rw [aR (show aZ l k from g.le ah)]
def ank(m:au):ZT.F () (m,()) (λy=>y=(bp (0<m.atoms.length/\m.atoms.getD 0 default<0),())):=by
 dsimp only [ZT,gm];simp (disch:=omega) only [RR];refine⟨ah,ah,?_⟩;rw [fT];by_cases a:0<m.atoms.length
 .by_cases h2:m.atoms.getD 0 default<0
  .rw [aR a,aR h2,show Int.toNat 0=0 from rfl,decide_eq_true h2,decide_eq_true ah]
  .rw [aR a,bJ h2,show Int.toNat 0=0 from rfl,decide_eq_false h2,Bool.and_false,Bool.and_false]
 .rw [bJ a,decide_eq_false ah,Bool.false_and,Bool.false_and]
def ai6{p:au×Unit->Bool}{f:au×Unit->fA}(G:au->Prop)(U:∀a,p (a,())=true/\f (a,())=(bp (G a),()))(a:List au)(e:a.length<1000000000):
  QE.F (p,f,()) (a,()) (λy=>Idx a.length (λi=>G (a.getD i.toNat default)) y.1):=by
 dsimp only [QE,gm];refine ay (λ(y:List au×oz)=>y.1=a/\y.2.1=a.length/\0<=y.2.2.1/\y.2.2.1<=a.length/\All y.2.2.1 (λi=>¬G (a.getD i.toNat default))) (λy=>(a.length-y.2.2.1).toNat) ⟨rfl,rfl,by simp,by simp,All.zero⟩ ?_;rintro⟨(l:List au),(m:Int),(i:Int),⟨⟩⟩ hI;dsimp only at hI ⊢;obtain⟨rfl,rfl,h,g,c⟩:=hI;simp (disch:=omega) only [RR,U];refine⟨λd=>⟨ah,ah,λb=> ?_,λb=>⟨⟨ah,ah,c.snoc (lS.1 b)⟩,ah⟩⟩,λd=> ?_⟩
 .exact Or.inr ⟨ah,ah,aX.1 b,c⟩
 .exact Or.inl ⟨rfl,c.le ah⟩
def ai7{p:eG->Bool}{f:eG->eB}(G:au->Prop)(U:∀a,a.length<1000000000->p (a,())=true/\(Idx a.length (λi=>G (a.getD i.toNat default)) (f (a,())).1))(a:List au)(b:a.length<1000000000):
  QF.F (p,f,()) (a,()) (λy=>y=(bp (¬All a.length (λi=>¬G (a.getD i.toNat default))),())):=by
 have c:=(U a b).2;dsimp only [QF,gm];simp (disch:=omega) only [RR,(U a b).1];rw [show decide ((0:Int)<=(f (a,())).1)=bp (¬All a.length (λi=>¬G (a.getD i.toNat default)))from ?_];rw [<-iF c.ge];simp [bp]
def mOk(m:au):Prop:=(1<=m.dI/\m.dI<=65535)/\m.atoms.length<=4/\Srt m.atoms
def aV(p:List au):Prop:=All p.length (λi=>mOk (p.getD i.toNat default)/\(0<i->gT (p.getD (i-1).toNat default).atoms (p.getD i.toNat default).atoms<0))/\p.length<=12/\aZ p 200
 /\All p.length (λi=>¬(0< (p.getD i.toNat default).atoms.length/\(p.getD i.toNat default).atoms.getD 0 default<0))
abbrev Y6(c:List au×eB->Bool)(b:List au×eB->fA):Prop:=∀a n,Sh a->c (a,n,())=true/\b (a,n,())=(bp (aZ a n),())
abbrev Y7(d:ql->Bool)(c:ql->eB):Prop:=∀a b,a.length<1000000000->d (a,b,())=true/\c (a,b,())=(gT a b,())
def anl{p1 f1 p2 f2 p4 f4}{g:eu->Bool}{q:eu->fA}{j:eG->Bool}{n:eG->fA}(A:Y1 p1 f1)(w:Y6 p2 f2)(v:∀a,a.length<1000000000->g (a,())=true/\q (a,())=(bp (Srt a),()))(x:Y7 p4 f4)(t:∀a,a.length<1000000000->j (a,())=true/\(n (a,())=(bp (¬All a.length (λi=>¬(0< (a.getD i.toNat default).atoms.length/\(a.getD i.toNat default).atoms.getD 0 default<0))),())))(a:List au)(f:Sh a):ZU.F (p1,f1,p2,f2,g,q,p4,f4,j,n,()) (a,()) (λy=>y=(bp (aV a),())):=by
 have e:=f.1;dsimp only [ZU,gm];refine ay (λ(y:List au×H8)=>y.1=a/\y.2.1=a.length/\y.2.2.2.1=a/\0<=y.2.2.1/\y.2.2.1<=a.length/\All y.2.2.1 (λi=>mOk (a.getD i.toNat default)/\(0<i->gT (a.getD (i-1).toNat default).atoms (a.getD i.toNat default).atoms<0))) (λy=>(a.length-y.2.2.1).toNat) ⟨rfl,rfl,rfl,by simp,by simp,All.zero⟩ ?_;rintro⟨(l:List au),(m:Int),(i:Int),(d:List au),⟨⟩⟩ hI;dsimp only at hI ⊢;obtain⟨rfl,rfl,rfl,s,B,o⟩:=hI;simp (disch:=omega) only [RR,A,w d _ f,t d e];refine⟨λk=> ?_,λk=> ?_⟩
 .simp (disch:=omega) only [RR,v _ (f.at _),x _ _ (f.at _),aX,lS,inB];refine⟨ah,ah,by by_cases h:i<=0<;>simp [h]<;>omega,ah,λc=> ?_,λc=>⟨⟨ah,ah,o.snoc ?_⟩,ah⟩⟩
  .rw [bJ (λh=> ?_)];have:=h.1 i s k;dsimp only [mOk]at this;obtain⟨⟨p,C,u⟩,z⟩:=this;rcases c with((c | c) | c) | ⟨c,r⟩
   .simp [-getD_eq_getElem?_getD]at c;omega
   .omega
   .exact c u
   .have:=z c;omega
  .refine⟨⟨ah,ah,c.1.2⟩,λp=> ?_⟩;have:=c.2;simp only [decide_eq_true p,Bool.true_and,decide_eq_false_iff_not]at this;omega
 .unfold aV;rw [show All (↑d.length) (λi=>mOk (d.getD i.toNat default)/\(0<i->gT (d.getD (i-1).toNat default).atoms (d.getD i.toNat default).atoms<0))=True from eq_true (o.le ah)];rw [true_and,fT,fT,Bool.and_assoc];refine congrArg (λb=>(b,())) ?_
  congr 1
  .by_cases h:d.length<=12<;>simp [bp,h]<;>omega
  .congr 1
   simp [bp]
def MN(a b:au):Int:=or2 (gT a.atoms b.atoms) (qE a.dI b.dI)
def Fh:List au->List au->Int
 | a::az,b::bs=>if MN a b≠0 then MN a b else Fh az bs
 | _,_=>0
def nu(a b:List au):Int:=if qE a.length b.length≠0 then qE a.length b.length else Fh a b
def IC(a b:List au)(i:Nat):(d:i<a.length)->(c:i<b.length)->Fh (a.drop i) (b.drop i)=if MN a[i] b[i]≠0 then MN a[i] b[i]else Fh (a.drop (i+1)) (b.drop (i+1)):=by
 intro d c;rw [drop_eq_getElem_cons d,drop_eq_getElem_cons c];rfl
def anm{p1 f1 p2 f2 p4 f4}(p:Y4 p1 f1)(n:Y3 p2 f2)(o:Y7 p4 f4)(a b:List au)(g:Sh a):ZW.F (p1,f1,p2,f2,p4,f4,()) (a,b,()) (λy=>y=(nu a b,())):=by
 have f:=g.1;dsimp only [ZW,gm];simp (disch:=omega) only [RR,n];refine⟨λh=>by rw [nu,if_pos h],λh=> ?_⟩;have s:a.length=b.length:=by unfold qE at h;split at h<;>(try split at h)<;>omega
 rw [show nu a b=Fh a b by rw [nu,if_neg (by simp [h])]];refine ay (λ(y:List au×H8)=>y.1=a/\y.2.1=a.length/\y.2.2.2.1=b/\0<=y.2.2.1/\y.2.2.1<=a.length/\Fh a b=Fh (a.drop y.2.2.1.toNat) (b.drop y.2.2.1.toNat)) (λy=>(a.length-y.2.2.1).toNat) ⟨rfl,rfl,rfl,by simp,by simp,by simp⟩ ?_;rintro⟨(l:List au),(m:Int),(i:Int),(j:List au),⟨⟩⟩ hI;dsimp only at hI ⊢;obtain⟨rfl,rfl,rfl,r,q,e⟩:=hI;simp (disch:=omega) only [RR,p,o _ _ (g.at _)];refine⟨λk=>⟨ah,ah,ah,ah,ah,ah,λd=> ?_,λd=>⟨⟨ah,ah,?_⟩,ah⟩⟩,λk=> ?_⟩
 .rw [e,IC _ _ _ ah ah];rw [getD_lt ah,getD_lt ah]at d ⊢;exact((if_pos (c:=MN l[i.toNat] j[i.toNat]≠0) d).trans rfl).symm▸rfl
 .rw [e,IC _ _ _ ah ah];rw [getD_lt ah,getD_lt ah]at d;rw [if_neg (show¬(MN l[i.toNat] j[i.toNat]≠0)from λh=>h d),show(i+1).toNat=i.toNat+1 by omega]
 .rw [e,drop_eq_nil_of_le ah];rfl
abbrev Y8(d:uy->Bool)(c:uy->eB):Prop:=∀a b,Sh a->d (a,b,())=true/\c (a,b,())=(nu a b,())
def ai8{p1 f1}(c:Y8 p1 f1)(a b:List au)(d:Sh a):
  QG.F (p1,f1,()) (a,b,()) (λy=>y=(decide (nu a b=0),())):=by
 dsimp only [QG,gm];simp (disch:=omega) only [RR,c a b d]
end Go.TX.F
namespace Go.TX.F
open Go Go.AE Go.TX List
variable{G:Int->Prop}
theorem Ka(k:IntKind)(x y:Int):eX .and k x y=dR .and k x y:=rfl
theorem RS(k:IntKind)(x y:Int):eX .xor k x y=dR .xor k x y:=rfl
def Fj(x:Int):dR .and .i64 x 65535=x%65536:=by
 unfold dR;dsimp only;rw [BitVec.toNat_and,BitVec.toNat_ofInt,BitVec.toNat_ofInt];have a:((65535:Int)% ((2^IntKind.i64.bits:Nat):Int)).toNat=2^16-1:=by decide
 rw [a,Nat.and_two_pow_sub_one_eq_mod];rw [w64 ah ah];have b:((2^IntKind.i64.bits:Nat):Int)=18446744073709551616:=by decide
 rw [b];omega
def aeP{a b:Int}(h:0<=a)(f:a<=65535)(i:0<=b)(e:b<=65535):(0<=dR .and .i64 a b/\dR .and .i64 a b<=65535)/\(0<=dR .xor .i64 a b/\dR .xor .i64 a b<=65535):=by
 have c:((2^IntKind.i64.bits:Nat):Int)=18446744073709551616:=by decide
 have d:dR .and .i64 a b=((a.toNat&&&b.toNat:Nat):Int):=by
  unfold dR;dsimp only;rw [BitVec.toNat_and,BitVec.toNat_ofInt,BitVec.toNat_ofInt,c,show a%18446744073709551616=a by omega,show b%18446744073709551616=b by omega];have:=Nat.and_lt_two_pow (a.toNat) (show b.toNat<2^16 by omega);rw [w64 ah ah]
 have g:dR .xor .i64 a b=((a.toNat^^^b.toNat:Nat):Int):=by
  unfold dR;dsimp only;rw [BitVec.toNat_xor,BitVec.toNat_ofInt,BitVec.toNat_ofInt,c,show a%18446744073709551616=a by omega,show b%18446744073709551616=b by omega];have:=Nat.xor_lt_two_pow (show a.toNat<2^16 by omega) (show b.toNat<2^16 by omega);rw [w64 ah ah]
 rw [d,g];have:=Nat.and_lt_two_pow (a.toNat) (show b.toNat<2^16 by omega);have:=Nat.xor_lt_two_pow (show a.toNat<2^16 by omega) (show b.toNat<2^16 by omega);omega
theorem BK(a b:Int):dR .and .i64 a b=dR .and .i64 b a:=by unfold dR;grind
theorem IE(a b:Int):dR .xor .i64 a b=dR .xor .i64 b a:=by unfold dR;grind
def ai9(a:Int):QN.F () (a,()) (λy=>y=(a%65536,())):=by
 dsimp only [QN,gm];simp (disch:=omega) only [RR,Ka,Fj]
def wdo(c a b:Int):Int:=if(0<=a/\a<=65535)/\(0<=b/\b<=65535)then
 (if c=1 then(a+b)%65536 else if c=2 then(a-b)%65536 else if c=3 then(a*b)%65536 else if c=4 then dR .and .i64 a b else if c=5 then dR .xor .i64 a b else 0)else 0
def Am(c a b:Int):0<=wdo c a b/\wdo c a b<=65535:=by
 unfold wdo;split
 .rename_i h;have:=aeP h.1.1 h.1.2 h.2.1 h.2.2
  repeat' split
  all_goals omega
 .omega
def aa9{c:Int}(h:c≠2)(a b:Int):wdo c a b=wdo c b a:=by grind [wdo,BK,IE,Int.add_comm,Int.mul_comm]
theorem dU{a b c:Int}:inB a b c=true↔(b<=a/\a<=c):=by simp [inB]
def oP{a b c:Int}:inB a b c=false↔¬(b<=a/\a<=c):=by rw [<-dU,Bool.not_eq_true]
abbrev Y9(c:eB->Bool)(b:eB->fA):Prop:=∀a,c (a,())=true/\b (a,())=(inB a 0 65535,())
abbrev Y10(c:eB->Bool)(b:eB->eB):Prop:=∀a,c (a,())=true/\b (a,())=(a%65536,())
def aja{p1 f1 p2 f2}(e:Y9 p1 f1)(f:Y10 p2 f2)(d a b:Int):
  QO.F (p1,f1,p2,f2,()) (d,a,b,()) (λy=>y=(wdo d a b,())):=by
 dsimp only [QO,gm];simp (disch:=omega) only [RR,e,f,Ka,RS,dU,oP];by_cases c:(0<=a/\a<=65535)/\(0<=b/\b<=65535)
 .have hm:0<=a*b/\a*b<=65535*65535:=⟨Int.mul_nonneg c.1.1 c.2.1,Int.mul_le_mul c.1.2 c.2.2 c.2.1 ah⟩
  grind [w64,wdo,absurd]
 grind [absurd,wdo]
def gU(n:Int):List au:=if 1<=n/\n<=65535 then [⟨n,[]⟩]else []
def ano{p1 f1}(b:Y1 p1 f1)(a:Int):
  aac.F (p1,f1,()) (a,()) (λy=>y=(gU a,())):=by
 dsimp only [aac,gm];simp (disch:=omega) only [RR,b,dU,oP]
 grind [gU]
def fP(n:Int):List au:=if 0<=n/\n<=199 then [⟨1,[n]⟩]else []
def anp{p1 f1}(b:Y1 p1 f1)(a:Int):
  Z5.F (p1,f1,()) (a,()) (λy=>y=(fP a,())):=by
 dsimp only [Z5,gm];simp (disch:=omega) only [RR,b,dU,oP]
 grind [fP]
noncomputable def dB (p:List au):Int×Bool:=if bp (aV p)then(if p.length=0 then(0,true)else if p.length=1/\(p.getD 0 default).atoms.length=0 then((p.getD 0 default).dI,true)else(0,false))else(0,false)
abbrev Y11(c:eG->Bool)(b:eG->fA):Prop:=∀a,Sh a->c (a,())=true/\b (a,())=(bp (aV a),())
def anq{p1 f1}(b:Y11 p1 f1)(a:List au)(c:Sh a):
  aad.F (p1,f1,()) (a,()) (λy=>y=((dB a).1,(dB a).2,())):=by
 dsimp only [aad,gm];simp (disch:=omega) only [RR,b a c]
 grind [dB,Int.toNat,default,decide_eq_true,decide_eq_false_iff_not]
def ajb(a:List Int)(b:a.length<=1073741824):QL.F () (a,()) (λy=>y=(a,())):=by
 dsimp only [QL,gm];simp (disch:=omega) only [RR];omega
theorem dO{α:Type}{l:List α}{i:Int}{d x:α}(a:0<=i)(h:i<l.length)(e:x=l.getD i.toNat d):l.take i.toNat++ [x]=l.take (i+1).toNat:=by
 rw [e,getD_lt ah,show(i+1).toNat=i.toNat+1 by omega,take_succ_eq_append_getElem ah]
abbrev Y12(c:eu->Bool)(b:eu->eu):Prop:=∀a,a.length<=1073741824->c (a,())=true/\b (a,())=(a,())
def anr{p1 f1}(d:Y12 p1 f1)(a:List au)(b:Sh a):
  Z6.F (p1,f1,()) (a,()) (λy=>y=(a,())):=by
 have c:=b.1;dsimp only [Z6,gm];refine ay (λ(y:List au×H8)=>y.1=a/\y.2.1=a.length/\y.2.2.2.1=a.take y.2.2.1.toNat/\0<=y.2.2.1/\y.2.2.1<=a.length) (λy=>(a.length-y.2.2.1).toNat) ⟨rfl,rfl,by simp,by simp,by simp⟩ ?_;rintro⟨(l:List au),(m:Int),(i:Int),(o:List au),⟨⟩⟩ hI;dsimp only at hI ⊢;obtain⟨rfl,rfl,rfl,f,e⟩:=hI;simp (disch:=first | omega | (have:=b.at i.toNat;omega)) only [RR,d]
 grind [dO,take_of_length_le,length_take_le',length_cons,length_nil]
def ShA(a:Atom):Prop:=Sh a.x/\Sh a.y
def ShT(t:List Atom):Prop:=t.length<1000000000/\∀a∈t,ShA a
def ShT.at{p:List Atom}(h:ShT p)(n:Nat):ShA (p.getD n default):=by
 by_cases a:n<p.length
 .rw [getD_lt a];exact h.2 _ (getElem_mem _)
 .simp only [getD,getElem?_eq_none (by omega:p.length<=n)];refine⟨⟨by decide,λm hm=> ?_⟩,⟨by decide,λm hm=> ?_⟩⟩<;>exact absurd hm (by simp [default,instInhabitedAtom.default])
abbrev Y13(c:eG->Bool)(b:eG->eG):Prop:=∀a,Sh a->c (a,())=true/\b (a,())=(a,())
def ant{p1 f1}(c:Y13 p1 f1)(a:List Atom)(b:ShT a):
  Z7.F (p1,f1,()) (a,()) (λy=>y=(a,())):=by
 have d:=b.1;dsimp only [Z7,gm];refine ay (λ(y:List Atom×Int×Int×wz)=>y.1=a/\y.2.1=a.length/\y.2.2.2.1=a.take y.2.2.1.toNat/\0<=y.2.2.1/\y.2.2.1<=a.length) (λy=>(a.length-y.2.2.1).toNat) ⟨rfl,rfl,by simp,by simp,by simp⟩ ?_;rintro⟨(l:List Atom),(m:Int),(i:Int),(o:List Atom),⟨⟩⟩ hI;dsimp only at hI ⊢;obtain⟨rfl,rfl,rfl,f,e⟩:=hI;simp (disch:=omega) only [RR,c _ (b.at _).1,c _ (b.at _).2]
 grind [dO,take_of_length_le,length_take_le',length_cons,length_nil]
def ajc{p4 f4}(c:Y7 p4 f4)(a b:au)(d:a.atoms.length<1000000000):
  QS.F (p4,f4,()) (a,b,()) (λy=>y=(gT a.atoms b.atoms,())):=by
 dsimp only [QS,gm];simp (disch:=omega) only [RR,c a.atoms b.atoms d]
def ajd(a:List Atom):QI.F () (a,()) (λy=>y=(a,())):=by
 dsimp only [QI,gm];simp (disch:=omega) only [RR];simp_all
def vX(a b:Atom):Bool:=decide (a.kind=b.kind)&&decide (a.k=b.k)&&decide (nu a.x b.x=0)&&decide (nu a.y b.y=0)
abbrev Y14(d:uy->Bool)(c:uy->fA):Prop:=∀a b,Sh a->d (a,b,())=true/\c (a,b,())=(decide (nu a b=0),())
def anu{p1 f1}(c:Y14 p1 f1)(a b:Atom)(d:ShA a):
  ZX.F (p1,f1,()) (a,b,()) (λy=>y=(vX a b,())):=by
 dsimp only [ZX,gm];simp (disch:=omega) only [RR,c a.x b.x d.1,c a.y b.y d.2];rfl
abbrev Y15(d:Atom×arl->Bool)(c:Atom×arl->fA):Prop:=∀a b,ShA a->d (a,b,())=true/\c (a,b,())=(vX a b,())
def anv{p1 f1}(c:Y15 p1 f1)(a b:Atom)(d:ShA b):
  ZY.F (p1,f1,()) (a,b,()) (λy=>y=(vX b a,b,())):=by
 dsimp only [ZY,gm];simp_all
noncomputable def idxOf (n:Int) (G:Int->Prop):Int:= @dite _ (∃r,Idx n G r) (Classical.propDecidable _) (λh=>Classical.choose h) (λ_=> -1)
def Idx.uniq{n:Int}{r s:Int}(h:Idx n G r)(i:Idx n G s):r=s:=by
 rcases h with⟨d,c⟩ | ⟨d,c,e,j⟩<;>rcases i with⟨b,a⟩ | ⟨b,a,f,g⟩
 .omega
 .exact absurd f (c s b a)
 .exact absurd e (a r d c)
 .by_cases h5:r<s
  .exact absurd e (g r d h5)
  .by_cases h6:s<r
   .exact absurd f (j s b h6)
   .omega
def Idx.eq{n:Int}{r:Int}(h:Idx n G r):r=idxOf n G:=by
 unfold idxOf;have a:∃r,Idx n G r:=⟨r,h⟩;rw [dif_pos a];exact h.uniq (Classical.choose_spec a)
def aje{p:Atom×arl->Bool}{f:Atom×arl->Bool×arl}(U:∀a b,ShA b->p (a,b,())=true/\f (a,b,())=(vX b a,b,()))(a:List Atom)(b:Atom)(h:a.length<1000000000)(g:ShA b):
  QH.F (p,f,()) (a,b,()) (λy=>y=(idxOf a.length (λi=>vX b (a.getD i.toNat default)=true),b,())):=by
 dsimp only [QH,gm];refine ay (λ(y:List Atom×Int×Int×arl)=>y.1=a/\y.2.1=a.length/\y.2.2.2.1=b/\0<=y.2.2.1/\y.2.2.1<=a.length/\All y.2.2.1 (λi=>¬vX b (a.getD i.toNat default)=true)) (λy=>(a.length-y.2.2.1).toNat) ⟨rfl,rfl,rfl,by simp,by simp,All.zero⟩ ?_;rintro⟨(l:List Atom),(m:Int),(i:Int),(n:Atom),⟨⟩⟩ hI;dsimp only at hI ⊢;obtain⟨rfl,rfl,rfl,k,j,d⟩:=hI;simp (disch:=omega) only [RR,U _ _ g];refine⟨λe=>⟨ah,ah,λc=> ?_,λc=>⟨⟨ah,ah,d.snoc (by simp only [c];simp)⟩,ah⟩⟩,λe=> ?_⟩
 .rw [<-Idx.eq (Or.inr ⟨ah,ah,c,d⟩)]
 .rw [<-Idx.eq (Or.inl ⟨rfl,d.le ah⟩)]
noncomputable def qb (t:List Atom) (a:Atom):Int:=idxOf t.length (λi=>vX a (t.getD i.toNat default)=true)
def anw{p:wm->Bool}{f:wm->Int×arl}(U:∀a b,a.length<1000000000->ShA b->p (a,b,())=true/\(f (a,b,())=(idxOf a.length (λi=>vX b (a.getD i.toNat default)=true),b,())))(a:List Atom)(b:Atom)(c:a.length<1000000000)(d:ShA b):
  Z0.F (p,f,()) (a,b,()) (λy=>y=(qb a b,())):=by
 dsimp only [Z0,gm];simp (disch:=omega) only [RR,U a b c d];rfl
def kY(a:Atom)(n:Int):Prop:=if a.kind=4 then(1<=a.k/\a.k<=5)/\aV a.x/\aV a.y/\aZ a.x n/\aZ a.y n else
 (a.x=[]/\a.y=[])/\((a.kind=1/\0<=a.k/\a.k<=3)\/(a.kind=2\/a.kind=3)/\0<=a.k/\a.k<=199)
abbrev Y16(c:eB->Bool)(b:eB->fA):Prop:=∀a,c (a,())=true/\b (a,())=(inB a 1 5,())
abbrev Y17(c:eB->Bool)(b:eB->fA):Prop:=∀a,c (a,())=true/\b (a,())=(inB a 0 3,())
def anx{p1 f1 p2 f2 p3 f3 p4 f4 p5 f5}(f:Y1 p1 f1)(g:Y16 p2 f2)(e:Y6 p3 f3)(d:Y11 p4 f4)(l:Y17 p5 f5)(a:Atom)(n:Int)(i:ShA a):
  ZV.F (p1,f1,p2,f2,p3,f3,p4,f4,p5,f5,()) (a,n,()) (λy=>y=(bp (kY a n),())):=by
 obtain⟨c,b⟩:=i;have m:=c.1;have k:=b.1;dsimp only [ZV,gm];simp (disch:=omega) only [RR,f,g,e a.x n c,e a.y n b,d a.x c,d a.y b,l];unfold kY;refine⟨λh=> ?_,λh=>⟨λj=> ?_,λj=> ?_⟩⟩
 .grind [aX,dU]
 .rw [if_neg h,bJ]
  grind
 .rw [if_neg h];have o:a.x=[]:=eq_nil_of_length_eq_zero ah;have p:a.y=[]:=eq_nil_of_length_eq_zero ah
  grind [aX,dU]
def aH(t:List Atom):Prop:=All t.length (λi=>kY (t.getD i.toNat default) i/\qb t (t.getD i.toNat default)=i)/\t.length<=200
abbrev Y18(c:Atom×eB->Bool)(b:Atom×eB->fA):Prop:=∀a n,ShA a->c (a,n,())=true/\b (a,n,())=(bp (kY a n),())
abbrev Y19(d:wm->Bool)(c:wm->eB):Prop:=∀a b,a.length<1000000000->ShA b->d (a,b,())=true/\c (a,b,())=(qb a b,())
def anz{p1 f1 p2 f2}(f:Y18 p1 f1)(g:Y19 p2 f2)(a:List Atom)(b:ShT a):
  Z9.F (p1,f1,p2,f2,()) (a,()) (λy=>y=(bp (aH a),())):=by
 have e:=b.1;dsimp only [Z9,gm];refine ay (λ(y:List Atom×Int×Int×wz)=>y.1=a/\y.2.1=a.length/\y.2.2.2.1=a/\0<=y.2.2.1/\y.2.2.1<=a.length/\All y.2.2.1 (λi=>kY (a.getD i.toNat default) i/\qb a (a.getD i.toNat default)=i)) (λy=>(a.length-y.2.2.1).toNat) ⟨rfl,rfl,rfl,by simp,by simp,All.zero⟩ ?_;rintro⟨(l:List Atom),(m:Int),(i:Int),(o:List Atom),⟨⟩⟩ hI;dsimp only at hI ⊢;obtain⟨rfl,rfl,rfl,j,n,k⟩:=hI;simp (disch:=omega) only [RR,f _ _ (b.at _),g _ _ b.1 (b.at _),aX,lS];refine⟨λc=>⟨ah,ah,λd=> ?_,λd=>⟨⟨ah,ah,k.snoc d⟩,ah⟩⟩,λc=> ?_⟩
 .rw [bJ (λh=> ?_)];have:=h.1 i j c;simp_all
 grind [aR,aH,decide_eq_true,bJ,decide_eq_false]
noncomputable def aQ (t:List Atom) (a:Atom):List Atom×Int:=if 0<=qb t a then(t,qb t a)else @ite _ (¬kY a t.length\/t.length=200) (Classical.propDecidable _) (t, -1) (t++ [a],(t.length:Int))
def anA{p1 f1 p2 f2}{b:wz->Bool}{d:wz->wz}(f:Y18 p1 f1)(g:Y19 p2 f2)(e:∀a,b (a,())=true/\d (a,())=(a,()))(t:List Atom)(a:Atom)(h:t.length<1000000000)(c:ShA a):
  Z4.F (p1,f1,p2,f2,b,d,()) (t,a,()) (λy=>y=((aQ t a).1,(aQ t a).2,())):=by
 dsimp only [Z4,gm];simp (disch:=omega) only [RR,f a t.length c,g t a h c,e,aX,lS]
 grind [aQ,length_cons,length_nil,absurd]
end Go.TX.F
namespace Go.TX.F
open Go Go.AE Go.TX List
variable{d:List au}
def IG(a b:Int):qE b a= -qE a b:=by unfold qE;repeat' split<;>omega
def ou{a b:Int}:qE a b=0↔a=b:=by unfold qE;constructor<;>intro h<;>(repeat' split at*)<;>omega
def II:∀a b:List Int,mh b a= -mh a b
 | [],[]=>rfl | [],_::_=>rfl | _::_,[]=>rfl
 | a::az,b::bs=>by
  simp only [mh,IG a b,II az bs];split<;>split<;>omega
def IJ:∀ {a b:List Int},mh a b=0->a=b
 | [],[],_=>rfl | [],_::_,h=>by simp [mh]at h
 | _::_,[],h=>by simp [mh]at h
 | a::az,b::bs,h=>by
  simp only [mh]at h;split at h
  .exact absurd h (by assumption)
  .rename_i h1;rw [ou.1 (Classical.not_not.1 h1),IJ h]
def IK:∀a:List Int,mh a a=0
 | []=>rfl
 | a::az=>by simp only [mh,show qE a a=0 from ou.2 rfl];simp [IK az]
def Fp:∀ {a b c:List Int},mh a b<=0->mh b c<=0->mh a c<=0
 | [],_,[],_,_=>by simp [mh]
 | [],_,_::_,_,_=>by simp [mh]
 | _::_,[],_,h,_=>by simp [mh]at h
 | _::_,_::_,[],_,h=>by simp [mh]at h
 | a::az,b::bs,c::cs,h1,h2=>by
  have d:= @Fp az bs cs;simp only [mh]at h1 h2 ⊢;unfold qE at h1 h2 ⊢
  repeat' split at h1
  all_goals (repeat' split at h2)
  all_goals (repeat' split)
  all_goals omega
def rE(a b:List Int):gT b a= -gT a b:=by
 unfold gT or2;rw [IG,II];repeat' split<;>omega
def kH{a b:List Int}:gT a b=0↔a=b:=by
 constructor
 .intro h;unfold gT or2 at h;split at h
  .exact absurd h (by assumption)
  .exact IJ h
 .rintro rfl;unfold gT or2;rw [show qE (a.length:Int) a.length=0 from ou.2 rfl,IK];rfl
def zi{a b c:List Int}(e:gT a b<=0)(d:gT b c<=0):gT a c<=0:=by
 have f:= @Fp a b c;unfold gT or2 qE at*
 repeat' split at e
 all_goals (repeat' split at d)
 all_goals (repeat' split)
 all_goals omega
def le(x y:au):Prop:=gT x.atoms y.atoms<=0
def le.trans{x y z:au}(a:le x y)(h2:le y z):le x z:=zi a h2
def rF{x y:au}(h:¬gT y.atoms x.atoms<0):le x y:=by unfold le;rw [rE];omega
def le_of_lt{x y:au}(h:gT x.atoms y.atoms<0):le x y:=by unfold le;omega
def le_refl(x:au):le x x:=by unfold le;rw [kH.2 rfl];omega
def dG{x y z:au}(a:le x y)(b:gT y.atoms z.atoms<0):gT x.atoms z.atoms<0:=by
 have c:=zi a (le_of_lt b);by_cases h:gT x.atoms z.atoms=0
 .have e:=kH.1 h;unfold le at a;rw [e,rE]at a;omega
 .omega
def kI{x y z:au}(b:gT x.atoms y.atoms<0)(a:le y z):gT x.atoms z.atoms<0:=by
 have c:=zi (le_of_lt b) a;by_cases h:gT x.atoms z.atoms=0
 .have e:=kH.1 h;unfold le at a;rw [<-e,rE]at a;omega
 .omega
def Kc(g:au->Int)(x:au):∀(d:List au) (n:Nat) (h:n<d.length),((d.set n x).map g).sum=(d.map g).sum-g d[n]+g x
 | [],_,h=>absurd h (by simp)
 | a::d,0,h=>by simp;omega
 | a::d,n+1,h=>by
  have:=Kc g x d n (by simpa using h);simp only [set_cons_succ,map_cons,sum_cons,getElem_cons_succ];omega
structure Sm(d d':List au):Prop where
 len:d'.length=d.length
 sum:∀g:au->Int,(d'.map g).sum=(d.map g).sum
def Sm.refl(d:List au):Sm d d:=⟨rfl,λ_=>rfl⟩
def Sm.trans{a b c:List au}(d:Sm a b)(h2:Sm b c):Sm a c:=⟨h2.1.trans d.1,λg=>(h2.2 g).trans (d.2 g)⟩
def Ke(x:au):∀d:List au,0<=(d.map (λy=>if y=x then(1:Int)else 0)).sum/\(0< (d.map (λy=>if y=x then(1:Int)else 0)).sum↔x∈d)
 | []=>by simp
 | a::d=>by
  have:=Ke x d;simp only [map_cons,sum_cons,mem_cons];by_cases h:a=x
  .rw [if_pos h];refine⟨ah,⟨λ_=>Or.inl h.symm,λ_=>by omega⟩⟩
  .rw [if_neg h];refine⟨ah,⟨λb=>Or.inr (this.2.1 ah),λb=> ?_⟩⟩;rcases b with b | b
   .exact absurd b.symm h
   .have:=this.2.2 b;omega
def Sm.mem{a b:List au}(h:Sm a b){x:au}(c:x∈b):x∈a:=by
 rw [<-(Ke x a).2,<-h.2];exact(Ke x b).2.2 c
def Sm.sh{a b:List au}(h:Sm a b)(c:Sh a):Sh b:=⟨by have:=c.1;have:=h.1;omega,λm hm=>c.2 m (h.mem hm)⟩
def swp(d:List au)(i j:Int):List au:=(d.set i.toNat ((d).getD (j).toNat default)).set j.toNat ((d).getD (i).toNat default)
def aeQ(d:List au)(i j:Int):(swp d i j).length=d.length:=by simp [swp]
def at_set{i j:Int}{x:au}(b:0<=i)(a:i<d.length)(c:0<=j):((d.set i.toNat x).getD (j).toNat default)=if j=i then x else((d).getD (j).toNat default):=by
 simp only [getD];by_cases h:j=i
 .subst h;rw [if_pos rfl,getElem?_set_self ah];rfl
 .rw [if_neg h,getElem?_set_ne ah]
def vY{i j k:Int}(c:0<=i)(b:i<d.length)(e:0<=j)(f:j<d.length)(a:0<=k):((swp d i j).getD (k).toNat default)=if k=j then((d).getD (i).toNat default)else if k=i then((d).getD (j).toNat default)else((d).getD (k).toNat default):=by
 unfold swp;rw [at_set e (by simp;omega) a,at_set c b a]
def Kg{i j:Int}(c:0<=i)(a:i<d.length)(e:0<=j)(b:j<d.length):Sm d (swp d i j):=by
 refine⟨aeQ d i j,λg=> ?_⟩;unfold swp;rw [getD_lt (show i.toNat<d.length by omega),getD_lt (show j.toNat<d.length by omega),Kc g _ _ _ (by simp;omega),Kc g _ _ _ ah,getElem_set];split
 .rename_i h;have:i=j:=by omega
  subst this;omega
 .omega
def Swp(d c:List au)(a b n:Int):Prop:=Sm d c/\∀k,0<=k->((c).getD (k).toNat default)=if a<=k/\k<a+n then((d).getD (k+(b-a)).toNat default)else if b<=k/\k<b+n then((d).getD (k- (b-a)).toNat default)else((d).getD (k).toNat default)
theorem ajf(a b n:Int)(d:List au)(s:d.length<1000000000)(q:0<=a)(o:0<=n)(t:a+n<=b)(p:b+n<=d.length):
  QU.F () (a,b,n,d,()) (λy=>Swp d y.1 a b n):=by
 dsimp only [QU,gm]
 refine ay (λ(y:Int×lX)=>y.1=a/\y.2.1=b/\y.2.2.1=n/\0<=y.2.2.2.1/\y.2.2.2.1<=n/\Swp d y.2.2.2.2.1 a b y.2.2.2.1) (λy=>(n-y.2.2.2.1).toNat)
  ⟨rfl,rfl,rfl,by simp,by simp;omega,Sm.refl d,λk hk=>by dsimp only;rw [if_neg ah,if_neg ah]⟩ ?_
 rintro⟨(g:Int),(f:Int),(j:Int),(i:Int),(e:List au),⟨⟩⟩ hI;dsimp only at hI ⊢;obtain⟨rfl,rfl,rfl,r,u,h,c⟩:=hI;have m:=h.1;simp (disch:=omega) only [RR,length_set];refine⟨λl=> ?_,λl=> ?_⟩
 .have e1:(e.set (g+i).toNat ((e).getD (f+i).toNat default)).set (f+i).toNat ((e).getD (g+i).toNat default)=swp e (g+i) (f+i):=rfl;rw [e1];refine⟨ah,ah,ah,ah,ah,ah,ah,ah,ah,ah,ah,ah,ah,ah,ah,ah,⟨ah,ah,h.trans (Kg ah ah ah ah),λk hk=> ?_⟩,ah⟩;rw [vY ah ah ah ah hk];rw [c _ ah,c _ ah,c _ hk]
  repeat' split
  all_goals first | rfl | (exfalso;omega) | (congr 2;omega)
 .have:i=j:=by omega
  subst this;exact⟨h,c⟩
end Go.TX.F
namespace Go.TX.F
open Go Go.AE Go.TX List
def Rot(d c:List au)(a m b:Int):Prop:=Sm d c/\∀k,0<=k->((c).getD (k).toNat default)=if a<=k/\k<a+(b-m)then((d).getD (k+(m-a)).toNat default)else if a+(b-m)<=k/\k<b then((d).getD (k- (b-m)).toNat default)else((d).getD (k).toNat default)
def ajg{p:lX->Bool}{f:lX->eG}(U:∀(a b n:Int) (d:List au),d.length<1000000000->0<=a->0<=n->a+n<=b->b+n<=d.length->p (a,b,n,d,())=true/\Swp d (f (a,b,n,d,())).1 a b n)(a m b:Int)(d:List au)(F:d.length<1000000000)(C:0<=a)(x:a<m)(G:m<b)(z:b<=d.length):
  QV.F (p,f,()) (a,m,b,d,()) (λy=>Rot d y.1 a m b):=by
 dsimp only [QV,gm];simp (disch:=omega) only [RR]
 refine ay (λ(y:lX)=>y.1=m/\0<y.2.1/\0<y.2.2.1/\a<=m-y.2.1/\m+y.2.2.1<=b/\Sm d y.2.2.2.1/\
   ∀k,0<=k->(if a<=k/\k<a+(b-m)then((d).getD (k+(m-a)).toNat default)else if a+(b-m)<=k/\k<b then((d).getD (k- (b-m)).toNat default)else((d).getD (k).toNat default))
    =(if m-y.2.1<=k/\k<m-y.2.1+y.2.2.1 then((y.2.2.2.1).getD (k+y.2.1).toNat default)else if m-y.2.1+y.2.2.1<=k/\k<m+y.2.2.1 then((y.2.2.2.1).getD (k-y.2.2.1).toNat default)else((y.2.2.2.1).getD (k).toNat default))) (λy=>(y.2.1+y.2.2.1).toNat)
  ⟨rfl,by simp;omega,by simp;omega,by simp;omega,by simp;omega,Sm.refl d,λk hk=>by
   dsimp only;rw [show m- (m-a)=a by omega,show m+(b-m)=b by omega]⟩ ?_
 rintro⟨(c:Int),(i:Int),(j:Int),(e:List au),⟨⟩⟩ hI;dsimp only at hI ⊢;obtain⟨rfl,D,H,B,E,r,h⟩:=hI;have w:=r.1;simp (disch:=omega) only [RR];refine⟨λt=>⟨λs=> ?_,λs=> ?_⟩,λt=> ?_⟩
 .obtain⟨l,g⟩:=(U (c-i) c j e ah ah ah ah ah).2;refine⟨(U _ _ _ _ ah ah ah ah ah).1,⟨ah,ah,ah,ah,r.trans l,λk hk=> ?_⟩,ah⟩;rw [h k hk];generalize (f (c-i,c,j,e,())).1=v at l g ⊢;by_cases o:c-i<=k/\k<c-i+j
  .rw [if_pos o,if_neg ah,if_neg ah,g k hk,if_pos o];congr 2;omega
  .rw [if_neg o];by_cases q:c-i+j<=k/\k<c+j
   .rw [if_pos q];by_cases u:c- (i-j)<=k/\k<c- (i-j)+j
    .rw [if_pos u,g _ ah,if_neg ah,if_pos ah];congr 2;omega
    .rw [if_neg u,if_pos ah,g _ ah,if_neg ah,if_neg ah]
   .rw [if_neg q,if_neg ah,if_neg ah,g _ hk,if_neg ah,if_neg ah]
 .obtain⟨l,g⟩:=(U (c-i) (c+j-i) i e ah ah ah ah ah).2;refine⟨(U _ _ _ _ ah ah ah ah ah).1,⟨ah,ah,ah,ah,r.trans l,λk hk=> ?_⟩,ah⟩;rw [h k hk];generalize (f (c-i,c+j-i,i,e,())).1=v at l g ⊢;by_cases o:c-i<=k/\k<c-i+j
  .rw [if_pos o];by_cases u:k<c-i+(j-i)
   .rw [if_pos ah,g _ ah];by_cases I:k<c
    .by_cases c5:k+i<c+j-i
     .rw [if_neg ah,if_neg ah]
     .exfalso;omega
    .by_cases c5:k+i<c+j-i
     .rw [if_neg ah,if_neg ah]
     .exfalso;omega
   .by_cases c6:k<c
    .rw [if_neg ah,if_pos ah,g _ ah,if_pos ah];congr 2;omega
    .rw [if_neg ah,if_pos ah,g _ ah];by_cases A:k- (j-i)<c
     .rw [if_pos ah];congr 2;omega
     .exfalso;omega
  .rw [if_neg o];by_cases q:c-i+j<=k/\k<c+j
   .rw [if_pos q,if_neg ah,if_neg ah,g _ hk,if_neg ah,if_pos ah];congr 2;omega
   .rw [if_neg q,if_neg ah,if_neg ah,g _ hk,if_neg ah,if_neg ah]
 .have hij:i=j:=by omega
  subst hij;obtain⟨l,g⟩:=(U (c-i) c i e ah ah ah ah ah).2;refine⟨(U _ _ _ _ ah ah ah ah ah).1,r.trans l,λk hk=> ?_⟩;rw [h k hk,g k hk]
  repeat' split
  all_goals first | rfl | (exfalso;omega) | (congr 2;omega)
def nA(d:List au)(a b:Int):Prop:=∀p q,a<=p->p<=q->q<b->le ((d).getD (p).toNat default) ((d).getD (q).toNat default)
def Out(d c:List au)(a b:Int):Prop:=∀k,0<=k->(k<a\/b<=k)->((c).getD (k).toNat default)=((d).getD (k).toNat default)
abbrev Y20(b:au×au×Unit->Bool)(a:au×au×Unit->eB):Prop:=∀x y,x.atoms.length<1000000000->b (x,y,())=true/\a (x,y,())=(gT x.atoms y.atoms,())
theorem ajh{p f}(U:Y20 p f)(a b:Int)(d:List au)(hd:Sh d)(M:0<=a)(K:a<=b)(G:b<=d.length):
  QT.F (p,f,()) (a,b,d,()) (λy=>Sm d y.1/\Out d y.1 a b/\nA y.1 a b):=by
 have D:=hd.1;dsimp only [QT,gm];simp (disch:=omega) only [RR]
 refine ay (λ(y:lX)=>y.1=a/\y.2.1=b/\a+1<=y.2.2.1/\(y.2.2.1<=b\/y.2.2.1=a+1)/\Sm d y.2.2.2.1/\Out d y.2.2.2.1 a b/\nA y.2.2.2.1 a y.2.2.1) (λy=>(b-y.2.2.1).toNat)
  ⟨rfl,rfl,by simp,Or.inr rfl,Sm.refl d,λk _ _=>rfl,λp q M K G=>by dsimp only at G;rw [show p=q by omega];exact le_refl _⟩ ?_
 rintro⟨(w:Int),(B:Int),(i:Int),(e:List au),⟨⟩⟩ hI;dsimp only at hI ⊢;obtain⟨rfl,rfl,V,W,A,C,E⟩:=hI;have T:=A.1;simp (disch:=omega) only [RR];refine⟨λR=> ?_,λR=>⟨A,C,λp q s n I=>E p q s n ah⟩⟩
 refine ay (λ(y:Int×lX)=>y.1=w/\y.2.1=B/\y.2.2.1=i/\w<=y.2.2.2.1/\y.2.2.2.1<=i/\Sm d y.2.2.2.2.1/\Out d y.2.2.2.2.1 w B
   /\(∀p q,w<=p->p<=q->q<=i->p≠y.2.2.2.1->q≠y.2.2.2.1->le ((y.2.2.2.2.1).getD (p).toNat default) ((y.2.2.2.2.1).getD (q).toNat default))/\(∀q,y.2.2.2.1<q->q<=i->le ((y.2.2.2.2.1).getD (y.2.2.2.1).toNat default) ((y.2.2.2.2.1).getD (q).toNat default))) (λy=>y.2.2.2.1.toNat)
  ⟨rfl,rfl,rfl,by simp;omega,by simp,A,C,λp q s n I X Q=>E p q s n (by dsimp only at I Q;omega),λq s n=>by dsimp only at s;omega⟩ ?_
 rintro⟨(z:Int),(J:Int),(Y:Int),(j:Int),(o:List au),⟨⟩⟩ hI;dsimp only at hI ⊢;obtain⟨rfl,rfl,rfl,L,N,m,t,l,u⟩:=hI;have F:=m.1;have P:=m.sh hd;simp (disch:=omega) only [RR,length_set,U _ _ (P.at _)];have S:(o.set j.toNat ((o).getD (j-1).toNat default)).set (j-1).toNat ((o).getD (j).toNat default)=swp o j (j-1):=rfl;rw [S]
 repeat' (refine And.intro ?_ ?_)
 all_goals try omega
 .intro ⟨s,n⟩
  repeat' (refine And.intro ?_ ?_)
  all_goals try omega
  .exact m.trans (Kg ah ah ah ah)
  .intro k hk hk2;rw [vY ah ah ah ah hk,if_neg ah,if_neg ah];exact t k hk hk2
  .intro p q v x k3 k4 k5;rw [vY ah ah ah ah ah,if_neg k4,vY ah ah ah ah ah,if_neg k5];by_cases r:p=j
   .rw [if_pos r];by_cases h:q=j
    .rw [if_pos h];exact le_refl _
    .rw [if_neg h];exact l _ _ ah ah ah ah ah
   .rw [if_neg r];by_cases h:q=j
    .rw [if_pos h];exact l _ _ ah ah ah ah ah
    .rw [if_neg h];exact l _ _ ah ah ah ah ah
  .intro q v x;rw [vY ah ah ah ah ah,if_pos rfl,vY ah ah ah ah ah,if_neg ah];by_cases h:q=j
   .rw [if_pos h];exact le_of_lt n
   .rw [if_neg h];exact u q ah x
 .intro g;refine⟨⟨ah,ah,m,t,?_⟩,ah⟩;have H:z<j->le ((o).getD (j-1).toNat default) ((o).getD (j).toNat default):=λc=>rF (by
   simp only [decide_eq_true c,Bool.true_and,decide_eq_false_iff_not]at g;exact g)
  intro p q v x k3;by_cases r:p=j
  .subst r;by_cases h:q=p
   .rw [h];exact le_refl _
   .exact u q ah ah
  .by_cases h:q=j
   .subst h;by_cases O:p=q-1
    .rw [O];exact H ah
    .exact(l p (q-1) v ah ah r ah).trans (H ah)
   .exact l p q v x ah r h
variable{p2:lX->Bool}
def half{x:Int}(a:0<=x)(b:x<=4000000000):IntKind.i64.wrap (eX .shr .u64 (IntKind.u64.wrap x) 1)=x/2:=by grind [IntKind.wrap,IntKind.bits,IntKind.signed,eX,min,Int.toNat,Int.fdiv_eq_ediv_of_nonneg,w64]
structure Mrg(d d':List au)(a b:Int):Prop where
 sm:Sm d d'
 out:Out d d' a b
 ins:∀k,a<=k->k<b->∃j,a<=j/\j<b/\((d').getD (k).toNat default)=((d).getD (j).toNat default)
 srt:nA d' a b
structure Fq(a m b:Int)(d:List au):Prop where
 sh:Sh d
 h1:0<=a
 h2:a<m
 h3:m<b
 h4:b<=d.length
 s1:nA d a m
 s2:nA d m b
def BL{P Q:Prop}[Decidable P][Decidable Q]:((decide P&&decide Q)=false)↔¬(P/\Q):=by simp_all
def MO{B:lX->eG}
    (a4:∀(a m b:Int) (d:List au),d.length<1000000000->0<=a->a<m->m<b->b<=d.length->p2 (a,m,b,d,())=true) (a1:∀(a m b:Int) (d:List au),d.length<1000000000->0<=a->a<m->m<b->b<=d.length->Rot d (B (a,m,b,d,())).1 a m b)
    {o:lX->Bool} {l:lX->eG}
    (K:Int) (N:∀(a m b:Int) (d:List au),Fq a m b d->b-a<K->o (a,m,b,d,())=true) (S:∀(a m b:Int) (d:List au),Fq a m b d->b-a<K->Mrg d (l (a,m,b,d,())).1 a b)
    (a m b f i E:Int) (d:List au) (hd:Fq a m b d) (hK:b-a<=K) (a6:f=(a+b)/2) (hE:E=f+m-i)
    (b1:a<=i) (b2:i<=m) (b3:m<=E) (b4:E<=b) (b5:a<f) (b6:f<b)
    (L:i=a\/E=b\/le ((d).getD (i-1).toNat default) ((d).getD (E).toNat default)) (U:E=m\/i=m\/le ((d).getD (E-1).toNat default) ((d).getD (i).toNat default)):
      (i<m/\m<E->
          p2 (i,m,E,d,())=true/\
            (a<i/\i<f->
                o (a,i,f,(B (i,m,E,d,())).fst,())=true/\
                  (f<E/\E<b->
                      o (f,E,b,(l (a,i,f,(B (i,m,E,d,())).fst,())).fst,())=true/\
                        Mrg d (l (f,E,b,(l (a,i,f,(B (i,m,E,d,())).fst,())).fst,())).fst
                          a b)/\
                    ((decide (f<E)&&decide (E<b))=false->
                      Mrg d (l (a,i,f,(B (i,m,E,d,())).fst,())).fst a b))/\
              ((decide (a<i)&&decide (i<f))=false->
                (f<E/\E<b->
                    o (f,E,b,(B (i,m,E,d,())).fst,())=true/\
                      Mrg d (l (f,E,b,(B (i,m,E,d,())).fst,())).fst a b)/\
                  ((decide (f<E)&&decide (E<b))=false->
                    Mrg d (B (i,m,E,d,())).fst a b)))/\
        ((decide (i<m)&&decide (m<E))=false->
          (a<i/\i<f->
              o (a,i,f,d,())=true/\
                (f<E/\E<b->
                    o (f,E,b,(l (a,i,f,d,())).fst,())=true/\
                      Mrg d (l (f,E,b,(l (a,i,f,d,())).fst,())).fst a b)/\
                  ((decide (f<E)&&decide (E<b))=false->
                    Mrg d (l (a,i,f,d,())).fst a b))/\
            ((decide (a<i)&&decide (i<f))=false->
              (f<E/\E<b->
                  o (f,E,b,d,())=true/\Mrg d (l (f,E,b,d,())).fst a b)/\
                ((decide (f<E)&&decide (E<b))=false->Mrg d d a b))):=by
  obtain⟨hs,h1,h2,h3,h4,T,V⟩:=hd;have A:=hs.1;have H:∀x y,((a<=x/\x<i)\/(m<=x/\x<E))->((i<=y/\y<m)\/(E<=y/\y<b))->le ((d).getD (x).toNat default) ((d).getD (y).toNat default):=by
    rintro x y (Q | Q) (hy | hy)
    · exact T x y Q.1 ah hy.2
    · rcases L with L | L | L
      · omega
      · omega
      · exact((T x (i-1) Q.1 ah ah).trans L).trans (V E y b3 hy.1 hy.2)
    · rcases U with U | U | U
      · omega
      · omega
      · exact((V x (E-1) Q.1 ah ah).trans U).trans (T i y b1 hy.1 hy.2)
    · exact V x y Q.1 ah hy.2
  have anB : ∀ e, Rot d e i m E -> ∀ R : Prop, R = Mrg d e a b -> (a < i /\ i < f ->
              o (a,i,f,e,())=true/\
                (f<E/\E<b->
                    o (f,E,b,(l (a,i,f,e,())).fst,())=true/\
                      Mrg d (l (f,E,b,(l (a,i,f,e,())).fst,())).fst a b)/\
                  ((decide (f<E)&&decide (E<b))=false->
                    Mrg d (l (a,i,f,e,())).fst a b))/\
            ((decide (a<i)&&decide (i<f))=false->
              (f<E/\E<b->
                  o (f,E,b,e,())=true/\Mrg d (l (f,E,b,e,())).fst a b)/\
                ((decide (f<E)&&decide (E<b))=false->R)):=by
    rintro e ⟨r1,s⟩ R rfl;have a8:=r1.1;have X:=r1.sh hs;have lo:∀k,a<=k->k<f->∃x,((a<=x/\x<i)\/(m<=x/\x<E))/\((e).getD (k).toNat default)=((d).getD (x).toNat default):=by
      intro k t I;rw [s k ah];by_cases c1:i<=k/\k<i+(E-m)
      · grind
      · rw [if_neg c1,if_neg ah];exact⟨k,ah,rfl⟩
    have hi:∀k,f<=k->k<b->∃x,((i<=x/\x<m)\/(E<=x/\x<b))/\((e).getD (k).toNat default)=((d).getD (x).toNat default):=by
      intro k t I;rw [s k ah,if_neg ah];by_cases c1:i+(E-m)<=k/\k<E
      all_goals grind
    have S1:nA e a i:=by
      intro p q w u z;rw [s p ah,s q ah,if_neg ah,if_neg ah,if_neg ah,if_neg ah];exact T p q w u ah
    have S2:nA e i f:=by
      intro p q w u z;rw [s p ah,s q ah,if_pos ah,if_pos ah];exact V _ _ ah ah ah
    have S3:nA e f E:=by
      intro p q w u z;rw [s p ah,s q ah,if_neg ah,if_pos ah,if_neg ah,if_pos ah];exact T _ _ ah ah ah
    have S4:nA e E b:=by
      intro p q w u z;rw [s p ah,s q ah,if_neg ah,if_neg ah,if_neg ah,if_neg ah];exact V _ _ ah ah ah
    have fin:∀r e2,Mrg e r a f->Mrg r e2 f b->Mrg d e2 a b:=by
      intro r e2 n v;refine⟨(r1.trans n.sm).trans v.sm,λk t I=> ?_,λk t I=> ?_,λp q w u z=> ?_⟩
      · rw [v.out k t ah,n.out k t ah,s k t,if_neg ah,if_neg ah]
      · by_cases c:k<f
        · rw [v.out k ah ah];obtain⟨j,J,W,M⟩:=n.ins k t c;obtain⟨x,x1,P⟩:=lo j J W;rw [M,P];exact⟨x,ah,ah,rfl⟩
        · obtain⟨j,J,W,M⟩:=v.ins k ah I;rw [M,n.out j ah ah];obtain⟨x,x1,P⟩:=hi j J W;rw [P];exact⟨x,ah,ah,rfl⟩
      · by_cases c:q<f
        · rw [v.out p ah ah,v.out q ah ah];exact n.srt p q w u c
        · by_cases c2:f<=p
          · exact v.srt p q c2 u z
          · rw [v.out p ah ah];obtain⟨j,J,W,M⟩:=n.ins p w ah;obtain⟨x,x1,P⟩:=lo j J W;obtain⟨j',a0,a2,a3⟩:=v.ins q ah z;obtain⟨x',a5,Z⟩:=hi j' a0 a2;rw [M,P,a3,n.out j' ah ah,Z];exact H x x' x1 a5
    have C:∀Y G D,nA Y G D->Mrg Y Y G D:=λY G D h=>⟨Sm.refl _,λ_ _ _=>rfl,λk t I=>⟨k,t,I,rfl⟩,h⟩
    have F : ∀ r, Mrg e r a f -> (f < E /\ E < b ->
                    o (f,E,b,r,())=true/\
                      Mrg d (l (f,E,b,r,())).fst a b)/\
                  ((decide (f<E)&&decide (E<b))=false->
                    Mrg d r a b):=by
      intro r n;have a7:=n.sm.1;have O:∀G D,f<=G->D<=b->nA e G D->nA r G D:=λG D g1 g2 g p q w u z=>by
        rw [n.out p ah ah,n.out q ah ah];exact g p q w u z
      refine⟨λc=> ?_,λc=> ?_⟩
      · have pre:Fq f E b r:=⟨n.sm.sh X,ah,c.1,c.2,ah,O _ _ ah ah S3,O _ _ ah ah S4⟩;exact⟨N _ _ _ _ pre ah,fin _ _ n (S _ _ _ _ pre ah)⟩
      · rw [BL]at c;refine fin _ _ n (C _ _ _ ?_);by_cases c2:f<E
        · have:E=b:=by omega
          subst this;exact O _ _ ah ah S3
        · have:E=f:=by omega
          rw [this]at S4;exact O _ _ ah ah S4
    refine⟨λc=> ?_,λc=> ?_⟩
    · have pre:Fq a i f e:=⟨X,ah,c.1,c.2,ah,S1,S2⟩;exact⟨N _ _ _ _ pre ah,F _ (S _ _ _ _ pre ah)⟩
    · rw [BL]at c;refine F e (C _ _ _ ?_);by_cases c2:a<i
      · have:i=f:=by omega
        rw [<-this];exact S1
      · have:i=a:=by omega
        rw [this]at S2;exact S2
  refine⟨λc=>⟨a4 _ _ _ _ A ah c.1 c.2 ah,anB _ (a1 _ _ _ _ A ah c.1 c.2 ah) _ rfl⟩,λc=>anB d ?_ _ rfl⟩;rw [BL]at c;refine⟨Sm.refl _,λk t=> ?_⟩
  repeat' split
  all_goals first | rfl | (exfalso;omega) | (congr 2;omega)
theorem aji{p f}{f2:lX->eG}{p3:lX->Bool}{f3:lX->eG}(U:Y20 p f)(U2:∀(a m b:Int) (d:List au),d.length<1000000000->0<=a->a<m->m<b->b<=d.length->p2 (a,m,b,d,())=true/\Rot d (f2 (a,m,b,d,())).1 a m b)(K:Int)(Z:∀(a m b:Int) (d:List au),Fq a m b d->b-a<K->p3 (a,m,b,d,())=true/\Mrg d (f3 (a,m,b,d,())).1 a b)(a m b:Int)(d:List au)(hd:Fq a m b d)(hK:b-a<=K):
  Fg.F (p,f,p2,f2,p3,f3,()) (a,m,b,d,()) (λy=>Mrg d y.1 a b):=by
 obtain⟨P,h1,h2,h3,h4,F,G⟩:=hd;have a1:=P.1;dsimp only [Fg,gm];simp (disch:=omega) only [RR];refine⟨λh5=> ?_,λh5=>⟨λh6=> ?_,λh6=> ?_⟩⟩
 ·
  have hm:m=a+1:=by omega
  subst hm
  refine ay (λ(y:lX)=>y.1=a/\y.2.2.2.1=d/\a+1<=y.2.1/\y.2.1<=y.2.2.1/\y.2.2.1<=b/\(∀q,a+1<=q->q<y.2.1->gT ((d).getD (q).toNat default).atoms ((d).getD (a).toNat default).atoms<0)/\(∀q,y.2.2.1<=q->q<b->¬gT ((d).getD (q).toNat default).atoms ((d).getD (a).toNat default).atoms<0)) (λy=>(y.2.2.1-y.2.1).toNat)
   ⟨rfl,rfl,by simp,by simp;omega,by simp,λq s w=>by dsimp only at w;omega,λq s w=>by dsimp only at s;omega⟩ ?_
  rintro⟨(D:Int),(i:Int),(j:Int),(B:List au),⟨⟩⟩ hI;dsimp only at hI ⊢;obtain⟨rfl,rfl,s,w,g3,A,z⟩:=hI;simp (disch:=omega) only [RR,half,U _ _ (P.at _)];refine⟨λN=>⟨ah,ah,ah,ah,ah,ah,ah,ah,ah,λh=>⟨⟨ah,ah,ah,λq E C=> ?_,z⟩,ah⟩,λh=>⟨⟨ah,ah,ah,A,λq E C=> ?_⟩,ah⟩⟩,λN=> ?_⟩
  .exact dG (G q ((i+j)/2) E ah ah) h
  .intro T;exact h (dG (G ((i+j)/2) q ah ah C) T)
  have u:i=j:=by omega
  subst u
  refine ay (λ(y:H8)=>y.1=i/\D<=y.2.1/\y.2.1<=i-1/\Sm B y.2.2.1/\(∀k,0<=k->((y.2.2.1).getD (k).toNat default)=if D<=k/\k<y.2.1 then((B).getD (k+1).toNat default)else if k=y.2.1 then((B).getD (D).toNat default)else((B).getD (k).toNat default))) (λy=>(i-y.2.1).toNat)
   ⟨rfl,by simp,by simp;omega,Sm.refl _,λk hk=>by dsimp only;rw [if_neg ah];split;(· congr 2);(· rfl)⟩ ?_
  rintro⟨(J:Int),(k:Int),(e:List au),⟨⟩⟩ hI;dsimp only at hI ⊢;obtain⟨rfl,E,C,k3,v⟩:=hI;have a0:=k3.1;simp (disch:=omega) only [RR,length_set];have e1:(e.set k.toNat ((e).getD (k+1).toNat default)).set (k+1).toNat ((e).getD (k).toNat default)=swp e k (k+1):=rfl;rw [e1];refine⟨λh=>⟨ah,ah,ah,ah,ah,ah,ah,ah,ah,ah,ah,ah,ah,ah,ah,ah,⟨ah,ah,k3.trans (Kg ah ah ah ah),λq H=> ?_⟩,ah⟩,λh=> ?_⟩
  .rw [vY ah ah ah ah H,v _ ah,v _ ah,v _ H]
   repeat' split
   all_goals grind
  .have hk:k=J-1:=by omega
   subst hk;refine⟨k3,λq H R=> ?_,λq H R=> ?_,λq r q1 q2 q3=> ?_⟩
   .rw [v q H,if_neg ah,if_neg ah]
   .rw [v q ah]
    repeat' split
    .exact⟨q+1,ah,ah,rfl⟩
    .exact⟨D,ah,ah,rfl⟩
    .exact⟨q,ah,ah,rfl⟩
   .rw [v q ah,v r ah];by_cases V:D<=q/\q<J-1
    .rw [if_pos V];by_cases L:D<=r/\r<J-1
     .rw [if_pos L];exact G _ _ ah ah ah
     .rw [if_neg L];by_cases M:r=J-1
      .rw [if_pos M];exact le_of_lt (A _ ah ah)
      .rw [if_neg M];exact G _ _ ah ah ah
    .rw [if_neg V,if_neg (by omega:¬(D<=r/\r<J-1))];by_cases M:q=J-1
     .rw [if_pos M];by_cases W:r=J-1
      .rw [if_pos W];exact le_refl _
      .rw [if_neg W];exact rF (z r ah ah)
     .rw [if_neg M,if_neg ah];exact G _ _ ah ah ah
 ·
  have hm:b=m+1:=by omega
  subst hm
  refine ay (λ(y:lX)=>y.1=m/\y.2.2.2.1=d/\a<=y.2.1/\y.2.1<=y.2.2.1/\y.2.2.1<=m/\(∀q,a<=q->q<y.2.1->¬gT ((d).getD (m).toNat default).atoms ((d).getD (q).toNat default).atoms<0)/\(∀q,y.2.2.1<=q->q<m->gT ((d).getD (m).toNat default).atoms ((d).getD (q).toNat default).atoms<0)) (λy=>(y.2.2.1-y.2.1).toNat)
   ⟨rfl,rfl,by simp,by simp;omega,by simp,λq s w=>by dsimp only at w;omega,λq s w=>by dsimp only at s;omega⟩ ?_
  rintro⟨(o:Int),(i:Int),(j:Int),(B:List au),⟨⟩⟩ hI;dsimp only at hI ⊢;obtain⟨rfl,rfl,s,w,g3,A,z⟩:=hI;simp (disch:=omega) only [RR,half,U _ _ (P.at _)];refine⟨λN=>⟨ah,ah,ah,ah,ah,ah,ah,ah,ah,λh=>⟨⟨ah,ah,ah,λq E C=> ?_,z⟩,ah⟩,λh=>⟨⟨ah,ah,ah,A,λq E C=> ?_⟩,ah⟩⟩,λN=> ?_⟩
  .intro T;have:=F q ((i+j)/2) E ah ah;apply h;have X:=kI T this;exact X
  .exact kI h (F ((i+j)/2) q ah ah C)
  have u:i=j:=by omega
  subst u
  refine ay (λ(y:H8)=>y.1=i/\i<=y.2.1/\y.2.1<=o/\Sm B y.2.2.1/\(∀k,0<=k->((y.2.2.1).getD (k).toNat default)=if y.2.1<k/\k<=o then((B).getD (k-1).toNat default)else if k=y.2.1 then((B).getD (o).toNat default)else((B).getD (k).toNat default))) (λy=>(y.2.1-i).toNat)
   ⟨rfl,by simp;omega,by simp,Sm.refl _,λk hk=>by dsimp only;rw [if_neg ah];split;(· congr 2);(· rfl)⟩ ?_
  rintro⟨(J:Int),(k:Int),(e:List au),⟨⟩⟩ hI;dsimp only at hI ⊢;obtain⟨rfl,E,C,k3,v⟩:=hI;have a0:=k3.1;simp (disch:=omega) only [RR,length_set];have e1:(e.set k.toNat ((e).getD (k-1).toNat default)).set (k-1).toNat ((e).getD (k).toNat default)=swp e k (k-1):=rfl;rw [e1];refine⟨λh=>⟨ah,ah,ah,ah,ah,ah,ah,ah,ah,ah,ah,ah,ah,ah,ah,ah,⟨ah,ah,k3.trans (Kg ah ah ah ah),λq H=> ?_⟩,ah⟩,λh=> ?_⟩
  .rw [vY ah ah ah ah H,v _ ah,v _ ah,v _ H]
   repeat' split
   all_goals first | rfl | (exfalso;omega) | (congr 2;omega)
  .have hk:k=J:=by omega
   subst hk;refine⟨k3,λq H R=> ?_,λq H R=> ?_,λq r q1 q2 q3=> ?_⟩
   .rw [v q H,if_neg ah,if_neg ah]
   .rw [v q ah]
    repeat' split
    .exact⟨q-1,ah,ah,rfl⟩
    .exact⟨o,ah,ah,rfl⟩
    .exact⟨q,ah,ah,rfl⟩
   .rw [v q ah,v r ah];by_cases V:k<q/\q<=o
    .rw [if_pos V,if_pos ah];exact F _ _ ah ah ah
    .rw [if_neg V];by_cases M:q=k
     .rw [if_pos M];by_cases L:k<r/\r<=o
      .rw [if_pos L];exact le_of_lt (z _ ah ah)
      .rw [if_neg L,if_pos ah];exact le_refl _
     .rw [if_neg M];by_cases L:k<r/\r<=o
      .rw [if_pos L];exact F _ _ ah ah ah
      .rw [if_neg L];by_cases W:r=k
       .rw [if_pos W];exact rF (A _ ah ah)
       .rw [if_neg W];exact F _ _ ah ah ah
 ·
  simp (disch:=omega) only [RR,half];refine⟨ah,λX=> ?_,λX=> ?_⟩
  .refine ay (λ(y:Int×Int×Int×Int×Int×lX)=>y.1=a/\y.2.1=m/\y.2.2.1=b/\y.2.2.2.1=(a+b)/2/\y.2.2.2.2.1=(a+b)/2+m/\y.2.2.2.2.2.2.2.1=(a+b)/2+m-1/\y.2.2.2.2.2.2.2.2.1=d/\(a+b)/2+m-b<=y.2.2.2.2.2.1/\y.2.2.2.2.2.1<=y.2.2.2.2.2.2.1/\y.2.2.2.2.2.2.1<=(a+b)/2
     /\(∀q,(a+b)/2+m-b<=q->q<y.2.2.2.2.2.1->¬gT ((d).getD ((a+b)/2+m-1-q).toNat default).atoms ((d).getD (q).toNat default).atoms<0)/\(∀q,y.2.2.2.2.2.2.1<=q->q< (a+b)/2->gT ((d).getD ((a+b)/2+m-1-q).toNat default).atoms ((d).getD (q).toNat default).atoms<0)) (λy=>(y.2.2.2.2.2.2.1-y.2.2.2.2.2.1).toNat)
    ⟨rfl,rfl,rfl,rfl,rfl,rfl,rfl,by simp,by simp;omega,by simp,λq s w=>by dsimp only at w;omega,λq s w=>by dsimp only at s;omega⟩ ?_
   rintro⟨(D:Int),(o:Int),(Y:Int),(l:Int),(n:Int),(i:Int),(j:Int),(r:Int),(B:List au),⟨⟩⟩ hI;dsimp only at hI ⊢;obtain⟨rfl,rfl,rfl,g,hn,I,rfl,s,w,g3,A,z⟩:=hI;rw [<-g]at s g3 A z X;simp (disch:=omega) only [RR,half,U _ _ (P.at _)];refine⟨λN=>⟨ah,ah,ah,ah,ah,ah,ah,ah,ah,λh=>⟨⟨g,hn,I,ah,ah,ah,λq E C=> ?_,by rw [<-g];exact z⟩,ah⟩,λh=>⟨⟨g,hn,I,ah,ah,ah,by rw [<-g];exact A,λq E C=> ?_⟩,ah⟩⟩,λN=> ?_⟩
   .rw [<-g]at E ⊢;intro T;apply h;rw [I,<-g];exact dG (G _ _ ah ah ah) (kI T (F _ _ ah ah ah))
   .rw [<-g]at C ⊢;rw [I,<-g]at h;exact dG (G _ _ ah ah ah) (kI h (F _ _ ah ah ah))
   .have u:i=j:=by omega
    subst u;refine MO (λz1 z2 z3 z4 t x O Q S=>(U2 z1 z2 z3 z4 t x O Q S).1) (λz1 z2 z3 z4 t x O Q S=>(U2 z1 z2 z3 z4 t x O Q S).2) K (λz1 z2 z3 z4 t x=>(Z z1 z2 z3 z4 t x).1) (λz1 z2 z3 z4 t x=>(Z z1 z2 z3 z4 t x).2) D o Y l i (n-i) B ⟨P,h1,h2,h3,h4,F,G⟩ hK g ah ah ah ah ah ah ah ?_ ?_
    .by_cases c:i=l+o-Y
     .first | exact Or.inl ah | exact Or.inr (Or.inl ah)
     .refine Or.inr (Or.inr ?_);have:=A (i-1) ah ah;rw [show l+o-1- (i-1)=n-i by omega]at this;exact rF this
    .by_cases c:i=l
     .first | exact Or.inl ah | exact Or.inr (Or.inl ah)
     .refine Or.inr (Or.inr ?_);have:=z i ah ah;rw [show l+o-1-i=n-i-1 by omega]at this;exact le_of_lt this
  .refine ay (λ(y:Int×Int×Int×Int×Int×lX)=>y.1=a/\y.2.1=m/\y.2.2.1=b/\y.2.2.2.1=(a+b)/2/\y.2.2.2.2.1=(a+b)/2+m/\y.2.2.2.2.2.2.2.1=(a+b)/2+m-1/\y.2.2.2.2.2.2.2.2.1=d/\a<=y.2.2.2.2.2.1/\y.2.2.2.2.2.1<=y.2.2.2.2.2.2.1/\y.2.2.2.2.2.2.1<=m
     /\(∀q,a<=q->q<y.2.2.2.2.2.1->¬gT ((d).getD ((a+b)/2+m-1-q).toNat default).atoms ((d).getD (q).toNat default).atoms<0)/\(∀q,y.2.2.2.2.2.2.1<=q->q<m->gT ((d).getD ((a+b)/2+m-1-q).toNat default).atoms ((d).getD (q).toNat default).atoms<0)) (λy=>(y.2.2.2.2.2.2.1-y.2.2.2.2.2.1).toNat)
    ⟨rfl,rfl,rfl,rfl,rfl,rfl,rfl,by simp,by simp;omega,by simp,λq s w=>by dsimp only at w;omega,λq s w=>by dsimp only at s;omega⟩ ?_
   rintro⟨(D:Int),(o:Int),(Y:Int),(l:Int),(n:Int),(i:Int),(j:Int),(r:Int),(B:List au),⟨⟩⟩ hI;dsimp only at hI ⊢;obtain⟨rfl,rfl,rfl,g,hn,I,rfl,s,w,g3,A,z⟩:=hI;rw [<-g]at A z X;simp (disch:=omega) only [RR,half,U _ _ (P.at _)];refine⟨λN=>⟨ah,ah,ah,ah,ah,ah,ah,ah,ah,λh=>⟨⟨g,hn,I,ah,ah,ah,λq E C=> ?_,by rw [<-g];exact z⟩,ah⟩,λh=>⟨⟨g,hn,I,ah,ah,ah,by rw [<-g];exact A,λq E C=> ?_⟩,ah⟩⟩,λN=> ?_⟩
   .rw [<-g];intro T;apply h;rw [I,<-g];exact dG (G _ _ ah ah ah) (kI T (F _ _ ah ah ah))
   .rw [<-g];rw [I,<-g]at h;exact dG (G _ _ ah ah ah) (kI h (F _ _ ah ah ah))
   .have u:i=j:=by omega
    subst u;refine MO (λz1 z2 z3 z4 t x O Q S=>(U2 z1 z2 z3 z4 t x O Q S).1) (λz1 z2 z3 z4 t x O Q S=>(U2 z1 z2 z3 z4 t x O Q S).2) K (λz1 z2 z3 z4 t x=>(Z z1 z2 z3 z4 t x).1) (λz1 z2 z3 z4 t x=>(Z z1 z2 z3 z4 t x).2) D o Y l i (n-i) B ⟨P,h1,h2,h3,h4,F,G⟩ hK g ah ah ah ah ah ah ah ?_ ?_
    .by_cases c:i=D
     .first | exact Or.inl ah | exact Or.inr (Or.inl ah)
     .refine Or.inr (Or.inr ?_);have:=A (i-1) ah ah;rw [show l+o-1- (i-1)=n-i by omega]at this;exact rF this
    .by_cases c:i=o
     .first | exact Or.inl ah | exact Or.inr (Or.inl ah)
     .refine Or.inr (Or.inr ?_);have:=z i ah ah;rw [show l+o-1-i=n-i-1 by omega]at this;exact le_of_lt this
end Go.TX.F
namespace Go.TX.F
open Go Go.AE Go.TX List
variable{d:List au}
def xC{s a x:Int}(h:s ∣ a)(d:a<x)(c:x<a+s):¬s ∣ x:=λb=>by
 have:=Int.le_of_dvd ah (Int.dvd_sub b h);omega
def nA.adj{a b:Int}(h:∀p,a<=p->p+1<b->le ((d).getD (p).toNat default) ((d).getD (p+1).toNat default)):nA d a b:=by
 intro p q f e g;obtain⟨n,hn⟩:∃n:Nat,q=p+n:=⟨(q-p).toNat,ah⟩;subst hn
 clear e
 induction n with
 | zero=>rw [show p+((0:Nat):Int)=p by omega];exact le_refl _
 | succ n c=>
  have:=h (p+n) ah ah;rw [show p+((n+1:Nat):Int)=p+n+1 by omega];exact(c ah).trans this
def nA.at1{a b p:Int}(h:nA d a b)(e:a<=p)(c:p+1<b):le ((d).getD (p).toNat default) ((d).getD (p+1).toNat default):=h p (p+1) e ah c
def Bl(d:List au)(s n:Int):Prop:=∀p,0<=p->p+1<n->¬s ∣ p+1->le ((d).getD (p).toNat default) ((d).getD (p+1).toNat default)
def ajj{p:H8->Bool}{f:H8->eG}{Q:lX->Bool}{Y:lX->eG}(U:∀(a b:Int) (d:List au),Sh d->0<=a->a<=b->b<=d.length->p (a,b,d,())=true/\Sm d (f (a,b,d,())).1/\Out d (f (a,b,d,())).1 a b/\nA (f (a,b,d,())).1 a b)(I:∀(a m b:Int) (d:List au),Fq a m b d->Q (a,m,b,d,())=true/\Mrg d (Y (a,m,b,d,())).1 a b)(n:Int)(d:List au)(hd:Sh d)(hn:n=d.length):
  QW.F (p,f,Q,Y,()) (n,d,()) (λy=>Sm d y.1/\nA y.1 0 n):=by
 have V:=hd.1;dsimp only [QW,gm];simp (disch:=omega) only [RR]
 refine ay (λ(y:Int×lX)=>y.1=n/\y.2.1=20/\0<=y.2.2.1/\y.2.2.1<=n/\(20:Int) ∣ y.2.2.1/\y.2.2.2.1=y.2.2.1+20/\Sm d y.2.2.2.2.1/\Bl y.2.2.2.2.1 20 y.2.2.1) (λy=>(n+20-y.2.2.2.1).toNat)
  ⟨rfl,rfl,by simp,by simp;omega,⟨0,by simp⟩,rfl,Sm.refl _,λp r R=>by dsimp only at R;omega⟩ ?_
 rintro⟨(j:Int),(s:Int),(a:Int),(b:Int),(e:List au),⟨⟩⟩ hI;dsimp only at hI ⊢;obtain⟨rfl,rfl,r,R,X,rfl,B,O⟩:=hI;have P:=B.1;have u:=B.sh hd;simp (disch:=omega) only [RR];have T:∀a c (e F:List au),0<=a->(20:Int) ∣ a->c<=a+20->Bl e 20 a->Out e F a c->nA F a c->Bl F 20 c:=by
  intro a c e F c0 G H N J c5 q g i h;by_cases K:q+1<a
  .rw [J q g ah,J (q+1) ah ah];exact N q g K h
  .exact c5.at1 ah i
 refine⟨λh7=> ?_,λh7=> ?_⟩
 .obtain⟨D,w,z⟩:=(U a (a+20) e u r ah ah).2;exact⟨(U a (a+20) e u r ah ah).1,⟨ah,ah,ah,B.trans D,T a (a+20) _ _ r X ah O w z⟩,ah⟩
 obtain⟨D,w,z⟩:=(U a j e u r ah ah).2;refine⟨(U a j e u r ah ah).1,?_⟩;have t4:=T a j _ _ r X ah O w z;generalize (f (a,j,e,())).1=e2 at D w z t4 ⊢;have u1:=B.trans D
 clear D w z B O
 refine ay (λ(y:H8)=>y.1=j/\0<y.2.1/\(y.2.1<=20\/y.2.1<=2*j)/\Sm d y.2.2.1/\Bl y.2.2.1 y.2.1 j) (λy=>(j-y.2.1).toNat)
  ⟨rfl,by simp,Or.inl (by simp),u1,t4⟩ ?_
 rintro⟨(n:Int),(s:Int),(e3:List au),⟨⟩⟩ hI;dsimp only at hI ⊢;obtain⟨rfl,g1,g2,g3,W⟩:=hI;simp (disch:=omega) only [RR];refine⟨λg5=> ?_,λg5=>⟨g3,nA.adj λq g i=>W q g i (xC (a:=0) ⟨0,by simp⟩ ah ah)⟩⟩
 refine ay (λ(y:Int×lX)=>y.1=n/\y.2.1=s/\0<=y.2.2.1/\y.2.2.1<=n/\(2*s) ∣ y.2.2.1/\y.2.2.2.1=y.2.2.1+2*s/\Sm d y.2.2.2.2.1
   /\∀p,0<=p->p+1<n->¬(2*s) ∣ p+1->(p+1<y.2.2.1\/¬s ∣ p+1)->le ((y.2.2.2.2.1).getD (p).toNat default) ((y.2.2.2.2.1).getD (p+1).toNat default)) (λy=>(n+2*s-y.2.2.2.1).toNat)
  ⟨rfl,rfl,by simp,by simp;omega,⟨0,by simp⟩,by simp,g3,λq g i h o=>W q g i (by dsimp only at o;rcases o with o | o;(· omega);(· exact o))⟩ ?_
 rintro⟨(j:Int),(l:Int),(a:Int),(b:Int),(Z:List au),⟨⟩⟩ hI;dsimp only at hI ⊢;obtain⟨rfl,rfl,K,k2,k3,rfl,C,t⟩:=hI;have P:=C.1;have u:=C.sh hd;have L:l ∣ a:=Int.dvd_trans ⟨2,ah⟩ k3;simp (disch:=omega) only [RR];have A:∀x,x<=j->a+l<x->x<=a+2*l->Fq a (a+l) x Z:=λx x1 v x3=>
  ⟨u,K,ah,v,ah,nA.adj λq g i=>by
   refine t q ah ah (xC k3 ah ah) (Or.inr (xC L ah ah)),
   nA.adj λq g i=>by
   refine t q ah ah (xC k3 ah ah) (Or.inr (xC (Int.dvd_add L (Int.dvd_refl l)) ah ah))⟩
 have stp:∀x E,x<=j->(x=a+2*l\/x=j)->x<=a+2*l->Mrg Z E a x->∀p,0<=p->p+1<j->¬(2*l) ∣ p+1->(p+1<x\/¬l ∣ p+1)->le ((E).getD (p).toNat default) ((E).getD (p+1).toNat default):=by
  intro x E x1 v x3 k q g i h o;by_cases G:q+1<a
  .rw [k.out q g ah,k.out (q+1) ah ah];exact t q g i h (Or.inl G)
  .by_cases H:q+1=a
   .rw [H]at h;exact absurd k3 h
   .by_cases N:q+1<x
    .exact k.srt.at1 ah N
    .by_cases J:q+1=x
     .exfalso;rcases v with v | v
      .rw [J,v]at h;exact h (Int.dvd_add k3 (Int.dvd_refl _))
      .omega
     .rw [k.out q g ah,k.out (q+1) ah ah];refine t q g i h (Or.inr ?_);rcases o with o | o
      .omega
      .exact o
 refine⟨λM=> ?_,λM=>⟨λS=> ?_,λS=> ?_⟩⟩
 .have pre:=A (a+2*l) M ah ah;have k:=(I _ _ _ _ pre).2;exact⟨(I _ _ _ _ pre).1,⟨ah,ah,Int.dvd_add k3 (Int.dvd_refl _),C.trans k.sm,stp _ _ M (Or.inl rfl) ah k⟩,ah⟩
 .have pre:=A j ah S ah;have k:=(I _ _ _ _ pre).2;refine⟨(I _ _ _ _ pre).1,⟨ah,Or.inr ah,C.trans k.sm,λq g i h=> ?_⟩,ah⟩;exact stp _ _ ah (Or.inr rfl) ah k q g i (by rw [Int.mul_comm];exact h) (Or.inl i)
 .refine⟨⟨ah,Or.inr ah,C,λq g i h=> ?_⟩,ah⟩;rw [Int.mul_comm]at h;by_cases G:q+1<a
  .exact t q g i h (Or.inl G)
  .by_cases H:q+1=a
   .rw [H]at h;exact absurd k3 h
   .exact t q g i h (Or.inr (xC L ah ah))
def ajk{p:Int×eG->Bool}{f:Int×eG->eG}(U:∀(n:Int) (d:List au),Sh d->n=d.length->p (n,d,())=true/\Sm d (f (n,d,())).1/\nA (f (n,d,())).1 0 n)(d:List au)(hd:Sh d):
  QX.F (p,f,()) (d,()) (λy=>Sm d y.1/\nA y.1 0 d.length):=by
 have:=(U _ d hd rfl).2;dsimp only [QX,gm];exact⟨(U _ d hd rfl).1,this⟩
end Go.TX.F
namespace Go.TX.F
open Go Go.AE Go.TX List
def cf(l:List au)(k:List Int):Int:=(l.map λm=>if m.atoms=k then m.dI else 0).sum
theorem qF(k:List Int):cf [] k=0:=rfl
def bL(m:au)(l:List au)(k:List Int):cf (m::l) k=(if m.atoms=k then m.dI else 0)+cf l k:=by simp [cf]
def rG(a b:List au)(k:List Int):cf (a++b) k=cf a k+cf b k:=by simp [cf]
def iG{k:List Int}:∀ {l:List au},(∀m∈l,m.atoms≠k)->cf l k=0
 | [],_=>rfl
 | m::l,h=>by rw [bL,if_neg (h m (by simp)),iG (λm hm=>h m (by simp [hm]))];rfl
def Sm.cf{a b:List au}(h:Sm a b)(k:List Int):cf b k=cf a k:=h.sum _
def lt(a b:au):Prop:=gT a.atoms b.atoms<0
def lt.ne{a b:au}(h:lt a b):a.atoms≠b.atoms:=λe=>by unfold lt at h;rw [e,kH.2 rfl]at h;omega
structure Nf(o:List au):Prop where
 ss:o.Pairwise lt
 co:∀m∈o,1<=m.dI/\m.dI<=65535
def Ul:∀ {i g:List au},Nf i->Nf g->(∀k,cf i k=cf g k)->i=g
 | [],[],_,_,_=>rfl
 | [],m::o,_,h2,h=>by
  have:=h m.atoms;rw [bL,if_pos rfl,iG (λl d=>((rel_of_pairwise_cons h2.ss d).ne).symm),qF]at this;have:=(h2.co m (by simp));omega
 | m::o,[],h1,_,h=>by
  have:=h m.atoms;rw [bL,if_pos rfl,iG (λl d=>((rel_of_pairwise_cons h1.ss d).ne).symm),qF]at this;have:=(h1.co m (by simp));omega
 | m1::i,m2::g,h1,h2,h=>by
  have r:=h1.co m1 (by simp);have s:=h2.co m2 (by simp);have z1:cf i m1.atoms=0:=iG λl d=>((rel_of_pairwise_cons h1.ss d).ne).symm
  have z2:cf g m2.atoms=0:=iG λl d=>((rel_of_pairwise_cons h2.ss d).ne).symm
  have n:∀ {a b c:au},lt a b->lt b c->lt a c:=λj f=>dG (le_of_lt j) f
  have e:m1.atoms=m2.atoms:=by
   by_cases j:lt m1 m2
   .have:=h m1.atoms;rw [bL,if_pos rfl,z1,bL,if_neg (λe=>j.ne e.symm),iG (λl d=>((n j (rel_of_pairwise_cons h2.ss d)).ne).symm)]at this;omega
   .by_cases f:lt m2 m1
    .have:=h m2.atoms;rw [bL,if_neg (λe=>f.ne e.symm),iG (λl d=>((n f (rel_of_pairwise_cons h1.ss d)).ne).symm),bL,if_pos rfl,z2]at this;omega
    .unfold lt at j f;rw [rE]at f;exact kH.1 ah
  have q:m1.dI=m2.dI:=by
   have:=h m1.atoms;rw [bL,if_pos rfl,z1,bL,if_pos e.symm,e,z2]at this;omega
  have p:m1=m2:=by cases m1;cases m2;simp_all
  subst p;refine congrArg _ (Ul ⟨h1.ss.tail,λm hm=>h1.co m (by simp [hm])⟩ ⟨h2.ss.tail,λm hm=>h2.co m (by simp [hm])⟩ (λk=>by
   have:=h k;rw [bL,bL]at this;omega))
noncomputable def nf (l:List au):List au:= @dite _ (∃o,Nf o/\∀k,cf o k=cf l k%65536) (Classical.propDecidable _) (λh=>Classical.choose h) (λ_=> [])
def Um{l o:List au}(h:Nf o)(b:∀k,cf o k=cf l k%65536):nf l=o:=by
 have a:∃o,Nf o/\∀k,cf o k=cf l k%65536:=⟨o,h,b⟩;unfold nf;rw [dif_pos a];have:=Classical.choose_spec a;exact Ul this.1 h (λk=>(this.2 k).trans (b k).symm)
noncomputable def uG (l:List au):Bool×List au:=(bp (aV (nf l)),if bp (aV (nf l))then nf l else [])
def Cb(l:List au):Prop:=∀m∈l,0<=m.dI/\m.dI<=65535
def ajl{p1 f1 p2 f2 p3 f3 p4 f4}{G:eG->Bool}{s:eG->eG}(X:Y7 p1 f1)(T:Y11 p2 f2)(S:Y10 p3 f3)(V:Y12 p4 f4)(I:∀d,Sh d->G (d,())=true/\Sm d (s (d,())).1/\nA (s (d,())).1 0 d.length)(l:List au)(C:Sh l)(hc:Cb l):QY.F (p1,f1,p2,f2,p3,f3,p4,f4,G,s,()) (l,()) (λy=>y.1=(uG l).1/\y.2.2.1=(uG l).2):=by
 obtain⟨q,H⟩:=(I l C).2;dsimp only [QY,gm];simp (disch:=omega) only [RR,(I l C).1];generalize (s (l,())).1=d at q H ⊢;have Y:=q.1;have u:=q.sh C;have J:=u.1;have F:Cb d:=λm hm=>hc m (q.mem hm)
 refine ay (λ(y:Int×uy)=>0<=y.1/\y.1<=d.length/\y.2.1=d/\Nf y.2.2.1/\y.2.2.1.length<=y.1/\(∀k,cf y.2.2.1 k=cf (d.take y.1.toNat) k%65536)/\(∀m∈y.2.2.1,m∈y.2.2.1->m.atoms.length<1000000000)
   /\(y.1<d.length->(∀m∈y.2.2.1,lt m ((d).getD (y.1).toNat default))/\(∀m∈d.take y.1.toNat,lt m ((d).getD (y.1).toNat default)))) (λy=>(d.length-y.1).toNat)
  ⟨by simp,by simp,rfl,⟨Pairwise.nil,λm hm=>absurd hm (by simp)⟩,by simp,λk=>by simp [cf],λm hm=>absurd hm (by simp),λ_=>⟨λm hm=>absurd hm (by simp),λm hm=>absurd hm (by simp)⟩⟩ ?_
 rintro⟨(i:Int),(g:List au),(o:List au),⟨⟩⟩ hI;dsimp only at hI ⊢;obtain⟨P,Z,rfl,r,h5,D,B,R⟩:=hI;have Q:Sh o:=⟨ah,λm hm=>B m hm hm⟩;simp (disch:=omega) only [RR,T o Q];refine⟨λL=>⟨ah,ah,ah,ah,?_⟩,λL=> ?_⟩
 .obtain⟨g1,g2⟩:=R L;have z:cf (g.take i.toNat) ((g).getD (i).toNat default).atoms=0:=iG λm hm=>(g2 m hm).ne
  refine ay (λ(y:Int×Int×List au×au×eG)=>i<=y.1/\y.1<=g.length/\y.2.2.1=g/\y.2.2.2.1=((g).getD (i).toNat default)/\y.2.2.2.2.1=o/\y.2.1=cf (g.take y.1.toNat) ((g).getD (i).toNat default).atoms%65536
    /\(∀k,k≠((g).getD (i).toNat default).atoms->cf (g.take y.1.toNat) k=cf (g.take i.toNat) k)/\(∀m∈g.take y.1.toNat,lt m ((g).getD (i).toNat default)\/m.atoms=((g).getD (i).toNat default).atoms)) (λy=>(g.length-y.1).toNat)
   ⟨by simp,by simp;omega,rfl,rfl,rfl,by rw [z];rfl,λk _=>rfl,λm hm=>Or.inl (g2 m hm)⟩ ?_
  rintro⟨(j:Int),(c:Int),(f:List au),(fi:au),(U:List au),⟨⟩⟩ hI;dsimp only at hI ⊢;obtain⟨M,k2,rfl,rfl,rfl,K,x,w⟩:=hI;have N:0<=c/\c<65536:=by omega
  have A:j<f.length->0<=((f).getD (j).toNat default).dI/\((f).getD (j).toNat default).dI<=65535:=λh=>F _ (gu ah h)
  simp (disch:=omega) only [RR,X _ _ (u.at _),S,V _ (Nat.le_trans (Nat.le_of_lt (u.at _)) ah)];refine⟨ah,ah,ah,ah,λ⟨t,v⟩=> ?_,λt=>⟨λv=>⟨?_,?_,?_⟩,λv=>⟨?_,?_⟩⟩⟩
  .have e:=kH.1 v;have:=A t;rw [w64 ah ah];have E:f.take (j+1).toNat=f.take j.toNat++ [((f).getD (j).toNat default)]:=(dO ah t rfl).symm;refine⟨ah,ah,ah,ah,⟨ah,ah,?_,λk hk=> ?_,λm hm=> ?_⟩,ah⟩
   .rw [E,rG,bL,if_pos e.symm,qF,K];omega
   .rw [E,rG,bL,if_neg (λh=>hk (by rw [e,h])),qF,x k hk];omega
   .rw [E,mem_append,mem_singleton]at hm;rcases hm with hm | hm
    .exact w m hm
    .right;rw [hm,e]
  all_goals
   have p:j<f.length->lt ((f).getD (i).toNat default) ((f).getD (j).toNat default):=λn=>by
    rw [decide_eq_true n,Bool.true_and,decide_eq_false_iff_not]at t;have:=H i j P M ah;unfold le at this;unfold lt;omega
   have O:i<j:=by
    by_cases n:j<f.length
    .by_cases e:i=j
     .have:=(p n).ne;rw [e]at this;exact absurd rfl this
     .omega
    .omega
  .simp only [length_append,length_cons,length_nil];omega
  .have co:∀k,cf (U++ [⟨c,((f).getD (i).toNat default).atoms⟩]) k=cf (f.take j.toNat) k%65536:=λk=>by
    rw [rG,bL,qF];dsimp only;by_cases hk:((f).getD (i).toNat default).atoms=k
    .subst hk;rw [if_pos rfl,iG (λm hm=>(g1 m hm).ne),K];omega
    .rw [if_neg hk,x k (λe=>hk e.symm),D k];omega
   refine⟨ah,ah,⟨?_,?_⟩,?_,co,?_,λn=>⟨?_,?_⟩⟩
   .rw [pairwise_append];exact⟨r.ss,pairwise_singleton _ _,λa W b p=>by rw [mem_singleton]at p;subst p;exact g1 a W⟩
   .intro m hm;rw [mem_append,mem_singleton]at hm;rcases hm with hm | rfl
    .exact r.co m hm
    .dsimp only;omega
   .simp only [length_append,length_cons,length_nil];omega
   .intro m hm _;rw [mem_append,mem_singleton]at hm;rcases hm with hm | rfl
    .exact B m hm hm
    .exact u.at _
   .intro m hm;rw [mem_append,mem_singleton]at hm;rcases hm with hm | rfl
    .exact dG (le_of_lt (g1 m hm)) (p n)
    .exact p n
   .intro m hm;rcases w m hm with k | k
    .exact dG (le_of_lt k) (p n)
    .have:=p n;unfold lt at this ⊢;rw [k];exact this
  .omega
  .refine⟨ah,ah,r,ah,λk=> ?_,B,λn=>⟨?_,?_⟩⟩
   .by_cases hk:((f).getD (i).toNat default).atoms=k
    .subst hk;rw [iG (λm hm=>(g1 m hm).ne)];omega
    .rw [x k (λe=>hk e.symm),D k]
   .intro m hm;exact dG (le_of_lt (g1 m hm)) (p n)
   .intro m hm;rcases w m hm with k | k
    .exact dG (le_of_lt k) (p n)
    .have:=p n;unfold lt at this ⊢;rw [k];exact this
  .omega
 .have e:nf l=o:=Um r (λk=>by rw [D k,take_of_length_le ah,q.cf k]);unfold uG;rw [e];refine⟨λh=> ?_,λh=> ?_⟩
  .rw [h];exact⟨rfl,by simp⟩
  .rw [h];exact⟨rfl,by simp⟩
variable{p:eB->Bool}
def ajm(n:Int)(b:0<=n)(a:n<=1073741824):QZ.F () (n,()) (λy=>y=([],())):=by
 dsimp only [QZ,gm];simp (disch:=omega) only [RR];refine⟨λh=>by omega,λ_ h=> ?_⟩
 repeat' (refine And.intro ?_ ?_)
 all_goals first | omega | (rw [length_replicate];omega) | rfl
theorem ajn{f:eB->eG}(U:∀n:Int,0<=n->n<=1073741824->p (n,())=true/\f (n,())=([],()))(a b:List au)(r:a.length<=100000000)(q:b.length<=100000000):Q0.F (p,f,()) ([a,b],()) (λy=>y=(a++b,())):=by
 dsimp only [Q0,gm]
 refine ay (λ(y:List (List au)×Int×List (List au)×oz)=>y.1=[a,b]/\y.2.2.1=[a,b]/\y.2.2.2.1=2/\((y.2.2.2.2.1=0/\y.2.1=0)\/(y.2.2.2.2.1=1/\y.2.1=a.length)\/(y.2.2.2.2.1=2/\y.2.1=a.length+b.length))) (λy=>(2-y.2.2.2.2.1).toNat)
  ⟨rfl,rfl,rfl,Or.inl ⟨rfl,rfl⟩⟩ ?_
 rintro⟨(l:List (List au)),(s:Int),(t:List (List au)),(n:Int),(i:Int),⟨⟩⟩ hI;dsimp only at hI ⊢;obtain⟨rfl,rfl,rfl,h⟩:=hI;simp (disch:=omega) only [RR];have c: [a,b].getD (Int.toNat 0) default=a:=rfl;have d: [a,b].getD (Int.toNat 1) default=b:=rfl;have m:([a,b].length:Int)=2:=rfl;refine⟨λg=> ?_,λg=> ?_⟩
 .rcases h with⟨rfl,rfl⟩ | ⟨rfl,rfl⟩ | ⟨rfl,rfl⟩
  .rw [c,w64 ah ah];exact⟨ah,ah,λh=>by omega,λh=>⟨Or.inr (Or.inl ⟨ah,ah⟩),ah⟩⟩
  .rw [d,w64 ah ah];exact⟨ah,ah,λh=>by omega,λh=>⟨Or.inr (Or.inr ⟨ah,ah⟩),ah⟩⟩
  .omega
 .have hs:0<=s/\s<=200000000:=by omega
  refine⟨(U s ah ah).1,?_⟩;rw [(U s ah ah).2]
  refine ay (λ(y:List (List au)×H8)=>y.1=[a,b]/\y.2.1=2/\((y.2.2.1=0/\y.2.2.2.1=[])\/(y.2.2.1=1/\y.2.2.2.1=a)\/(y.2.2.1=2/\y.2.2.2.1=a++b))) (λy=>(2-y.2.2.1).toNat)
   ⟨rfl,rfl,Or.inl ⟨rfl,rfl⟩⟩ ?_
  rintro⟨(l:List (List au)),(n:Int),(j:Int),(o:List au),⟨⟩⟩ hI;dsimp only at hI ⊢;obtain⟨rfl,rfl,e⟩:=hI;simp (disch:=omega) only [RR];refine⟨λk=> ?_,λk=> ?_⟩
  .rcases e with⟨rfl,rfl⟩ | ⟨rfl,rfl⟩ | ⟨rfl,rfl⟩
   .rw [c];exact⟨ah,ah,by simp only [length_nil];omega,Or.inr (Or.inl ⟨ah,rfl⟩),ah⟩
   .rw [d];exact⟨ah,ah,ah,Or.inr (Or.inr ⟨ah,rfl⟩),ah⟩
   .omega
  .rcases e with⟨rfl,rfl⟩ | ⟨rfl,rfl⟩ | ⟨rfl,rfl⟩
   .omega
   .omega
   .rfl
def ajo(n:Int)(b:0<=n)(a:n<=1073741824):Q5.F () (n,()) (λy=>y=([],())):=by
 dsimp only [Q5,gm];simp (disch:=omega) only [RR];refine⟨λh=>by omega,λ_ h=> ?_⟩
 repeat' (refine And.intro ?_ ?_)
 all_goals first | omega | (rw [length_replicate];omega) | rfl
theorem ajp{f:eB->eu}(U:∀n:Int,0<=n->n<=1073741824->p (n,())=true/\f (n,())=([],()))(a b:List Int)(r:a.length<=100000000)(q:b.length<=100000000):Q6.F (p,f,()) ([a,b],()) (λy=>y=(a++b,())):=by
 dsimp only [Q6,gm]
 refine ay (λ(y:List (List Int)×Int×List (List Int)×oz)=>y.1=[a,b]/\y.2.2.1=[a,b]/\y.2.2.2.1=2/\((y.2.2.2.2.1=0/\y.2.1=0)\/(y.2.2.2.2.1=1/\y.2.1=a.length)\/(y.2.2.2.2.1=2/\y.2.1=a.length+b.length))) (λy=>(2-y.2.2.2.2.1).toNat)
  ⟨rfl,rfl,rfl,Or.inl ⟨rfl,rfl⟩⟩ ?_
 rintro⟨(l:List (List Int)),(s:Int),(t:List (List Int)),(n:Int),(i:Int),⟨⟩⟩ hI;dsimp only at hI ⊢;obtain⟨rfl,rfl,rfl,h⟩:=hI;simp (disch:=omega) only [RR];have c: [a,b].getD (Int.toNat 0) default=a:=rfl;have d: [a,b].getD (Int.toNat 1) default=b:=rfl;have m:([a,b].length:Int)=2:=rfl;refine⟨λg=> ?_,λg=> ?_⟩
 .rcases h with⟨rfl,rfl⟩ | ⟨rfl,rfl⟩ | ⟨rfl,rfl⟩
  .rw [c,w64 ah ah];exact⟨ah,ah,λh=>by omega,λh=>⟨Or.inr (Or.inl ⟨ah,ah⟩),ah⟩⟩
  .rw [d,w64 ah ah];exact⟨ah,ah,λh=>by omega,λh=>⟨Or.inr (Or.inr ⟨ah,ah⟩),ah⟩⟩
  .omega
 .have hs:0<=s/\s<=200000000:=by omega
  refine⟨(U s ah ah).1,?_⟩;rw [(U s ah ah).2]
  refine ay (λ(y:List (List Int)×H6)=>y.1=[a,b]/\y.2.1=2/\((y.2.2.1=0/\y.2.2.2.1=[])\/(y.2.2.1=1/\y.2.2.2.1=a)\/(y.2.2.1=2/\y.2.2.2.1=a++b))) (λy=>(2-y.2.2.1).toNat)
   ⟨rfl,rfl,Or.inl ⟨rfl,rfl⟩⟩ ?_
  rintro⟨(l:List (List Int)),(n:Int),(j:Int),(o:List Int),⟨⟩⟩ hI;dsimp only at hI ⊢;obtain⟨rfl,rfl,e⟩:=hI;simp (disch:=omega) only [RR];refine⟨λk=> ?_,λk=> ?_⟩
  .rcases e with⟨rfl,rfl⟩ | ⟨rfl,rfl⟩ | ⟨rfl,rfl⟩
   .rw [c];exact⟨ah,ah,by simp only [length_nil];omega,Or.inr (Or.inl ⟨ah,rfl⟩),ah⟩
   .rw [d];exact⟨ah,ah,ah,Or.inr (Or.inr ⟨ah,rfl⟩),ah⟩
   .omega
  .rcases e with⟨rfl,rfl⟩ | ⟨rfl,rfl⟩ | ⟨rfl,rfl⟩
   .omega
   .omega
   .rfl
def mOk.le{m:au}(h:mOk m):m.atoms.length<=4:=h.2.1
def aV.at{p:List au}(h:aV p){m:au}(hm:m∈p):mOk m:=by
 obtain⟨i,a,rfl⟩:=getElem_of_mem hm;have:=(h.1 i ah ah).1;rw [show(i:Int).toNat=i from rfl,getD_lt a]at this;exact this
def aV.len{p:List au}(h:aV p):p.length<=12:=h.2.1
noncomputable def vZ (a b:List au):Bool×List au:=if bp (aV a)&&bp (aV b)then uG (a++b)else(false,[])
abbrev Y21(c:eG->Bool)(b:eG->Bool×uy):Prop:=∀a,Sh a->Cb a->c (a,())=true/\(b (a,())).1=(uG a).1/\(b (a,())).2.2.1=(uG a).2
def anC{p1 f1 p2 f2}{g:l7->Bool}{o:l7->eG}(n:Y11 p1 f1)(k:Y21 p2 f2)(j:∀a b:List au,a.length<=100000000->b.length<=100000000->g ([a,b],())=true/\o ([a,b],())=(a++b,()))(a b:List au)(p:Sh a)(i:Sh b):aae.F (p1,f1,p2,f2,g,o,()) (a,b,()) (λy=>y=((vZ a b).1,(vZ a b).2,())):=by
 dsimp only [aae,gm];simp (disch:=omega) only [RR,n a p,n b i,aX,lS];unfold vZ;refine⟨λh=> ?_,λ⟨e,c⟩=> ?_⟩
 .rw [if_neg];rw [Bool.and_eq_true,aX,aX];rintro⟨f,d⟩;rcases h with h | h
  .exact h f
  .exact h d
 .have l1:=e.len;have q:=c.len;rw [(j a b ah ah).1,(j a b ah ah).2];have l:Sh (a++b):=⟨by rw [length_append];omega,λm hm=>by
   rw [mem_append]at hm;rcases hm with hm | hm
   .exact p.2 m hm
   .exact i.2 m hm⟩
  have hc:Cb (a++b):=λm hm=>by
   rw [mem_append]at hm;rcases hm with hm | hm
   .have:=(e.at hm).1;omega
   .have:=(c.at hm).1;omega
  obtain⟨f,d⟩:=(k _ l hc).2;refine⟨rfl,(k _ l hc).1,?_⟩;rw [if_pos (by rw [aR e,aR c];rfl),f,d]
def wh(l:List Int):List Int:=l.mergeSort λx y=>decide (x<=y)
def Wv(l:List Int):(wh l).length=l.length:=length_mergeSort l
def mulM(m n:au):au:=⟨m.dI*n.dI%65536,wh (m.atoms++n.atoms)⟩
def prods(a b:List au):List au:=a.flatMap λm=>b.map (mulM m)
def RU(a b:List au)(m:au):prods (a++ [m]) b=prods a b++b.map (mulM m):=by simp [prods]
noncomputable def uH (a b:List au):Bool×List au:=if bp (aV a)&&bp (aV b)then uG (prods a b)else(false,[])
def aeR{a b:Int}(f:0<=a)(d:a<=65535)(c:0<=b)(e:b<=65535):0<=a*b/\a*b<=65535*65535:=⟨Int.mul_nonneg f c,Int.mul_le_mul d e c ah⟩
def anD{p1 f1 p0 f0 p2 f2}{x:List (List Int)×Unit->Bool}{F:List (List Int)×Unit->eu}{z:eu->Bool}{E:eu->eu}(G:Y11 p1 f1)(S:Y10 p0 f0)(C:Y21 p2 f2)(M:∀a b:List Int,a.length<=100000000->b.length<=100000000->x ([a,b],())=true/\F ([a,b],())=(a++b,()))(R:∀a:List Int,a.length<=8->z (a,())=true/\E (a,())=(wh a,()))(a b:List au)(T:Sh a)(L:Sh b):aaf.F (p1,f1,p0,f0,p2,f2,x,F,z,E,()) (a,b,()) (λy=>y=((uH a b).1,(uH a b).2,())):=by
 dsimp only [aaf,gm];simp (disch:=omega) only [RR,G a T,G b L,aX,lS];unfold uH;refine⟨λh=> ?_,λ⟨r,l⟩=> ?_⟩
 .rw [if_neg];rw [Bool.and_eq_true,aX,aX];rintro⟨s,p⟩;rcases h with h | h
  .exact h s
  .exact h p
 have l1:=r.len;have l2:=l.len;rw [if_pos (by rw [aR r,aR l];rfl)];have P:∀i j:Int,0<=i->i<a.length->0<=j->j<b.length->mOk ((a).getD (i).toNat default)/\mOk ((b).getD (j).toNat default):=λi j Q K J U=>⟨r.at (gu Q K),l.at (gu J U)⟩
 refine ay (λ(y:List au×Int×Int×uy)=>y.1=a/\y.2.1=a.length/\0<=y.2.2.1/\y.2.2.1<=a.length/\y.2.2.2.1=b/\y.2.2.2.2.1=prods (a.take y.2.2.1.toNat) b/\y.2.2.2.2.1.length<=12*y.2.2.1/\Sh y.2.2.2.2.1/\Cb y.2.2.2.2.1) (λy=>(a.length-y.2.2.1).toNat)
  ⟨rfl,rfl,by simp,by simp,rfl,rfl,by simp,⟨by simp,λm hm=>absurd hm (by simp)⟩,λm hm=>absurd hm (by simp)⟩ ?_
 rintro⟨(k:List au),(n:Int),(i:Int),(e:List au),(o:List au),⟨⟩⟩ hI;dsimp only at hI ⊢;obtain⟨rfl,rfl,D,W,rfl,A,Y,q,t⟩:=hI;simp (disch:=omega) only [RR];refine⟨λu=>⟨ah,ah,?_⟩,λu=> ?_⟩
 .refine ay (λ(y:List au×Int×Int×List au×Int×Int×List au×List au×au×Unit)=>y.1=k/\y.2.1=k.length/\y.2.2.1=i/\y.2.2.2.1=e/\y.2.2.2.2.1=e.length/\0<=y.2.2.2.2.2.1/\y.2.2.2.2.2.1<=e.length/\y.2.2.2.2.2.2.1=e/\y.2.2.2.2.2.2.2.2.1=((k).getD (i).toNat default)
    /\y.2.2.2.2.2.2.2.1=o++(e.take y.2.2.2.2.2.1.toNat).map (mulM ((k).getD (i).toNat default))/\Sh y.2.2.2.2.2.2.2.1/\Cb y.2.2.2.2.2.2.2.1) (λy=>(e.length-y.2.2.2.2.2.1).toNat)
   ⟨rfl,rfl,rfl,rfl,rfl,by simp,by simp,rfl,rfl,by simp,q,t⟩ ?_
  rintro⟨(c:List au),(n:Int),(g:Int),(I:List au),(V:Int),(j:Int),(f:List au),(O:List au),(m:au),⟨⟩⟩ hI;dsimp only at hI ⊢;obtain⟨rfl,rfl,rfl,rfl,rfl,w,Z,rfl,rfl,k3,H,B⟩:=hI;have lo:(O.length:Int)<=12*g+j:=by
   rw [k3,length_append,length_map];have:=length_take_le j.toNat f;omega
  by_cases v:j<f.length
  .obtain⟨m1,m2⟩:=P g j D u w v;have e1:=m1.le;have X:=m2.le;have N:(((c).getD (g).toNat default).atoms++((f).getD (j).toNat default).atoms).length<=8:=by rw [length_append];omega
   have hm:=aeR (show 0<=((c).getD (g).toNat default).dI by have:=m1.1;omega) (by have:=m1.1;omega) (show 0<=((f).getD (j).toNat default).dI by have:=m2.1;omega) (by have:=m2.1;omega);simp (disch:=omega) only [RR,M ((c).getD (g).toNat default).atoms ((f).getD (j).toNat default).atoms ah ah,R _ N,S];refine⟨λ_=>⟨ah,ah,by simp only [length_cons,length_nil];omega,⟨ah,ah,?_,⟨?_,?_⟩,?_⟩,ah⟩,λh=>by omega⟩
   .rw [<-dO (d:=default) w v rfl,map_append,k3,append_assoc];rfl
   .rw [length_append];simp only [length_cons,length_nil];omega
   .intro m hm;rw [mem_append,mem_singleton]at hm;rcases hm with hm | rfl
    .exact H.2 m hm
    .dsimp only;rw [Wv];omega
   .intro m hm;rw [mem_append,mem_singleton]at hm;rcases hm with hm | rfl
    .exact B m hm
    .dsimp only;omega
  .simp (disch:=omega) only [RR];refine⟨λh=>absurd h v,λ_=>⟨⟨ah,ah,?_,ah,H,B⟩,ah⟩⟩;rw [<-dO (d:=default) D u rfl,RU,<-A,k3,take_of_length_le ah]
 .obtain⟨s,p⟩:=(C _ q t).2;refine⟨(C _ q t).1,?_⟩;rw [s,p,A,take_of_length_le ah]
noncomputable def kZ (a:List au) (n:Int):List au:=if bp (aV a)&&inB n 0 65535 then(uH a (gU n)).2 else []
def Ww(n:Int):Sh (gU n):=by
 unfold gU;split
 .exact⟨by simp,λm hm=>by rw [mem_singleton]at hm;subst hm;simp⟩
 .exact⟨by simp,λm hm=>absurd hm (by simp)⟩
abbrev Y22(b:eB->Bool)(a:eB->eG):Prop:=∀n,b (n,())=true/\a (n,())=(gU n,())
abbrev Y23(d:uy->Bool)(c:uy->Bool×eG):Prop:=∀a b,Sh a->Sh b->d (a,b,())=true/\c (a,b,())=((uH a b).1,(uH a b).2,())
def anE{p1 f1 p2 f2 p3 f3 p4 f4}(g:Y11 p1 f1)(j:Y22 p2 f2)(f:Y9 p3 f3)(d:Y23 p4 f4)(a:List au)(n:Int)(b:Sh a):aag.F (p1,f1,p2,f2,p3,f3,p4,f4,()) (a,n,()) (λy=>y=(kZ a n,())):=by
 dsimp only [aag,gm];simp (disch:=omega) only [RR,g a b,j,f,d a _ b (Ww n)];unfold kZ;refine⟨λh=> ?_,λ⟨k,i⟩=> ?_⟩
 .rw [if_neg];rw [Bool.and_eq_true];rintro⟨e,c⟩;rcases h with h | h
  .rw [e]at h;cases h
  .rw [c]at h;cases h
 .rw [k,i];rfl
end Go.TX.F
namespace Go.TX.F
open Go Go.AE Go.TX List
noncomputable def abb (a:Int) (x y:List au):List au×Bool:=
 if(dB x).2&& (dB y).2 then(gU (wdo a (dB x).1 (dB y).1),true)
 else if nu x y=0/\a=4 then(x,true)
 else if nu x y=0 then([],true)
 else if(dB x).2 then
  (if a=4/\(dB x).1=0 then([],true)else if(a=4/\(dB x).1=65535)\/(a=5/\(dB x).1=0)then(y,true)else([],false))
 else if(dB y).2 then
  (if a=4/\(dB y).1=0 then([],true)else if(a=4/\(dB y).1=65535)\/(a=5/\(dB y).1=0)then(x,true)else([],false))
 else([],false)
noncomputable def iU (a:Int) (x y:List au):List au×Bool:=
 if a=1 then((vZ x y).2,(vZ x y).1)else if a=2 then((vZ x (kZ y 65535)).2,(vZ x (kZ y 65535)).1)else if a=3 then((uH x y).2,(uH x y).1)else abb a x y
def aV.sh{l:List au}:aV l->Sh l:=λh=>⟨by have:=h.len;omega,λm hm=>by have:=(h.at hm).le;omega⟩
def aeS(l:List au):Sh (uG l).2:=by
 unfold uG;by_cases h:aV (nf l)
 .rw [aR h];exact h.sh
 .rw [bJ h];exact⟨by simp,λm hm=>absurd hm (by simp)⟩
def oQ:Sh []:=⟨by simp,λm hm=>absurd hm (by simp)⟩
def aeT(a b:List au):Sh (uH a b).2:=by unfold uH;split;exact aeS _;exact oQ
def Wx(a:List au)(n:Int):Sh (kZ a n):=by unfold kZ;split;exact aeT _ _;exact oQ
abbrev Y24(e:ari->Bool)(d:ari->eB):Prop:=∀c a b,e (c,a,b,())=true/\d (c,a,b,())=(wdo c a b,())
abbrev Y25(d:uy->Bool)(c:uy->Bool×eG):Prop:=∀a b,Sh a->Sh b->d (a,b,())=true/\c (a,b,())=((vZ a b).1,(vZ a b).2,())
abbrev Y26(c:List au×eB->Bool)(b:List au×eB->eG):Prop:=∀a n,Sh a->c (a,n,())=true/\b (a,n,())=(kZ a n,())
abbrev Y27(c:eG->Bool)(b:eG->Int×fA):Prop:=∀a,Sh a->c (a,())=true/\b (a,())=((dB a).1,(dB a).2,())
def ajq{p1 f1 p2 f2 p3 f3 p4 f4 p5 f5 p6 f6 p7 f7}(v:Y14 p1 f1)(t:Y22 p2 f2)(s:Y24 p3 f3)(k:Y25 p4 f4)(p:Y23 p5 f5)(q:Y26 p6 f6)(j:Y27 p7 f7)(b:Int)(x y:List au)(d:Sh x)(g:Sh y):Ra.F (p1,f1,p2,f2,p3,f3,p4,f4,p5,f5,p6,f6,p7,f7,()) (b,x,y,()) (λz=>z=((iU b x y).1,(iU b x y).2,())):=by
 dsimp only [Ra,gm];simp (disch:=omega) only [RR,v x y d,t,s,k x y d g,k x _ d (Wx y 65535),p x y d g,q y _ g,j x d,j y g];unfold iU;refine⟨λh=>by rw [if_pos h],λh=>⟨λf=>by rw [if_neg h,if_pos f],λf=>⟨λi=>by rw [if_neg h,if_neg f,if_pos i],λi=> ?_⟩⟩⟩;rw [if_neg h,if_neg f,if_neg i];unfold abb;generalize dB x=w;generalize dB y=o;obtain⟨n,l⟩:=w;obtain⟨m,r⟩:=o;dsimp only;by_cases e:nu x y=0<;>by_cases u:b=4<;>cases l<;>cases r<;>simp [e,u]
 .by_cases c:m=0<;>by_cases a:m=65535<;>simp [c,a]
 .by_cases c:n=0<;>by_cases a:n=65535<;>simp [c,a]
 .by_cases c:b=5<;>by_cases a:m=0<;>simp [c,a]
 .by_cases c:b=5<;>by_cases a:n=0<;>simp [c,a]
noncomputable def tDo (t:List Atom) (a:Int) (x y:List au):List Atom×List au:=
 if(iU a x y).2 then(t,(iU a x y).1)else
 if a≠2/\0<nu x y then(if(aQ t ⟨4,a,y,x⟩).2<0 then([],[])else((aQ t ⟨4,a,y,x⟩).1,fP (aQ t ⟨4,a,y,x⟩).2))
 else(if(aQ t ⟨4,a,x,y⟩).2<0 then([],[])else((aQ t ⟨4,a,x,y⟩).1,fP (aQ t ⟨4,a,x,y⟩).2))
noncomputable def tOk (t:List Atom) (a:Int) (x y:List au):Bool:=(iU a x y).2 || !decide ((if a≠2/\0<nu x y then(aQ t ⟨4,a,y,x⟩).2 else(aQ t ⟨4,a,x,y⟩).2)<0)
abbrev Y28(b:eB->Bool)(a:eB->eG):Prop:=∀n,b (n,())=true/\a (n,())=(fP n,())
def anF{p1 f1 p4 f4}{f:Int×uy->Bool}{j:Int×uy->List au×fA}{e:wm->Bool}{k:wm->List Atom×eB}(w:Y8 p1 f1)(q:∀b x y,Sh x->Sh y->f (b,x,y,())=true/\j (b,x,y,())=((iU b x y).1,(iU b x y).2,()))(i:∀t a,t.length<1000000000->ShA a->e (t,a,())=true/\k (t,a,())=((aQ t a).1,(aQ t a).2,()))(v:Y28 p4 f4)(t:List Atom)(b:Int)(x y:List au)(g:t.length<1000000000)(c:Sh x)(d:Sh y):aah.F (p1,f1,f,j,e,k,p4,f4,()) (t,b,x,y,()) (λz=>z.1=(tDo t b x y).1/\z.2.1=(tDo t b x y).2/\z.2.2.1=tOk t b x y):=by
 have s:ShA ⟨4,b,x,y⟩:=⟨c,d⟩;have m:ShA ⟨4,b,y,x⟩:=⟨d,c⟩;dsimp only [aah,gm];simp (disch:=omega) only [RR,w x y c,q b x y c d,i t _ g s,i t _ g m,v];unfold tDo tOk;refine⟨λh=>by rw [if_pos h,h];exact⟨rfl,rfl,rfl⟩,λh=> ?_⟩;rw [if_neg (by rw [h];simp),h,Bool.false_or];generalize aQ t ⟨4,b,y,x⟩=l;generalize aQ t ⟨4,b,x,y⟩=u;generalize nu x y=o;by_cases n:b=2<;>by_cases p:0<o<;>by_cases r:l.2<0<;>by_cases A:u.2<0<;>simp [n,p,r,A]
def aeU:ShT []:=⟨by simp,λm hm=>absurd hm (by simp)⟩
abbrev Y29(c:wz->Bool)(b:wz->fA):Prop:=∀a,ShT a->c (a,())=true/\b (a,())=(bp (aH a),())
abbrev Y30(b:List Atom×Int×uy->Bool)(a:List Atom×Int×uy->List Atom×List au×fA):Prop:=∀(t:List Atom) op x y,t.length<1000000000->Sh x->Sh y->b (t,op,x,y,())=true/\(a (t,op,x,y,())).1=(tDo t op x y).1/\(a (t,op,x,y,())).2.1=(tDo t op x y).2/\(a (t,op,x,y,())).2.2.1=tOk t op x y
abbrev Y31(c:wz->Bool)(b:wz->wz):Prop:=∀a,ShT a->c (a,())=true/\b (a,())=(a,())
def ajr{p1 f1}(a:Y9 p1 f1):Ry.F (p1,f1,()) () (λz=>z=(true,())):=by
 dsimp only [Ry,gm];simp (disch:=omega) only [RR,a];rfl
def qc{α:Type}{d:α}{a b:List α}(h:a.length=b.length)(c:All a.length (λi=>a.getD i.toNat d=b.getD i.toNat d)):a=b:=by
 refine ext_getElem h λi f e=> ?_
 have:=c i ah ah;dsimp only at this;rw [show(i:Int).toNat=i from rfl,getD_lt f,getD_lt e]at this;exact this
def ajs(a b:List Int)(m:a.length<1000000000):Rz.F () (a,b,()) (λz=>z=(bp (a=b),())):=by
 dsimp only [Rz,gm];simp (disch:=omega) only [RR];refine⟨λh=> ?_,λh=> ?_⟩
 .rw [bJ (λe=>h (by rw [e]))]
 have f:a.length=b.length:=by omega
 refine ay (λ(y:List Int×fE)=>y.1=a/\y.2.1=b/\0<=y.2.2.1/\y.2.2.1<=a.length/\All y.2.2.1 (λi=>a.getD i.toNat default=b.getD i.toNat default)) (λy=>(a.length-y.2.2.1).toNat) ⟨rfl,rfl,by simp,by simp,All.zero⟩ ?_;rintro⟨(k:List Int),(n:List Int),(i:Int),⟨⟩⟩ hI;dsimp only at hI ⊢;obtain⟨rfl,rfl,l,j,d⟩:=hI;simp (disch:=omega) only [RR];refine⟨λg=>⟨ah,ah,ah,ah,λc=> ?_,λc=>⟨⟨ah,ah,d.snoc c⟩,ah⟩⟩,λg=> ?_⟩
 .rw [bJ (λe=>c (by rw [e]))]
 .rw [aR (qc f (d.le ah))]
abbrev Y32(d:ql->Bool)(c:ql->fA):Prop:=∀a b,a.length<1000000000->d (a,b,())=true/\c (a,b,())=(bp (a=b),())
variable{α:Type}{p:List au}{o:List au}
def abd{a b:Int}:or2 a b=0↔a=0/\b=0:=by unfold or2;split<;>omega
def IL{a b:au}:MN a b=0↔a=b:=by
 unfold MN;rw [abd,kH,ou];constructor
 .rintro⟨h1,h2⟩;cases a;cases b;simp_all
 .rintro rfl;exact⟨rfl,rfl⟩
def IQ:∀ {a b:List au},a.length=b.length->Fh a b=0->a=b
 | [],[],_,_=>rfl | [],_::_,h,_=>by simp at h
 | _::_,[],h,_=>by simp at h
 | a::az,b::bs,hl,h=>by
  simp only [Fh]at h;split at h
  .exact absurd h (by assumption)
  .rename_i h1;rw [IL.1 (Classical.not_not.1 h1),IQ (by simpa using hl) h]
def IU:∀a:List au,Fh a a=0
 | []=>rfl
 | a::az=>by simp only [Fh,IL.2 rfl];simp [IU az]
def mq{a b:List au}:nu a b=0↔a=b:=by
 unfold nu;constructor
 .intro h;split at h
  .exact absurd h (by assumption)
  .rename_i h1;have:=ou.1 (Classical.not_not.1 h1);exact IQ ah h
 .rintro rfl;rw [if_neg (by rw [ou.2 rfl];simp),IU]
def IV{a b:Atom}:vX a b=true↔a=b:=by
 unfold vX;rw [Bool.and_eq_true,Bool.and_eq_true,Bool.and_eq_true,decide_eq_true_eq,decide_eq_true_eq,decide_eq_true_eq,decide_eq_true_eq,mq,mq];constructor
 .rintro⟨⟨⟨h1,h2⟩,h3⟩,h4⟩;cases a;cases b;simp_all
 .rintro rfl;exact⟨⟨⟨rfl,rfl⟩,rfl⟩,rfl⟩
def xD{d:α}{l:List α}{G:α->Prop}:All l.length (λi=>G (l.getD i.toNat d))↔∀m∈l,G m:=by
 constructor
 .intro h m hm;obtain⟨i,a,rfl⟩:=getElem_of_mem hm;have:=h i ah ah;dsimp only at this;rw [show(i:Int).toNat=i from rfl,getD_lt a]at this;exact this
 .intro h i h1 h2;exact h _ (gu h1 h2)
def bV{n:Int}:aZ p n↔∀m∈p,∀k∈m.atoms,k<n:=by
 unfold aZ RQ;rw [xD (d:=default) (G:=λm:au=>All m.atoms.length (λi=>¬n<=m.atoms.getD i.toNat default))];refine forall_congr' λm=>forall_congr' λ_=> ?_
 rw [xD (d:=default) (G:=λk:Int=>¬n<=k)];exact forall_congr' λk=>forall_congr' λ_=>by omega
def nY{d:α}{R:α->α->Prop}(f:∀ {a b c},R a b->R b c->R a c){l:List α}:l.Pairwise R↔∀i:Int,0<i->i<l.length->R (l.getD (i-1).toNat d) (l.getD i.toNat d):=by
 rw [pairwise_iff_getElem];constructor
 .intro h i e h2;rw [getD_lt ah,getD_lt ah];exact h _ _ ah ah ah
 .intro h i j hi hj hij;obtain⟨n,rfl⟩:∃n,j=i+1+n:=⟨j-i-1,ah⟩
  clear hij
  induction n with
  | zero=>
   have:=h (i+1:Nat) ah ah;rw [show(((i+1:Nat):Int)-1).toNat=i by omega,show(((i+1:Nat):Int)).toNat=i+1 by omega,getD_lt hi,getD_lt ah]at this;exact this
  | succ n g=>
   have e:=g ah;have:=h (i+1+n+1:Nat) ah ah;rw [show(((i+1+n+1:Nat):Int)-1).toNat=i+1+n by omega,show(((i+1+n+1:Nat):Int)).toNat=i+1+n+1 by omega,getD_lt ah,getD_lt ah]at this;exact f e this
def Kh{l:List Int}:Srt l↔l.Pairwise (· <= ·):=by
 rw [nY (d:=default) (R:=λa b:Int=>a<=b) (λe c=>Int.le_trans e c)];unfold Srt;constructor
 .intro h i e c;have:=h (i-1) ah ah;dsimp only at this;rw [show i-1+1=i by omega]at this;exact this
 .intro h i e c;have:=h (i+1) ah ah;rw [show i+1-1=i by omega]at this;exact this
def BM{a b c:au}(e:lt a b)(d:lt b c):lt a c:=dG (le_of_lt e) d
def aok(l:List Int):Prop:=l.Pairwise (· <= ·)/\∀k∈l,0<=k/\k<=199
def oC:aV p↔Nf p/\p.length<=12/\∀m∈p,m.atoms.length<=4/\aok m.atoms:=by
 constructor
 .rintro⟨h1,h2,h3,h4⟩;have c:∀m∈p,mOk m:=xD (d:=default) (G:=mOk).1 (λi e a=>(h1 i e a).1);have f:∀m∈p,¬(0<m.atoms.length/\m.atoms.getD 0 default<0):=xD (d:=default) (G:=λm:au=>¬(0<m.atoms.length/\m.atoms.getD 0 default<0)).1 h4;refine⟨⟨(nY (d:=default) (R:=lt) BM).2 λi e a=>(h1 i ah a).2 e,λm hm=>(c m hm).1⟩,h2,λm hm=>⟨(c m hm).2.1,Kh.1 (c m hm).2.2,λk hk=>⟨?_,by have:=bV.1 h3 m hm k hk;omega⟩⟩⟩;have g:=Kh.1 (c m hm).2.2;have hn:=f m hm;cases ha:m.atoms with
  | nil=>rw [ha]at hk;exact absurd hk (by simp)
  | cons b l=>
   rw [ha]at hk g hn;simp at hn;rcases mem_cons.1 hk with rfl | hk
   .exact hn
   .have:=rel_of_pairwise_cons g hk;omega
 .rintro⟨h1,h2,h3⟩;refine⟨λi e a=>⟨⟨h1.co _ (gu e a),(h3 _ (gu e a)).1,Kh.2 (h3 _ (gu e a)).2.1⟩,λh=>(nY (d:=default) (R:=lt) BM).1 h1.ss i h a⟩,h2,bV.2 λm hm k hk=>by have:=((h3 m hm).2.2 k hk);omega,?_⟩;refine xD (d:=default) (G:=λm:au=>¬(0<m.atoms.length/\m.atoms.getD 0 default<0)).2 λm hm=> ?_
  rintro⟨e,a⟩;have:=(h3 m hm).2.2 _ (gu (i:=0) (d:=default) (xs:=m.atoms) ah ah);rw [show Int.toNat 0=0 from rfl]at this;omega
def abe{l:List au}{k:List Int}(h:cf l k≠0):∃m∈l,m.atoms=k:=Classical.byContradiction λa=>h (iG λm hm e=>a ⟨m,hm,e⟩)
def Nf.cf(h:Nf o){m:au}(hm:m∈o):cf o m.atoms=m.dI:=by
 induction o with
 | nil=>exact absurd hm (by simp)
 | cons a o c=>
  rw [bL];rcases mem_cons.1 hm with rfl | hm
  .rw [if_pos rfl,iG (λd b=>((rel_of_pairwise_cons h.ss b).ne).symm)];omega
  .rw [if_neg (rel_of_pairwise_cons h.ss hm).ne,c ⟨h.ss.tail,λm hm=>h.co m (by simp [hm])⟩ hm];omega
def Nf.from{o l:List au}(h:Nf o)(h2:∀k,F.cf o k=F.cf l k%65536){m:au}(hm:m∈o):∃a∈l,a.atoms=m.atoms:=by
 refine abe λe=> ?_
 have:=h2 m.atoms;rw [h.cf hm,e]at this;have:=h.co m hm;omega
def Nf.bnd(h:Nf o)(k:List Int):0<=F.cf o k/\F.cf o k<=65535:=by
 by_cases e:F.cf o k=0
 .omega
 .obtain⟨m,hm,rfl⟩:=abe e;rw [h.cf hm];have:=h.co m hm;omega
end Go.TX.F
namespace Go.TX.F
open Go Go.AE Go.TX List
def ajt(a b c:Int):Pn.F () (a,b,c,()) (λy=>y=(inB a b c,())):=by
 dsimp only [Pn,gm];simp (disch:=omega) only [RR];rfl
def aju(a:Int):O9.F () (a,()) (λy=>y=(inB a 0 65535,())):=by
 dsimp only [O9,gm];simp (disch:=omega) only [RR];refine congrArg (λb=>(b,())) ?_;rw [Bool.eq_iff_iff,dU,Bool.and_eq_true,decide_eq_true_eq,decide_eq_true_eq];omega
def abf(a:Int):a.tmod 65536=if 0<=a then a%65536 else- (-a%65536):=by
 split
 .rw [Int.tmod_eq_emod_of_nonneg ah]
 .have:=Int.neg_tmod (-a) 65536;rw [Int.neg_neg]at this;rw [this,Int.tmod_eq_emod_of_nonneg ah]
def ajv(a:Int):PU.F () (a,()) (λy=>y=(a%65536,())):=by
 dsimp only [PU,gm];simp only [aa5];by_cases h:0<=a
 .rw [show a.tmod 65536=a%65536 by rw [abf,if_pos h]];simp (disch:=omega) only [RR];refine⟨ah,λb=> ?_⟩;exfalso;omega
 .rw [show a.tmod 65536= - (-a%65536) by rw [abf,if_neg h]];simp (disch:=omega) only [RR];refine⟨ah,λb=> ?_,λb=> ?_⟩
  .rw [show-(-a%65536)+65536=a%65536 by omega]
  .rw [show-(-a%65536)=a%65536 by omega]
def abg(G:Int->Prop):∀n:Nat,∃r,Idx n G r
 | 0=>⟨-1,Or.inl ⟨rfl,All.zero⟩⟩
 | n+1=>by
  obtain⟨r,h⟩:=abg G n;rcases h with⟨b,a⟩ | ⟨b,a,d,c⟩
  .by_cases g:G n
   .exact⟨n,Or.inr ⟨ah,ah,g,a⟩⟩
   .exact⟨-1,Or.inl ⟨rfl,by have:=a.snoc g;exact this.le ah⟩⟩
  .exact⟨r,Or.inr ⟨b,ah,d,c⟩⟩
def RV(G:Int->Prop)(n:Nat):Idx n G (idxOf n G):=by
 obtain⟨r,h⟩:=abg G n;rw [<-h.eq];exact h
def je(t:List Atom)(a:Atom):Idx t.length (λi=>a=t.getD i.toNat default) (qb t a):=by
 have:=RV (λi=>vX a (t.getD i.toNat default)=true) t.length;simp only [IV]at this;unfold qb;simp only [IV];exact this
def xE{t:List Atom}:aH t↔All t.length (λi=>kY (t.getD i.toNat default) i/\All i (λj=>¬t.getD i.toNat default=t.getD j.toNat default))/\t.length<=200:=by
 unfold aH;refine and_congr ⟨λh i b a=>⟨(h i b a).1,?_⟩,λh i b a=>⟨(h i b a).1,?_⟩⟩ Iff.rfl
 .have:=je t (t.getD i.toNat default);rw [(h i b a).2]at this;rcases this with⟨c,_⟩ | ⟨_,_,_,g⟩
  .omega
  .exact g
 .exact((je t (t.getD i.toNat default)).uniq (Or.inr ⟨b,a,rfl,(h i b a).2⟩))
def ajw{p1 f1 p2 f2}(g:Y9 p1 f1)(i:Y10 p2 f2)(d a b:Int):
  PW.F (p2,f2,p1,f1,()) (d,a,b,()) (λy=>y=(wdo d a b,())):=by
 dsimp only [PW,gm];simp (disch:=omega) only [RR,g,i,Ka,RS,dU,oP];by_cases c:(0<=a/\a<=65535)/\(0<=b/\b<=65535)
 .have hm:0<=a*b/\a*b<=65535*65535:=⟨Int.mul_nonneg c.1.1 c.2.1,Int.mul_le_mul c.1.2 c.2.2 c.2.1 ah⟩;rw [w64 (x:=a+b) ah ah,w64 (x:=a-b) ah ah,w64 (x:=a*b) ah ah];unfold wdo;rw [if_pos c];refine⟨λh=>absurd h ah,λ_=>⟨λh=> ?_,λh=>⟨λj=> ?_,λj=>⟨λe=> ?_,λe=>⟨λk=> ?_,λk=>⟨λf=> ?_,λf=> ?_⟩⟩⟩⟩⟩⟩<;>(subst_vars;first | rfl | simp only [if_true,if_false, *])
 .refine⟨λh=> ?_,λh=>absurd h ?_⟩
  .unfold wdo;rw [if_neg c]
  .exact c
def xG{p:List au}{n m:Int}(h:aZ p n)(c:n<=m):aZ p m:=bV.2 λa b k hk=>by have:=bV.1 h a b k hk;omega
def Fu{a o:List Int}(h:o.Pairwise (· <= ·))(f:o.Perm a):o=wh a:=by
 refine Perm.eq_of_pairwise (le:=λx y:Int=>x<=y) (λa b _ _ e d=>Int.le_antisymm e d) h ?_ (f.trans (mergeSort_perm a _).symm);have:=pairwise_mergeSort (le:=λx y:Int=>decide (x<=y)) (λa b c e d=>by simp at*;omega) (λa b=>by simp;omega) a;exact this.imp (λh=>by simpa using h)
variable{p:List au}
def aV.nf(h:aV p):Nf p:=(oC.1 h).1
def aV.aok(h:aV p){m:au}(hm:m∈p):m.atoms.length<=4/\F.aok m.atoms:=(oC.1 h).2.2 m hm
end Go.TX.F
namespace Go.TX.F
open Go Go.AE Go.TX List
variable{l:List au}{n:Int}{t:List Atom}
def abh{m:au}(n:Int)(h:aok m.atoms):mulM m ⟨n,[]⟩=⟨m.dI*n%65536,m.atoms⟩:=by
 unfold mulM;rw [<-Fu (a:=m.atoms++ []) (o:=m.atoms) h.1 (by simp)]
def Wy(a:List au)(n:au):prods a [n]=a.map (λm=>mulM m n):=by
 induction a with
 | nil=>rfl
 | cons x a b=>simp only [prods,flatMap_cons,map_cons,map_nil]at b ⊢;rw [b];rfl
def dP:aV []:=oC.2 ⟨⟨Pairwise.nil,λm hm=>absurd hm (by simp)⟩,by simp,λm hm=>absurd hm (by simp)⟩
def wo(n:Int):aV (gU n):=by
 unfold gU;split
 .refine oC.2 ⟨⟨pairwise_singleton _ _,λm hm=> ?_⟩,by simp,λm hm=> ?_⟩
  .rw [mem_singleton]at hm;subst hm;assumption
  .rw [mem_singleton]at hm;subst hm;exact⟨by simp,Pairwise.nil,λk hk=>absurd hk (by simp)⟩
 .exact dP
def oU(n:Int):aV (fP n):=by
 unfold fP;split
 .refine oC.2 ⟨⟨pairwise_singleton _ _,λm hm=> ?_⟩,by simp,λm hm=> ?_⟩
  .rw [mem_singleton]at hm;subst hm;dsimp only;omega
  .rw [mem_singleton]at hm;subst hm;exact⟨by simp,pairwise_singleton _ _,λk hk=>by rw [mem_singleton]at hk;omega⟩
 .exact dP
def abj(l:List au):(Nf (nf l)/\∀k,cf (nf l) k=cf l k%65536)\/nf l=[]:=by
 by_cases a:∃o,Nf o/\∀k,cf o k=cf l k%65536
 .obtain⟨o,h1,h2⟩:=a;rw [Um h1 h2];exact Or.inl ⟨h1,h2⟩
 .right;unfold nf;rw [dif_neg a]
def abk(h:aZ l n):aZ (nf l) n:=by
 rcases abj l with⟨a,d⟩ | a
 .refine bV.2 λm hm k hk=> ?_
  obtain⟨e,c,b⟩:=a.from d hm;exact bV.1 h e c k (b▸hk)
 .rw [a];exact bV.2 λm hm=>absurd hm (by simp)
def jy(n:Int):aZ [] n:=bV.2 λm hm=>absurd hm (by simp)
def Un(l:List au):aV (uG l).2:=by
 unfold uG;by_cases h:aV (nf l)
 .rw [aR h];exact h
 .rw [bJ h];exact dP
def Fv(h:aZ l n):aZ (uG l).2 n:=by
 unfold uG;dsimp only;split
 .exact abk h
 .exact jy n
def Wz{a b:List au}(d:aZ a n)(c:aZ b n):aZ (a++b) n:=bV.2 λm hm k hk=>by
 rw [mem_append]at hm;rcases hm with hm | hm
 .exact bV.1 d m hm k hk
 .exact bV.1 c m hm k hk
def MQ{a b:List au}(e:aZ a n)(d:aZ b n):aZ (prods a b) n:=bV.2 λm hm k hk=>by
 unfold prods at hm;rw [mem_flatMap]at hm;obtain⟨x,f,hm⟩:=hm;rw [mem_map]at hm;obtain⟨y,c,rfl⟩:=hm;have:k∈x.atoms++y.atoms:=List.mem_mergeSort.1 hk;rw [mem_append]at this;rcases this with hk | hk
 .exact bV.1 e x f k hk
 .exact bV.1 d y c k hk
def Uo(a b:List au):aV (vZ a b).2:=by unfold vZ;split;exact Un _;exact dP
def aeV(a b:List au):aV (uH a b).2:=by unfold uH;split;exact Un _;exact dP
def Fw{a b:List au}(d:aZ a n)(c:aZ b n):aZ (vZ a b).2 n:=by unfold vZ;split;exact Fv (Wz d c);exact jy n
def Fx{a b:List au}(d:aZ a n)(c:aZ b n):aZ (uH a b).2 n:=by unfold uH;split;exact Fv (MQ d c);exact jy n
def wu(c n:Int):aZ (gU c) n:=bV.2 λm hm k hk=>by
 unfold gU at hm;split at hm
 .rw [mem_singleton]at hm;subst hm;exact absurd hk (by simp)
 .exact absurd hm (by simp)
def sS{k n:Int}(h:k<n):aZ (fP k) n:=bV.2 λm hm j a=>by
 unfold fP at hm;split at hm
 .rw [mem_singleton]at hm;subst hm;rw [mem_singleton]at a;omega
 .exact absurd hm (by simp)
def aH.sh(h:aH t):ShT t:=⟨by have:=h.2;omega,λa b=>by
 obtain⟨i,c,rfl⟩:=getElem_of_mem b;have:=(h.1 i ah ah).1;rw [show(i:Int).toNat=i from rfl,getD_lt c]at this;unfold kY at this;split at this
 .exact⟨this.2.1.sh,this.2.2.1.sh⟩
 .rw [ShA,this.1.1,this.1.2];exact⟨oQ,oQ⟩⟩
def Ao{a:Atom}(h:aH t)(q:t.length<200):aH (aQ t a).1/\t.length<=(aQ t a).1.length/\(aQ t a).1.length<=t.length+1/\(kY a t.length->0<=(aQ t a).2):=by
 have l:=je t a;unfold aQ;split
 .rename_i h3;exact⟨h,Nat.le_refl _,Nat.le_succ _,λ_=>h3⟩
 .rename_i h3;split
  .rename_i b;exact⟨h,Nat.le_refl _,Nat.le_succ _,λd=>by rcases b with b | b;exact absurd d b;omega⟩
  .rename_i b;have d:kY a t.length:=Classical.byContradiction λd=>b (Or.inl d)
   refine⟨xE.2 ⟨?_,by rw [length_append];simp only [length_cons,length_nil];omega⟩,by rw [length_append];exact Nat.le_add_right _ _,by rw [length_append];exact Nat.le_refl _,λ_=>by dsimp only;omega⟩;have p:((t++ [a]).length:Int)=t.length+1:=by rw [length_append];rfl
   have f:∀i:Int,0<=i->i<t.length->(t++ [a]).getD i.toNat default=t.getD i.toNat default:=λi k n=>by
    rw [getD_lt (show i.toNat< (t++ [a]).length by omega),getD_lt (show i.toNat<t.length by omega),getElem_append_left]
   have o:(t++ [a]).getD ((t.length:Int)).toNat default=a:=by
    rw [getD_lt (show((t.length:Int)).toNat< (t++ [a]).length by omega)];simp
   rw [p];intro i k n;dsimp only;by_cases m:i<t.length
   .rw [f i k m];have:=(xE.1 h).1 i k m;exact⟨this.1,λj c e=>by dsimp only;rw [f j c ah];exact this.2 j c e⟩
   .have:i=t.length:=by omega
    subst this;rw [o];refine⟨d,λj c e=> ?_⟩;dsimp only;rw [f j c e];rcases l with⟨_,g⟩ | ⟨g,_⟩
    .exact g j c e
    .exact absurd g h3
end Go.TX.F
namespace Go.TX.F
open Go Go.AE Go.TX List
def By(b:List Int):Prop:=∀z∈b,0<=z/\z<=255
structure Bt(b:List Int):Prop where
 len:b.length<=2000
 rng:By b
def By.at{b:List Int}(h:By b)(n:Nat):0<=b.getD n default/\b.getD n default<=255:=by
 by_cases a:n<b.length
 .rw [getD_lt a];exact h _ (getElem_mem _)
 .simp only [getD,getElem?_eq_none (by omega:b.length<=n)];decide
def ajx(b:List Int)(a:By b)(c:b.length<1000000000):O5.F () (b,()) (λy=>Bt y.1/\y.2.1=0):=by
 dsimp only [O5,gm];simp (disch:=omega) only [RR];refine⟨λh=>⟨ah,ah,ah,⟨?_,?_⟩⟩,λh=>⟨ah,a⟩⟩
 .rw [length_drop,length_take];omega
 .intro z hz;exact a z (mem_of_mem_take (mem_of_mem_drop hz))
def ajy{a b:Int}(g:0<=a)(d:a<4611686018427387904)(h:0<=b)(f:b<4611686018427387904):0<=dR .xor .i64 a b/\dR .xor .i64 a b<4611686018427387904:=by
 have e:((2^IntKind.i64.bits:Nat):Int)=18446744073709551616:=by decide
 have c:dR .xor .i64 a b=((a.toNat^^^b.toNat:Nat):Int):=by
  unfold dR;dsimp only;rw [BitVec.toNat_xor,BitVec.toNat_ofInt,BitVec.toNat_ofInt,e,show a%18446744073709551616=a by omega,show b%18446744073709551616=b by omega];have:=Nat.xor_lt_two_pow (show a.toNat<2^62 by omega) (show b.toNat<2^62 by omega);rw [w64 ah ah]
 rw [c];have:=Nat.xor_lt_two_pow (show a.toNat<2^62 by omega) (show b.toNat<2^62 by omega);omega
def Du{a b:Int}(h:0<=a):a.tmod b=a%b:=Int.tmod_eq_emod_of_nonneg h
def Uq{a b:Int}(h:0<=a):a.tdiv b=a/b:=Int.tdiv_eq_ediv_of_nonneg h
def Pk(n:Int)(b:List Int)(p:Int)(y:yw):Prop:=y.2.1=b/\y.2.2.1=p+1/\0<=y.1/\(y.1<n\/y.1=0)
def ajz(n:Int)(b:List Int)(p:Int)(c:Bt b)(f:0<=p)(x:p<1000000000):O6.F () (n,b,p,()) (λy=>Pk n b p y):=by
 have z:=c.1;have d:∀k:Nat,IntKind.i64.wrap (b.getD k default)=b.getD k default:=λk=>by have:=c.2.at k;exact w64 ah ah
 dsimp only [O6,gm];simp (disch:=omega) only [RR,d];refine⟨λh=>⟨rfl,rfl,ah,Or.inr rfl⟩,λ⟨A,e⟩=> ?_⟩;have r:p+1-1=p:=by omega
 rw [r];refine⟨λh=>⟨ah,ah,ah,?_⟩,λh=> ?_⟩
 .have:=c.2.at p.toNat;rw [Du this.1];exact⟨rfl,rfl,Int.emod_nonneg _ ah,Or.inl (Int.emod_lt_of_pos _ ah)⟩
 .have hb0:(0:Int)<b.length:=by omega
  have i:=Int.emod_nonneg p (show(b.length:Int)≠0 by omega);have o:=Int.emod_lt_of_pos p hb0;have k3:=Int.emod_nonneg (p*7+3) (show(b.length:Int)≠0 by omega);have s:=Int.emod_lt_of_pos (p*7+3) hb0;have l:0<=p/b.length:=Int.ediv_nonneg f ah;have m:p/b.length<=p:=Int.ediv_le_self _ f;simp (disch:=omega) only [w64,Du,Uq];have j:=c.2.at (p%b.length).toNat;have t:=c.2.at ((p*7+3)%b.length).toNat;generalize (b.getD (p%b.length).toNat default)=u at j ⊢;generalize (b.getD ((p*7+3)%b.length).toNat default)=v at t ⊢;generalize p/b.length=w at l m ⊢;simp (disch:=omega) only [w64,Du,Uq];have q:=ajy (a:=u*131+v*1117+p*29+w*53) (b:=(u*131+v*1117+p*29+w*53)/64) ah ah ah ah;rw [RS];generalize dR .xor .i64 (u*131+v*1117+p*29+w*53) ((u*131+v*1117+p*29+w*53)/64)=g at q ⊢;rw [Du q.1];exact⟨e,i,o,e,k3,s,e,ah,ah,rfl,rfl,Int.emod_nonneg _ ah,Or.inl (Int.emod_lt_of_pos _ ah)⟩
abbrev Y38(c:yw->Bool)(a:yw->yw):Prop:=∀n b p,Bt b->0<=p->p<1000000000->c (n,b,p,())=true/\Pk n b p (a (n,b,p,()))
def ajA{p1 f1}(a:Y38 p1 f1)(n:Int)(b:List Int)(p:Int)(e:Bt b)(d:0<=p)(c:p<1000000000):O7.F (p1,f1,()) (n,b,p,()) (λy=>y.2.1=b/\y.2.2.1=p+1):=by
 obtain⟨f,g,_⟩:=(a n b p e d c).2;dsimp only [O7,gm];simp (disch:=omega) only [RR,(a n b p e d c).1,f,g]
def Wd(b:List Int)(p:Int)(y:yw):Prop:=y.2.1=b/\p<=y.2.2.1/\y.2.2.1<=p+3/\(0<=y.1/\y.1<=65535)
def ajB{p1 f1}(c:Y38 p1 f1)(b:List Int)(p:Int)(a:Bt b)(e:0<=p)(v:p<900000000):Ph.F (p1,f1,()) (b,p,()) (λy=>Wd b p y):=by
 obtain⟨r,j,D,E⟩:=(c 4 b p a e ah).2;have m:∀n,p1 (n,b,p+1,())=true:=λn=>(c n b (p+1) a ah ah).1
 have o:∀n,p1 (n,b,p+1+1,())=true:=λn=>(c n b (p+1+1) a ah ah).1
 obtain⟨s,t,i,x⟩:=(c 9 b (p+1) a ah ah).2;obtain⟨g,q,w,B⟩:=(c 70 b (p+1) a ah ah).2;obtain⟨k,l,A,F⟩:=(c 256 b (p+1) a ah ah).2;obtain⟨h,f,u,C⟩:=(c 256 b (p+1+1) a ah ah).2;dsimp only [Ph,gm];simp (disch:=omega) only [RR,(c 4 b p a e ah).1,m,o,r,j,s,t,g,q,k,l,h,f,length_cons,length_nil];refine⟨λ_=>⟨ah,ah,ah,ah,rfl,by dsimp only;omega,by dsimp only;omega,?_⟩,λ_=>⟨λ_=>⟨rfl,by dsimp only;omega,by dsimp only;omega,by dsimp only;omega⟩,λ_=>⟨rfl,by dsimp only;omega,by dsimp only;omega,?_⟩⟩⟩
 .dsimp only;have:=gu (d:=default) (xs:=[(0:Int),1,2,3,65535,32768,255,256,65534]) i (by simp only [length_cons,length_nil];omega);generalize getD [(0:Int),1,2,3,65535,32768,255,256,65534] _ default=z at this ⊢;simp at this;omega
 .dsimp only;omega
abbrev Y39(c:yw->Bool)(a:yw->Bool×fE):Prop:=∀n b p,Bt b->0<=p->p<1000000000->c (n,b,p,())=true/\(a (n,b,p,())).2.1=b/\(a (n,b,p,())).2.2.1=p+1
abbrev Y40(c:fE->Bool)(a:fE->yw):Prop:=∀b p,Bt b->0<=p->p<900000000->c (b,p,())=true/\Wd b p (a (b,p,()))
abbrev Y41(c:eu->Bool)(a:eu->fE):Prop:=∀b,By b->b.length<1000000000->c (b,())=true/\Bt (a (b,())).1/\(a (b,())).2.1=0
variable{t:List Atom}{x:List au}
def Ur{l o:List au}(h:aV o)(a:∀k,cf o k=cf l k%65536):uG l=(true,o):=by
 unfold uG;rw [Um h.nf a,aR h,if_pos rfl]
def RX(m:au)(a b:List au):prods (m::a) b=b.map (mulM m)++prods a b:=by simp [prods]
def Fy{a:Atom}(h:aH t)(d:0<=(aQ t a).2):aH (aQ t a).1/\t.length<=(aQ t a).1.length/\aQ (aQ t a).1 a=aQ t a:=by
 have b:=je t a;by_cases c:0<=qb t a
 .have e:aQ t a=(t,qb t a):=by unfold aQ;rw [if_pos c]
  rw [e];exact⟨h,Nat.le_refl _,e⟩
 .by_cases c2:¬kY a t.length\/t.length=200
  .have e:aQ t a=(t, -1):=by unfold aQ;rw [if_neg c,if_pos c2]
   rw [e]at d;exact absurd d ah
  .have e:aQ t a=(t++ [a],(t.length:Int)):=by unfold aQ;rw [if_neg c,if_neg c2]
   have o:t.length<200:=by have:=h.2;omega
   have ok:=Ao (a:=a) h o;refine⟨ok.1,ok.2.1,?_⟩;rw [e];have n:∀i:Int,0<=i->i<t.length->(t++ [a]).getD i.toNat default=t.getD i.toNat default:=λi q p=>by
    rw [getD_lt (show i.toNat< (t++ [a]).length by rw [length_append];omega),getD_lt (show i.toNat<t.length by omega),getElem_append_left]
   have m:(t++ [a]).getD ((t.length:Int)).toNat default=a:=by
    rw [getD_lt (show((t.length:Int)).toNat< (t++ [a]).length by rw [length_append];simp)];simp
   have f:qb (t++ [a]) a=t.length:=by
    refine(je (t++ [a]) a).uniq (Or.inr ⟨ah,by rw [length_append];simp only [length_cons,length_nil];omega,by dsimp only;rw [m],λj k l=> ?_⟩);dsimp only;rw [n j k l];rcases b with⟨_,g⟩ | ⟨g,_⟩
    .exact g j k l
    .exact absurd g c
   show aQ (t++ [a]) a=_;unfold aQ;rw [f,if_pos ah]
def WA{b:Int}{x y:List au}(h:aH t)(f:(tDo t b x y).1≠ []):aH (tDo t b x y).1/\t.length<=(tDo t b x y).1.length/\tDo (tDo t b x y).1 b x y=tDo t b x y:=by
 by_cases c:(iU b x y).2=true
 .have e:∀t,tDo t b x y=(t,(iU b x y).1):=λt=>by unfold tDo;rw [if_pos c]
  rw [e t];exact⟨h,Nat.le_refl _,e t⟩
 .by_cases c2:b≠2/\0<nu x y
  .have e:∀t,tDo t b x y=if(aQ t ⟨4,b,y,x⟩).2<0 then([],[])else((aQ t ⟨4,b,y,x⟩).1,fP (aQ t ⟨4,b,y,x⟩).2):=λt=>by unfold tDo;rw [if_neg c,if_pos c2]
   rw [e t]at f ⊢;by_cases d:(aQ t ⟨4,b,y,x⟩).2<0
   .rw [if_pos d]at f;exact absurd rfl f
   .rw [if_neg d];obtain⟨i,g,j⟩:=Fy (a:=⟨4,b,y,x⟩) h ah;refine⟨i,g,?_⟩;rw [e,j,if_neg d]
  .have e:∀t,tDo t b x y=if(aQ t ⟨4,b,x,y⟩).2<0 then([],[])else((aQ t ⟨4,b,x,y⟩).1,fP (aQ t ⟨4,b,x,y⟩).2):=λt=>by unfold tDo;rw [if_neg c,if_neg c2]
   rw [e t]at f ⊢;by_cases d:(aQ t ⟨4,b,x,y⟩).2<0
   .rw [if_pos d]at f;exact absurd rfl f
   .rw [if_neg d];obtain⟨i,g,j⟩:=Fy (a:=⟨4,b,x,y⟩) h ah;refine⟨i,g,?_⟩;rw [e,j,if_neg d]
def Fz(h:aV x):aV (kZ x 65535)/\∀k,cf (kZ x 65535) k=(65535*cf x k)%65536:=by
 have hc:∀(l:List au) k,cf (l.map λm=>(⟨m.dI*65535%65536,m.atoms⟩:au)) k%65536=(65535*cf l k)%65536:=λl k=>by
  induction l with
  | nil=>rfl
  | cons m l b=>rw [map_cons,bL,bL];dsimp only;split<;>omega
 have no:Nf (x.map λm=>(⟨m.dI*65535%65536,m.atoms⟩:au)):=⟨by
  rw [pairwise_map];exact h.nf.ss,λm hm=>by
  rw [mem_map]at hm;obtain⟨n,hn,rfl⟩:=hm;have:=h.nf.co n hn;dsimp only;omega⟩
 have ok:aV (x.map λm=>(⟨m.dI*65535%65536,m.atoms⟩:au)):=oC.2 ⟨no,by rw [length_map];exact h.len,λm hm=>by
  rw [mem_map]at hm;obtain⟨n,hn,rfl⟩:=hm;exact show n.atoms.length<=4/\aok n.atoms from h.aok hn⟩
 have a:prods x (gU 65535)=x.map λm=>(⟨m.dI*65535%65536,m.atoms⟩:au):=by
  unfold gU;rw [if_pos ah,Wy];exact map_congr_left λm hm=>abh 65535 (h.aok hm).2
 have e:kZ x 65535=x.map λm=>(⟨m.dI*65535%65536,m.atoms⟩:au):=by
  unfold kZ uH;rw [if_pos (by rw [aR h];rfl),if_pos (by rw [aR h,aR (wo _)];rfl),a,Ur ok (λk=>by have:=no.bnd k;omega)]
 rw [e];exact⟨ok,λk=>by rw [<-hc];have:=no.bnd k;omega⟩
def sub_self(h:aV x):iU 2 x x=([],true):=by
 obtain⟨b,a⟩:=Fz h;unfold iU vZ;rw [if_neg ah,if_pos rfl,if_pos (by rw [aR h,aR b];rfl),Ur dP (λk=>by rw [rG,a,qF];omega)]
def sU(h:(dB x).2=true):aV x/\x=gU (dB x).1/\0<=(dB x).1/\(dB x).1<=65535:=by
 unfold dB at h ⊢;by_cases c:aV x
 .rw [aR c,if_pos rfl]at h ⊢;refine⟨c,?_⟩;by_cases b:x.length=0
  .rw [if_pos b];exact⟨by rw [eq_nil_of_length_eq_zero b];rfl,ah,ah⟩
  .rw [if_neg b]at h ⊢;by_cases a:x.length=1/\(x.getD 0 default).atoms.length=0
   .rw [if_pos a]
    match x,c,a with
    | [m],c,a=>
     have hc:=c.nf.co m (by simp);have d:m.atoms=[]:=eq_nil_of_length_eq_zero a.2;refine⟨?_,by show 0<=m.dI;omega,by show m.dI<=65535;omega⟩;show [m]=gU m.dI;unfold gU;rw [if_pos hc,<-d]
   .rw [if_neg a]at h;exact absurd h (by simp)
 .rw [bJ c]at h;exact absurd h (by simp)
def IW{a:Int}(b:0<=a)(c:a<=65535):dR .and .i64 a a=a:=by
 unfold dR;dsimp only;have e:((2^IntKind.i64.bits:Nat):Int)=18446744073709551616:=by decide
 rw [BitVec.and_self,BitVec.toNat_ofInt,e,w64 ah ah];omega
def WB(a:Int):dR .xor .i64 a a=0:=by
 unfold dR;dsimp only;rw [BitVec.xor_self];rfl
def IX(a:Int):dR .and .i64 a 0=0:=by
 unfold dR;dsimp only;rw [show BitVec.ofInt IntKind.i64.bits 0=0#IntKind.i64.bits by rfl,BitVec.and_zero];rfl
end Go.TX.F
namespace Go.TX.F
open Go Go.AE Go.TX List
abbrev Y47(b:Unit->Bool)(a:Unit->fA):Prop:=b ()=true/\a ()=(true,())
variable{d:List Int}
def Us{i j x:Int}(b:0<=i)(a:i<d.length)(c:0<=j):((d.set i.toNat x).getD (j).toNat default)=if j=i then x else((d).getD (j).toNat default):=by
 simp only [getD];by_cases h:j=i
 .subst h;rw [if_pos rfl,getElem?_set_self ah];rfl
 .rw [if_neg h,getElem?_set_ne ah]
def WE{i j:Int}(e:0<=i)(b:i<d.length)(g:0<=j)(c:j<d.length)(f:i≠j):((d.set i.toNat ((d).getD (j).toNat default)).set j.toNat ((d).getD (i).toNat default)).Perm d:=by
 rw [perm_iff_count];intro x;rw [getD_lt (show i.toNat<d.length by omega),getD_lt (show j.toNat<d.length by omega),count_set (by simp;omega),count_set ah,getElem_set_ne ah];have a:(if d[i.toNat]==x then 1 else 0)<=List.count x d:=by
  split
  .rename_i h;exact List.count_pos_iff.2 (by rw [<-eq_of_beq h];exact getElem_mem _)
  .omega
 split<;>split<;>simp_all<;>omega
def ajC{p f}(U:Y5 p f)(a b:Int)(d:List Int)(hd:d.length<1000000000)(u:a=0)(x:b=d.length):
  Q7.F (p,f,()) (a,b,d,()) (λy=>y.1=wh d):=by
 subst u;dsimp only [Q7,gm];simp (disch:=omega) only [RR];have fin:∀e:List Int,e.Perm d->(∀q:Int,1<=q->q<e.length->((e).getD (q-1).toNat default)<=((e).getD (q).toNat default))->e=wh d:=λe m l=>
  Fu ((nY (d:=default) (R:=λa b:Int=>a<=b) (λu x=>Int.le_trans u x)).2 l) m
 refine ay (λ(y:Int×H6)=>y.1=0/\y.2.1=b/\1<=y.2.2.1/\(y.2.2.1<=b\/y.2.2.1=1)/\y.2.2.2.1.Perm d/\∀q,1<=q->q<y.2.2.1->((y.2.2.2.1).getD (q-1).toNat default)<=((y.2.2.2.1).getD (q).toNat default)) (λy=>(b-y.2.2.1).toNat)
  ⟨rfl,rfl,by simp,Or.inr rfl,Perm.refl d,λq m l=>by dsimp only at l;omega⟩ ?_
 rintro⟨(M:Int),(E:Int),(i:Int),(e:List Int),⟨⟩⟩ hI;dsimp only at hI ⊢;obtain⟨rfl,rfl,L,N,v,z⟩:=hI;have J:=v.length_eq;simp (disch:=omega) only [RR];refine⟨λI=> ?_,λI=>fin e v λq m l=>z q m ah⟩
 refine ay (λ(y:Int×Int×H6)=>y.1=0/\y.2.1=E/\y.2.2.1=i/\0<=y.2.2.2.1/\y.2.2.2.1<=i/\y.2.2.2.2.1.Perm d
   /\(∀q,1<=q->q<=i->q≠y.2.2.2.1->((y.2.2.2.2.1).getD (q-1).toNat default)<=((y.2.2.2.2.1).getD (q).toNat default))/\(1<=y.2.2.2.1->y.2.2.2.1+1<=i->((y.2.2.2.2.1).getD (y.2.2.2.1-1).toNat default)<=((y.2.2.2.2.1).getD (y.2.2.2.1+1).toNat default))) (λy=>y.2.2.2.1.toNat)
  ⟨rfl,rfl,rfl,by simp;omega,by simp,v,λq m l K=>z q m (by dsimp only at K;omega),λm l=>by dsimp only at l;omega⟩ ?_
 rintro⟨(D:Int),(C:Int),(O:Int),(j:Int),(r:List Int),⟨⟩⟩ hI;dsimp only at hI ⊢;obtain⟨rfl,rfl,rfl,F,G,o,n,t⟩:=hI;have B:=o.length_eq;simp (disch:=omega) only [RR,length_set,U]
 repeat' (refine And.intro ?_ ?_)
 all_goals try omega
 .intro ⟨m,l⟩;have h:∀k,0<=k->(((r.set j.toNat ((r).getD (j-1).toNat default)).set (j-1).toNat ((r).getD (j).toNat default)).getD (k).toNat default)=if k=j-1 then((r).getD (j).toNat default)else if k=j then((r).getD (j-1).toNat default)else((r).getD (k).toNat default):=λk hk=>by
   rw [Us ah (by simp;omega) hk,Us ah ah hk]
  repeat' (refine And.intro ?_ ?_)
  all_goals try omega
  .exact(WE ah ah ah ah ah).trans o
  .intro q s w k3;rw [h _ ah,h _ ah];by_cases A:q=j
   .subst A;rw [if_pos rfl,if_neg ah,if_pos rfl];omega
   .rw [if_neg ah];by_cases H:q=j+1
    .subst H;rw [if_pos ah,if_neg ah,if_neg ah];exact t ah ah
    .rw [if_neg ah,if_neg ah,if_neg ah];exact n q s w A
  .intro s w;rw [h _ ah,h _ ah,if_neg ah,if_neg ah,if_neg ah,if_pos ah];have:=n (j-1) ah ah ah;exact this
 .intro g;refine⟨⟨ah,ah,o,λq s w=> ?_⟩,ah⟩;by_cases c:q=j
  .subst c;rw [Bool.and_eq_false_iff,decide_eq_false_iff_not,decide_eq_false_iff_not]at g;omega
  .exact n q s ah c
def ajD{j:H6->Bool}{i:H6->eu}{p:oz->Bool}{f:oz->fA}(l:∀(a b:Int) (d:List Int),d.length<1000000000->a=0->b=d.length->j (a,b,d,())=true/\(i (a,b,d,())).1=wh d)(p2 p3 f2 f3 p4 f4 p5 f5 p6 f6 p7 f7 p8 f8 p9 f9)(a b k:Int)(d:List Int)(hd:d.length<=12)(m:a=0)(c:b=d.length):
  Q8.F (p,f,j,i,p2,f2,p3,f3,p4,f4,p5,f5,p6,f6,p7,f7,p8,f8,p9,f9,()) (a,b,k,d,()) (λy=>y.1=wh d):=by
 subst m;dsimp only [Q8,gm];simp (disch:=omega) only [RR];refine ay (λ(y:Int×Int×Int×Bool×Bool×eu)=>y.1=0/\y.2.1=b/\y.2.2.2.2.2.1=d) (λy=>0) ⟨rfl,rfl,rfl⟩ ?_;rintro⟨(n:Int),(g:Int),(o:Int),(u:Bool),(v:Bool),(e:List Int),⟨⟩⟩ hI;dsimp only at hI ⊢;obtain⟨rfl,rfl,rfl⟩:=hI;simp (disch:=omega) only [RR];exact⟨λ_=>⟨(l 0 g e ah rfl c).1,(l 0 g e ah rfl c).2⟩,λh=>absurd h ah⟩
def ajE{c:Int×H6->Bool}{f:Int×H6->eu}{h:eB->Bool}{i:eB->eB}(g:∀(a b k:Int) (d:List Int),d.length<=12->a=0->b=d.length->c (a,b,k,d,())=true/\(f (a,b,k,d,())).1=wh d)(j:∀n,0<=n->n<=18446744073709551615->h (n,())=true)(a:List Int)(l:a.length<=8):
  Q9.F (c,f,h,i,()) (a,()) (λy=>y=(wh a,())):=by
 dsimp only [Q9,gm];have e:IntKind.u64.wrap (a.length:Int)=(a.length:Int):=IntWalk.u64_in _ ah;refine⟨?_,(g _ _ _ _ ah rfl rfl).1,by rw [(g _ _ _ _ ah rfl rfl).2]⟩;rw [e];exact j _ ah ah
end Go.TX.F
namespace Go.TX.F
open Go Go.AE Go.TX List
variable{l:List Int}
def wOK(l:List Int):Prop:=∀z∈l,0<=z/\z<=65535
def wOK.at(h:wOK l)(n:Nat):0<=l.getD n default/\l.getD n default<=65535:=by
 by_cases hn:n<l.length
 .rw [getD_lt hn];exact h _ (getElem_mem _)
 .rw [getD,getElem?_eq_none ah];decide
def jI(v:List Int)(k:Int):Int:=if k<v.length then((v).getD (k).toNat default)else 0
def Ap{v:List Int}(h:wOK v)(k:Int):0<=jI v k/\jI v k<=65535:=by
 unfold jI;split
 .exact h.at _
 .omega
def evM(v:List Int)(c:Int)(l:List Int):Int:=l.foldl (λc k=>c*jI v k%65536) c
def evF(v:List Int)(p:List au):Int:=p.foldl (λs m=>(s+evM v m.dI m.atoms)%65536) 0
def ajF{p1 f1}(e:Y9 p1 f1)(a:List Int)(h:a.length<1000000000):
  Qj.F (p1,f1,()) (a,()) (λy=>y=(bp (wOK a),())):=by
 dsimp only [Qj,gm];simp (disch:=omega) only [RR];refine ay (λ(y:List Int×oz)=>y.1=a/\y.2.1=a.length/\0<=y.2.2.1/\y.2.2.1<=a.length/\All y.2.2.1 (λi=>0<=((a).getD (i).toNat default)/\((a).getD (i).toNat default)<=65535)) (λy=>(a.length-y.2.2.1).toNat) ⟨rfl,rfl,by simp,by simp,All.zero⟩ ?_;rintro⟨(l:List Int),(n:Int),(i:Int),⟨⟩⟩ hI;dsimp only at hI ⊢;obtain⟨rfl,rfl,k,j,c⟩:=hI;simp (disch:=omega) only [RR,e];refine⟨λf=>⟨ah,ah,λb=> ?_,λb=>⟨⟨ah,ah,c.snoc ?_⟩,ah⟩⟩,λf=> ?_⟩
 .rw [oP]at b;rw [bJ λg=>b (g.at _)]
 .rw [dU]at b;exact b
 .rw [aR];exact xD (d:=default) (G:=λz:Int=>0<=z/\z<=65535).1 (c.le ah)
def Ki(v:List Int)(p:List au):0<=evF v p/\evF v p<=65535:=by
 unfold evF;have:∀(p:List au) (s:Int),0<=s/\s<=65535->0<=p.foldl (λs m=>(s+evM v m.dI m.atoms)%65536) s/\p.foldl (λs m=>(s+evM v m.dI m.atoms)%65536) s<=65535:=by
  intro p
  induction p with
  | nil=>exact λs h=>h
  | cons m p a=>exact λs h=>a _ (by dsimp only;omega)
 exact this p 0 ah
def aVal(regs b ins out:List Int)(a:Atom):Int:=
 if a.kind=1 then jI regs a.k else if a.kind=2 then jI b a.k else if a.kind=3 then jI ins a.k else wdo a.k (evF out a.x) (evF out a.y)
def tv(regs b ins:List Int)(t:List Atom):List Int:=t.foldl (λo a=>o++ [aVal regs b ins o a]) []
def abl{regs b ins:List Int}(d:wOK regs)(c:wOK b)(e:wOK ins)(out:List Int)(a:Atom):0<=aVal regs b ins out a/\aVal regs b ins out a<=65535:=by
 unfold aVal
 repeat' split
 .exact Ap d _
 .exact Ap c _
 .exact Ap e _
 .exact Am _ _ _
def wOK.snoc(h:wOK l){x:Int}(b:0<=x/\x<=65535):wOK (l++ [x]):=λz a=>by
 rw [mem_append,mem_singleton]at a;rcases a with a | rfl
 .exact h z a
 .exact b
def Kj(regs b ins:List Int)(t:List Atom)(a:Atom):tv regs b ins (t++ [a])=tv regs b ins t++ [aVal regs b ins (tv regs b ins t) a]:=by
 unfold tv;rw [foldl_append];rfl
def abm(regs b ins:List Int)(t:List Atom):(tv regs b ins t).length=t.length:=by
 suffices h:∀(t:List Atom) (o:List Int),(t.foldl (λo a=>o++ [aVal regs b ins o a]) o).length=o.length+t.length by
  have:=h t [];rw [length_nil,Nat.zero_add]at this;exact this
 intro t
 induction t with
 | nil=>exact λo=>rfl
 | cons a t c=>exact λo=>by rw [foldl_cons,c,length_append,length_cons,length_cons,length_nil];omega
def agH{regs b ins:List Int}(e:wOK regs)(d:wOK b)(f:wOK ins)(t:List Atom):wOK (tv regs b ins t):=by
 suffices h:∀(t:List Atom) (o:List Int),wOK o->wOK (t.foldl (λo a=>o++ [aVal regs b ins o a]) o)from h t [] (λz g=>by cases g)
 intro t
 induction t with
 | nil=>exact λo h=>h
 | cons a t c=>exact λo h=>c _ (h.snoc (abl e d f _ _))
def ajG{p1 f1}(e:Y40 p1 f1)(n:Int)(b:List Int)(p:Int)(d:Bt b)(hn:0<=n/\n<=100)(r:0<=p)(m:p<800000000):PE.F (p1,f1,()) (n,b,p,()) (λ(y:vw)=>y.1=b/\p<=y.2.1/\y.2.1<=p+300/\y.2.2.1.length=n/\wOK y.2.2.1):=by
 dsimp only [PE,gm];simp (disch:=omega) only [RR];refine ay (λ(y:Int×Int×vw)=>y.1=n/\0<=y.2.1/\y.2.1<=n/\y.2.2.1=b/\p<=y.2.2.2.1/\y.2.2.2.1<=p+3*y.2.1/\y.2.2.2.2.1.length=y.2.1/\wOK y.2.2.2.2.1) (λy=>(n-y.2.1).toNat) ⟨rfl,by simp,by simp;omega,rfl,by simp,by simp,rfl,λz f=>(by cases f)⟩ ?_;rintro⟨(l:Int),(k:Int),(c:List Int),(q:Int),(o:List Int),⟨⟩⟩ hI;dsimp only at hI ⊢;obtain⟨rfl,j,u,rfl,k3,w,s,a⟩:=hI;obtain⟨i,v,t,g⟩:=(e c q d ah ah).2;simp (disch:=omega) only [RR,(e c q d ah ah).1,length_append,length_cons,length_nil];exact⟨λh=>⟨ah,⟨ah,ah,i,ah,ah,ah,a.snoc g⟩,ah⟩,λh=>⟨ah,ah,ah,a⟩⟩
end Go.TX.F
namespace Go.TX.F
open Go Go.AE Go.TX List
variable{a:Int}{k:Int}{t:List Atom}
def prA(v:List Int)(l:List Int):Int:=l.foldr (λk c=>jI v k*c) 1
def evS(v:List Int)(p:List au):Int:=(p.map λm=>m.dI*prA v m.atoms).sum
theorem jf(v:List Int)(k:Int)(l:List Int):prA v (k::l)=jI v k*prA v l:=rfl
def FB(v:List Int):∀a b:List Int,prA v (a++b)=prA v a*prA v b
 | [],b=>by show prA v b=1*_;rw [Int.one_mul]
 | k::a,b=>by rw [cons_append,jf,jf,FB v a b,Int.mul_assoc]
def abn(v:List Int){a b:List Int}(h:a.Perm b):prA v a=prA v b:=by
 induction h with
 | nil=>rfl
 | cons x _ c=>rw [jf,jf,c]
 | swap x y l=>rw [jf,jf,jf,jf,Int.mul_left_comm]
 | trans _ _ e d=>exact e.trans d
def jL(v:List Int)(m:au)(p:List au):evS v (m::p)=m.dI*prA v m.atoms+evS v p:=by simp [evS]
def zk(v:List Int)(a b:List au):evS v (a++b)=evS v a+evS v b:=by simp [evS]
theorem Ut(v:List Int):evS v []=0:=rfl
def abo(v:List Int):∀(l:List Int) (c:Int),evM v c l%65536=c*prA v l%65536
 | [],c=>by show c%65536=c*1%65536;rw [Int.mul_one]
 | k::l,c=>by
  show evM v (c*jI v k%65536) l%65536=_;rw [abo v l,jf,<-Int.mul_assoc,Int.mul_emod,Int.emod_emod_of_dvd _ (Int.dvd_refl _),<-Int.mul_emod]
def sV(v:List Int)(p:List au):evF v p=evS v p%65536:=by
 have:∀(p:List au) (s:Int),p.foldl (λs m=>(s+evM v m.dI m.atoms)%65536) s%65536=(s+evS v p)%65536:=by
  intro p
  induction p with
  | nil=>intro s;show s%65536=(s+0)%65536;rw [Int.add_zero]
  | cons m p a=>
   intro s;rw [foldl_cons,a,jL];have h:=abo v m.atoms m.dI;omega
 have h:=this p 0;have r:=Ki v p;unfold evF at r ⊢;rw [Int.zero_add]at h;omega
def IY(v:List Int)(k:List Int):∀l:List au,evS v l=cf l k*prA v k+evS v (l.filter λm=>decide (m.atoms≠k))
 | []=>by rw [qF,Int.zero_mul];rfl
 | m::l=>by
  have a:=IY v k l;rw [jL,bL];by_cases h:m.atoms=k
  .rw [if_pos h,filter_cons_of_neg (by simp [h]),a,Int.add_mul,h];omega
  .rw [if_neg h,filter_cons_of_pos (by simp [h]),jL,a,Int.zero_add];omega
def IZ(k j:List Int):∀l:List au,cf (l.filter λm=>decide (m.atoms≠k)) j=if j=k then 0 else cf l j
 | []=>by rw [filter_nil,qF];split<;>rfl
 | m::l=>by
  have b:=IZ k j l;by_cases h:m.atoms=k
  .rw [filter_cons_of_neg (by simp [h]),b,bL];by_cases a:j=k
   .rw [if_pos a,if_pos a]
   .rw [if_neg a,if_neg a,if_neg (by rw [h];exact λe=>a e.symm)];omega
  .rw [filter_cons_of_pos (by simp [h]),bL,b,bL];by_cases a:j=k
   .rw [if_pos a,if_pos a,if_neg (by rw [a];exact h)];rfl
   .rw [if_neg a,if_neg a]
def MR(v:List Int):∀(n:Nat) (l:List au),l.length<=n->(∀k,cf l k%65536=0)->evS v l%65536=0
 | 0,[],_,_=>rfl
 | n+1,[],_,_=>rfl
 | n+1,m::l,hl,h=>by
  have b:=IY v m.atoms (m::l);have a:((m::l).filter λx=>decide (x.atoms≠m.atoms)).length<=n:=by
   rw [filter_cons_of_neg (by simp)];have:=length_filter_le (λx:au=>decide (x.atoms≠m.atoms)) l;simp only [length_cons]at hl;omega
  have c:=MR v n _ a (λk=>by
   rw [IZ];split
   .rfl
   .exact h k)
  have e:=h m.atoms;have d:cf (m::l) m.atoms*prA v m.atoms%65536=0:=by rw [Int.mul_emod,e,Int.zero_mul];rfl
  rw [b];omega
def negL(l:List au):List au:=l.map λm=>⟨-m.dI,m.atoms⟩
def RY(k:List Int):∀l:List au,cf (negL l) k= -cf l k
 | []=>rfl
 | m::l=>by
  have a:=RY k l;show cf (⟨-m.dI,m.atoms⟩::negL l) k=_;rw [bL,bL,a];dsimp only;split<;>omega
def Kk(v:List Int):∀l:List au,evS v (negL l)= -evS v l
 | []=>rfl
 | m::l=>by
  have a:=Kk v l;show evS v (⟨-m.dI,m.atoms⟩::negL l)=_;rw [jL,jL,a];dsimp only;rw [Int.neg_mul];omega
def I5(v:List Int){a b:List au}(h:∀k,cf a k%65536=cf b k%65536):evS v a%65536=evS v b%65536:=by
 have c:=MR v _ (a++negL b) (Nat.le_refl _) (λk=>by rw [rG,RY];have:=h k;omega);rw [zk,Kk]at c;omega
def ins(c:Int)(a:List Int):List au->List au
 | []=>if c%65536=0 then []else [⟨c%65536,a⟩]
 | m::o=>if gT a m.atoms<0 then(if c%65536=0 then m::o else⟨c%65536,a⟩::m::o)
  else if a=m.atoms then(if(c+m.dI)%65536=0 then o else⟨(c+m.dI)%65536,a⟩::o)else m::ins c a o
def abp{c:Int}{a:List Int}{x:au}(b:gT x.atoms a<0):∀ {o:List au},(∀y∈o,lt x y)->∀y∈ins c a o,lt x y
 | [],_,y,hy=>by
  unfold ins at hy;split at hy
  .cases hy
  .rw [mem_singleton]at hy;subst hy;exact b
 | m::o,h,y,hy=>by
  unfold ins at hy;split at hy
  .split at hy
   .exact h y hy
   .rcases mem_cons.1 hy with rfl | hy
    .exact b
    .exact h y hy
  .split at hy
   .split at hy
    .exact h y (mem_cons_of_mem _ hy)
    .rcases mem_cons.1 hy with rfl | hy
     .exact b
     .exact h y (mem_cons_of_mem _ hy)
   .rcases mem_cons.1 hy with rfl | hy
    .exact h _ (mem_cons_self ..)
    .exact abp b (λz d=>h z (mem_cons_of_mem _ d)) y hy
def abq(c:Int)(a:List Int):∀ {o:List au},Nf o->Nf (ins c a o)/\∀k,cf (ins c a o) k=((if a=k then c else 0)+cf o k)%65536
 | [],h=>by
  unfold ins;by_cases j:c%65536=0
  .rw [if_pos j];exact⟨h,λk=>by rw [qF];split<;>omega⟩
  .rw [if_neg j];refine⟨⟨pairwise_singleton _ _,λm hm=>by rw [mem_singleton]at hm;subst hm;dsimp only;omega⟩,λk=> ?_⟩;rw [bL,qF];dsimp only;split<;>omega
 | m::o,h=>by
  have q:=h.bnd;have n:Nf o:=⟨h.ss.tail,λx d=>h.co x (mem_cons_of_mem _ d)⟩;have hm:=h.co m (mem_cons_self ..);unfold ins;by_cases j:gT a m.atoms<0
  .rw [if_pos j];by_cases i:c%65536=0
   .rw [if_pos i];exact⟨h,λk=>by have:=q k;split<;>omega⟩
   .rw [if_neg i];have g:Nf (⟨c%65536,a⟩::m::o):=⟨List.pairwise_cons.2 ⟨λy l=>by
     rcases mem_cons.1 l with rfl | l
     .exact j
     .exact BM (b:=m) j (rel_of_pairwise_cons h.ss l),h.ss⟩,λx d=>by
     rcases mem_cons.1 d with rfl | d
     .dsimp only;omega
     .exact h.co x d⟩
    refine⟨g,λk=> ?_⟩;have hk:=q k;have r:=g.bnd k;rw [bL]at r ⊢;dsimp only at r ⊢;split<;>split at r<;>omega
  .rw [if_neg j];by_cases i:a=m.atoms
   .rw [if_pos i];by_cases s:(c+m.dI)%65536=0
    .rw [if_pos s];refine⟨n,λk=> ?_⟩;have ok:=n.bnd k;have hk:=q k;rw [bL]at hk ⊢;rw [i];by_cases f:m.atoms=k
     .rw [if_pos f,if_pos f];have:cf o k=0:=iG λx d e=>(rel_of_pairwise_cons h.ss d:lt m x).ne (f.trans e.symm)
      omega
     .rw [if_neg f,if_neg f];omega
    .rw [if_neg s];have g:Nf (⟨(c+m.dI)%65536,a⟩::o):=⟨List.pairwise_cons.2 ⟨λy l=>by
      have:lt m y:=rel_of_pairwise_cons h.ss l;unfold lt at this ⊢;rw [i];exact this,n.ss⟩,λx d=>by
      rcases mem_cons.1 d with rfl | d
      .dsimp only;omega
      .exact n.co x d⟩
     refine⟨g,λk=> ?_⟩;have ok:=n.bnd k;rw [bL,bL];dsimp only;rw [i];by_cases f:m.atoms=k
     .rw [if_pos f,if_pos f,if_pos f];have:cf o k=0:=iG λx d e=>(rel_of_pairwise_cons h.ss d:lt m x).ne (f.trans e.symm)
      omega
     .rw [if_neg f,if_neg f,if_neg f];omega
   .rw [if_neg i];obtain⟨t,u⟩:=abq c a n;have p:gT m.atoms a<0:=by
     have:=rE m.atoms a;by_cases z:gT m.atoms a=0
     .exact absurd (kH.1 z).symm i
     .omega
    refine⟨⟨List.pairwise_cons.2 ⟨abp p (λy l=>rel_of_pairwise_cons h.ss l),t.ss⟩,λx d=>by
     rcases mem_cons.1 d with rfl | d
     .exact hm
     .exact t.co x d⟩,λk=> ?_⟩
    rw [bL,bL,u k];by_cases f:m.atoms=k
    .have:cf o k=0:=iG λx d e=>(rel_of_pairwise_cons h.ss d:lt m x).ne (f.trans e.symm)
     rw [if_pos f,if_neg (by rw [<-f];exact i),this];omega
    .rw [if_neg f];omega
def agI:∀l:List au,∃o,Nf o/\∀k,cf o k=cf l k%65536
 | []=>⟨[],⟨Pairwise.nil,λm hm=>by cases hm⟩,λk=>rfl⟩
 | m::l=>by
  obtain⟨o,d,c⟩:=agI l;obtain⟨b,a⟩:=abq m.dI m.atoms d;refine⟨_,b,λk=> ?_⟩;rw [a,bL,c];split<;>omega
def aeW(l:List au):Nf (nf l)/\∀k,cf (nf l) k=cf l k%65536:=by
 obtain⟨o,b,a⟩:=agI l;rw [Um b a];exact⟨b,a⟩
def abr(v:List Int){l:List au}(h:(uG l).1=true):evF v (uG l).2=evS v l%65536:=by
 unfold uG at h ⊢;dsimp only at h ⊢;rw [h,if_pos rfl,sV];exact I5 v λk=>by rw [(aeW l).2];omega
def abt(v:List Int){a b:List au}(h:(vZ a b).1=true):evF v (vZ a b).2=(evF v a+evF v b)%65536:=by
 unfold vZ at h ⊢;split at h
 .rename_i c;rw [if_pos c,abr v h,zk,sV,sV];omega
 .cases h
def MU(v:List Int)(m:au):∀b:List au,evS v (b.map (mulM m))%65536=m.dI*prA v m.atoms*evS v b%65536
 | []=>by rw [map_nil,Ut,Int.mul_zero]
 | n::b=>by
  have a:=MU v m b;rw [map_cons,jL,jL,Int.mul_add];have e:(mulM m n).dI*prA v (mulM m n).atoms%65536=m.dI*prA v m.atoms*(n.dI*prA v n.atoms)%65536:=by
   have p:prA v (mulM m n).atoms=prA v m.atoms*prA v n.atoms:=by rw [<-FB];exact abn v (mergeSort_perm _ _)
   rw [p];show m.dI*n.dI%65536*_%65536=_;rw [Int.mul_emod,Int.emod_emod_of_dvd _ (Int.dvd_refl _),<-Int.mul_emod]
   congr 1
   rw [Int.mul_assoc,Int.mul_assoc,Int.mul_left_comm n.dI]
  omega
def I6(v:List Int)(b:List au):∀a:List au,evS v (prods a b)%65536=evS v a*evS v b%65536
 | []=>by show evS v []%65536=_;rw [Ut,Int.zero_mul]
 | m::a=>by
  have c:=I6 v b a;have h:=MU v m b;rw [RX,zk,jL,Int.add_mul];omega
def ajH(v:List Int){a b:List au}(h:(uH a b).1=true):evF v (uH a b).2=(evF v a*evF v b)%65536:=by
 unfold uH at h ⊢;split at h
 .rename_i c;rw [if_pos c,abr v h,I6,sV,sV,<-Int.mul_emod]
 .cases h
def ajI(v:List Int){x:List au}(h:aV x):evF v (kZ x 65535)=(-evF v x)%65536:=by
 rw [sV,sV];have:=I5 v (a:=kZ x 65535) (b:=negL x) λk=>by rw [(Fz h).2,RY];omega
 rw [this,Kk];omega
def Aq(v:List Int){n:Int}(h:0<=n/\n<=65535):evF v (gU n)=n:=by
 unfold gU;split
 .show(0+n)%65536=n;omega
 .show(0:Int)=n;omega
def Uu(v:List Int)(h:0<=k/\k<=199)(a:wOK v):evF v (fP k)=jI v k:=by
 have r:=Ap a k;unfold fP;rw [if_pos h];show(0+1*jI v k%65536)%65536=_;omega
def I7(b:0<=a)(c:a<=65535):dR .xor .i64 a 0=a:=by
 have:=IW b c;unfold dR at this ⊢;dsimp only at this ⊢;rw [BitVec.and_self]at this;rw [show BitVec.ofInt IntKind.i64.bits 0=0#IntKind.i64.bits by rfl,BitVec.xor_zero];exact this
def MV(b:1<=a/\a<=5){x y:List au}(d:aV x)(c:aV y):aV (iU a x y).1:=by
 unfold iU;split
 .exact Uo _ _
 .split
  .exact Uo _ _
  .split
   .exact aeV _ _
   .unfold abb
    repeat' split
    all_goals first | exact wo _ | exact dP | assumption
theorem aeX(v:List Int){x y:List au}(w:1<=a/\a<=5)(D:aV x)(B:aV y)(h:(iU a x y).2=true):evF v (iU a x y).1=wdo a (evF v x) (evF v y):=by
 have l:=Ki v x;have q:=Ki v y;have W:wdo a (evF v x) (evF v y)=if a=1 then(evF v x+evF v y)%65536 else if a=2 then(evF v x-evF v y)%65536 else if a=3 then(evF v x*evF v y)%65536 else if a=4 then dR .and .i64 (evF v x) (evF v y)else if a=5 then dR .xor .i64 (evF v x) (evF v y)else 0:=by
  unfold wdo;rw [if_pos ⟨l,q⟩]
 unfold iU at h ⊢;by_cases f:a=1
 .rw [if_pos f]at h ⊢;rw [W,if_pos f];exact abt v h
 rw [if_neg f]at h ⊢;by_cases i:a=2
 .rw [if_pos i]at h ⊢;rw [W,if_neg f,if_pos i];dsimp only at h ⊢;rw [abt v h,ajI v B];omega
 rw [if_neg i]at h ⊢;by_cases j:a=3
 .rw [if_pos j]at h ⊢;rw [W,if_neg f,if_neg i,if_pos j];exact ajH v h
 rw [if_neg j]at h ⊢;unfold abb at h ⊢;have N:∀ {z:List au},(dB z).2=true->evF v z=(dB z).1:=λ{z} g=>by
  obtain⟨_,A,C⟩:=sU g;have:=Aq v C;rw [<-A]at this;exact this
 have k:a=4->wdo a (evF v x) (evF v y)=dR .and .i64 (evF v x) (evF v y):=λe=>by rw [W,if_neg f,if_neg i,if_neg j,if_pos e]
 have r:a≠4->wdo a (evF v x) (evF v y)=dR .xor .i64 (evF v x) (evF v y):=λe=>by rw [W,if_neg f,if_neg i,if_neg j,if_neg e,if_pos ah]
 have t:evF v []=0:=rfl;split
 .rename_i g;rw [Bool.and_eq_true]at g;rw [N g.1,N g.2];exact Aq v (Am _ _ _)
 .rename_i g0;rw [if_neg g0]at h;by_cases m:nu x y=0
  .have exy:=mq.1 m;by_cases n:a=4
   .rw [if_pos ⟨m,n⟩,k n,<-exy,IW l.1 l.2]
   .rw [if_neg (λg=>n g.2),if_pos m,r n,<-exy,WB];exact t
  .rw [if_neg (λg=>m g.1),if_neg m]at h ⊢;by_cases p:(dB x).2=true
   .rw [if_pos p]at h ⊢;have o:=N p;by_cases c:a=4/\(dB x).1=0
    .rw [if_pos c,k c.1,o,c.2,BK,IX];exact t
    .rw [if_neg c]at h ⊢;by_cases b:(a=4/\(dB x).1=65535)\/(a=5/\(dB x).1=0)
     .rw [if_pos b];rcases b with⟨b,d⟩ | ⟨b,d⟩
      .rw [k b,o,d,BK,Fj];dsimp only;omega
      .rw [r ah,o,d,IE,I7 q.1 q.2]
     .rw [if_neg b]at h;cases h
   .rw [if_neg p]at h ⊢;by_cases u:(dB y).2=true
    .rw [if_pos u]at h ⊢;have s:=N u;by_cases c:a=4/\(dB y).1=0
     .rw [if_pos c,k c.1,s,c.2,IX];exact t
     .rw [if_neg c]at h ⊢;by_cases b:(a=4/\(dB y).1=65535)\/(a=5/\(dB y).1=0)
      .rw [if_pos b];rcases b with⟨b,d⟩ | ⟨b,d⟩
       .rw [k b,s,d,Fj];dsimp only;omega
       .rw [r ah,s,d,I7 l.1 l.2]
      .rw [if_neg b]at h;cases h
    .rw [if_neg u]at h;cases h
def I8{v w:List Int}{p:List au}{n:Nat}(f:aV p)(i:aZ p n)(h:∀k:Int,0<=k->k<n->jI v k=jI w k):evF v p=evF w p:=by
 have e:∀l:List au,(∀m∈l,∀k∈m.atoms,0<=k/\k<n)->evS v l=evS w l:=by
  intro l
  induction l with
  | nil=>exact λ_=>rfl
  | cons m l j=>
   intro g;rw [jL,jL,j λx d=>g x (mem_cons_of_mem _ d)];have:∀a:List Int,(∀k∈a,0<=k/\k<n)->prA v a=prA w a:=by
    intro a
    induction a with
    | nil=>exact λ_=>rfl
    | cons k a c=>intro b;rw [jf,jf,c λx d=>b x (mem_cons_of_mem _ d),h k (b k (mem_cons_self ..)).1 (b k (mem_cons_self ..)).2]
   rw [this m.atoms (g m (mem_cons_self ..))]
 rw [sV,sV,e p λm hm k hk=>⟨((f.aok hm).2.2 k hk).1,bV.1 i m hm k hk⟩]
def BN(regs d ins:List Int):∀(b a:List Atom),∃c,tv regs d ins (a++b)=tv regs d ins a++c
 | [],a=>⟨[],by rw [append_nil,append_nil]⟩
 | x::b,a=>by
  obtain⟨c,hc⟩:=BN regs d ins b (a++ [x]);rw [append_assoc,singleton_append]at hc;rw [hc,Kj];exact⟨_,append_assoc _ _ _⟩
def wB{v c:List Int}(a:0<=k)(h:k<v.length):jI (v++c) k=jI v k:=by
 unfold jI;rw [if_pos (by rw [length_append];omega),if_pos h,getD_lt (show k.toNat< (v++c).length by rw [length_append];omega),getD_lt (show k.toNat<v.length by omega),getElem_append_left]
def anG{regs b ins:List Int}(h:aH t)(o:0<=k)(s:k<t.length)(hk:(t.getD k.toNat default).kind=4):
  jI (tv regs b ins t) k=wdo (t.getD k.toNat default).k (evF (tv regs b ins t) (t.getD k.toNat default).x) (evF (tv regs b ins t) (t.getD k.toNat default).y):=by
 have hd:=(h.1 k o s).1;unfold kY at hd;rw [if_pos hk]at hd;obtain⟨_,m,p,r,q⟩:=hd;have f:t=t.take k.toNat++((t).getD (k).toNat default)::t.drop (k.toNat+1):=by
  rw [getD_lt (show k.toNat<t.length by omega),<-drop_eq_getElem_cons,take_append_drop]
 generalize ((t).getD (k).toNat default)=a at hk m p r q f ⊢;have i:((t.take k.toNat).length:Int)=k:=by rw [length_take];omega
 generalize t.take k.toNat=d at f i;generalize t.drop (k.toNat+1)=l at f;have g:t=(d++ [a])++l:=by rw [f,append_assoc,singleton_append]
 obtain⟨c,hc⟩:=BN regs b ins l (d++ [a]);rw [<-g,Kj]at hc;have lv:=abm regs b ins d;rw [hc];have e:∀j:Int,0<=j->j<d.length->jI (tv regs b ins d++ [aVal regs b ins (tv regs b ins d) a]++c) j=jI (tv regs b ins d) j:=λj u v=>by
  rw [append_assoc,wB u ah]
 rw [I8 m (n:=d.length) (by rw [i];exact r) e,I8 p (n:=d.length) (by rw [i];exact q) e];rw [wB o (by rw [length_append,lv];simp only [length_cons,length_nil];omega)];unfold jI;rw [if_pos (by rw [length_append,lv];simp only [length_cons,length_nil];omega),getD_lt (by rw [length_append,lv];simp only [length_cons,length_nil];omega),getElem_append_right ah];simp only [lv,show k.toNat-d.length=0 by omega,getElem_cons_zero];unfold aVal;rw [if_neg ah,if_neg ah,if_neg ah]
def anH{regs b ins:List Int}(v:wOK regs)(A:wOK b)(u:wOK ins){x y:List au}(q:aH t)(j:1<=a/\a<=5)(n:aV x)(l:aV y)(E:aZ x t.length)(D:aZ y t.length)
  (i:(tDo t a x y).1≠ []):aH (tDo t a x y).1/\(∃c,(tDo t a x y).1=t++c/\c.length<=1)/\aV (tDo t a x y).2/\
   evF (tv regs b ins (tDo t a x y).1) (tDo t a x y).2=wdo a (evF (tv regs b ins (tDo t a x y).1) x) (evF (tv regs b ins (tDo t a x y).1) y):=by
 have ok:=(WA q i).1;by_cases c:(iU a x y).2=true
 .have e:tDo t a x y=(t,(iU a x y).1):=by unfold tDo;rw [if_pos c]
  rw [e];exact⟨q,⟨[],by rw [append_nil],by simp⟩,MV j n l,aeX _ j n l c⟩
 have P:∀(h f:List au),aV h->aV f->tDo t a x y=(if(aQ t ⟨4,a,h,f⟩).2<0 then([],[])else((aQ t ⟨4,a,h,f⟩).1,fP (aQ t ⟨4,a,h,f⟩).2))->
   (∃c,(tDo t a x y).1=t++c/\c.length<=1)/\aV (tDo t a x y).2/\evF (tv regs b ins (tDo t a x y).1) (tDo t a x y).2=wdo a (evF (tv regs b ins (tDo t a x y).1) h) (evF (tv regs b ins (tDo t a x y).1) f):=by
  intro h f s z e;rw [e]at i ok ⊢;by_cases m:(aQ t ⟨4,a,h,f⟩).2<0
  .rw [if_pos m]at i;exact absurd rfl i
  rw [if_neg m]at i ok ⊢;dsimp only at i ok ⊢;have K:∃k:Int,0<=k/\k< (aQ t ⟨4,a,h,f⟩).1.length/\(aQ t ⟨4,a,h,f⟩).2=k/\((aQ t ⟨4,a,h,f⟩).1).getD k.toNat default=⟨4,a,h,f⟩/\∃c,(aQ t ⟨4,a,h,f⟩).1=t++c/\c.length<=1:=by
   by_cases d:0<=qb t ⟨4,a,h,f⟩
   .have e2:aQ t ⟨4,a,h,f⟩=(t,qb t ⟨4,a,h,f⟩):=by unfold aQ;rw [if_pos d]
    rw [e2];rcases je t ⟨4,a,h,f⟩with⟨g,_⟩ | ⟨g1,g2,g3,_⟩
    .exact absurd d ah
    .exact⟨_,g1,g2,rfl,g3.symm,[],by rw [append_nil],by simp⟩
   .by_cases d2:¬kY ⟨4,a,h,f⟩ t.length\/t.length=200
    .have e2:aQ t ⟨4,a,h,f⟩=(t, -1):=by unfold aQ;rw [if_neg d,if_pos d2]
     rw [e2]at m;exact absurd (show(-1:Int)<0 by decide) m
    .have e2:aQ t ⟨4,a,h,f⟩=(t++ [⟨4,a,h,f⟩],(t.length:Int)):=by unfold aQ;rw [if_neg d,if_neg d2]
     rw [e2];refine⟨t.length,ah,by simp only [length_append,length_cons,length_nil];omega,rfl,?_,[⟨4,a,h,f⟩],rfl,by simp⟩;rw [getD_lt (show((t.length:Int)).toNat< (t++ [(⟨4,a,h,f⟩:Atom)]).length by simp),getElem_append_right (by simp)];simp
  obtain⟨k,p,B,k3,r,w⟩:=K;rw [k3];refine⟨w,oU k,?_⟩;have C:=ok.2;rw [Uu _ ⟨p,ah⟩ (agH v A u _),anG ok p B (by rw [r]),r]
 by_cases o:a≠2/\0<nu x y
 .obtain⟨h1,h2,h3⟩:=P y x l n (by unfold tDo;rw [if_neg c,if_pos o]);exact⟨ok,h1,h2,by rw [h3,aa9 o.1]⟩
 .obtain⟨h1,h2,h3⟩:=P x y n l (by unfold tDo;rw [if_neg c,if_neg o]);exact⟨ok,h1,h2,h3⟩
end Go.TX.F
namespace Go.TX.F
open Go Go.AE Go.TX List
variable{α:Type}{t:List Atom}{a:Atom}
abbrev hX(o:IOp):Prop:=o.kind≠1/\o.kind≠2/\o.kind≠6
abbrev hY(o:IOp):Prop:=o.kind=3\/o.kind=5
abbrev mkV(o:IOp):Prop:=(1<=o.kind/\o.kind<=4)\/o.kind=6
abbrev evO(o:IOp):Prop:=4<=o.kind/\o.kind<=7
def Vl(a:List IOp)(x n:Int):Prop:=0<=x/\x<n/\mkV ((a).getD (x).toNat default)
structure uI(ops:List IOp)(len i:Int)(o:IOp):Prop where
 kd:1<=o.kind/\o.kind<=8
 x1:hX o->Vl ops o.x i
 x0:¬hX o->o.x=0
 y1:hY o->Vl ops o.y i
 y0:¬hY o->o.y=0
 k1:o.kind=1->0<=o.k/\o.k<=65535
 k2:o.kind=2\/o.kind=8->0<=o.k/\o.k<=3
 k3:o.kind=3->1<=o.k/\o.k<=5
 k0:4<=o.kind->o.kind<=7->o.k=0
 a1:evO o->0<=o.at_/\o.at_<len
 a0:¬evO o->o.at_=0
structure MW(b:Blk):Prop where
 f:1<=b.fin/\b.fin<=4
 x1:b.fin≠1->Vl b.ops b.x b.ops.length
 x0:b.fin=1->b.x=0
 y1:3<=b.fin->Vl b.ops b.y b.ops.length
 y0:b.fin<=2->b.y=0
 k1:b.fin≠2->0<=b.k/\b.k<=65535
 k0:b.fin=2->b.k=0
structure dK(b:Blk):Prop where
 ln:1<=b.len/\b.len<=8
 pc:0<=b.pc/\b.pc<=64-b.len
 sz:b.ops.length<=48
 op:∀i:Int,0<=i->i<b.ops.length->uI b.ops b.len i ((b.ops).getD (i).toNat default)
 en:MW b
structure SS where
 t:List Atom
 regs:List (List au)
 vals:List (List au)
 ld:Int
 inn:Int
 evs:List Ev
def xOf(s:SS)(o:IOp):List au:=if hX o then((s.vals).getD (o.x).toNat default)else []
def yOf(s:SS)(o:IOp):List au:=if hY o then((s.vals).getD (o.y).toNat default)else []
def aOf(s:SS)(o:IOp):Atom:=if o.kind=4 then⟨2,s.ld,[],[]⟩else⟨3,s.inn,[],[]⟩
noncomputable def nT (s:SS) (o:IOp):List Atom:=if o.kind=3 then(tDo s.t o.k (xOf s o) (yOf s o)).1 else if o.kind=4\/o.kind=6 then(aQ s.t (aOf s o)).1 else s.t
noncomputable def nV (s:SS) (o:IOp):List au:=if o.kind=1 then gU o.k else if o.kind=2 then((s.regs).getD (o.k).toNat default)else if o.kind=3 then(tDo s.t o.k (xOf s o) (yOf s o)).2 else if o.kind=4\/o.kind=6 then fP (aQ s.t (aOf s o)).2 else []
def nR(s:SS)(o:IOp):List (List au):=if o.kind=8 then s.regs.set o.k.toNat (xOf s o)else s.regs
def nE(s:SS)(o:IOp):List Ev:=if evO o then s.evs++ [⟨o.kind,o.at_,xOf s o,yOf s o,if o.kind=4\/o.kind=5 then s.regs else []⟩]else s.evs
noncomputable def stp (s:SS) (o:IOp):SS:=⟨nT s o,nR s o,s.vals++ [nV s o],if o.kind=4 then s.ld+1 else s.ld,if o.kind=6 then s.inn+1 else s.inn,nE s o⟩
noncomputable def rN (t:List Atom):Nat->List Atom×List (List au)
 | 0=>(t,[])
 | n+1=>((aQ (rN t n).1 ⟨1,n,[],[]⟩).1,(rN t n).2++ [fP (aQ (rN t n).1 ⟨1,n,[],[]⟩).2])
noncomputable def s0 (t:List Atom):SS:=⟨(rN t 4).1,(rN t 4).2,[],0,0,[]⟩
noncomputable def gZ (t:List Atom) (b:Blk):SS:=b.ops.foldl stp (s0 t)
def uJ(b:Blk)(s:SS):Sym:=⟨s.evs,s.regs,b.fin,if b.fin=1 then []else((s.vals).getD (b.x).toNat default),if 3<=b.fin then((s.vals).getD (b.y).toNat default)else [],b.k⟩
def abu:Sym:=⟨[],[],0,[],[],0⟩
noncomputable def symEnd (s:Sym) (a:Int):Sym:=
 if bp (aV s.x/\aV s.y)=false then abu
 else if s.fin=2/\(dB s.x).2=true then⟨s.events,s.regs,1,[],[],(dB s.x).1⟩
 else if s.fin≠3/\s.fin≠4 then s
 else if s.x=s.y\/(dB s.x).2=true/\(dB s.y).2=true then
  ⟨s.events,s.regs,1,[],[],if s.x=s.y/\s.fin=3\/((dB s.x).2=true/\(dB s.y).2=true)/\(s.fin=3/\(dB s.x).1=(dB s.y).1\/s.fin=4/\(dB s.x).1< (dB s.y).1)then s.k else a⟩
 else if s.fin=3/\0<nu s.x s.y then⟨s.events,s.regs,s.fin,s.y,s.x,s.k⟩else s
noncomputable def bN (t:List Atom) (b:Blk):List Atom×Sym:=if bp (aH t/\t.length<=100/\dK b)=true then((gZ t b).t,symEnd (uJ b (gZ t b)) (b.pc+b.len))else([],abu)
def rH(t:List Atom)(a:Atom):t<+:(aQ t a).1:=by
 unfold aQ;split
 .exact prefix_refl _
 .split
  .exact prefix_refl _
  .exact prefix_append _ _
def nZ{a b:List α}(h:a<+:b):a.length<=b.length:=h.length_le
def RZ{d:α}{a b:List α}(h:a<+:b){i:Int}(e:i.toNat<a.length):b.getD i.toNat d=a.getD i.toNat d:=by
 obtain⟨c,rfl⟩:=h;rw [getD_lt e,getD_lt (by rw [length_append];omega),getElem_append_left e]
def qd(h:0<=(aQ t a).2):(aQ t a).2< (aQ t a).1.length/\(((aQ t a).1).getD ((aQ t a).2).toNat default)=a:=by
 have b:=je t a
 revert h
 unfold aQ;split
 .intro h;rcases b with⟨e,_⟩ | ⟨_,c,d,_⟩
  .exact absurd h (by dsimp only;omega)
  .exact⟨c,d.symm⟩
 .split
  .intro h;exact absurd h (by dsimp only;omega)
  .intro _;dsimp only;refine⟨by rw [length_append];simp only [length_cons,length_nil];omega,?_⟩;rw [getD_lt (by rw [length_append];simp only [length_cons,length_nil];omega)];simp
def R3{u:List Atom}(h:aH u){k:Int}(b:0<=k)(d:k<u.length)(c:((u).getD (k).toNat default)=a):aQ u a=(u,k):=by
 have e:qb u a=k:=by
  refine(je u a).uniq (Or.inr ⟨b,d,c.symm,λj f i=> ?_⟩);have:=(xE.1 h).1 k b d;have g:=this.2 j f i;dsimp only at g ⊢;rw [c]at g;exact g
 unfold aQ;rw [e,if_pos b]
def Ar{t u:List Atom}(d:aH u)(h:0<=(aQ t a).2)(b:(aQ t a).1<+:u):aQ u a=(u,(aQ t a).2):=by
 obtain⟨e,c⟩:=qd h;have:=nZ b;exact R3 d h ah (by rw [RZ b ah,c])
def MX{c n:Int}{x y:List au}(b:aZ x n)(a:aZ y n):aZ (iU c x y).1 n:=by
 unfold iU;split
 .exact Fw b a
 .split
  .refine Fw b ?_;unfold kZ;split
   .exact Fx a (wu _ _)
   .exact jy _
  .split
   .exact Fx b a
   .unfold abb
    repeat' split
    all_goals first | exact b | exact a | exact jy _ | exact wu _ _
structure ajJ(t:List Atom)(op:Int)(x y:List au):Prop where
 tok:aH (tDo t op x y).1
 pre:t<+:(tDo t op x y).1
 len:(tDo t op x y).1.length<=t.length+1
 pok:aV (tDo t op x y).2
 und:aZ (tDo t op x y).2 (tDo t op x y).1.length
 ok:tOk t op x y=true
def aeY{b:Int}{x y:List au}(h:aH t)(o:t.length<200)(n:1<=b/\b<=5)(k:aV x)(j:aV y)(m:aZ x t.length)(l:aZ y t.length):ajJ t b x y:=by
 by_cases c:(iU b x y).2=true
 .have e:tDo t b x y=(t,(iU b x y).1):=by unfold tDo;rw [if_pos c]
  refine⟨?_,?_,?_,?_,?_,by unfold tOk;rw [c];rfl⟩<;>rw [e]
  .exact h
  .exact prefix_refl _
  .exact Nat.le_succ _
  .exact MV n k j
  .exact MX m l
 .have key:∀f d,aV f->aV d->aZ f t.length->aZ d t.length->0<=(aQ t ⟨4,b,f,d⟩).2/\aH (aQ t ⟨4,b,f,d⟩).1/\(aQ t ⟨4,b,f,d⟩).1.length<=t.length+1:=λf d s u q r=>by
   have i:=Ao (a:=⟨4,b,f,d⟩) h o;have p:=i.2.2.2 (by unfold kY;rw [if_pos rfl];exact⟨n,s,u,q,r⟩);exact⟨p,i.1,i.2.2.1⟩
  by_cases g:b≠2/\0<nu x y
  .obtain⟨k1,k2,k3⟩:=key y x j k l m;have e:tDo t b x y=((aQ t ⟨4,b,y,x⟩).1,fP (aQ t ⟨4,b,y,x⟩).2):=by unfold tDo;rw [if_neg c,if_pos g,if_neg ah]
   refine⟨?_,?_,?_,?_,?_,by unfold tOk;rw [if_pos g,decide_eq_false ah,Bool.not_false,Bool.or_true]⟩<;>rw [e]
   .exact k2
   .exact rH _ _
   .exact k3
   .exact oU _
   .exact sS (qd k1).1
  .obtain⟨k1,k2,k3⟩:=key x y k j m l;have e:tDo t b x y=((aQ t ⟨4,b,x,y⟩).1,fP (aQ t ⟨4,b,x,y⟩).2):=by unfold tDo;rw [if_neg c,if_neg g,if_neg ah]
   refine⟨?_,?_,?_,?_,?_,by unfold tOk;rw [if_neg g,decide_eq_false ah,Bool.not_false,Bool.or_true]⟩<;>rw [e]
   .exact k2
   .exact rH _ _
   .exact k3
   .exact oU _
   .exact sS (qd k1).1
def R4{t u:List Atom}{a:Int}{x y:List au}(d:aH u)(h:tOk t a x y=true)(b:(tDo t a x y).1<+:u):tDo u a x y=(u,(tDo t a x y).2):=by
 by_cases c:(iU a x y).2=true
 .unfold tDo;rw [if_pos c,if_pos c]
 .by_cases c2:a≠2/\0<nu x y
  .have k1:0<=(aQ t ⟨4,a,y,x⟩).2:=by
    unfold tOk at h;rw [if_pos c2,Bool.or_eq_true,Bool.not_eq_true',decide_eq_false_iff_not]at h;have:=h.resolve_left c;omega
   have e:tDo t a x y=((aQ t ⟨4,a,y,x⟩).1,fP (aQ t ⟨4,a,y,x⟩).2):=by unfold tDo;rw [if_neg c,if_pos c2,if_neg ah]
   rw [e]at b ⊢;have:=Ar d k1 b;unfold tDo;rw [if_neg c,if_pos c2,this,if_neg (by dsimp only;omega)]
  .have k1:0<=(aQ t ⟨4,a,x,y⟩).2:=by
    unfold tOk at h;rw [if_neg c2,Bool.or_eq_true,Bool.not_eq_true',decide_eq_false_iff_not]at h;have:=h.resolve_left c;omega
   have e:tDo t a x y=((aQ t ⟨4,a,x,y⟩).1,fP (aQ t ⟨4,a,x,y⟩).2):=by unfold tDo;rw [if_neg c,if_neg c2,if_neg ah]
   rw [e]at b ⊢;have:=Ar d k1 b;unfold tDo;rw [if_neg c,if_neg c2,this,if_neg (by dsimp only;omega)]
end Go.TX.F
namespace Go.TX.F
open Go Go.AE Go.TX List
variable{n:Int}{i:Nat}{s:SS}{t:List Atom}{b:Blk}{u:List Atom}
structure SI(n:Int)(i:Nat)(s:SS):Prop where
 tok:aH s.t
 tl:(s.t.length:Int)<=n+i
 r4:s.regs.length=4
 rok:∀p∈s.regs,aV p/\aZ p s.t.length
 vl:s.vals.length=i
 vok:∀p∈s.vals,aV p/\aZ p s.t.length
 ld:0<=s.ld/\s.ld<=i
 inn:0<=s.inn/\s.inn<=i
def FD{l:List (List au)}(h:∀p∈l,aV p/\aZ p n)(i:Int):aV ((l).getD (i).toNat default)/\aZ ((l).getD (i).toNat default) n:=by
 by_cases c:i.toNat<l.length
 .rw [getD_lt c];exact h _ (getElem_mem _)
 .rw [getD_eq_getElem?_getD,getElem?_eq_none ah];exact⟨dP,jy _⟩
def SI.x(h:SI n i s)(o:IOp):aV (xOf s o)/\aZ (xOf s o) s.t.length:=by
 unfold xOf;split
 .exact FD h.vok _
 .exact⟨dP,jy _⟩
def SI.y(h:SI n i s)(o:IOp):aV (yOf s o)/\aZ (yOf s o) s.t.length:=by
 unfold yOf;split
 .exact FD h.vok _
 .exact⟨dP,jy _⟩
def aeZ(h:SI n i s)(c:i<200)(o:IOp)(m:Int):kY (aOf s o) m:=by
 have b:=h.ld;have a:=h.inn;unfold aOf;split
 .unfold kY;rw [if_neg (by simp)];exact⟨⟨rfl,rfl⟩,Or.inr ⟨Or.inl rfl,by dsimp only;omega,by dsimp only;omega⟩⟩
 .unfold kY;rw [if_neg (by simp)];exact⟨⟨rfl,rfl⟩,Or.inr ⟨Or.inr rfl,by dsimp only;omega,by dsimp only;omega⟩⟩
structure SOK(s:SS)(o:IOp):Prop where
 pre:s.t<+:(stp s o).t
 d:o.kind=3->ajJ s.t o.k (xOf s o) (yOf s o)
 p:o.kind=4\/o.kind=6->0<=(aQ s.t (aOf s o)).2
def BO{o:IOp}(h:SI n i s)(hk:o.kind=3->1<=o.k/\o.k<=5)(hn:n+i<200)(g:i<200):SI n (i+1) (stp s o)/\SOK s o:=by
 have m:=h.tl;have tl:s.t.length<200:=by omega
 have hd:o.kind=3->ajJ s.t o.k (xOf s o) (yOf s o):=λe=>aeY h.tok tl (hk e) (h.x o).1 (h.y o).1 (h.x o).2 (h.y o).2
 have c:=Ao (a:=aOf s o) h.tok tl;have b:=c.2.2.2 (aeZ h g o _);have T:aH (nT s o)/\(nT s o).length<=s.t.length+1/\s.t<+:nT s o:=by
  unfold nT;split
  .rename_i e;have:=hd e;exact⟨this.tok,this.len,this.pre⟩
  .split
   .exact⟨c.1,c.2.2.1,rH _ _⟩
   .exact⟨h.tok,Nat.le_succ _,prefix_refl _⟩
 have d:∀ {p:List au},aV p/\aZ p s.t.length->aV p/\aZ p (nT s o).length:=λb=>⟨b.1,xG b.2 (by have:=nZ T.2.2;omega)⟩
 have V:aV (nV s o)/\aZ (nV s o) (nT s o).length:=by
  unfold nV;split
  .exact⟨wo _,wu _ _⟩
  .split
   .exact d (FD h.rok _)
   .split
    .rename_i e;have:=hd e;refine⟨this.pok,?_⟩;have f:nT s o=(tDo s.t o.k (xOf s o) (yOf s o)).1:=by unfold nT;rw [if_pos e]
     rw [f];exact this.und
    .split
     .rename_i e1 f;have j:nT s o=(aQ s.t (aOf s o)).1:=by unfold nT;rw [if_neg ah,if_pos f]
      rw [j];exact⟨oU _,sS (qd b).1⟩
     .exact⟨dP,jy _⟩
 have l:=h.ld;have k:=h.inn;refine⟨⟨T.1,?_,?_,?_,?_,?_,?_,?_⟩,⟨T.2.2,hd,λ_=>b⟩⟩
 .have:=T.2.1;show((nT s o).length:Int)<=_;omega
 .show(nR s o).length=4;unfold nR;split
  .rw [length_set];exact h.r4
  .exact h.r4
 .show∀p∈nR s o,_;intro p b;unfold nR at b;split at b
  .rcases mem_or_eq_of_mem_set b with b | rfl
   .exact d (h.rok p b)
   .exact d (h.x o)
  .exact d (h.rok p b)
 .show(s.vals++ [nV s o]).length=i+1;rw [length_append,h.vl];rfl
 .show∀p∈s.vals++ [nV s o],_;intro p b;rw [mem_append,mem_singleton]at b;rcases b with b | rfl
  .exact d (h.vok p b)
  .exact V
 .show 0<=(if o.kind=4 then s.ld+1 else s.ld)/\(if o.kind=4 then s.ld+1 else s.ld)<=_;split<;>omega
 .show 0<=(if o.kind=6 then s.inn+1 else s.inn)/\(if o.kind=6 then s.inn+1 else s.inn)<=_;split<;>omega
def wC:∀(a:List IOp) (i:Nat) (s:SS),SI n i s->(∀o∈a,o.kind=3->1<=o.k/\o.k<=5)->n+i+a.length<=200->i+a.length<=200->SI n (i+a.length) (a.foldl stp s)/\s.t<+:(a.foldl stp s).t
 | [],i,s,h,_,_,_=>⟨h,prefix_refl _⟩
 | o::r,i,s,h,hk,h1,h2=>by
  rw [length_cons]at h1 h2;obtain⟨d,e⟩:=BO h (hk o mem_cons_self) ah ah;obtain⟨c,f⟩:=wC r (i+1) (stp s o) d (λo b=>hk o (mem_cons_of_mem _ b)) ah ah;rw [foldl_cons,length_cons,show i+(r.length+1)=i+1+r.length by omega];exact⟨c,e.pre.trans f⟩
structure RI(t:List Atom)(n:Nat)(r:List Atom×List (List au)):Prop where
 tok:aH r.1
 tl:r.1.length<=t.length+n
 pre:t<+:r.1
 r4:r.2.length=n
 rok:∀p∈r.2,aV p/\aZ p r.1.length
def I9(h:aH t)(e:t.length<=196):∀n:Nat,n<=4->RI t n (rN t n)
 | 0,_=>⟨h,Nat.le_refl _,prefix_refl _,rfl,λp b=>absurd b (by simp [rN])⟩
 | n+1,hn=>by
  have c:=I9 h e n ah;have l:=c.tl;have b:=Ao (a:=⟨1,n,[],[]⟩) c.tok ah;have f:=b.2.2.2 (by unfold kY;rw [if_neg (by simp)];exact⟨⟨rfl,rfl⟩,Or.inl ⟨rfl,by dsimp only;omega,by dsimp only;omega⟩⟩);have d:=rH (rN t n).1 ⟨1,n,[],[]⟩;unfold rN;refine⟨b.1,?_,c.pre.trans d,?_,λp h=> ?_⟩
  .have:=b.2.2.1;dsimp only;omega
  .dsimp only;rw [length_append,c.r4];rfl
  .dsimp only at h ⊢;rw [mem_append,mem_singleton]at h;rcases h with h | rfl
   .have:=c.rok p h;exact⟨this.1,xG this.2 (by have:=nZ d;omega)⟩
   .exact⟨oU _,sS (qd f).1⟩
def zm(h:aH t)(c:t.length<=196){n:Nat}(hn:n<4):0<=(aQ (rN t n).1 ⟨1,n,[],[]⟩).2:=by
 have b:=I9 h c n ah;have l:=b.tl;exact(Ao (a:=⟨1,n,[],[]⟩) b.tok ah).2.2.2 (by unfold kY;rw [if_neg (by simp)];exact⟨⟨rfl,rfl⟩,Or.inl ⟨rfl,by dsimp only;omega,by dsimp only;omega⟩⟩)
def Ja(h:aH t)(b:t.length<=196):SI (t.length+4) 0 (s0 t):=by
 have:=I9 h b 4 ah;have l:=this.tl;exact⟨this.tok,by show((rN t 4).1.length:Int)<=_;omega,this.r4,this.rok,rfl,λp a=>absurd a (by simp [s0]),by simp [s0],by simp [s0]⟩
def dK.k3(h:dK b):∀o∈b.ops,o.kind=3->1<=o.k/\o.k<=5:=λo a=>by
 obtain⟨i,c,rfl⟩:=getElem_of_mem a;have:=(h.op i ah ah).k3;rw [show(i:Int).toNat=i from rfl,getD_lt c]at this;exact this
def Kl(h:aH t)(f:t.length<=100)(c:dK b):SI (t.length+4) b.ops.length (gZ t b)/\t<+:(gZ t b).t:=by
 have e:=c.sz;obtain⟨a,d⟩:=wC b.ops 0 (s0 t) (Ja h ah) c.k3 ah ah;rw [Nat.zero_add]at a;exact⟨a,(I9 h ah 4 ah).pre.trans d⟩
def SS.on(s:SS)(u:List Atom):SS:=⟨u,s.regs,s.vals,s.ld,s.inn,s.evs⟩
theorem ajK{o:IOp}(b:aH u)(h:SOK s o)(a:(stp s o).t<+:u):stp (s.on u) o=(stp s o).on u:=by
 have a:nT s o<+:u:=a;have d:xOf (s.on u) o=xOf s o:=rfl;have f:yOf (s.on u) o=yOf s o:=rfl;have g:aOf (s.on u) o=aOf s o:=rfl;have eT:nT (s.on u) o=u:=by
  unfold nT;split
  .rename_i e;rw [d,f];have c:=(h.d e).ok;unfold nT at a;rw [if_pos e]at a;rw [show(s.on u).t=u from rfl,R4 b c a]
  .split
   .rename_i e1 e2;unfold nT at a;rw [if_neg e1,if_pos e2]at a;rw [g,show(s.on u).t=u from rfl,Ar b (h.p e2) a]
   .rfl
 have i:nV (s.on u) o=nV s o:=by
  unfold nV;split
  .rfl
  .split
   .rfl
   .split
    .rename_i e;rw [d,f];have c:=(h.d e).ok;unfold nT at a;rw [if_pos e]at a;rw [show(s.on u).t=u from rfl,R4 b c a]
    .split
     .rename_i e1 e2;unfold nT at a;rw [if_neg e1,if_pos e2]at a;rw [g,show(s.on u).t=u from rfl,Ar b (h.p e2) a]
     .rfl
 show SS.mk (nT (s.on u) o) (nR (s.on u) o) ((s.on u).vals++ [nV (s.on u) o]) _ _ (nE (s.on u) o)=SS.mk u (nR s o) (s.vals++ [nV s o]) _ _ (nE s o);rw [eT,i];rfl
def abv(d:aH u):∀(a:List IOp) (i:Nat) (s:SS),SI n i s->(∀o∈a,o.kind=3->1<=o.k/\o.k<=5)->n+i+a.length<=200->i+a.length<=200->(a.foldl stp s).t<+:u->a.foldl stp (s.on u)=(a.foldl stp s).on u
 | [],i,s,h,_,_,_,_=>rfl
 | o::r,i,s,h,hk,h1,h2,hp=>by
  rw [length_cons]at h1 h2;obtain⟨c,e⟩:=BO h (hk o mem_cons_self) ah ah;rw [foldl_cons]at hp;obtain⟨_,f⟩:=wC r (i+1) (stp s o) c (λo b=>hk o (mem_cons_of_mem _ b)) ah ah;rw [foldl_cons,foldl_cons,ajK d e (f.trans hp)];exact abv d r (i+1) (stp s o) c (λo b=>hk o (mem_cons_of_mem _ b)) ah ah hp
def agJ{t u:List Atom}(h:aH t)(b:t.length<=196)(c:aH u):∀n:Nat,n<=4->(rN t n).1<+:u->rN u n=(u,(rN t n).2)
 | 0,_,_=>rfl
 | n+1,hn,hp=>by
  have e:=zm h b (n:=n) ah;have f:=rH (rN t n).1 ⟨1,n,[],[]⟩;have a:(aQ (rN t n).1 ⟨1,n,[],[]⟩).1<+:u:=hp;have d:=agJ h b c n ah (f.trans a);show((aQ (rN u n).1 ⟨1,n,[],[]⟩).1,(rN u n).2++ [fP (aQ (rN u n).1 ⟨1,n,[],[]⟩).2])=(u,(rN t n).2++ [fP (aQ (rN t n).1 ⟨1,n,[],[]⟩).2]);rw [d];dsimp only;rw [Ar c e a]
def ae0{t u:List Atom}(h:aH t)(j:t.length<=100)(c:dK b)(f:aH u)(a:(gZ t b).t<+:u):gZ u b=(gZ t b).on u:=by
 have i:=c.sz;have d:=Ja h ah;obtain⟨_,g⟩:=wC b.ops 0 (s0 t) d c.k3 ah ah;have e:s0 u=(s0 t).on u:=by
  unfold s0 SS.on;rw [agJ h ah f 4 ah (g.trans a)]
 unfold gZ at a ⊢;rw [e];exact abv f b.ops 0 (s0 t) d c.k3 ah ah a
def zn(h:aH t)(a:t.length<=100)(c:dK b):bN t b=((gZ t b).t,symEnd (uJ b (gZ t b)) (b.pc+b.len)):=by
 unfold bN;rw [if_pos (aR ⟨h,a,c⟩)]
def WG{t u:List Atom}(h:aH t)(e:t.length<=100)(a:dK b)(f:aH u)(c:u.length<=100)(d:(bN t b).1<+:u):bN u b=(u,(bN t b).2):=by
 rw [zn h e a]at d ⊢;rw [zn f c a,ae0 h e a f d];rfl
def xH(h:aH t)(a:t.length<=100)(d:dK b):aH (bN t b).1/\t<+:(bN t b).1/\(bN t b).1.length<=t.length+b.ops.length+4:=by
 unfold bN;rw [if_pos (aR ⟨h,a,d⟩)];obtain⟨c,e⟩:=Kl h a d;have:=c.tl;exact⟨c.tok,e,by dsimp only;omega⟩
end Go.TX.F
namespace Go.TX.F
open Go Go.AE Go.TX List
variable{n:Int}{i:Nat}{s:SS}{b:Blk}
def ShP(l:List (List au)):Prop:=l.length<1000000000/\∀p∈l,Sh p
def ShE(e:Ev):Prop:=Sh e.x/\Sh e.y/\ShP e.regs
def abw(l:List Ev):Prop:=l.length<1000000000/\∀e∈l,ShE e
structure ShY(s:Sym):Prop where
 e:abw s.events
 r:ShP s.regs
 x:Sh s.x
 y:Sh s.y
def ShP.at{l:List (List au)}(h:ShP l)(n:Nat):Sh (l.getD n default):=by
 by_cases c:n<l.length
 .rw [getD_lt c];exact h.2 _ (getElem_mem _)
 .rw [getD_eq_getElem?_getD,getElem?_eq_none ah];exact oQ
def Km:ShP []:=⟨by simp,λp h=>absurd h (by simp)⟩
def abw.at{l:List Ev}(h:abw l)(n:Nat):ShE (l.getD n default):=by
 by_cases c:n<l.length
 .rw [getD_lt c];exact h.2 _ (getElem_mem _)
 .rw [getD_eq_getElem?_getD,getElem?_eq_none ah];exact⟨oQ,oQ,Km⟩
def ae1:ShY abu:=⟨⟨by simp [abu],λe h=>absurd h (by simp [abu])⟩,Km,oQ,oQ⟩
def SI.regs(h:SI n i s):ShP s.regs:=⟨by have:=h.r4;omega,λp a=>(h.rok p a).1.sh⟩
def ae2{o:IOp}(h:SI n i s)(b:s.evs.length<=i/\∀e∈s.evs,ShE e):(stp s o).evs.length<=i+1/\∀e∈(stp s o).evs,ShE e:=by
 show(nE s o).length<=i+1/\∀e∈nE s o,ShE e;unfold nE;split
 .refine⟨by rw [length_append];have:=b.1;simp only [length_cons,length_nil];omega,λe a=> ?_⟩;rw [mem_append,mem_singleton]at a;rcases a with a | rfl
  .exact b.2 e a
  .refine⟨(h.x o).1.sh,(h.y o).1.sh,?_⟩;dsimp only;split
   .exact h.regs
   .exact Km
 .exact⟨by have:=b.1;omega,b.2⟩
def R5:∀(a:List IOp) (i:Nat) (s:SS),SI n i s->(∀o∈a,o.kind=3->1<=o.k/\o.k<=5)->n+i+a.length<=200->i+a.length<=200->(s.evs.length<=i/\∀e∈s.evs,ShE e)->(a.foldl stp s).evs.length<=i+a.length/\∀e∈(a.foldl stp s).evs,ShE e
 | [],i,s,h,_,_,_,h3=>h3
 | o::r,i,s,h,hk,h1,h2,h3=>by
  rw [length_cons]at h1 h2;obtain⟨c,d⟩:=BO h (hk o mem_cons_self) ah ah;have:=R5 r (i+1) (stp s o) c (λo b=>hk o (mem_cons_of_mem _ b)) ah ah (ae2 h h3);rw [foldl_cons,length_cons,show i+(r.length+1)=i+1+r.length by omega];exact this
def evT(e:Ev):Int×Int×Nat:=(e.kind,e.at_,e.regs.length)
def opT(o:IOp):Int×Int×Nat:=(o.kind,o.at_,if o.kind=4\/o.kind=5 then 4 else 0)
def Uv(a:List IOp):List IOp:=a.filter λo=>decide (evO o)
def Uw:∀(a:List IOp) (s:SS),s.regs.length=4->(a.foldl stp s).evs.map evT=s.evs.map evT++(Uv a).map opT
 | [],s,_=>by simp [Uv]
 | o::r,s,h=>by
  have b:(stp s o).regs.length=4:=by
   show(nR s o).length=4;unfold nR;split
   .rw [length_set];exact h
   .exact h
  rw [foldl_cons,Uw r (stp s o) b];show(nE s o).map evT++_=_;unfold nE Uv;by_cases c:evO o
  .have e:evT ⟨o.kind,o.at_,xOf s o,yOf s o,if o.kind=4\/o.kind=5 then s.regs else []⟩=opT o:=by
    unfold evT opT;dsimp only;split
    .rw [h]
    .rfl
   rw [if_pos c,filter_cons_of_pos (by simpa using c),map_append,append_assoc];refine congrArg (s.evs.map evT++ ·) ?_;show evT _::_=opT o::_;rw [e];rfl
  .rw [if_neg c,filter_cons_of_neg (by simpa using c)]
def Kn(h:SI n i s):aV (uJ b s).x/\aV (uJ b s).y:=by
 unfold uJ;dsimp only;constructor
 .split
  .exact dP
  .exact(FD h.vok _).1
 .split
  .exact(FD h.vok _).1
  .exact dP
def Au{s:Sym}(h:aV s.x/\aV s.y):(symEnd s n).events=s.events/\(symEnd s n).regs=s.regs/\aV (symEnd s n).x/\aV (symEnd s n).y:=by
 unfold symEnd;rw [if_neg (by rw [aR h];simp)]
 repeat' split
 all_goals first | exact⟨rfl,rfl,h⟩ | exact⟨rfl,rfl,dP,dP⟩ | exact⟨rfl,rfl,h.2,h.1⟩
structure anI(t:List Atom)(b:Blk):Prop where
 evs:(bN t b).2.events.map evT=(Uv b.ops).map opT
 r4:(bN t b).2.regs.length=4
 sh:ShY (bN t b).2
 ne:0< (bN t b).1.length
theorem MZ{t:List Atom}(h:aH t)(i:t.length<=100)(a:dK b):anI t b:=by
 have j:=a.sz;have c:=Ja h ah;obtain⟨g,l⟩:=Kl h i a;have f:=R5 b.ops 0 (s0 t) c a.k3 ah ah ⟨by simp [s0],λe d=>absurd d (by simp [s0])⟩;have d:=Uw b.ops (s0 t) c.r4;have hk:=Au (n:=b.pc+b.len) (Kn (b:=b) g);have e:bN t b=((gZ t b).t,symEnd (uJ b (gZ t b)) (b.pc+b.len)):=by unfold bN;rw [if_pos (aR ⟨h,i,a⟩)]
 rw [Nat.zero_add]at f;refine⟨?_,?_,?_,?_⟩
 .rw [e];dsimp only;rw [hk.1];show(gZ t b).evs.map evT=_;unfold gZ;rw [d];rfl
 .rw [e];dsimp only;rw [hk.2.1];exact g.r4
 .rw [e];refine⟨?_,?_,hk.2.2.1.sh,hk.2.2.2.sh⟩
  .rw [hk.1];exact⟨by have:=f.1;show(b.ops.foldl stp (s0 t)).evs.length<_;omega,f.2⟩
  .rw [hk.2.1];exact g.regs
 .rw [e];have r:=wC b.ops 0 (s0 t) c a.k3 ah ah;have:=nZ r.2;have p:=qd (zm h ah (n:=3) ah);have k:=zm h ah (n:=3) ah;show 0< (gZ t b).t.length;have:(s0 t).t.length=(aQ (rN t 3).1 ⟨1,(3:Nat),[],[]⟩).1.length:=rfl;unfold gZ;omega
def Ko(t:List Atom)(b:Blk):ShY (bN t b).2/\ShT (bN t b).1:=by
 by_cases c:aH t/\t.length<=100/\dK b
 .exact⟨(MZ c.1 c.2.1 c.2.2).sh,(xH c.1 c.2.1 c.2.2).1.sh⟩
 .unfold bN;rw [bJ c,if_neg (by simp)];exact⟨ae1,aeU⟩
noncomputable def t4:List Atom:=(rN [] 4).1
def Jb:aH []:=xE.2 ⟨All.zero,by simp⟩
def Ux:aH t4/\t4.length<=4:=by
 have:=I9 Jb (by simp) 4 ah;exact⟨this.tok,Nat.le_trans this.tl (by simp)⟩
noncomputable def chk (b c:Blk):Bool:=bp (dK b/\dK c/\b.pc=c.pc/\b.len=c.len/\(b=c\/(bN t4 b).2=(bN (bN t4 b).1 c).2))
structure Lk(b c:Blk):Prop where
 ob:dK b
 oc:dK c
 pc:b.pc=c.pc
 len:b.len=c.len
 run:∀u,aH u->u.length<=100->(bN u b).1=u->bN u c=bN u b
def Lk.refl(h:dK b):Lk b b:=⟨h,h,rfl,rfl,λ_ _ _ _=>rfl⟩
def ae3(a:dK b):aH (bN t4 b).1/\(bN t4 b).1.length<=100/\bN (bN t4 b).1 b=bN t4 b:=by
 have c:=Ux;have d:=xH c.1 ah a;have e:=a.sz;refine⟨d.1,ah,?_⟩;have:=WG c.1 ah a d.1 ah (prefix_refl _);rw [this]
def Lk.chk{b c:Blk}(h:Lk b c):chk b c=true:=by
 obtain⟨e,d,a⟩:=ae3 h.ob;refine aR ⟨h.ob,h.oc,h.pc,h.len,Or.inr ?_⟩;rw [h.run _ e d (by rw [a]),a]
end Go.TX.F
namespace Go.TX.F
open Go Go.AE Go.TX List
def R6:Blk:=⟨0,0,[],0,0,0,0⟩
def BP{α:Type}{d x:α}{l:List α}{i:Nat}:(l++ [x]).getD i d=if i<l.length then l.getD i d else if i=l.length then x else d:=by grind
def R7(f:SS->IOp->SS)(s:SS){l:List IOp}{i:Nat}(h:i<l.length):(l.take (i+1)).foldl f s=f ((l.take i).foldl f s) l[i]:=by
 rw [take_succ_eq_append_getElem h,foldl_append];rfl
def ren(nm:List Int)(o:IOp):IOp:=⟨o.kind,if hX o then((nm).getD (o.x).toNat default)else o.x,if hY o then((nm).getD (o.y).toNat default)else o.y,o.k,o.at_⟩
def ae4(nm:List Int)(b:Blk)(a:List IOp):Blk:=⟨b.pc,b.len,a.map (ren nm),b.fin,if b.fin=1 then b.x else((nm).getD (b.x).toNat default),if 3<=b.fin then((nm).getD (b.y).toNat default)else b.y,b.k⟩
def cpN(s:List Int×List Int)(i:Int)(o:IOp):Int:=if o.kind=2/\0<=((s.2).getD (o.k).toNat default)then((s.2).getD (o.k).toNat default)else i
def cpL(s:List Int×List Int)(i:Int)(o:IOp):List Int:=if o.kind=2 then(if 0<=((s.2).getD (o.k).toNat default)then s.2 else s.2.set o.k.toNat i)else if o.kind=8 then s.2.set o.k.toNat ((s.1).getD (o.x).toNat default)else s.2
def cpS(a:List IOp):Nat->List Int×List Int
 | 0=>([],[-1, -1, -1, -1])
 | i+1=>((cpS a i).1++ [cpN (cpS a i) i (a.getD i default)],cpL (cpS a i) i (a.getD i default))
noncomputable def jT (b:Blk):Blk:=if bp (dK b)=true then ae4 (cpS b.ops b.ops.length).1 b b.ops else R6
def Kq(a:List IOp):∀i,(cpS a i).1.length=i/\(cpS a i).2.length=4
 | 0=>⟨rfl,rfl⟩
 | i+1=>by
  obtain⟨b,c⟩:=Kq a i
  grind [cpS,length_append,cpL,default,length_set]
def abx{α:Type}{d x:α}{l:List α}{i j:Int}(c:0<=i)(b:0<=j)(a:j<l.length):(l.set j.toNat x).getD i.toNat d=if i=j then x else l.getD i.toNat d:=by grind
variable{b:Blk}
def fcO(f:List IOp)(o:IOp):IOp:=if o.kind=3/\(((f).getD (o.x).toNat default)).kind=1/\(((f).getD (o.y).toNat default)).kind=1 then⟨1,0,0,wdo o.k (((f).getD (o.x).toNat default)).k (((f).getD (o.y).toNat default)).k,0⟩else o
def fc(a:List IOp):Nat->List IOp
 | 0=> []
 | i+1=>fc a i++ [fcO (fc a i) (a.getD i default)]
def fcB(b:Blk)(f:List IOp):Blk:=
 if b.fin=2/\(((f).getD (b.x).toNat default)).kind=1 then⟨b.pc,b.len,f,1,0,b.y,(((f).getD (b.x).toNat default)).k⟩
 else if 3<=b.fin/\(((f).getD (b.x).toNat default)).kind=1/\(((f).getD (b.y).toNat default)).kind=1 then⟨b.pc,b.len,f,1,0,0,if b.fin=3/\(((f).getD (b.x).toNat default)).k=(((f).getD (b.y).toNat default)).k\/b.fin=4/\(((f).getD (b.x).toNat default)).k< (((f).getD (b.y).toNat default)).k then b.k else b.pc+b.len⟩
 else⟨b.pc,b.len,f,b.fin,b.x,b.y,b.k⟩
noncomputable def jM (b:Blk):Blk:=if bp (dK b)=true then fcB b (fc b.ops b.ops.length)else R6
def wD(a:List IOp):∀i,(fc a i).length=i
 | 0=>rfl
 | i+1=>by show(fc a i++ [_]).length=_;rw [length_append,wD a i];rfl
def anJ(a:List IOp){i n j:Nat}(e:j<i)(d:i<=n):(fc a n).getD j default=(fc a i).getD j default:=by
  induction n with
  | zero => have : i = 0 := by omega
            subst this;rfl
  | succ n b=>
    by_cases c:i=n+1
    · subst c;rfl
    · have:=b ah;rw [<-this];show(fc a n++ [_]).getD j default=_;rw [BP,if_pos (by rw [wD];omega)]
def ajL(a:List IOp){i n:Nat}(h:i<n):(fc a n).getD i default=fcO (fc a i) (a.getD i default):=by
 rw [anJ a (show i<i+1 by omega) (show i+1<=n by omega)];show(fc a i++ [_]).getD i default=_;rw [BP,if_neg (by rw [wD];omega),if_pos (by rw [wD])]
def kpS(a:List IOp)(b:List Bool):Nat->List Int×List IOp
 | 0=>([],[])
 | i+1=>((kpS a b i).1++ [((kpS a b i).2.length:Int)],if b.getD i default=true then(kpS a b i).2++ [a.getD i default]else(kpS a b i).2)
def Av(b:Blk)(a:List Bool):Blk:=ae4 (kpS b.ops a b.ops.length).1 b (kpS b.ops a b.ops.length).2
def um:List IOp->Int->Bool
 | [],_=>false
 | o::l,r=>if o.kind=4\/o.kind=5\/o.kind=2/\o.k=r then false else if o.kind=8/\o.k=r then true else um l r
def Dv(a:List IOp)(b:List Bool):∀i,(kpS a b i).1.length=i/\(kpS a b i).2.length<=i
 | 0=>⟨rfl,Nat.le_refl _⟩
 | i+1=>by
  obtain⟨c,d⟩:=Dv a b i;unfold kpS;refine⟨by rw [length_append,c];rfl,?_⟩;dsimp only;split
  .rw [length_append];simp only [length_cons,length_nil];omega
  .omega
def ae5(a:List IOp)(b:List Bool){i n:Nat}(h:i<=n):(kpS a b i).2<+:(kpS a b n).2/\(kpS a b i).1<+:(kpS a b n).1:=by
 induction n with
 | zero=>rw [show i=0 by omega];exact⟨prefix_refl _,prefix_refl _⟩
 | succ n d=>
  by_cases c:i=n+1
  .subst c;exact⟨prefix_refl _,prefix_refl _⟩
  .obtain⟨h1,h2⟩:=d ah;refine⟨h1.trans ?_,h2.trans (prefix_append _ _)⟩;show _<+:if b.getD n default=true then _ else _
   split
   .exact prefix_append _ _
   .exact prefix_refl _
def ajM(a:List IOp)(b:List Bool){j n:Nat}(h:j<n)(k:b.getD j default=true):(kpS a b j).2.length< (kpS a b n).2.length/\(kpS a b n).2.getD (kpS a b j).2.length default=a.getD j default:=by
 have e:(kpS a b (j+1)).2=(kpS a b j).2++ [a.getD j default]:=by show(if b.getD j default=true then _ else _)=_;rw [if_pos k]
 have p:=(ae5 a b (show j+1<=n by omega)).1;have l:=nZ p;rw [e,length_append]at l;simp only [length_cons,length_nil]at l;refine⟨ah,?_⟩;have:=RZ (d:=default) p (i:=(kpS a b j).2.length) (by rw [e,length_append];simp);rw [show((((kpS a b j).2.length:Nat):Int)).toNat=(kpS a b j).2.length from rfl]at this;rw [this,e,BP,if_neg ah,if_pos rfl]
def aby(a:List IOp)(b:List Bool):∀ {n m:Nat},m< (kpS a b n).2.length->∃j,j<n/\b.getD j default=true/\(kpS a b j).2.length=m
 | 0,m,h=>absurd h (by simp [kpS])
 | n+1,m,h=>by
  have h:m< (if b.getD n default=true then(kpS a b n).2++ [a.getD n default]else(kpS a b n).2).length:=h;by_cases c:m< (kpS a b n).2.length
  .obtain⟨j,h1,h2,h3⟩:=aby a b c;exact⟨j,ah,h2,h3⟩
  .split at h
   .rename_i k;rw [length_append]at h;simp only [length_cons,length_nil]at h;exact⟨n,ah,k,ah⟩
   .omega
def iH(a:List IOp):List Bool:=(range a.length).map λi=> !(decide ((a.getD i default).kind=8)&&um (a.drop (i+1)) (a.getD i default).k)
noncomputable def qg (b:Blk):Blk:=if bp (dK b)=true then Av b (iH b.ops)else R6
def WH{a:List IOp}{i:Nat}(h:i<a.length):(iH a).getD i default= !(decide ((a.getD i default).kind=8)&&um (a.drop (i+1)) (a.getD i default).k):=by
 unfold iH;rw [getD_lt (by rw [length_map,length_range];exact h),getElem_map,getElem_range]
def us0(b:Blk):List Bool:=(λm:List Bool=>if 3<=b.fin then m.set b.y.toNat true else m) (if b.fin=1 then replicate b.ops.length false else(replicate b.ops.length false).set b.x.toNat true)
def usO(o:IOp)(i:Nat)(m:List Bool):List Bool:=
 if(m.getD i default || decide (4<=o.kind))=true then(λm:List Bool=>if hY o then m.set o.y.toNat true else m) ((λm:List Bool=>if hX o then m.set o.x.toNat true else m) (m.set i true))else m
def us(b:Blk):Nat->List Bool
 | 0=>us0 b
 | k+1=>usO (b.ops.getD (b.ops.length-1-k) default) (b.ops.length-1-k) (us b k)
noncomputable def mO (b:Blk):Blk:=if bp (dK b)=true then Av b (us b b.ops.length)else R6
def ae6(o:IOp)(i:Nat)(m:List Bool):(usO o i m).length=m.length:=by
 unfold usO;dsimp only;repeat' split
 all_goals simp only [length_set]
def ae7(b:Blk):(us0 b).length=b.ops.length:=by
 unfold us0;dsimp only;repeat' split
 all_goals simp only [length_set,length_replicate]
def R8(b:Blk):∀k,(us b k).length=b.ops.length
 | 0=>ae7 b
 | k+1=>by unfold us;rw [ae6,R8 b k]
def abz(b:Blk)(a:List Bool):(Av b a).ops.length=(kpS b.ops a b.ops.length).2.length:=length_map _
theorem R9(o:IOp)(l:List IOp)(r:Int):um (o::l) r=if o.kind=4\/o.kind=5\/o.kind=2/\o.k=r then false else if o.kind=8/\o.k=r then true else um l r:=rfl
def M0(a:dK b):qg b=Av b (iH b.ops):=by unfold qg;rw [if_pos (aR a)]
def M4(a:dK b):mO b=Av b (us b b.ops.length):=by unfold mO;rw [if_pos (aR a)]
def M5(b:Blk)(a:List Bool):(Av b a).ops.length<=b.ops.length:=by rw [abz];exact(Dv b.ops a b.ops.length).2
def FH(b:Blk):(qg b).ops.length<=b.ops.length:=by
 unfold qg;split
 .exact M5 _ _
 .exact Nat.zero_le _
def zo(b:Blk):(mO b).ops.length<=b.ops.length:=by
 unfold mO;split
 .exact M5 _ _
 .exact Nat.zero_le _
def ae8(b:Blk)(f:List IOp):(fcB b f).ops=f:=by
 unfold fcB;split; · rfl
 split<;>rfl
def CG(b:Blk):(jM b).ops.length<=b.ops.length:=by
 unfold jM;split
 .rw [ae8,wD];exact Nat.le_refl _
 .exact Nat.zero_le _
def FI(b:Blk):(jT b).ops.length<=b.ops.length:=by
 unfold jT;split
 .exact Nat.le_of_eq (length_map _)
 .exact Nat.zero_le _
noncomputable def Kr (b:Blk):Blk:=mO (qg (mO (jM (jT b))))
def WI(b:Blk):(Kr b).ops.length<=b.ops.length:=Nat.le_trans (zo _) (Nat.le_trans (FH _) (Nat.le_trans (zo _) (Nat.le_trans (CG _) (FI _))))
def Kt(a:dK b):jM b=fcB b (fc b.ops b.ops.length):=by unfold jM;rw [if_pos (aR a)]
def M6(a:dK b):jT b=ae4 (cpS b.ops b.ops.length).1 b b.ops:=by unfold jT;rw [if_pos (aR a)]
end Go.TX.F
namespace Go.TX.F
open Go Go.AE Go.TX List
def RB:(∀o:IOp,bR .iop 0 o=o.kind)/\(∀o:IOp,bR .iop 1 o=o.x)/\(∀o:IOp,bR .iop 2 o=o.y)/\(∀o:IOp,bR .iop 3 o=o.k)/\(∀o:IOp,bR .iop 4 o=o.at_)/\
  (∀b:Blk,bR .blk 0 b=b.pc)/\(∀b:Blk,bR .blk 1 b=b.len)/\(∀b:Blk,iW .blk 2 .iop b=b.ops)/\(∀b:Blk,bR .blk 3 b=b.fin)/\(∀b:Blk,bR .blk 4 b=b.x)/\(∀b:Blk,bR .blk 5 b=b.y)/\(∀b:Blk,bR .blk 6 b=b.k)/\
  (∀x,Co.mk .iop x=⟨x.1,x.2.1,x.2.2.1,x.2.2.2.1,x.2.2.2.2.1⟩)/\(∀x,Co.mk .blk x=⟨x.1,x.2.1,x.2.2.1,x.2.2.2.1,x.2.2.2.2.1,x.2.2.2.2.2.1,x.2.2.2.2.2.2.1⟩)/\
  (∀i:Ins,bR .ins 0 i=i.op)/\(∀i:Ins,bR .ins 1 i=i.d)/\(∀i:Ins,bR .ins 2 i=i.a)/\(∀i:Ins,bR .ins 3 i=i.k)/\(∀x,Co.mk .ins x=⟨x.1,x.2.1,x.2.2.1,x.2.2.2.1⟩)/\
  (∀e:Ev,bR .ev 0 e=e.kind)/\(∀e:Ev,bR .ev 1 e=e.at_)/\(∀e:Ev,iW .ev 2 .mono e=e.x)/\(∀e:Ev,iW .ev 3 .mono e=e.y)/\(∀e:Ev,iW .ev 4 .poly e=e.regs)/\(∀x,Co.mk .ev x=⟨x.1,x.2.1,x.2.2.1,x.2.2.2.1,x.2.2.2.2.1⟩)/\
  (∀s:Sym,iW .sym 0 .ev s=s.events)/\(∀s:Sym,iW .sym 1 .poly s=s.regs)/\(∀s:Sym,bR .sym 2 s=s.fin)/\(∀s:Sym,iW .sym 3 .mono s=s.x)/\(∀s:Sym,iW .sym 4 .mono s=s.y)/\(∀s:Sym,bR .sym 5 s=s.k)/\
  (∀x,Co.mk .sym x=⟨x.1,x.2.1,x.2.2.1,x.2.2.2.1,x.2.2.2.2.1,x.2.2.2.2.2.1⟩)/\(∀x,Co.mk .bool x=x.1)/\(∀x:Bool,JG .bool 0 x=x):=
 ⟨λ_=>rfl,λ_=>rfl,λ_=>rfl,λ_=>rfl,λ_=>rfl,λ_=>rfl,λ_=>rfl,λ_=>rfl,λ_=>rfl,λ_=>rfl,λ_=>rfl,λ_=>rfl,λ_=>rfl,λ_=>rfl,λ_=>rfl,λ_=>rfl,λ_=>rfl,λ_=>rfl,λ_=>rfl,λ_=>rfl,λ_=>rfl,λ_=>rfl,λ_=>rfl,λ_=>rfl,λ_=>rfl,λ_=>rfl,λ_=>rfl,λ_=>rfl,λ_=>rfl,λ_=>rfl,λ_=>rfl,λ_=>rfl,λ_=>rfl,λ_=>rfl⟩
abbrev hK(o:IOp):Prop:=o.kind=1\/o.kind=2\/o.kind=3\/o.kind=8
def anK{p1 f1}(a:Y1 p1 f1)(o:IOp):
  ZH.F (p1,f1,()) (o,()) (λy=>y=(decide (hX o),decide (hY o),decide (hK o),decide (evO o),())):=by
 dsimp only [ZH,gm];simp (disch:=omega) only [RR,RB,a];refine Prod.ext ?_ (Prod.ext ?_ (Prod.ext ?_ (Prod.ext ?_ rfl)))<;>rw [Bool.eq_iff_iff]<;>simp [hX,hY,hK,evO,inB,or_assoc,and_assoc]
def anL{p1 f1}(a:Y1 p1 f1)(o:IOp):
  ZI.F (p1,f1,()) (o,()) (λy=>y=(decide (mkV o),())):=by
 dsimp only [ZI,gm];simp (disch:=omega) only [RR,RB,a];refine Prod.ext ?_ rfl;rw [Bool.eq_iff_iff];simp [mkV,inB]
def anM{p1 f1}(a:Y1 p1 f1)(o:IOp):
  ZF.F (p1,f1,()) (o,()) (λy=>y=(decide (evO o),())):=by
 dsimp only [ZF,gm];simp (disch:=omega) only [RR,RB,a];refine Prod.ext ?_ rfl;rw [Bool.eq_iff_iff];simp [evO,inB]
def anN{p1 f1}{c:IOp×Unit->Bool}{a:IOp×Unit->fA}(e:∀o,c (o,())=true/\a (o,())=(decide (mkV o),()))(d:Y1 p1 f1)(b:Blk)(x n:Int)(h:0<=n)(g:n<=b.ops.length)(f:b.ops.length<1000000000):
  ZJ.F (c,a,p1,f1,()) (b,x,n,()) (λy=>y=(bp (Vl b.ops x n),())):=by
 dsimp only [ZJ,gm];simp (disch:=omega) only [RR,RB,d,e,dU,oP];refine⟨ah,ah,?_⟩;refine Prod.ext ?_ rfl;dsimp only;rw [Bool.eq_iff_iff,aX,Bool.and_eq_true,dU,decide_eq_true_eq];unfold Vl;constructor
 .rintro⟨⟨a1,a2⟩,a3⟩;exact⟨a1,ah,a3⟩
 .rintro⟨a1,a2,a3⟩;exact⟨⟨a1,ah⟩,a3⟩
def abA{b:List IOp}{len i:Int}{o:IOp}:uI b len i o↔(1<=o.kind/\o.kind<=8)/\(hX o/\Vl b o.x i\/¬hX o/\o.x=0)/\(hY o/\Vl b o.y i\/¬hY o/\o.y=0)/\
  (hK o/\(o.kind=1/\(0<=o.k/\o.k<=65535)\/(o.kind=2\/o.kind=8)/\(0<=o.k/\o.k<=3)\/o.kind=3/\(1<=o.k/\o.k<=5))\/¬hK o/\o.k=0)/\(evO o/\(0<=o.at_/\o.at_<len)\/¬evO o/\o.at_=0):=by
 constructor
 .rintro⟨kd,x1,x0,y1,y0,k1,k2,k3,k0,a1,a0⟩;refine⟨kd,?_,?_,?_,?_⟩
  .by_cases h:hX o
   .exact Or.inl ⟨h,x1 h⟩
   .exact Or.inr ⟨h,x0 h⟩
  .by_cases h:hY o
   .exact Or.inl ⟨h,y1 h⟩
   .exact Or.inr ⟨h,y0 h⟩
  .unfold hK;omega
  .by_cases h:evO o
   .exact Or.inl ⟨h,a1 h⟩
   .exact Or.inr ⟨h,a0 h⟩
 .rintro⟨kd,x,y,k,a⟩;refine⟨kd,λh=> ?_,λh=> ?_,λh=> ?_,λh=> ?_,λh=> ?_,λh=> ?_,λh=> ?_,λh c=> ?_,λh=> ?_,λh=> ?_⟩
  .rcases x with x | x
   .exact x.2
   .exact absurd h x.1
  .rcases x with x | x
   .exact absurd x.1 h
   .exact x.2
  .rcases y with y | y
   .exact y.2
   .exact absurd h y.1
  .rcases y with y | y
   .exact absurd y.1 h
   .exact y.2
  .unfold hK at k;omega
  .unfold hK at k;omega
  .unfold hK at k;omega
  .unfold hK at k;omega
  .rcases a with a | a
   .exact a.2
   .exact absurd h a.1
  .rcases a with a | a
   .exact absurd a.1 h
   .exact a.2
abbrev Y52(c:Blk×oz->Bool)(a:Blk×oz->fA):Prop:=∀b x n,0<=n->n<=b.ops.length->b.ops.length<1000000000->c (b,x,n,())=true/\a (b,x,n,())=(bp (Vl b.ops x n),())
abbrev Y53(b:IOp×Unit->Bool)(a:IOp×Unit->Bool×Bool×Bool×fA):Prop:=∀o,b (o,())=true/\a (o,())=(decide (hX o),decide (hY o),decide (hK o),decide (evO o),())
def anO{p3 f3 p2 f2 p4 f4 p1 f1 p5 f5 p6 f6}(D:Y52 p3 f3)(E:Y53 p2 f2)(F:Y9 p4 f4)(G:Y1 p1 f1)(B:Y16 p5 f5)(C:Y17 p6 f6)(b:Blk)(i:Int)(A:0<=i)(H:i<b.ops.length)(z:b.ops.length<1000000000)(I:1<=b.len/\b.len<=8):
  ZK.F (p3,f3,p2,f2,p4,f4,p1,f1,p5,f5,p6,f6,()) (b,i,()) (λy=>y=(bp (uI b.ops b.len i ((b.ops).getD (i).toNat default)),())):=by
 have p:=λz1 z2 z3 z4 j t=>(D z1 z2 z3 z4 j t).1
 have l:=λz1 z2 z3 z4 j t=>(D z1 z2 z3 z4 j t).2
 have r:=λz1=>(E z1).1
 have v:=λz1=>(E z1).2
 have u:=λz1=>(F z1).1
 have s:=λz1=>(F z1).2
 have d:=λz1 z2 z3=>(G z1 z2 z3).1
 have w:=λz1 z2 z3=>(G z1 z2 z3).2
 have n:=λz1=>(B z1).1
 have q:=λz1=>(B z1).2
 have m:=λz1=>(C z1).1
 have f:=λz1=>(C z1).2
 have ajN:=λx=>p b x i A ah z
 have ajO:=λx=>l b x i A ah z
 dsimp only [ZK,gm];simp (disch:=omega) only [RR,RB,d,w,r,v,ajN,ajO,u,s,n,q,m,f,oP];refine⟨ah,ah,λh=> ?_,λh=> ?_⟩
 .rw [bJ (λg=>h g.kd)]
 .have h:=dU.1 h;refine Prod.ext ?_ rfl;dsimp only;rw [Bool.eq_iff_iff,aX,abA];generalize ((b.ops).getD (i).toNat default)=o at h ⊢;simp only [Bool.and_eq_true,Bool.or_eq_true,Bool.not_eq_true',decide_eq_true_eq,decide_eq_false_iff_not,aX,dU,h,true_and,and_true];have e:∀ {a:Int},(0<=a/\a<=b.len-1)↔(0<=a/\a<b.len):=λ{a}=>by omega
  have k:(bif decide (o.kind=1)then inB o.k 0 65535 else bif decide (o.kind=2)then inB o.k 0 3 else bif decide (o.kind=3)then inB o.k 1 5 else(decide (o.kind=8)&&inB o.k 0 3))=true↔(o.kind=1/\(0<=o.k/\o.k<=65535)\/(o.kind=2\/o.kind=8)/\(0<=o.k/\o.k<=3)\/o.kind=3/\(1<=o.k/\o.k<=5)):=by
   rcases(by omega:o.kind=1\/o.kind=2\/o.kind=3\/o.kind=8\/(o.kind≠1/\o.kind≠2/\o.kind≠3/\o.kind≠8))with c | c | c | c | ⟨c1,c2,c3,c4⟩
   .simp [c,inB]
   .simp [c,inB]
   .simp [c,inB]
   .simp [c,inB]
   .simp [c1,c2,c3,c4]
  rw [k];simp only [e,and_assoc]
def anP(b:Blk):ZL.F () (b,()) (λy=>y=(decide (b.fin≠1),decide (3<=b.fin),decide (b.fin≠2),())):=by
 dsimp only [ZL,gm];simp (disch:=omega) only [RR,RB];refine Prod.ext ?_ (Prod.ext rfl (Prod.ext ?_ rfl))<;>simp
def WJ{b:Blk}:MW b↔(1<=b.fin/\b.fin<=4)/\(b.fin≠1/\Vl b.ops b.x b.ops.length\/¬b.fin≠1/\b.x=0)/\(3<=b.fin/\Vl b.ops b.y b.ops.length\/¬3<=b.fin/\b.y=0)/\(b.fin≠2/\(0<=b.k/\b.k<=65535)\/¬b.fin≠2/\b.k=0):=by
 constructor
 .rintro⟨f,x1,x0,y1,y0,k1,k0⟩;refine⟨f,?_,?_,ah⟩
  .by_cases h:b.fin=1
   .exact Or.inr ⟨λg=>g h,x0 h⟩
   .exact Or.inl ⟨h,x1 h⟩
  .by_cases h:3<=b.fin
   .exact Or.inl ⟨h,y1 h⟩
   .exact Or.inr ⟨h,y0 ah⟩
 .rintro⟨f,x,y,k⟩;refine⟨f,λh=> ?_,λh=> ?_,λh=> ?_,λh=> ?_,λh=>by omega,λh=>by omega⟩
  .rcases x with x | x
   .exact x.2
   .exact absurd h x.1
  .rcases x with x | x
   .exact absurd h x.1
   .exact x.2
  .rcases y with y | y
   .exact y.2
   .exact absurd h y.1
  .rcases y with y | y
   .exact absurd y.1 ah
   .exact y.2
abbrev Y54(c:kr->Bool)(a:kr->Bool×Bool×fA):Prop:=∀b,c (b,())=true/\a (b,())=(decide (b.fin≠1),decide (3<=b.fin),decide (b.fin≠2),())
def anQ{p2 f2 p3 f3 p4 f4 p1 f1}(n:Y54 p2 f2)(m:Y52 p3 f3)(o:Y9 p4 f4)(p:Y1 p1 f1)(b:Blk)(l:b.ops.length<1000000000):
  ZM.F (p2,f2,p3,f3,p4,f4,p1,f1,()) (b,()) (λy=>y=(bp (MW b),())):=by
 have f:=λz1=>(n z1).1
 have j:=λz1=>(n z1).2
 have e:=λz1 z2 z3 z4 c h=>(m z1 z2 z3 z4 c h).1
 have d:=λz1 z2 z3 z4 c h=>(m z1 z2 z3 z4 c h).2
 have i:=λz1=>(o z1).1
 have g:=λz1=>(o z1).2
 have a:=λz1 z2 z3=>(p z1 z2 z3).1
 have k:=λz1 z2 z3=>(p z1 z2 z3).2
 have ajN:=λx=>e b x b.ops.length ah (Int.le_refl _) l
 have ajO:=λx=>d b x b.ops.length ah (Int.le_refl _) l
 dsimp only [ZM,gm];simp (disch:=omega) only [RR,RB,a,k,f,j,ajN,ajO,i,g];refine Prod.ext ?_ rfl;dsimp only;rw [Bool.eq_iff_iff,aX,WJ];simp only [Bool.and_eq_true,Bool.or_eq_true,Bool.not_eq_true',decide_eq_true_eq,decide_eq_false_iff_not,aX,dU,and_assoc]
def anR{p1 f1}{m:kr->Bool}{q:kr->fA}{l:Blk×eB->Bool}{r:Blk×eB->fA}(t:∀b,b.ops.length<1000000000->m (b,())=true/\q (b,())=(bp (MW b),()))(p:∀(b:Blk) (i:Int),0<=i->i<b.ops.length->b.ops.length<1000000000->1<=b.len/\b.len<=8->l (b,i,())=true/\r (b,i,())=(bp (uI b.ops b.len i ((b.ops).getD (i).toNat default)),()))(u:Y1 p1 f1)(b:Blk)(e:b.ops.length<1000000000):
  ZN.F (m,q,l,r,p1,f1,()) (b,()) (λy=>y=(bp (dK b),())):=by
 dsimp only [ZN,gm];simp (disch:=omega) only [RR,RB,u];by_cases a:1<=b.len/\b.len<=8
 .have hl':=dU.2 a;simp (disch:=omega) only [RR,hl',dU,oP];refine⟨λh=> ?_,λh=> ?_⟩
  .rw [bJ (λg=> ?_)];have x:=g.pc;have v:=g.sz;omega
  .refine ay (λ(y:Int×Int×kr)=>y.1=b.ops.length/\y.2.2.1=b/\0<=y.2.1/\y.2.1<=b.ops.length/\All y.2.1 (λi=>uI b.ops b.len i ((b.ops).getD (i).toNat default))) (λy=>(b.ops.length-y.2.1).toNat) ⟨rfl,rfl,by simp,by simp,All.zero⟩ ?_;rintro⟨(n:Int),(i:Int),(c:Blk),⟨⟩⟩ hI;dsimp only at hI ⊢;obtain⟨rfl,rfl,k,w,o⟩:=hI;simp (disch:=omega) only [RR,t c e];refine⟨λd=>⟨(p c i k d e a).1,?_⟩,λd=> ?_⟩
   .rw [(p c i k d e a).2];dsimp only;refine⟨λf=> ?_,λf=>⟨⟨ah,ah,o.snoc (aX.1 f)⟩,ah⟩⟩;rw [bJ (λg=>lS.1 f (g.op i k d))]
   .by_cases he:MW c
    .rw [aR he,aR (show dK c from⟨a,ah,ah,λj s z=>o j s ah,he⟩)]
    .rw [bJ he,bJ (λg=>he g.en)]
 .have hl':=oP.2 a;simp (disch:=omega) only [RR,hl'];rw [bJ (λg=>a g.ln)];exact⟨rfl,λh=>h.1.1.elim⟩
def ajP{p4 f4}(c:Y9 p4 f4)(r a b:Int):
  Rb.F (p4,f4,()) (r,a,b,()) (λy=>y=(inB a 0 65535&&inB b 0 65535&& (decide (r=1/\a=b\/r=2/\a<b)),())):=by
 dsimp only [Rb,gm];simp (disch:=omega) only [RR,c];refine Prod.ext ?_ rfl;rw [Bool.eq_iff_iff];simp
def ajQ{p1 f1}(e:Y13 p1 f1)(a:List (List au))(b:ShP a):
  Rc.F (p1,f1,()) (a,()) (λy=>y=(a,())):=by
 have d:=b.1;dsimp only [Rc,gm];refine ay (λ(y:List (List au)×Int×Int×l7)=>y.1=a/\y.2.1=a.length/\y.2.2.2.1=a.take y.2.2.1.toNat/\0<=y.2.2.1/\y.2.2.1<=a.length) (λy=>(a.length-y.2.2.1).toNat) ⟨rfl,rfl,by simp,by simp,by simp⟩ ?_;rintro⟨(l:List (List au)),(m:Int),(i:Int),(o:List (List au)),⟨⟩⟩ hI;dsimp only at hI ⊢;obtain⟨rfl,rfl,rfl,f,g⟩:=hI;simp (disch:=omega) only [RR,e _ (b.at _)];refine⟨λc=>⟨ah,ah,?_,⟨dO f c rfl,ah,ah⟩,ah⟩,λc=>by rw [take_of_length_le ah]⟩;have:=length_take_le' i.toNat l;simp only [length_cons,length_nil];omega
abbrev Y56(c:l7->Bool)(b:l7->l7):Prop:=∀a,ShP a->c (a,())=true/\b (a,())=(a,())
def anS{p1 f1 p2 f2}(b:Y13 p1 f1)(f:Y56 p2 f2)(s:Sym)(a:ShY s):
  aai.F (p1,f1,p2,f2,()) (s,()) (λy=>y=(s.fin,s.k,s.events,s.regs,s.x,s.y,())):=by
 have e:=a.e.1;dsimp only [aai,gm];simp (disch:=omega) only [RR,RB,b _ a.x,b _ a.y,f _ a.r];refine ay (λ(y:List Ev×Int×Int×Int×Int×Int×Int×List Ev×List (List au)×uy)=>y.1=s.events/\y.2.1=s.events.length/\y.2.2.2.2.2.1=s.fin/\y.2.2.2.2.2.2.1=s.k/\y.2.2.2.2.2.2.2.1=s.events.take y.2.2.1.toNat/\y.2.2.2.2.2.2.2.2.1=s.regs/\y.2.2.2.2.2.2.2.2.2.1=s.x/\y.2.2.2.2.2.2.2.2.2.2.1=s.y/\0<=y.2.2.1/\y.2.2.1<=s.events.length) (λy=>(s.events.length-y.2.2.1).toNat) ⟨rfl,rfl,rfl,rfl,by simp,rfl,rfl,rfl,by simp,by simp⟩ ?_;rintro⟨(l:List Ev),(m:Int),(i:Int),(j:Int),(p:Int),(k:Int),(n:Int),(o:List Ev),(r:List (List au)),(u:List au),(v:List au),⟨⟩⟩ hI;dsimp only at hI ⊢;obtain⟨rfl,rfl,rfl,rfl,rfl,rfl,rfl,rfl,g,h⟩:=hI;have c:=a.e.at i.toNat;simp (disch:=omega) only [RR,RB,b _ c.1,b _ c.2.1,f _ c.2.2];refine⟨λd=>⟨ah,ah,?_,⟨dO g d rfl,ah,ah⟩,ah⟩,λd=>by rw [take_of_length_le ah]⟩;have:=length_take_le' i.toNat s.events;simp only [length_cons,length_nil];omega
end Go.TX.F
