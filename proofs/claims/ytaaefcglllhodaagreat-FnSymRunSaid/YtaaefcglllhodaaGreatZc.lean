/- Part 3 of a proof: what the last part needs. No condition. -/
import Derived.Test.YtaaefcglllhodaaGreatZb
import Derived.Test.YtaaefcglllhodaaGreatProg
import Derived.KernelRfl
set_option linter.all false
set_option linter.unusedSectionVars false
set_option linter.unusedVariables false
set_option linter.unusedSimpArgs false
namespace Go.TX
open Go Go.AE
variable [aB]
section
variable {n:Nat}
variable {X:XT} {E:Tab} (hE:aC E) (hX:XOK X E) {C:Calls aG} (hG:oL E (jV C)) (hm:E.P.follows .mixedOrders=true) {ord:Nat->List fC} {chk:Nat->Array Oper->Nat->Bool} (Mk:∀id ops m,chk id ops m=true->Static E ord id ops m)
 {c0:Ctx} {w0:World} {h0:Heap} {k:Nat} {H0:List aM} {m0:Nat} (hc0:c0.n=k)
include hE hX hG hm Mk hc0
theorem mH:∀(code:Code) {ρ:Type} {an:Ann} {s:RSt (std n)} {K:Exit->RSt (std n)->(ρ->Prop)->Prop} {r:ρ->Prop},bJ (std n) X C ord chk k an code s K r->∀ {s':St} {c:Ctx} {w:World} {a:Act},jy E s' c w a->Grow c0 w0 h0 c w s'.h->SR s' s->Keep k H0 s.h->s.m=m0->
  code.wp E.P (LX E c0 w0 h0 k H0 m0 K r) a w
 | .skip,ρ,an,s,K,r,h,s',c,w,a,A,g,S,hK,hs=>by
  have h:K .normal s r:=by cases an<;>exact h
  exact wp_skip ⟨c,s',s,g,A,S,hK,hs,h⟩
 | .region id ops draw,ρ,an,s,K,r,h,s',c,w,a,A,g,S,hK,hs=>by
  have base:∀ {σ:Type} {K':Exit->RSt (std n)->(σ->Prop)->Prop} {r':σ->Prop},(if draw then(if chk id ops s.m then iK (std n) X C ops.toList (ord id) [] (λs=>K' .normal s) s else(std n).fail)else fF (std n) X C ops.toList ops.toList (λs=>K' .normal s) s:(std n).M σ) r'->
    (Code.region id ops draw).wp E.P (LX E c0 w0 h0 k H0 m0 K' r') a w:=λh=>akp hE hX hG hm Mk h A g S hK hs
  generalize hM:bJ (std n) X C ord chk k an (.region id ops draw) s K=M at h;simp only [bJ]at hM;split at hM
  .subst hM;exact Oj hc0 hs base h
  .subst hM;exact base h
 | .seq x y,ρ,an,s,K,r,h,s',c,w,a,A,g,S,hK,hs=>by
  have main:∀(a1 a2:Ann) (K1:Exit->RSt (std n)->(ρ->Prop)->Prop),(∀s',K1 .normal s'=bJ (std n) X C ord chk k a2 y s' K)->(∀s',K1 .ret s'=K .ret s')->(∀i s',K1 (.exit i) s'=K (.exit i) s')->bJ (std n) X C ord chk k a1 x s K1 r->
    (Code.seq x y).wp E.P (LX E c0 w0 h0 k H0 m0 K r) a w:=by
   intro a1 a2 K1 e1 e2 e3 h;refine wp_seq (wp_mono (mH x h A g S hK hs) ?_);intro e a' w' he;cases e with
   | outgrown=>exact he.elim
   | panic _=>exact he
   | goto _=>exact he
   | normal=>obtain⟨c,s',s1,b1,b2,b3,b4,b5,b6⟩:=he;rw [e1]at b6;exact mH y b6 b2 b1 b3 b4 b5
   | ret=>obtain⟨c,s',s1,b1,b2,b3,b4,b5,b6⟩:=he;rw [e2]at b6;exact⟨c,s',s1,b1,b2,b3,b4,b5,b6⟩
   | exit i=>obtain⟨c,s',s1,b1,b2,b3,b4,b5,b6⟩:=he;rw [e3]at b6;exact⟨c,s',s1,b1,b2,b3,b4,b5,b6⟩
  cases an with
  | seq a1 a2=>rw [bJ]at h;refine main a1 a2 _ ?_ ?_ ?_ h<;>intros<;>rfl
  | u=>rw [bJ]at h;refine main .u .u _ ?_ ?_ ?_ h<;>intros<;>rfl
  | _=>simp [bJ]at h
 | .cond cd x y,ρ,an,s,K,r,h,s',c,w,a,A,g,S,hK,hs=>by
  have he:EvR X E n (nmh s.h) s'.t (gK (std n) (dF (std n) s.t) []):=pW (λ_ _=>rfl) S.val (λt h=>by simp at h);generalize hM:bJ (std n) X C ord chk k an (.cond cd x y) s K=M at h;simp only [bJ]at hM;split at hM
  .rename_i f b hb;obtain⟨pv,p1,p2⟩:=dG hX he hb;obtain⟨gf,rfl⟩:=p2.bool;have hbv:=jP (KV A.abs p1);have main:∀(a1 a2:Ann) {σ:Type} {K':Exit->RSt (std n)->(σ->Prop)->Prop} {r':σ->Prop},((b=true->bJ (std n) X C ord chk k a1 x s K' r')/\(b=false->bJ (std n) X C ord chk k a2 y s K' r'))->(Code.cond cd x y).wp E.P (LX E c0 w0 h0 k H0 m0 K' r') a w:=by
    intro a1 a2 σ K' r' h;refine wp_cond hbv ?_;obtain⟨b,rfl⟩:∃b':Bool,b'=b:=⟨b,rfl⟩;cases b with
    | true=>exact mH x (h.1 rfl) A g S hK hs
    | false=>exact mH y (h.2 rfl) A g S hK hs
   split at hM
   .subst hM;exact main _ _ h
   .subst hM;exact main _ _ h
   .rename_i sk a1 a2;subst hM;exact Oj hc0 hs (λ{σ K' r'} h=>main a1 a2 h) h
   .subst hM;exact h.elim
  .subst hM;exact h.elim
 | .block id b,ρ,an,s,K,r,h,s',c,w,a,A,g,S,hK,hs=>by
  have main:∀(a1:Ann) {σ:Type} {K':Exit->RSt (std n)->(σ->Prop)->Prop} {r':σ->Prop} (K1:Exit->RSt (std n)->(σ->Prop)->Prop),(∀s',K1 .normal s'=K' .normal s')->(∀s',K1 .ret s'=K' .ret s')->(∀i s',K1 (.exit i) s'=if i==id then K' .normal s' else K' (.exit i) s')->
    bJ (std n) X C ord chk k a1 b s K1 r'->(Code.block id b).wp E.P (LX E c0 w0 h0 k H0 m0 K' r') a w:=by
   intro a1 σ K' r' K1 e1 e2 e3 h;refine wp_block (wp_mono (mH b h A g S hK hs) ?_);intro e a' w' he;cases e with
   | outgrown=>exact he.elim
   | panic _=>exact he
   | goto _=>exact he
   | normal=>obtain⟨c,s',s1,b1,b2,b3,b4,b5,b6⟩:=he;rw [e1]at b6;exact⟨c,s',s1,b1,b2,b3,b4,b5,b6⟩
   | ret=>obtain⟨c,s',s1,b1,b2,b3,b4,b5,b6⟩:=he;rw [e2]at b6;exact⟨c,s',s1,b1,b2,b3,b4,b5,b6⟩
   | exit i=>
    obtain⟨c,s',s1,b1,b2,b3,b4,b5,b6⟩:=he;rw [e3]at b6;simp only [Exit.inBlock];simp only [beq_iff_eq]at b6;split
    .rename_i e;rw [if_pos e]at b6;exact⟨c,s',s1,b1,b2,b3,b4,b5,b6⟩
    .rename_i e;rw [if_neg e]at b6;exact⟨c,s',s1,b1,b2,b3,b4,b5,b6⟩
  generalize hM:bJ (std n) X C ord chk k an (.block id b) s K=M at h;simp only [bJ]at hM;split at hM
  .subst hM;refine main _ _ ?_ ?_ ?_ h<;>intros<;>rfl
  .subst hM;refine main _ _ ?_ ?_ ?_ h<;>intros<;>rfl
  .rename_i sk a1;subst hM;exact Oj hc0 hs (λ{σ K' r'} h=>by refine main a1 _ ?_ ?_ ?_ h<;>intros<;>rfl) h
  .subst hM;exact h.elim
 | .loop b,ρ,an,s,K,r,h,s',c,w,a,A,g,S,hK,hs=>by
  cases an with
  | loop sk a1=>
   rw [bJ]at h;rcases hx0:EM (std n) k sk s with _ | ⟨ck,x0⟩
   .rw [hx0]at h;exact h.elim
   .rw [hx0]at h;obtain⟨hck,h⟩:=fQ h;obtain⟨I,μ,hI0,h⟩:=h;obtain⟨c1,s1',g1,A1,S1,K1,hm1⟩:=Jm hx0 hck S A hc0 g hs;rw [hs]at h;refine wp_loop_ghost (λN a' w'=>∃c s' x,Grow c0 w0 h0 c w' s'.h/\jy E s' c w' a'/\SR s' (rF (std n) sk m0 x)/\Keep k H0 (rF (std n) sk m0 x).h/\(rF (std n) sk m0 x).m=m0/\I x/\μ x=N) (μ x0) ⟨c1,s1',x0,g1,A1,S1,hK.trans K1,hm1,hI0,rfl⟩ ?_;rintro N a' w' ⟨c2,s2',x,g2,A2,S2,K2,hm2,hi,rfl⟩;have hq:=h x hi;refine wp_mono (mH b hq A2 g2 S2 K2 hm2) ?_;intro e a3 w3 he;cases e with
    | outgrown=>exact he.elim
    | panic _=>exact he
    | goto _=>exact he
    | normal=>
     obtain⟨c4,s4',s4,b1,b2,b3,b4,b5,b6⟩:=he;simp only at b6;rcases hx4:EM (std n) k sk s4 with _ | ⟨ck4,t4⟩
     .rw [hx4]at b6;exact b6.elim
     .rw [hx4]at b6;obtain⟨auc,b6⟩:=fQ b6;obtain⟨c5,s5',g5,A5,S5,K5,hm5⟩:=Jm hx4 auc b3 b2 hc0 b1 b5;exact⟨μ t4,b6.2,c5,s5',_,g5,A5,S5,b4.trans K5,hm5,b6.1,rfl⟩
    | ret=>obtain⟨c4,s4',s4,b1,b2,b3,b4,b5,b6⟩:=he;exact⟨c4,s4',s4,b1,b2,b3,b4,b5,b6⟩
    | exit i=>obtain⟨c4,s4',s4,b1,b2,b3,b4,b5,b6⟩:=he;exact⟨c4,s4',s4,b1,b2,b3,b4,b5,b6⟩
  | _=>simp [bJ]at h
 | .exit i,ρ,an,s,K,r,h,s',c,w,a,A,g,S,hK,hs=>by
  have h:K (.exit i) s r:=by cases an<;>exact h
  exact wp_exit ⟨c,s',s,g,A,S,hK,hs,h⟩
 | .ret,ρ,an,s,K,r,h,s',c,w,a,A,g,S,hK,hs=>by
  have h:K .ret s r:=by cases an<;>exact h
  exact wp_ret ⟨c,s',s,g,A,S,hK,hs,h⟩
 | .rangeFunc ..,ρ,an,s,K,r,h,_,_,_,_,_,_,_,_,_=>by cases an<;>simp [bJ]at h
 | .scope _,ρ,an,s,K,r,h,_,_,_,_,_,_,_,_,_=>by cases an<;>simp [bJ]at h
 | .label _,ρ,an,s,K,r,h,_,_,_,_,_,_,_,_,_=>by cases an<;>simp [bJ]at h
 | .goto _,ρ,an,s,K,r,h,_,_,_,_,_,_,_,_,_=>by cases an<;>simp [bJ]at h
 | .refuse _,ρ,an,s,K,r,h,_,_,_,_,_,_,_,_,_=>by cases an<;>simp [bJ]at h
end
end Go.TX
namespace Go.TX
open Go Go.AE
variable [aB]
section
variable {n:Nat}
theorem iD:∀(r:List (Option (Option Nat))) (m k:Nat),(newNames r m k).length=k
 | _,_,0=>by simp [newNames]
 | [],m,k+1=>by simp [newNames,iD [] (m+1) k]
 | some (some l)::r,m,k+1=>by simp [newNames,iD r m k]
 | some none::r,m,k+1=>by simp [newNames,iD r (m+1) k]
 | none::r,m,k+1=>by simp [newNames,iD r (m+1) k]
structure YI(r:List (Option (Option Nat)))(h:List aM)(os:List aM)(nms:List Nat)(kT:List aM):Prop where
 len:h.length<=kT.length
 at_:∀(i:Nat),i<os.length->∃l,nms[i]? =some l/\kT[l]? =os[i]? /\(r[i]? =some (some (some l))\/(h.length<=l/\∀q:Nat,r[i]? ≠some (some (some q))))
 old:∀l,l<h.length->(∀i:Nat,i<os.length->r[i]? ≠some (some (some l)))->kT[l]? =h[l]?
 inj:∀(i j l:Nat),nms[i]? =some l->nms[j]? =some l->i=j
 new:∀l,h.length<=l->l<kT.length->∃i:Nat,i<os.length/\nms[i]? =some l
theorem Ol:∀(os:List aM) (r:List (Option (Option Nat))) (h:List aM),(∀i l:Nat,r[i]? =some (some (some l))->i<os.length->l<h.length)->(∀i j l:Nat,r[i]? =some (some (some l))->r[j]? =some (some (some l))->i=j)->
  YI r h os (newNames r h.length os.length) (iB (std n) h (newNames r h.length os.length) os)
 | [],r,h,h1,h2=>by
  refine⟨?_,λi hi=>by simp at hi,λl _ _=> ?_,λi j l hi=>by simp [newNames]at hi,λl a b=> ?_⟩<;>simp only [List.length_nil,newNames,iB]at* <;>first | exact Nat.le_refl _ | rfl | omega
 | o::os,r,h,h1,h2=>by
  have fresh:∀r',(∀(i:Nat),r'[i]? =r[i+1]?)->(∀q:Nat,r[0]? ≠some (some (some q)))->newNames r h.length (os.length+1)=h.length::newNames r' (h.length+1) os.length->YI r h (o::os) (newNames r h.length (os.length+1)) (iB (std n) h (newNames r h.length (os.length+1)) (o::os)):=by
   intro r' hr h0 e;rw [e];have hl:(h++ [o]).length=h.length+1:=by simp
   have P:=Ol os r' (h++ [o]) (λi l hi hi2=>by rw [hl];have:=h1 (i+1) l (by rw [<-hr];exact hi) (by simp;omega);omega) (λi j l hi hj=>by have:=h2 (i+1) (j+1) l (by rw [<-hr];exact hi) (by rw [<-hr];exact hj);omega);rw [hl]at P;have hput:iB (std n) h (h.length::newNames r' (h.length+1) os.length) (o::os)=iB (std n) (h++ [o]) (newNames r' (h.length+1) os.length) os:=by
    simp [iB]
   rw [hput];have hcur:(iB (std n) (h++ [o]) (newNames r' (h.length+1) os.length) os)[h.length]? =some o:=by
    rw [P.old h.length (by simp) (λi hi hh=>by have:=h1 (i+1) h.length (by rw [<-hr];exact hh) (by simp;omega);omega)];simp
   refine⟨by have:=P.len;simp at this;omega,λi hi=> ?_,λl hl2 hn=> ?_,λi j l hi hj=> ?_,λl ha hb=> ?_⟩
   .cases i with
    | zero=>exact⟨h.length,rfl,by rw [hcur];rfl,.inr ⟨Nat.le_refl _,h0⟩⟩
    | succ i=>
     obtain⟨l,q1,q2,q3⟩:=P.at_ i (by simpa using hi);refine⟨l,by simpa using q1,by rw [q2];simp,?_⟩;rw [<-hr];rcases q3 with q3 | ⟨q3,q4⟩
     .exact .inl q3
     .exact .inr ⟨by simp at q3;omega,q4⟩
   .rw [P.old l (by simp;omega) (λi hi hh=>hn (i+1) (by simp;omega) (by rw [<-hr];exact hh))];exact List.getElem?_append_left hl2
   .have ne:∀(j:Nat),(newNames r' (h.length+1) os.length)[j]? =some h.length->False:=by
     intro j hj;have hj2:j<os.length:=by have:=(List.getElem?_eq_some_iff.1 hj).1;rw [iD]at this;exact this
     obtain⟨l,q1,q2,q3⟩:=P.at_ j hj2;rw [hj]at q1;cases q1;rcases q3 with q3 | ⟨q3,q4⟩
     .have:=h1 (j+1) h.length (by rw [<-hr];exact q3) (by simp;omega);omega
     .simp at q3;omega
    cases i with
    | zero=>
     simp at hi;subst hi;cases j with
     | zero=>rfl
     | succ j=>exact(ne j (by simpa using hj)).elim
    | succ i=>
     cases j with
     | zero=>simp at hj;subst hj;exact(ne i (by simpa using hi)).elim
     | succ j=>rw [P.inj i j l (by simpa using hi) (by simpa using hj)]
   .by_cases e:l=h.length
    .subst e;exact⟨0,by simp,rfl⟩
    .obtain⟨i,q1,q2⟩:=P.new l (by simp;omega) hb;exact⟨i+1,by simp;omega,by simpa using q2⟩
  match r,h1,h2,fresh with
  | [],h1,h2,fresh=>exact fresh [] (λi=>by simp) (λq=>by simp) rfl
  | none::r',h1,h2,fresh=>exact fresh r' (λi=>by simp) (λq=>by simp) rfl
  | some none::r',h1,h2,fresh=>exact fresh r' (λi=>by simp) (λq=>by simp) rfl
  | some (some l0)::r',h1,h2,_=>
   have hl0:l0<h.length:=h1 0 l0 rfl (by simp);have e:newNames (some (some l0)::r') h.length (os.length+1)=l0::newNames r' h.length os.length:=rfl;show YI _ _ _ (newNames (some (some l0)::r') h.length (os.length+1)) (iB (std n) h (newNames (some (some l0)::r') h.length (os.length+1)) (o::os));rw [e];have hl:(h.set l0 o).length=h.length:=by simp
   have P:=Ol os r' (h.set l0 o) (λi l hi hi2=>by rw [hl];exact h1 (i+1) l (by simpa using hi) (by simp;omega)) (λi j l hi hj=>by have:=h2 (i+1) (j+1) l (by simpa using hi) (by simpa using hj);omega);rw [hl]at P;have hput:iB (std n) h (l0::newNames r' h.length os.length) (o::os)=iB (std n) (h.set l0 o) (newNames r' h.length os.length) os:=by
    have:Nat.blt l0 h.length=true:=by simpa using hl0
    simp [iB,hl0]
   rw [hput];have hcur:(iB (std n) (h.set l0 o) (newNames r' h.length os.length) os)[l0]? =some o:=by
    rw [P.old l0 (by simpa using hl0) (λi hi hh=>by have:=h2 0 (i+1) l0 rfl (by simpa using hh);omega)];rw [List.getElem?_set_self hl0]
   refine⟨by have:=P.len;rw [hl]at this;exact this,λi hi=> ?_,λl hl2 hn=> ?_,λi j l hi hj=> ?_,λl ha hb=> ?_⟩
   .cases i with
    | zero=>exact⟨l0,rfl,by rw [hcur];rfl,.inl rfl⟩
    | succ i=>
     obtain⟨l,q1,q2,q3⟩:=P.at_ i (by simpa using hi);refine⟨l,by simpa using q1,by rw [q2];simp,?_⟩;simp only [List.getElem?_cons_succ];rcases q3 with q3 | ⟨q3,q4⟩
     .exact .inl q3
     .exact .inr ⟨by rw [hl]at q3;exact q3,q4⟩
   .rw [P.old l (by rw [hl];exact hl2) (λi hi hh=>hn (i+1) (by simp;omega) (by simpa using hh))];have:l0≠l:=λe=>hn 0 (by simp) (by rw [e];rfl)
    exact List.getElem?_set_ne this
   .have ne:∀(j:Nat),(newNames r' h.length os.length)[j]? =some l0->False:=by
     intro j hj;have hj2:j<os.length:=by have:=(List.getElem?_eq_some_iff.1 hj).1;rw [iD]at this;exact this
     obtain⟨l,q1,q2,q3⟩:=P.at_ j hj2;rw [hj]at q1;cases q1;rcases q3 with q3 | ⟨q3,q4⟩
     .have:=h2 0 (j+1) l0 rfl (by simpa using q3);omega
     .rw [hl]at q3;omega
    cases i with
    | zero=>
     simp at hi;subst hi;cases j with
     | zero=>rfl
     | succ j=>exact(ne j (by simpa using hj)).elim
    | succ i=>
     cases j with
     | zero=>simp at hj;subst hj;exact(ne i (by simpa using hi)).elim
     | succ j=>rw [P.inj i j l (by simpa using hi) (by simpa using hj)]
   .obtain⟨i,q1,q2⟩:=P.new l (by rw [hl];exact ha) hb;exact⟨i+1,by simp;omega,by simpa using q2⟩
theorem Xp{nm:Nat->Nat}{k:SkV}{r r':List (LV aG)}{v:SVal}(h:zL aG nm k r=some (v,r')):oh v=false:=by
 cases k with
 | c k=>simp only [zL]at h;split at h<;>cases h;rfl
 | agg ks=>simp only [zL]at h;split at h<;>cases h;rfl
 | sv f c=>
  unfold zL at h;split at h<;>first | (cases h;rfl) | (split at h<;>cases h<;>rfl) | cases h
theorem Fj{nm:Nat->Nat}:∀ {ks:List SkV} {r r':List (LV aG)} {vs:List SVal},qF aG nm ks r=some (vs,r')->∀v∈vs,oh v=false
 | [],r,r',vs,h=>by simp only [qF,Option.some.injEq,Prod.mk.injEq]at h;obtain⟨rfl,_⟩:=h;simp
 | k::ks,r,r',vs,h=>by
  simp only [qF]at h;split at h
  .rename_i x r1 hx;split at h
   .rename_i xs r2 hxs;cases h;intro v hv;cases hv with
    | head=>exact Xp hx
    | tail _ hv=>exact Fj hxs v hv
   .cases h
  .cases h
theorem zY:∀ {ls:List Nat} {h:List aM} {l:Nat} {g:Bool} {c:Co} {xs:List c.den},l∈ls->h[l]? =some (.rows g c xs)->Gone (bA (std n) h ls) l
 | [],_,_,_,_,_,hm,_=>by simp at hm
 | a::ls,h,l,g,c,xs,hm,hl=>by
  rw [gH];have stays:∀(ls:List Nat) (h:List aM),Gone h l->Gone (bA (std n) h ls) l:=by
   intro ls
   induction ls with
   | nil=>intro h hg;exact hg
   | cons b ls ih=>
    intro h ⟨cc,nn,hg⟩;rw [gH];refine ih _ ⟨cc,nn,?_⟩;by_cases e:b=l
    .subst e;unfold fG;split
     .rename_i hh;rw [hg]at hh;cases hh
     .exact hg
    .rw [wo e];exact hg
  by_cases e:a=l
  .subst e;refine stays ls _ ⟨c,(xs.length:Int),?_⟩;unfold fG;rw [hl];simp only;rw [List.getElem?_set_self (List.getElem?_eq_some_iff.1 hl).1]
  .refine zY (g:=g) (c:=c) (xs:=xs) ?_ (by rw [wo e];exact hl);cases hm with
   | head=>exact absurd rfl e
   | tail _ h=>exact h
theorem Hy{h:List aM}:∀ {ks:List SkO} {j:Nat} {s s':ES (std n)},zK (std n) h j ks s=some s'->∀ {i:Nat} {k:SkO},ks[i]? =some k->k≠ .gone->∀ {l:Nat} (_:s'.ren[j+i]? =some (some (some l))),∃o,h[l]? =some o/\¬Gone [o] 0
 | [],_,_,_,_,i,k,hk,_,_,_=>by simp at hk
 | q::ks,j,s,s',hx,i,k,hk,hg,l,h5=>by
  simp only [zK]at hx;split at hx
  .rename_i s1 h1;cases i with
   | succ i=>
    have:=Hy hx (i:=i) (k:=k) (by simpa using hk) hg (l:=l) (by rw [show j+1+i=j+(i+1) by omega];exact h5);exact this
   | zero=>
    simp at hk;subst hk;rw [Nat.add_zero]at h5;have e1:ELe s s':=by
     obtain⟨_,_,_,a2,_⟩:=Vp (m:=n) (λi=>i) h1 (.gone .i64 0) ⟨.i64,0,rfl⟩;obtain⟨_,_,_,b2,_⟩:=pU (m:=n) (λi=>i) (λ_=> .gone .i64 0) (λ_=>⟨.i64,0,rfl⟩) hx;exact a2.trans b2
    cases q with
    | gone=>exact absurd rfl hg
    | box kk=>
     rcases hr:s.ren[j]? with _ | _ | _ | l0<;>simp only [N9,hr,reduceCtorEq]at h1
     have:=e1.ren j _ hr;rw [h5]at this;cases this;split at h1
     .rename_i v hv;exact⟨_,hv,λ⟨c,m,hgo⟩=>by simp at hgo⟩
     .cases h1
    | rows f c=>
     rcases hr:s.ren[j]? with _ | _ | _ | l0<;>simp only [N9,hr,reduceCtorEq]at h1
     .have:=e1.ren j _ hr;rw [h5]at this;cases this
     .have:=e1.ren j _ hr;rw [h5]at this;cases this;split at h1
      .rename_i g c' xs hv;exact⟨_,hv,λ⟨c,m,hgo⟩=>by simp at hgo⟩
      .cases h1
  .cases hx
end
end Go.TX
namespace Go.TX
open Go Go.AE
variable [aB]
section
variable {n:Nat}
theorem Jo{X:XT}{E:Tab}(hX:XOK X E){s':St}{s:RSt (std n)}(S:SR s' s):∀ {rs:List ResultVar} {qs:List SVal},Od (std n) X s rs=some qs->∃ps,F2 (PVR (nmh s.h)) ps qs/\∀K,K ps->Lj E s' rs K
 | [],qs,h=>by simp only [Od,Option.some.injEq]at h;subst h;exact⟨[],.nil,λK hK=>hK⟩
 | .tmp t::r,qs,h=>by
  simp only [Od]at h;split at h
  .rename_i v hv;split at h
   .rename_i vs hvs;cases h;obtain⟨pv,p1,p2⟩:=S.val t _ hv;obtain⟨ps,q1,q2⟩:=Jo hX S hvs;exact⟨pv::ps,.cons p2 q1,λK hK=>by unfold Lj;exact iH p1 _ (q2 _ hK)⟩
   .cases h
  .cases h
 | .cell t ty::r,qs,h=>by
  simp only [Od]at h;split at h
  .rename_i p hp;split at h
   .rename_i v hv;split at h
    .rename_i vs hvs;cases h;obtain⟨pv,p1,p2⟩:=S.val t _ hp;obtain⟨pr,r1,r2⟩:=LQ hX S.heap p2 hv (λb hb=>by simp at hb);obtain⟨ps,q1,q2⟩:=Jo hX S hvs;exact⟨pr::ps,.cons r1 q1,λK hK=>by unfold Lj;exact iH p1 _ (r2 _ (q2 _ hK))⟩
    .cases h
   .cases h
  .cases h
theorem akq{N:NM}:∀ {ps:List PV} {vs:List SVal},F2 (PVR N) ps vs->(∀v∈vs,oh v=false)->PVR N (one ps) (apL (std n) vs)
 | [],_,h,_=>by cases h;exact .tup .nil
 | [p],_,.cons h1 h2,_=>by cases h2;exact h1
 | p::q::ps,_,.cons h1 (.cons h2 h3),ht=>by
  have up:∀ {p v},PVR N p v->oh v=false->PV0 N p v:=λh hv=>by
   cases h with
   | one h=>exact h
   | tup _=>simp [oh]at hv
  have all:∀ {ps:List PV} {vs:List SVal},F2 (PVR N) ps vs->(∀v∈vs,oh v=false)->F2 (PV0 N) ps vs:=by
   intro ps vs h
   induction h with
   | nil=>intro _;exact .nil
   | cons a _ ih=>intro ht;exact .cons (up a (ht _ (by simp))) (ih λv hv=>ht v (List.mem_cons_of_mem _ hv))
  exact .tup (all (.cons h1 (.cons h2 h3)) ht)
theorem agb{c:Ctx}{w:World}{us:List Value}{ps:List PV}(h:F2 (bG c w) us ps):bG c w (if h:us.toArray.size=1 then us.toArray[0]else .tuple us.toArray) (one ps):=by
 cases h with
 | nil=>exact Lh _ _
 | cons q1 q2=>
  cases q2 with
  | nil=>simpa [one]using q1
  | cons q3 q4=>
   have hl:=(F2.cons q1 (F2.cons q3 q4)).length;rw [dif_neg (by simp)];refine .tup _ _ hl (λi hi=> ?_);have hx:∀(l:List PV),i<l.length->l[i]? =some (l.getD i default):=λl hl=>by simp [List.getD,List.getElem?_eq_getElem hl]
   obtain⟨u,hu,hr⟩:=(F2.cons q1 (F2.cons q3 q4)).get (hx _ hi);rw [mh hu];exact hr
theorem Ml(h:List aM)(l:Nat):Gone [tZ (std n) h l] 0:=by
 unfold tZ;split
 .exact⟨_,_,rfl⟩
 .exact⟨_,_,rfl⟩
 .exact⟨_,_,rfl⟩
def zZ(D:List Nat)(h:Heap):Heap:=D.map (λl=>(l,fH.gone))++h
theorem Fp{D:List Nat}{h:Heap}{l:Nat}(hl:l∈D):AE.look (zZ D h) l=some .gone:=by
 induction D with
 | nil=>simp at hl
 | cons d D ih=>
  show AE.look ((d,.gone)::zZ D h) l=_;by_cases e:d=l
  .subst e;rw [aK]
  .rw [aA _ _ e];exact ih (by cases hl with | head=>exact absurd rfl e | tail _ h=>exact h)
theorem pY{D:List Nat}{h:Heap}{l:Nat}(hl:l∉D):AE.look (zZ D h) l=AE.look h l:=by
 induction D with
 | nil=>rfl
 | cons d D ih=>
  show AE.look ((d,.gone)::zZ D h) l=_;rw [aA _ _ (λe=>hl (by simp [e]))];exact ih (λh=>hl (List.mem_cons_of_mem _ h))
section
variable {X:XT} {E:Tab} (hE:aC E) (hX:XOK X E) {C:Calls aG} (hG:oL E (jV C)) (hm:E.P.follows .mixedOrders=true) {ord:Nat->List fC} {chk:Nat->Array Oper->Nat->Bool} (Mk:∀id ops m,chk id ops m=true->Static E ord id ops m)
include hE hX hG hm Mk
theorem ap6{f:FuncId}{fn:Func}{code:Code}(hf:E.P.funcs[f]? =some fn)(hb:fn.body=some code)(hent:Enters E.P f){sg:Sig}{an:Ann}{ct:Ct aG sg}
  (hrun:∀x,ct.pre x=true->pO (std 0) X C ord chk an sg fn code x (λy=>y=ct.fn x)):dI E f (dD ct) where
 enters:=hent
 calls:=by
  rintro args h nn K ⟨m,qs,hs,hargs,HR,hlen,cr,hcall,agc,v,kT,hvk,hK⟩ c w vs hcn pX H Gl;subst hlen;unfold qH at hcall;split at hcall
  .rename_i e1 he1;split at hcall
   .rename_i e he;split at hcall
    .rename_i iZ;simp only [Bool.and_eq_true,List.isEmpty_iff]at iZ;obtain⟨iZ,htr⟩:=iZ;have iZ:=Jg iZ;split at hcall
     .rename_i x hx;simp only [Option.some.injEq]at hcall;subst hcall;have hck:∀b∈e.ck,b=true:=λb hb=>agc b (List.mem_append_left _ hb)
      have hpre:ct.pre x=true:=agc _ (List.mem_append_right _ (by simp));obtain⟨N,hrun⟩:∃N:Nat,pO (std N) X C ord chk an sg fn code x (λy=>y=ct.fn x):=⟨0,hrun x hpre⟩;simp only at hvk hK;obtain⟨new1,qs1,a1,a2,a3,a4⟩:=um (λi=>i) he1;obtain⟨new2,os1,b1,b2,b3,b4,b5⟩:=pU (λi=>i) (λ_=>(.gone .i64 0:aM)) (λ_=>⟨.i64,0,rfl⟩) he;have hlv:e.lv.reverse=new1++new2:=by rw [b1,a1];simp [es0]
      have hun:=unpack_pack hx;rw [hlv]at hun;have hrl:e.ren.length=sg.objs.length:=by rw [b2.len,a2.len,Jk]
      have hof:∀(j:Nat) (kk:SkO),sg.objs[j]? =some kk->∃o2,os1[j]? =some o2/\OF e hs (λi=>i) j kk (.gone .i64 0) o2:=λj kk hj=>by
       obtain⟨o2,q1,q2⟩:=b5 e (.refl _) j kk hj;exact⟨o2,q1,by simpa using q2⟩
      obtain⟨o1,m1,m2,m3,m4,_,_⟩:=yQ (ks:=sg.objs) (nm:=λi=>i) (old:=λ_=>(.gone .i64 0:aM)) H HR hck iZ hrl b4 hof (cb:={K:=λ_ _=>False,μ:=μX e c,n:=0}) (hb':=[])
       (Mj w _ _ _ (λ_ _ h=>h.elim) (λ_ h=>h)) false (λh=>by cases h) (μ2:=μX e c) (n2:=sg.objs.length) (Nat.zero_le _) (λ_ _=>rfl) (λi hi=>hi) (λi j _ _ h=>h)
       (λi l hi=>by simp only [μX];rw [hi]) (λi hi=>by simp only [μX];rw [hi]) (h2:=os1) (λi _=>rfl)
       (λl o hl ho=>by
        have:sg.objs.length<=l:=by
         rcases Nat.lt_or_ge l sg.objs.length with h | h
         .exact absurd rfl (hl l h)
         .exact h
        rw [List.getElem?_eq_none ah]at ho;cases ho) (λ_ _=>rfl)
       (λb ⟨l,o,hl,_⟩ _=>by simp [AE.look]at hl) (λf b h _=>h) (λf b ⟨l,o,hl,_⟩ _=>by simp [AE.look]at hl)
      generalize hc1:({K:=λf b=>False\/KX e c false f b,μ:=μX e c,n:=sg.objs.length}:Ctx)=c1 at m1 m2 m3 m4;generalize hh1:rJ (λi=>i) o1 (List.range sg.objs.length) []=h1' at m1 m2 m4;have c1n:c1.n=sg.objs.length:=by rw [<-hc1]
      have c1K:∀f b,c1.K f b->c.K f b\/∃l g,(l,g)∈e.fro/\c.μ l=some b/\(f=true->g=true):=λf b hb=>by
       rw [<-hc1]at hb;rcases hb with hb | hb | ⟨l,g,q1,q2,q3⟩
       .exact hb.elim
       .exact .inl (by simpa using hb)
       .exact .inr ⟨l,g,q1,q2,λh=>q3 (by simp [h])⟩
      have akr:∀f b,c.K f b->c1.K f b:=λf b hb=>by rw [<-hc1];exact .inr (.inl (by simpa using hb))
      have ap7:∀b,eF c1 h1' b->∃(i lq:Nat) (q:fH),e.ren[i]? =some (some (some lq))/\AE.look h lq=some q/\q.live/\c.μ lq=some b:=λb hb=>by
       rcases m4 b hb with⟨l,o,hl,_⟩ | hb
       .simp [AE.look]at hl
       .exact hb
      have ap8:F2 (WV c w (nmh hs)) vs qs:=by
       clear he1 a1 a2 a3 a4 hvk hrun
       induction pX generalizing qs with
       | nil=>cases hargs;exact .nil
       | cons q1 _ ih=>cases hargs with | cons q3 q4=>exact .cons ⟨_,q1,q3⟩ (ih _ q4)
      obtain⟨ap9,p1,p2⟩:=Jl (a4 H HR b2 hck m3 (λh=>by cases h) ap8);unfold pO at hrun;split at hrun
      .exact hrun.elim
      rename_i hkk;have hkk:sg.objs.length<=sg.dR.length:=by
       have:Nat.ble sg.objs.length sg.dR.length=true:=by simpa using hkk
       exact Nat.le_of_ble_eq_true this
      rw [show unpack (std N).au sg.inp x=new1++new2 from hun,a3]at hrun;simp only at hrun;have hb3:=b3 [];rw [List.append_nil]at hb3;rw [show qG (std N).au (λi=>i) (λ_=>dQ.gone Co.i64 ((std N).lit 0)) 0 sg.objs new2=some (os1,[])from hb3]at hrun;simp only at hrun;have hql:qs1.length=vs.length:=by rw [<-p2.length,<-p1.length]
      refine calls_of_wp hf hb ?_;have A1:jy E {t:=(List.range qs1.length).zip (ap9.map some),h:=h1',n:=sg.objs.length,k:=0,m:=qs1.length+(fn.ntmps-qs1.length)} c1 w {tmps:=vs.toArray++Array.replicate (fn.ntmps-vs.toArray.size) undef,defers:=[]}:=by
       refine⟨⟨λi u hu=>Fg p1 ?_ i u hu,m1,?_⟩,c1n,rfl,by simp [hql]⟩
       .refine F2.D5 (by simp [hql]) λj i u hj hu=> ?_
        have:i=j:=by
         have h3:=(List.getElem?_eq_some_iff.1 hj).1;simp at h3;rw [List.getElem?_range h3]at hj;cases hj;rfl
        subst this;have hlt:i<vs.length:=(List.getElem?_eq_some_iff.1 hu).1;simp only;rw [Array.getElem?_append_left (by simpa using hlt)];simpa using hu
       .intro gg d hd;obtain⟨q1,u,q2,q3⟩:=Gl gg d hd;exact⟨akr _ _ q1,u,q2,q3.mono' λb hb=>akr _ _ hb⟩
      have S1:SR {t:=(List.range qs1.length).zip (ap9.map some),h:=h1',n:=sg.objs.length,k:=0,m:=qs1.length+(fn.ntmps-qs1.length)}
        ({t:=(List.range qs1.length).zip (qs1.map λv=>⟨none,v⟩),gs:=[],h:=os1,m:=qs1.length+(fn.ntmps-qs1.length)}:RSt (std N)):=by
       refine⟨m2,by simp [nm,b4],rfl,λi sv hi=> ?_,λt e he=>by simp at he⟩;obtain⟨q1,q2⟩:=Fe p2 i sv hi;unfold zU;rw [q1];exact q2
      refine wp_mono (mH hE hX hG hm Mk c1n code hrun A1 (.refl _ _ _) S1 (.refl _ os1) rfl) ?_
      have fin:∀ {c3:Ctx} {s3':St} {s3:RSt (std N)} {a3x:Act} {w3:World},Grow c1 w h1' c3 w3 s3'.h->jy E s3' c3 w3 a3x->SR s3' s3->Keep sg.objs.length os1 s3.h->
        Xg (std N) X sg fn s3 (λy=>y=ct.fn x)->
        a3x.defers=[]/\∃v,(results fn a3x.tmps).run E.P w3= .ok v w3/\
         Post (λv w'=>∃c' r h' j,Grow c w h c' w' h'/\bH c' w' h'/\c'.n=nm hs.length j/\bG c' w' v r/\K r h' j) (.returned v) w3:=by
       intro c3 s3' s3 au7 w3 g3 A3 S3 K3 hfin;refine⟨A3.defers,?_⟩;generalize hM:Xg (std N) X sg fn s3=M at hfin;unfold Xg at hM;split at hM
       .rename_i rs hrs;split at hM
        .rename_i e2 he2;split at hM
         .rename_i e3 he3;split at hM
          .rename_i Fq;have Fq:=Jg Fq;split at hM
           .rename_i y hy;subst hM;obtain⟨aqa,hfin⟩:=fQ hfin;have hfin:y=ct.fn x:=hfin;subst hfin;obtain⟨ps,rp1,rp2⟩:=Jo (E:=E) hX S3 hrs;obtain⟨us,ps',u1,u2,u3⟩:=Bp hE A3 _ (λq=>q=ps) (rp2 _ rfl);subst u3;refine⟨_,Ll u1,?_⟩;generalize hbr:(sg.fresh&&e.fro.all λp=> !p.2)=br at hvk hK;generalize Xq:(if br=true then hs else bA (std m) hs (e.fro.map (·.1)))=h1T at hvk;have Fu:h1T.length=hs.length:=by
             rw [<-Xq];split
             .rfl
             .exact lg _ _ _
            have aqb:nmh h1T=nmh hs:=by
             rw [<-Xq];split
             .rfl
             .exact uh _ _ _
            obtain⟨nms,aks⟩:∃nms,newNames e.ren h1T.length sg.dR.length=nms:=⟨_,rfl⟩;rw [aks]at hvk;have aqc:nms.length=sg.dR.length:=by rw [<-aks];exact iD _ _ _
            obtain⟨aqd,qs3,x1,x2,x3,x4⟩:=um (λi=>nms.getD i 0) he2;obtain⟨akt,os3,y1,y2,y3,y4,y5⟩:=pU (λi=>nms.getD i 0) (λi=>tZ (std m) h1T (nms.getD i 0)) (λj=>Ml h1T _) he3;have hlv3:e3.lv.reverse=aqd++akt:=by rw [y1,x1];simp [es0]
            have aqe:=unpack_pack hy;rw [hlv3]at aqe;rw [show unpack (std m).au sg.out (ct.fn x)=aqd++akt from aqe,x3]at hvk;simp only at hvk;have hy3:=y3 [];rw [List.append_nil]at hy3;rw [hy3]at hvk;simp only [Option.some.injEq,Prod.mk.injEq]at hvk;obtain⟨hv,hkT⟩:=hvk;have hrl3:e3.ren.length=sg.dR.length:=by rw [y2.len,x2.len,Jk]
            have Hz:∀(i l:Nat),e.ren[i]? =some (some (some l))->i<sg.objs.length:=λi l hi=>by rw [<-hrl];exact(List.getElem?_eq_some_iff.1 hi).1
            have passed:∀(i l:Nat),e.ren[i]? =some (some (some l))->∃o',AE.look h l=some o'/\o'.live:=λi l hi=>by
             have hik:=Hz i l hi;obtain⟨o2,q1,q2⟩:=hof i _ (List.getElem?_eq_getElem hik);obtain⟨_,_,_,_,q3⟩:=q2.rel H HR hck m3 (λh=>by cases h);exact q3 l (λhg=>iZ.gone hi (by rw [List.getElem?_eq_getElem hik,hg])) hi
            have hlh:∀l o',AE.look h l=some o'->l<hs.length:=λl o' hl=>by rw [<-hcn];exact(H.obj l o' hl).1
            have P:=Ol (n:=m) os3 e.ren h1T (λi l hi _=>by rw [Fu];obtain⟨o',q,_⟩:=passed i l hi;exact hlh l o' q) (λi j l hi hj=>iZ.dist hi hj);rw [y4,aks,hkT]at P;have agd:∀i,i<sg.dR.length->nms[i]? =some (nms.getD i 0):=λi hi=>by
             have:i<nms.length:=by rw [aqc];exact hi
             simp [List.getD,List.getElem?_eq_getElem this]
            have nmP:∀i,i<sg.dR.length->kT[nms.getD i 0]? =os3[i]? /\(e.ren[i]? =some (some (some (nms.getD i 0)))\/(hs.length<=nms.getD i 0/\∀q:Nat,e.ren[i]? ≠some (some (some q)))):=λi hi=>by
             obtain⟨l,q1,q2,q3⟩:=P.at_ i (by rw [y4];exact hi);rw [agd i hi]at q1;have q1:=Option.some.inj q1;subst q1;rw [Fu]at q3;exact⟨q2,q3⟩
            have YJ:∀i j,i<sg.dR.length->j<sg.dR.length->nms.getD i 0=nms.getD j 0->i=j:=λi j hi hj hij=>P.inj i j _ (agd i hi) (by rw [hij];exact agd j hj)
            have aud:∀i,i<sg.dR.length->nms.getD i 0<kT.length:=λi hi=>by
             have h3:=(nmP i hi).1;rw [List.getElem?_eq_getElem (show i<os3.length by rw [y4];exact hi)]at h3;exact(List.getElem?_eq_some_iff.1 h3).1
            have Vt:∀(i l:Nat),e.ren[i]? =some (some (some l))->nms.getD i 0=l:=λi l hi=>by
             have hik:=Nat.lt_of_lt_of_le (Hz i l hi) hkk;rcases(nmP i hik).2 with q | ⟨_,q⟩
             .rw [hi]at q;cases q;rfl
             .exact absurd hi (q l)
            have hD:∀l,l∈bI e.ren->∃i,i<sg.dR.length/\nms.getD i 0=l/\e.ren[i]? =some (some (some l)):=λl hl=>by
             obtain⟨i,hi⟩:=wz hl;exact⟨i,Nat.lt_of_lt_of_le (Hz i l hi) hkk,Vt i l hi,hi⟩
            obtain⟨D,ahy⟩:∃D,bI e.ren++(if br=true then []else e.fro.map (·.1))=D:=⟨_,rfl⟩;rw [ahy]at hK;have Mq:∀l,l∈D↔l∈bI e.ren\/(br=false/\∃f,(l,f)∈e.fro):=λl=>by
             rw [<-ahy];cases br<;>simp
            have wC:∀l f,(l,f)∈e.fro->(∃g cc xs,hs[l]? =some (.rows g cc xs))/\∃o',AE.look h l=some o'/\o'.live:=λl f hl=>by
             obtain⟨_,g,cc,xs,q⟩:=iZ.fro l f hl;obtain⟨o',q1,q2⟩:=HR.old l _ q;cases q2 with | rows _=>exact⟨⟨g,cc,xs,q⟩,_,q1,trivial⟩
            have HV:∀l o,AE.look (zZ D h) l=some o->o.live->l∉D/\AE.look h l=some o:=λl o hl hlv=>by
             by_cases hd:l∈D
             .rw [Fp hd]at hl;cases hl;exact hlv.elim
             .rw [pY hd]at hl;exact⟨hd,hl⟩
            have Jp:∀l o b,l∉D->AE.look h l=some o->o.live->c.μ l=some b->¬eF c1 h1' b:=λl o b hd hl hlv hb ho=>by
             obtain⟨i,lq,q,q1,q2,q3,q4⟩:=ap7 b ho;have:=H.inj l o lq q b hl hlv q2 q3 hb q4;subst this;exact hd ((Mq l).2 (.inl (pV q1)))
            have Vu:∀b,eF c1 h1' b->eF c h b:=λb hb=>by
             obtain⟨i,lq,q,_,q2,q3,q4⟩:=ap7 b hb;exact⟨lq,q,q2,q3,q4⟩
            have kept:∀f b,c.K f b->w3.heap[b]? =w.heap[b]? :=λf b hb=>g3.kept b (H.low f b hb) (λho=>H.own f b (Vu b ho) hb)
            have Hb:bH c w3 (zZ D h):=by
             refine⟨λl o hl=> ?_,λl o l' o' b q1 q2 q3 q4 q5 q6=> ?_,?_,λf b hb=>Nat.lt_of_lt_of_le (H.low f b hb) g3.size,H.sub⟩
             .by_cases hd:l∈D
              .rw [Fp hd]at hl;cases hl;refine⟨?_,trivial⟩;rcases(Mq l).1 hd with h3 | ⟨_,f,h3⟩
               .obtain⟨i,hi⟩:=wz h3;obtain⟨o',q,_⟩:=passed i l hi;exact(H.obj l o' q).1
               .obtain⟨_,o',q,_⟩:=wC l f h3;exact(H.obj l o' q).1
              .rw [pY hd]at hl;obtain⟨q1,q2⟩:=H.obj l o hl;exact⟨q1,q2.mono (.refl c) kept g3.stays q1 (λb hlv hb=>g3.kept b (q2.lt hlv hb) (Jp l o b hd hl hlv hb))⟩
             .obtain⟨_,r1⟩:=HV l o q1 q2;obtain⟨_,r2⟩:=HV l' o' q3 q4;exact H.inj l o l' o' b r1 q2 r2 q4 q5 q6
             .rintro f b ⟨l,o,hl,hlv,hb⟩ hk;obtain⟨_,r1⟩:=HV l o hl hlv;exact H.own f b ⟨l,o,r1,hlv,hb⟩ hk
            have YK:∀l o b,AE.look h l=some o->o.live->c.μ l=some b->b<w.heap.size:=λl o b hl hlv hb=>(H.obj l o hl).2.lt hlv hb
            have ahz:∀l o b,l∉D->AE.look h l=some o->o.live->c.μ l=some b->¬eF c3 s3'.h b:=λl o b hd hl hlv hb ho=>by
             rcases g3.oJ b ho with h3 | h3
             .exact Jp l o b hd hl hlv hb h3
             .have:=YK l o b hl hlv hb;omega
            have Vv:∀q g b,(q,g)∈e3.fro->c3.μ q=some b->eF c3 s3'.h b:=λq g b hq hb=>by
             obtain⟨_,g',cc,xs,hl⟩:=Fq.fro q g hq;obtain⟨o',q1,q2⟩:=S3.heap.old q _ hl;cases q2 with | rows _=>exact⟨q,_,q1,trivial,hb⟩
            have aqf:br=true->∀l f,(l,f)∈e.fro->f=false:=λhb l f hl=>by
             rw [<-hbr]at hb;simp only [Bool.and_eq_true]at hb;have:=List.all_eq_true.1 hb.2 _ hl;simpa using this
            have akl:∀f b,eF c (zZ D h) b->KX e3 c3 br f b->False:=by
             rintro f b ⟨l,o,hl,hlv,hb⟩ hk;obtain⟨hd,hl⟩:=HV l o hl hlv;rcases hk with hk | ⟨q,g,q1,q2,_⟩
             .rcases g3.wL _ b hk with h3 | h3 | h3
              .rcases c1K _ b h3 with h3 | ⟨l2,g2,q1,q2,q3⟩
               .exact H.own _ b ⟨l,o,hl,hlv,hb⟩ h3
               .obtain⟨_,o2,r1,r2⟩:=wC l2 g2 q1;have:=H.inj l o l2 o2 b hl hlv r1 r2 hb q2;subst this;cases hbb:br with
                | false=>exact hd ((Mq l).2 (.inr ⟨hbb,g2,q1⟩))
                | true=>
                 have h5:=q3 (by rw [hbb];simp);have h6:=aqf hbb l g2 q1;rw [h5]at h6;cases h6
              .have:=YK l o b hl hlv hb;omega
              .exact Jp l o b hd hl hlv hb h3
             .exact ahz l o b hd hl hlv hb (Vv q g b q1 q2)
            have aue:∃μ2:Nat->Option Nat,(∀l,l<hs.length->μ2 l=c.μ l)/\(∀(i q:Nat),i<sg.dR.length->hs.length<=nms.getD i 0->e3.ren[i]? =some (some (some q))->μ2 (nms.getD i 0)=c3.μ q)/\
              (∀i:Nat,i<sg.dR.length->hs.length<=nms.getD i 0->e3.ren[i]? =some (some none)->μ2 (nms.getD i 0)=none):=by
             have hch:∀l,∃ob:Option Nat,(l<hs.length->ob=c.μ l)/\(∀(i q:Nat),i<sg.dR.length->hs.length<=l->nms.getD i 0=l->e3.ren[i]? =some (some (some q))->ob=c3.μ q)/\
               (∀i:Nat,i<sg.dR.length->hs.length<=l->nms.getD i 0=l->e3.ren[i]? =some (some none)->ob=none):=by
              intro l;by_cases hl:l<hs.length
              .exact⟨c.μ l,λ_=>rfl,λi q _ h4=>by omega,λi _ h4=>by omega⟩
              .by_cases hx:∃i q:Nat,i<sg.dR.length/\nms.getD i 0=l/\e3.ren[i]? =some (some (some q))
               .obtain⟨i,q,h4,h5,h6⟩:=hx;refine⟨c3.μ q,λh=>absurd h hl,λj q' h7 _ h9 h10=> ?_,λj h7 _ h9 h10=> ?_⟩
                .have:=YJ i j h4 h7 (h5.trans h9.symm);subst this;rw [h6]at h10;cases h10;rfl
                .have:=YJ i j h4 h7 (h5.trans h9.symm);subst this;rw [h6]at h10;cases h10
               .exact⟨none,λh=>absurd h hl,λj q' h7 _ h9 h10=>absurd ⟨j,q',h7,h9,h10⟩ hx,λ_ _ _ _ _=>rfl⟩
             obtain⟨μ2,aku⟩:=Classical.axiomOfChoice hch;exact⟨μ2,λl hl=>(aku l).1 hl,λi q h4 h5 h6=>(aku _).2.1 i q h4 h5 rfl h6,λi h4 h5 h6=>(aku _).2.2 i h4 h5 rfl h6⟩
            obtain⟨μ2,μa,μb,μc⟩:=aue;have Om:∀(i:Nat) (v:Option Nat),i<sg.objs.length->e3.ren[i]? =some (some v)->v=some i/\(es0 (std N) sg.objs.length sg.dR).ren[i]? =some (some (some i)):=λi v hi hv=>by
             have hik:=Nat.lt_of_lt_of_le hi hkk;have h0:=Jj (n:=N) hi hik;have hg:qE sg.dR[i]? =false:=by
              unfold qE;split
              .rename_i hh;exact absurd hh (Fq.gone hv)
              .rfl
             rw [hg]at h0;have h0:(es0 (std N) sg.objs.length sg.dR).ren[i]? =some (some (some i)):=by simpa using h0
             have:=y2.ren i _ (x2.ren i _ h0);rw [hv]at this;cases this;exact⟨rfl,h0⟩
            have hname:∀(i q:Nat),e3.ren[i]? =some (some (some q))->μ2 (nms.getD i 0)=c3.μ q:=λi q hi=>by
             have hik:i<sg.dR.length:=by rw [<-hrl3];exact(List.getElem?_eq_some_iff.1 hi).1
             rcases(nmP i hik).2 with h4 | ⟨h4,_⟩
             .have hio:=Hz i _ h4;obtain⟨h5,_⟩:=Om i _ hio hi;cases h5;obtain⟨o',h6,_⟩:=passed i _ h4;rw [μa _ (hlh _ o' h6),g3.le.μ i (by rw [c1n];exact hio)];exact(m3.name i _ h4).2.symm
             .exact μb i q hik h4 hi
            have hnil:∀(i:Nat),e3.ren[i]? =some (some none)->μ2 (nms.getD i 0)=none:=λi hi=>by
             have hik:i<sg.dR.length:=by rw [<-hrl3];exact(List.getElem?_eq_some_iff.1 hi).1
             rcases Nat.lt_or_ge i sg.objs.length with h4 | h4
             .obtain⟨h5,_⟩:=Om i _ h4 hi;cases h5
             .rcases(nmP i hik).2 with h5 | ⟨h5,_⟩
              .have:=Hz i _ h5;omega
              .exact μc i hik h5 hi
            have hsame:Same hs kT:=λl z hz=>by
             have hll:l<hs.length:=by
              rcases Nat.lt_or_ge l hs.length with hl | hl
              .exact hl
              .simp [nmh,List.getElem?_eq_none hl]at hz
             by_cases hp:∃i:Nat,e.ren[i]? =some (some (some l))
             .obtain⟨i,hi⟩:=hp;have hio:=Hz i l hi;have hik:=Nat.lt_of_lt_of_le hio hkk;have hn:=Vt i l hi;have hat:=(nmP i hik).1;rw [hn]at hat;obtain⟨k3,hk3⟩:∃k3,sg.dR[i]? =some k3:=⟨_,List.getElem?_eq_getElem hik⟩;obtain⟨o3,r1,r2⟩:=y5 e3 (.refl _) i k3 hk3;rw [Nat.zero_add]at r2;have goal:nmh [o3] 0=some z->nmh kT l=some z:=λhh=>by
               simp only [nmh,hat,r1];simpa [nmh]using hh
              by_cases hg:k3= .gone
              .refine goal ?_;rw [r2.gone hg];show nmh [tZ (std m) h1T (nms.getD i 0)] 0=some z;rw [hn];rw [<-aqb]at hz;unfold tZ;simp only [nmh]at hz ⊢;split at hz
               .rename_i hh;rw [hh];simpa using hz
               .rename_i hh;rw [hh];simpa using hz
               .cases hz
              .obtain⟨v3,hv3⟩:=r2.live hg;obtain⟨h5,h6⟩:=Om i _ hio hv3;subst h5;obtain⟨o1',s1,s2⟩:=hof i _ (List.getElem?_eq_getElem hio);have auf:sg.objs[i]≠ .gone:=λhh=>iZ.gone hi (by rw [List.getElem?_eq_getElem hio,hh])
               have t1:=s2.s1 l z.1 z.2 auf hi (by rw [hz]);have aug:qD (std m) e i=none:=by simp [qD,htr]
               rw [aug]at t1;have t2:nmh os1 i=some z:=by simp only [nmh,s1];simpa [nmh]using t1
               rcases(K3 i hio).2 z t2 with⟨cc,nn,hgo⟩ | t3
               .exfalso;obtain⟨v3',au8⟩:=r2.live hg;have:=Hy he3 (i:=i) hk3 hg (l:=i) (by rw [Nat.zero_add];exact hv3);obtain⟨o4,ho4,auh⟩:=this;rw [hgo]at ho4;cases ho4;exact auh ⟨_,_,rfl⟩
               .have aui:qD (std N) e3 i=none:=by rw [y2.tr i _ (x2.ren i _ h6),x2.tr i _ h6];rfl
                have t4:=r2.s1 i z.1 z.2 hg hv3 (by rw [t3]);rw [aui]at t4;exact goal t4
             .have hp':∀i:Nat,i<os3.length->e.ren[i]? ≠some (some (some l)):=λi _ hi=>hp ⟨i,hi⟩
              have:=P.old l (by rw [Fu];exact hll) hp';rw [<-aqb]at hz;simp only [nmh,this];exact hz
            have auj:∀(j:Nat) (kk:SkO),sg.dR[j]? =some kk->∃o2,os3[j]? =some o2/\OF e3 s3.h (λi=>nms.getD i 0) j kk (tZ (std m) h1T (nms.getD j 0)) o2:=λj kk hj=>by
             obtain⟨o2,q1,q2⟩:=y5 e3 (.refl _) j kk hj;exact⟨o2,q1,by simpa using q2⟩
            have auk:br=true->sg.dR.all SkO.fresh=true:=λhb=>by
             rw [<-hbr]at hb;simp only [Bool.and_eq_true,Sig.fresh]at hb;exact hb.1.2
            have aul:br=true->sg.res.all SkV.fresh=true:=λhb=>by
             rw [<-hbr]at hb;simp only [Bool.and_eq_true,Sig.fresh]at hb;exact hb.1.1
            obtain⟨o3f,z1,z2,z3,z4,z5,z6⟩:=yQ (ks:=sg.dR) (nm:=λi=>nms.getD i 0) (old:=λi=>tZ (std m) h1T (nms.getD i 0)) A3.abs.heap S3.heap aqa Fq hrl3 y4 auj (cb:=c) (hb':=zZ D h)
             Hb br auk (μ2:=μ2) (n2:=kT.length) (by rw [hcn,<-Fu];exact P.len) (λl hl=>μa l (by rw [<-hcn];exact hl)) aud YJ hname hnil (h2:=kT) (λi hi=>(nmP i hi).1)
             (λl o hl ho=>by
              have hll:l<hs.length:=by
               rcases Nat.lt_or_ge l hs.length with h4 | h4
               .exact h4
               .obtain⟨i,q1,q2⟩:=P.new l (by rw [Fu];exact h4) (List.getElem?_eq_some_iff.1 ho).1;rw [y4]at q1;rw [agd i q1]at q2;exact absurd (Option.some.inj q2) (hl i q1)
              have hnp:l∉bI e.ren:=λhp=>by
               obtain⟨i,q1,q2,_⟩:=hD l hp;exact hl i q1 q2
              have h5:=P.old l (by rw [Fu];exact hll) (λi hi hh=>hnp (pV hh));rw [h5]at ho;by_cases hd:l∈D
              .rcases(Mq l).1 hd with h6 | ⟨hb0,f,h6⟩
               .exact absurd h6 hnp
               .rw [<-Xq,hb0]at ho;simp only [Bool.false_eq_true,if_false]at ho;obtain⟨⟨g,cc,xs,h7⟩,_⟩:=wC l f h6;have:Gone (bA (std m) hs (e.fro.map (·.1))) l:=zY (List.mem_map.2 ⟨_,h6,rfl⟩) h7;obtain⟨c5,n5,h8⟩:=this;rw [h8]at ho;cases ho;exact⟨.gone,Fp hd,.gone⟩
              .have h7:hs[l]? =some o:=by
                rw [<-Xq]at ho;split at ho
                .exact ho
                .rename_i hb0;rw [jJ m _ _ (λh8=>hd ((Mq l).2 (.inr ⟨by simpa using hb0,by
                  obtain⟨p,hp,rfl⟩:=List.mem_map.1 h8;exact⟨p.2,hp⟩⟩)))]at ho
                 exact ho
               obtain⟨o',r1,r2⟩:=HR.old l _ h7;exact⟨o',by rw [pY hd];exact r1,r2.mono hsame⟩)
             (λl hl=>by
              have hll:hs.length<=l:=by have:=P.len;rw [Fu]at this;omega
              have hnd:l∉D:=λhd=>by
               rcases(Mq l).1 hd with h4 | ⟨_,f,h4⟩
               .obtain⟨i,hi⟩:=wz h4;obtain⟨o',q,_⟩:=passed i l hi;have:=hlh l o' q;omega
               .obtain⟨_,o',q,_⟩:=wC l f h4;have:=hlh l o' q;omega
              rw [pY hnd];exact HR.new l hll)
             (λb ⟨l,o,hl,hlv,hb⟩ ho=>by
              obtain⟨hd,hl⟩:=HV l o hl hlv;exact ahz l o b hd hl hlv hb ho)
             (λf b hk ho=>A3.abs.heap.own f b ho (g3.le.K f b (akr f b hk))) akl
            have wvs:F2 (WV c3 w3 (nmh s3.h)) us rs:=by
             clear he2 x1 x2 x3 x4 hrs u1 rp2
             induction u2 generalizing rs with
             | nil=>cases rp1;exact .nil
             | cons q1 _ ih=>cases rp1 with | cons q3 q4=>exact .cons ⟨_,q1,q3⟩ (ih _ q4)
            obtain⟨aum,w1,w2⟩:=Jl (x4 A3.abs.heap S3.heap y2 aqa z3 aul wvs);have hv3:PVR (nmh kT) (one aum) v:=by rw [<-hv];exact akq w2 (Fj (x3 akt))
            have hkl:kT.length=nm hs.length (kT.length-hs.length):=by have:=P.len;rw [Fu]at this;simp [nm];omega
            have aun:∀b,eF c (zZ D h) b->eF c h b:=λb ⟨l,o,hl,hlv,hb⟩=>⟨l,o,(HV l o hl hlv).2,hlv,hb⟩
            have ahA:∀b,eF c3 s3'.h b->eF c h b\/w.heap.size<=b:=λb hb=>(g3.oJ b hb).imp (Vu b) id
            refine⟨_,_,_,kT.length-hs.length,?_,z1,hkl,agb w1,hK _ _ _ hv3 z2 ?_ hkl⟩
            .refine⟨z5,g3.size,g3.stays,λb hb hno=>g3.kept b hb (λho=>hno (Vu b ho)),λf b hb=> ?_,λb hb=> ?_,g3.os,g3.tape,g3.output⟩
             .rcases hb with hb | hb | ⟨q,g,q1,q2,_⟩
              .exact .inl hb
              .rcases g3.wL _ b hb with h4 | h4 | h4
               .rcases c1K _ b h4 with h5 | ⟨l2,g2,q1,q2,q3⟩
                .left;cases f with
                 | true=>simpa using h5
                 | false=>cases br with
                  | true=>exact H.sub b (by simpa using h5)
                  | false=>simpa using h5
                .obtain⟨_,o2,r1,r2⟩:=wC l2 g2 q1;exact .inr (.inr ⟨l2,o2,r1,r2,q2⟩)
               .exact .inr (.inl h4)
               .exact .inr (.inr (Vu b h4))
              .rcases ahA b (Vv q g b q1 q2)with h4 | h4
               .exact .inr (.inr h4)
               .exact .inr (.inl h4)
             .rcases z4 b hb with h4 | ⟨i,lq,q,_,q2,q3,q4⟩
              .exact .inl (aun b h4)
              .exact ahA b ⟨lq,q,q2,q3,q4⟩
            .refine⟨hsame,by have:=P.len;rw [Fu]at this;exact this,λl ⟨cc,nn,hgo⟩=> ?_,λl hl hnd=> ?_⟩
             .have hll:=(List.getElem?_eq_some_iff.1 hgo).1;have hnp:∀i:Nat,e.ren[i]? ≠some (some (some l)):=λi hi=>by
               obtain⟨o',q1,q2⟩:=passed i l hi;obtain⟨o2,q3,q4⟩:=HR.old l _ hgo;rw [q1]at q3;cases q3;cases q4;exact q2.elim
              have hnf:∀f,(l,f)∉e.fro:=λf hf=>by
               obtain⟨⟨g,c5,xs,h7⟩,_⟩:=wC l f hf;rw [hgo]at h7;cases h7
              refine⟨cc,nn,?_⟩;rw [P.old l (by rw [Fu];exact hll) (λi _=>hnp i),<-Xq];split
              .exact hgo
              .rw [jJ m _ _ (λh8=>by
                obtain⟨p,hp,rfl⟩:=List.mem_map.1 h8;exact hnf p.2 hp)]
               exact hgo
             .have hnp:∀i:Nat,e.ren[i]? ≠some (some (some l)):=λi hi=>hnd ((Mq l).2 (.inl (pV hi)))
              refine⟨?_,?_⟩
              .rw [P.old l (by rw [Fu];exact hl) (λi _=>hnp i),<-Xq];split
               .rfl
               .rename_i hb0;exact jJ m _ _ (λh8=>hnd ((Mq l).2 (.inr ⟨by simpa using hb0,by
                 obtain⟨p,hp,rfl⟩:=List.mem_map.1 h8;exact⟨p.2,hp⟩⟩)))
              .rw [z6 l (λi hi hh=>by
                rcases(nmP i hi).2 with h4 | ⟨h4,_⟩
                .rw [hh]at h4;exact hnp i h4
                .omega),pY hnd]
           ·(subst hM;exact hfin.elim)
          ·(subst hM;exact hfin.elim)
         ·(subst hM;exact hfin.elim)
        ·(subst hM;exact hfin.elim)
       ·(subst hM;exact hfin.elim)
      intro ex a' w' he;cases ex with
      | outgrown=>exact he.elim
      | panic _=>exact he.elim
      | goto _=>exact he.elim
      | normal=>obtain⟨c3,s3',s3,g1,g2,g3,g4,_,g6⟩:=he;exact fin g1 g2 g3 g4 g6
      | ret=>obtain⟨c3,s3',s3,g1,g2,g3,g4,_,g6⟩:=he;exact fin g1 g2 g3 g4 g6
      | exit i=>obtain⟨c3,s3',s3,g1,g2,g3,g4,_,g6⟩:=he;exact g6.elim
     .cases hcall
    .cases hcall
   .cases hcall
  .cases hcall
end
end
end Go.TX
namespace Go.TX
open Go Go.AE
structure FM{ρ:Type}(m:(ρ->Prop)->Prop):Prop where
 mono:∀Q Q':ρ->Prop,(∀y,Q y->Q' y)->m Q->m Q'
 one:∀Q:ρ->Prop,m Q->∃y,Q y/\m (λz=>z=y)
 two:∀Q Q':ρ->Prop,m Q->m Q'->∃y,Q y/\Q' y
section
variable {n:Nat} {ρ:Type}
theorem FM.fail:FM (λ_:ρ->Prop=>False):=⟨λ_ _ _ h=>h,λ_ h=>h.elim,λ_ _ h=>h.elim⟩
theorem FM.ret(t:ρ):FM (λQ:ρ->Prop=>Q t):=⟨λ_ _ h hq=>h _ hq,λ_ hq=>⟨t,hq,rfl⟩,λ_ _ h g=>⟨t,h,g⟩⟩
theorem FM.bind{α:Type}{m:(α->Prop)->Prop}{k:α->(ρ->Prop)->Prop}(hm:FM m)(hk:∀t,FM (k t)):FM (λQ=>m λt=>k t Q):=
 ⟨λQ Q' h hq=>hm.mono _ _ (λt ht=>(hk t).mono _ _ h ht) hq,λQ hq=>by
  obtain⟨t,h1,h2⟩:=hm.one _ hq;obtain⟨y,h3,h4⟩:=(hk t).one _ h1;exact⟨y,h3,hm.mono _ _ (λt' e=>by subst e;exact h4) h2⟩,λQ Q' h g=>by
  obtain⟨t,h1,h2⟩:=hm.two _ _ h g;exact(hk t).two _ _ h1 h2⟩
theorem FM.tV{α:Type}{m:(α ⊕ ρ->Prop)->Prop}{k:α->(ρ->Prop)->Prop}(hm:FM m)(hk:∀t,FM (k t)):FM (λQ=>m (Dv k Q)):=
 ⟨λQ Q' h hq=>hm.mono _ _ (λt ht=>by
  cases t with
  | inl x=>exact(hk x).mono _ _ h ht
  | inr r=>exact h _ ht) hq,λQ hq=>by
  obtain⟨t,h1,h2⟩:=hm.one _ hq;cases t with
  | inl x=>
   obtain⟨y,h3,h4⟩:=(hk x).one _ h1;exact⟨y,h3,hm.mono _ _ (λt' e=>by subst e;exact h4) h2⟩
  | inr r=>exact⟨r,h1,hm.mono _ _ (λt' e=>by subst e;rfl) h2⟩,λQ Q' h g=>by
  obtain⟨t,h1,h2⟩:=hm.two _ _ h g;cases t with
  | inl x=>exact(hk x).two _ _ h1 h2
  | inr r=>exact⟨r,h1,h2⟩⟩
theorem FM.itW{α:Type}{f:α->(α ⊕ ρ->Prop)->Prop}(hf:∀x,FM (f x)):∀(N:Nat) (x:α),FM (TX.itW N f x)
 | 0,x=>by
  have e:TX.itW 0 f x=λ_=>False:=by funext Q;rw [TX.itW]
  rw [e];exact .fail
 | N+1,x=>by
  have e:TX.itW (N+1) f x=λQ=>f x (Dv (TX.itW N f) Q):=by funext Q;rw [TX.itW]
  rw [e];exact .tV (hf x) (FM.itW hf N)
theorem BJ{α:Type}{k k':α->(ρ->Prop)->Prop}{Q Q':ρ->Prop}(hk:∀x,k x Q->k' x Q')(hq:∀y,Q y->Q' y):∀s,Dv k Q s->Dv k' Q' s
 | .inl x=>hk x
 | .inr r=>hq r
theorem Oo{α:Type}{f:α->(α ⊕ ρ->Prop)->Prop}(hf:∀x,FM (f x)){Q:ρ->Prop}:∀ {N M:Nat} {x:α},N<=M->TX.itW N f x Q->TX.itW M f x Q
 | 0,_,_,_,h=>by rw [TX.itW]at h;exact h.elim
 | N+1,0,_,h,_=>absurd h ah
 | N+1,M+1,x,h,g=>by
  rw [TX.itW]at g ⊢;exact(hf x).mono _ _ (BJ (λy k=>Oo hf ah k) (λ_ k=>k)) g
theorem Fv{α:Type}{f:α->(α ⊕ ρ->Prop)->Prop}(hf:∀x,FM (f x)){x:α}{Q:ρ->Prop}(h:Vf f x Q):∃r,Q r/\∃N,TX.itW N f x (λz=>z=r):=by
 obtain⟨I,μ,h0,hs⟩:=h;have key:∀(n:Nat) (y:α),μ y<n->I y->∃r,Q r/\∃N,TX.itW N f y (λz=>z=r):=by
  intro n
  induction n with
  | zero=>intro y h;omega
  | succ n ih=>
   intro y hy hI;obtain⟨s,h1,h2⟩:=(hf y).one _ (hs y hI);cases s with
   | inl z=>
    obtain⟨r,q1,N,q2⟩:=ih z (by have:=h1.2;omega) h1.1;refine⟨r,q1,N+1,?_⟩;rw [TX.itW];exact(hf y).mono _ _ (λs e=>by subst e;exact q2) h2
   | inr r=>
    refine⟨r,h1,1,?_⟩;rw [TX.itW];exact(hf y).mono _ _ (λs e=>by subst e;rfl) h2
 exact key _ x (Nat.lt_succ_self _) h0
theorem FM.iter{α:Type}{f:α->(α ⊕ ρ->Prop)->Prop}(hf:∀x,FM (f x))(x:α):FM (λQ=>Vf f x Q):=by
 refine⟨λQ Q' h ⟨I,μ,h0,hs⟩=>⟨I,μ,h0,λy hy=>(hf y).mono _ _ (BJ (λ_ h=>h) h) (hs y hy)⟩,λQ h=> ?_,λQ Q' h g=> ?_⟩
 rotate_left
 .obtain⟨r,q1,N,q2⟩:=Fv hf h;obtain⟨t,g1,M,g2⟩:=Fv hf g;obtain⟨z,rfl,rfl⟩:=(FM.itW hf (max N M) x).two _ _ (Oo hf (Nat.le_max_left ..) q2) (Oo hf (Nat.le_max_right ..) g2);exact⟨_,q1,g1⟩
 obtain⟨r,q1,N,q2⟩:=Fv hf h;refine⟨r,q1,?_⟩;have least:∀y,(∃N,TX.itW N f y (λz=>z=r))->∃N,TX.itW N f y (λz=>z=r)/\∀M,M<N->¬TX.itW M f y (λz=>z=r):=by
  intro y ⟨N,hN⟩
  induction N using Nat.strongRecOn with
  | ind N ih=>
   by_cases h:∃M,M<N/\TX.itW M f y (λz=>z=r)
   .obtain⟨M,h1,h2⟩:=h;exact ih M h1 h2
   .exact⟨N,hN,λM hM hh=>h ⟨M,hM,hh⟩⟩
 have pick:∀y,∃N,(∃N,TX.itW N f y (λz=>z=r))->TX.itW N f y (λz=>z=r)/\∀M,M<N->¬TX.itW M f y (λz=>z=r):=λy=>by
  by_cases h:∃N,TX.itW N f y (λz=>z=r)
  .obtain⟨N,hN⟩:=least y h;exact⟨N,λ_=>hN⟩
  .exact⟨0,λhh=>absurd hh h⟩
 obtain⟨ν,hν⟩:=Classical.axiomOfChoice pick;refine⟨λy=>∃N,TX.itW N f y (λz=>z=r),ν,⟨N,q2⟩,λy hy=> ?_⟩;obtain⟨h1,h2⟩:=hν y hy;cases hn:ν y with
 | zero=>rw [hn]at h1;rw [TX.itW]at h1;exact h1.elim
 | succ k=>
  rw [hn]at h1;rw [TX.itW]at h1;refine(hf y).mono _ _ (BJ (λz hz=> ?_) (λ_ h=>h)) h1;refine⟨⟨k,hz⟩,?_⟩;have hz':=hν z ⟨k,hz⟩;by_cases hlt:ν z<k+1
  .exact hlt
  .exact absurd hz (hz'.2 k ah)
theorem FM.chk{b:Bool}{m:(ρ->Prop)->Prop}(h:FM m):FM (λQ=>b=true/\m Q):=
 ⟨λ_ _ hq ⟨a,c⟩=>⟨a,h.mono _ _ hq c⟩,λ_ ⟨a,c⟩=>let⟨y,q1,q2⟩:=h.one _ c;⟨y,q1,a,q2⟩,λ_ _ ⟨_,c⟩ ⟨_,d⟩=>h.two _ _ c d⟩
theorem FM.gL{m:(ρ->Prop)->Prop}(h:FM m):∀(ps:List Bool),FM (TX.gL (std n) ps m)
 | []=>h
 | _::ps=> .chk (FM.gL h ps)
theorem FM.cond{b:Bool}{x y:(ρ->Prop)->Prop}(hx:FM x)(hy:FM y):FM (λQ=>(b=true->x Q)/\(b=false->y Q)):=
 ⟨λ_ _ hq ⟨a,c⟩=>⟨λh=>hx.mono _ _ hq (a h),λh=>hy.mono _ _ hq (c h)⟩,λ_ ⟨a,c⟩=>by
  cases b with
  | true=>obtain⟨y,q1,q2⟩:=hx.one _ (a rfl);exact⟨y,q1,λ_=>q2,λh=>by cases h⟩
  | false=>obtain⟨y,q1,q2⟩:=hy.one _ (c rfl);exact⟨y,q1,λh=>(by cases h),λ_=>q2⟩,λ_ _ ⟨a,c⟩ ⟨a',c'⟩=>by
  cases b with
  | true=>exact hx.two _ _ (a rfl) (a' rfl)
  | false=>exact hy.two _ _ (c rfl) (c' rfl)⟩
theorem FM.bind'{ts:List LTy}{m:(iC ts->Prop)->Prop}{k:iC ts->(ρ->Prop)->Prop}(hm:FM m)(hk:∀t,FM (k t)):FM ((std n).bind ts m k):=by
 have:=FM.bind hm hk;exact this
theorem FM.akv{ts:List LTy}{m:(iC ts ⊕ ρ->Prop)->Prop}{k:iC ts->(ρ->Prop)->Prop}(hm:FM m)(hk:∀t,FM (k t)):FM ((std n).tV ts m k):=by
 have:=FM.tV hm hk;exact this
theorem FM.inl'{ts:List LTy}(t:iC ts):FM ((std n).inl (ρ:=ρ) ts t):=FM.ret _
theorem FM.inr'{ts:List LTy}{m:(ρ->Prop)->Prop}(h:FM m):FM ((std n).inr (ρ:=ρ) ts m):=by
 have:=FM.bind (k:=λ(r:ρ) (Q:iC ts ⊕ ρ->Prop)=>Q (Sum.inr r)) h λr=>FM.ret _
 exact this
theorem FM.iter'{ts:List LTy}{f:iC ts->(iC ts ⊕ ρ->Prop)->Prop}(hf:∀x,FM (f x))(x:iC ts):FM ((std n).iter ts f x):=FM.iter hf x
theorem FM.ret'{ts:List LTy}(t:iC ts):FM ((std n).ret ts t):=FM.ret t
theorem FM.use{cr:CR (std n)}{K:SVal->List aM->(ρ->Prop)->Prop}(h:∀v k,FM (K v k)):FM (rE (std n) cr K):=by
  obtain⟨ck,ts,y,k,td,p⟩:=cr;unfold rE;cases ts with
  | nil => simp only; split
           · exact h _ _
           · exact .fail
  | cons a b=>
    simp only;split
    · exact h _ _
    · exact .fail
end
theorem uw:∀(ts:List LTy),Nonempty (iC ts)
 | []=>⟨()⟩
 | t::r=>by
  obtain⟨y⟩:=uw r;have x:Nonempty (LT aG t):=by
   cases t with
   | i=>exact⟨(0:Int)⟩
   | b=>exact⟨false⟩
   | s=>exact⟨(default:ByteArray)⟩
   | l c=>exact⟨([]:List c.den)⟩
   | x c=>exact⟨(default:c.den)⟩
  obtain⟨x⟩:=x;exact⟨(x,y)⟩
noncomputable def cn {s:Sig} (F:iC s.inp->(iC s.out->Prop)->Prop):Ct aG s:=
 {pre:=λx=> @decide (∃y,F x λz=>z=y) (Classical.propDecidable _)
  fn:=λx=> @Classical.epsilon _ (uw _) λy=>F x λz=>z=y}
structure Fn(E:Tab)(f:FuncId){s:Sig}(F:iC s.inp->(iC s.out->Prop)->Prop)(c:Ct aG s):Prop where
 e:c=cn F
 fm:∀x,FM (F x)
 ok:dI E f (dD c)
theorem Fn.cs{E:Tab}{f:FuncId}{s:Sig}{F:iC s.inp->(iC s.out->Prop)->Prop}{c:Ct aG s}(h:Fn E f F c){x:iC s.inp}{Q:iC s.out->Prop}(g:F x Q):c.pre x=true/\Q (c.fn x):=by
 rw [h.e];obtain⟨y,h1,h2⟩:=(h.fm x).one _ g;have e:∃y,F x λz=>z=y:=⟨y,h2⟩
 refine⟨by simp only [cn];exact @decide_eq_true _ (Classical.propDecidable _) e,?_⟩;obtain⟨z,k1,k2⟩:=(h.fm x).two _ _ g (@Classical.epsilon_spec _ (λy=>F x λz=>z=y) e);have k2:z=(cn F).fn x:=k2;rw [<-k2];exact k1
variable [aB]
section
variable {n:Nat} {ρ:Type}
theorem FM.region{X:XT}{C:Calls aG}{ops:List Oper}{K:RSt (std n)->(ρ->Prop)->Prop}(hK:∀s,FM (K s)):∀(rest:List Oper) (s:RSt (std n)),FM (fF (std n) X C ops rest K s)
 | [],s=>by unfold fF;exact hK s
 | o::rest,s=>by
  have ih:=FM.region (X:=X) (C:=C) (ops:=ops) hK rest;unfold fF;split
  .split
   .split
    .split
     .refine FM.gL ?_ _;rw [DL];exact ih _
     .exact .fail
    .split
     .exact FM.gL (FM.use λv k=>ih _) _
     .exact .fail
   .split
    .split
     .exact ih _
     .split
      .split
       .exact FM.gL (ih _) _
       .exact .fail
      .split
       .split
        .exact FM.gL (FM.use λv k=>ih _) _
        .exact .cond (FM.gL (FM.use λv k=>ih _) _) (ih _)
       .exact .fail
     .exact .fail
    .exact .fail
  .exact .fail
theorem FM.draw{X:XT}{C:Calls aG}{ops:List Oper}{K:RSt (std n)->(ρ->Prop)->Prop}(hK:∀s,FM (K s)):∀(rest:List fC) (hs:List (Nat×List Nat)) (s:RSt (std n)),FM (iK (std n) X C ops rest hs K s)
 | [],hs,s=>by unfold iK;exact hK s
 | (i,rs,cs)::rest,hs,s=>by
  have ih:=FM.draw (X:=X) (C:=C) (ops:=ops) hK rest;unfold iK;split
  .exact .fail
  .split
   .simp only;split
    .split
     .exact .fail
     .split
      .split
       .refine FM.gL ?_ _;rw [DL];exact ih _ _
       .exact .fail
      .split
       .split
        .exact ih _ _
        .split
         .exact FM.gL (ih _ _) _
         .exact .fail
        .exact .fail
       .exact .fail
    .split
     .exact FM.gL (ih _ _) _
     .exact ih _ _
     .exact .fail
    .split
     .exact FM.gL (ih _ _) _
     .exact .fail
    .split
     .split
      .split
       .exact FM.gL (FM.use λv k=>ih _ _) _
       .exact .fail
      .exact .fail
     .split
      .split
       .exact ih _ _
       .split
        .split
         .split
          .exact FM.gL (FM.use λv k=>ih _ _) _
          .exact .cond (FM.gL (FM.use λv k=>ih _ _) _) (ih _ _)
         .exact .fail
        .exact .fail
       .exact .fail
      .exact .fail
   .exact .fail
theorem FM.cut{k:Nat}{sk:Gy}{pl:Bool}{s:RSt (std n)}{K:Exit->RSt (std n)->(ρ->Prop)->Prop}(hK:∀e s,FM (K e s)){W: {σ:Type}->(Exit->RSt (std n)->(σ->Prop)->Prop)->(σ->Prop)->Prop}
  (hW:∀ {σ:Type} {K':Exit->RSt (std n)->(σ->Prop)->Prop},(∀e s,FM (K' e s))->FM (W K')):FM (Oc (std n) k sk pl s K W):=by
 unfold Oc;split
 .refine FM.bind' (hW λe s=> ?_) (λt=>hK _ _);split
  .split
   .exact FM.gL (FM.ret' _) _
   .exact .fail
  .exact .fail
 .refine FM.akv (hW λe s=> ?_) (λt=>hK _ _);split
  .split
   .exact FM.gL (FM.inl' _) _
   .exact .fail
  .exact FM.inr' (hK _ _)
theorem FM.reg{X:XT}{C:Calls aG}{ord:Nat->List fC}{chk:Nat->Array Oper->Nat->Bool}{id:Nat}{ops:Array Oper}{draw:Bool}{s:RSt (std n)}{K:Exit->RSt (std n)->(ρ->Prop)->Prop}(hK:∀e s,FM (K e s)):
  FM ((if draw then(if chk id ops s.m then iK (std n) X C ops.toList (ord id) [] (λs=>K .normal s) s else(std n).fail)else fF (std n) X C ops.toList ops.toList (λs=>K .normal s) s:(std n).M ρ)):=by
 split
 .split
  .exact FM.draw (λs=>hK _ s) _ _ _
  .exact .fail
 .exact FM.region (λs=>hK _ s) _ _
end
theorem FM.exec{n:Nat}{X:XT}{C:Calls aG}{ord:Nat->List fC}{chk:Nat->Array Oper->Nat->Bool}{k:Nat}:∀(code:Code) {ρ:Type} (an:Ann) (s:RSt (std n)) (K:Exit->RSt (std n)->(ρ->Prop)->Prop),(∀e s,FM (K e s))->FM (bJ (std n) X C ord chk k an code s K)
  | .skip,ρ,an,s,K,hK=>by cases an<;>exact hK _ _
  | .region id ops draw,ρ,an,s,K,hK=>by
    simp only [bJ];split
    · exact FM.cut hK λhK'=>FM.reg hK'
    · exact FM.reg hK
  | .seq x y,ρ,an,s,K,hK=>by
    have main:∀a1 a2 (K1:Exit->RSt (std n)->(ρ->Prop)->Prop),(∀s',K1 .normal s'=bJ (std n) X C ord chk k a2 y s' K)->(∀e s',e≠ .normal->K1 e s'=K e s')->FM (bJ (std n) X C ord chk k a1 x s K1):=by
      intro a1 a2 K1 h1 h2;refine FM.exec x a1 s K1 λe s'=> ?_
      by_cases he:e= .normal
      · subst he;rw [h1];exact FM.exec y a2 s' K hK
      · rw [h2 e s' he];exact hK _ _
    cases an with
    | seq a1 a2=>rw [bJ];exact main a1 a2 _ (λ_=>rfl) (λe s' he=>by cases e<;>first | rfl | exact absurd rfl he)
    | u=>rw [bJ];exact main .u .u _ (λ_=>rfl) (λe s' he=>by cases e<;>first | rfl | exact absurd rfl he)
    | _=>simp only [bJ];exact .fail
  | .cond cd x y,ρ,an,s,K,hK=>by
    simp only [bJ];split
    · split
      · exact .cond (FM.exec x _ s K hK) (FM.exec y _ s K hK)
      · exact .cond (FM.exec x _ s K hK) (FM.exec y _ s K hK)
      · exact FM.cut hK λhK'=> .cond (FM.exec x _ s _ hK') (FM.exec y _ s _ hK')
      · exact .fail
    · exact .fail
  | .block id b,ρ,an,s,K,hK=>by
    have main:∀ {σ:Type} {K':Exit->RSt (std n)->(σ->Prop)->Prop},(∀e s,FM (K' e s))->∀a1 (K1:Exit->RSt (std n)->(σ->Prop)->Prop),(∀e s',K1 e s'=K' e s'\/K1 e s'=K' .normal s')->FM (bJ (std n) X C ord chk k a1 b s K1):=by
      intro σ K' hK' a1 K1 h1;refine FM.exec b a1 s K1 λe s'=> ?_
      rcases h1 e s' with h | h<;>rw [h]<;>exact hK' _ _
    have alt:∀ {σ:Type} {K':Exit->RSt (std n)->(σ->Prop)->Prop} (e:Exit) (s':RSt (std n)),(match e with | .exit i=>if i==id then K' .normal s' else K' (.exit i) s' | e=>K' e s':(std n).M σ)=K' e s'\/(match e with | .exit i=>if i==id then K' .normal s' else K' (.exit i) s' | e=>K' e s':(std n).M σ)=K' .normal s':=by
      intro σ K' e s';cases e with
      | exit i => simp only; split
                  · exact .inr rfl
                  · exact .inl rfl
      | _=>exact .inl rfl
    simp only [bJ];split
    · exact main hK _ _ alt
    · exact main hK _ _ alt
    · exact FM.cut hK λhK'=>main hK' _ _ alt
    · exact .fail
  | .loop b,ρ,an,s,K,hK=>by
    cases an with
    | loop sk a1=>
      rw [bJ];split
      · refine FM.gL (FM.iter' (λx=>FM.exec b a1 _ _ λe s'=> ?_) _) _;split
        · split
          · exact FM.gL (FM.inl' _) _
          · exact .fail
        · exact FM.inr' (hK _ _)
      · exact .fail
    | _=>simp only [bJ];exact .fail
  | .exit i,ρ,an,s,K,hK=>by cases an<;>exact hK _ _
  | .ret,ρ,an,s,K,hK=>by cases an<;>exact hK _ _
  | .rangeFunc ..,ρ,an,s,K,hK=>by cases an<;>(simp only [bJ];exact .fail)
  | .scope _,ρ,an,s,K,hK=>by cases an<;>(simp only [bJ];exact .fail)
  | .label _,ρ,an,s,K,hK=>by cases an<;>(simp only [bJ];exact .fail)
  | .goto _,ρ,an,s,K,hK=>by cases an<;>(simp only [bJ];exact .fail)
  | .refuse _,ρ,an,s,K,hK=>by cases an<;>(simp only [bJ];exact .fail)
theorem FM.run{n:Nat}{X:XT}{C:Calls aG}{ord:Nat->List fC}{chk:Nat->Array Oper->Nat->Bool}{an:Ann}{sg:Sig}{fn:Func}{code:Code}(x:iC sg.inp):FM (pO (std n) X C ord chk an sg fn code x):=by
 unfold pO;split
 .exact .fail
 .split
  .split
   .refine FM.exec code an _ _ λe s=> ?_
    have he:FM (Xg (std n) X sg fn s):=by
     unfold Xg;split
     .split
      .split
       .split
        .split
         .exact FM.gL (FM.ret' _) _
         .exact .fail
        .exact .fail
       .exact .fail
      .exact .fail
     .exact .fail
    split
    .exact he
    .exact he
    .exact .fail
   .exact .fail
  .exact .fail
def ofL(C:Car)(l:List (FuncId×Sigma (Ct C))):Calls C:=λf=>(l.filter λp=>p.1==f).map (·.2)
def Xr(l:List (Nat×List fC))(i:Nat):List fC:=match l.find? λp=>p.1==i with | some p=>p.2 | none=> []
def agf(E:Tab)(l:List (Nat×List fC))(id:Nat)(ops:Array Oper)(m:Nat):Bool:=IY ops.toList (Xr l id)&&zI E m ops.toList&&I4 E.P ops.toList
theorem agh{E:Tab}{l:List (Nat×List fC)}:∀id ops m,agf E l id ops m=true->Static E (Xr l) id ops m:=λ_ _ _ h=>h
theorem akw{E:Tab}{l:List (FuncId×Sigma (Ct aG))}(h:∀p∈l,dI E p.1 (dD p.2.2)):oL E (jV (ofL aG l)):=by
 intro f R hR;unfold jV at hR;split at hR
 .cases hR
 .cases hR;rename_i hne;have hall:∀ct∈ofL aG l f,dI E f (dD ct.2):=λct hct=>by
   obtain⟨p,hp,rfl⟩:=List.mem_map.1 hct;obtain⟨hp1,hp2⟩:=List.mem_filter.1 hp;have:p.1=f:=by simpa using hp2
   rw [<-this];exact h p hp1
  obtain⟨ct,hct⟩:=List.exists_mem_of_ne_nil _ hne;exact⟨(hall ct hct).enters,λargs h n K ⟨ct,hct,hk⟩=>(hall ct hct).calls args h n K hk⟩
def Ru(X:XT)(E:Tab)(A:Alg)(ord:List (Nat×List fC))(an:Ann)(s:Sig)(fn:Func)(l:List (FuncId×Sigma (Ct A.au)))(F:Tup A.au s.inp->A.M (Tup A.au s.out)):Prop:=
 ∀x,pO A X (ofL A.au l) (Xr ord) (agf E ord) an s fn (fn.body.getD .skip) x=F x
section
variable {X:XT} {E:Tab} (hE:aC E) (hX:XOK X E) (hm:E.P.follows .mixedOrders=true)
include hE hX hm
theorem auo{f:FuncId}{fn:Func}(hf:E.P.funcs[f]? =some fn)(hb:fn.body.isSome=true)(hent:∀c,fn.body=some c->Enters E.P f){l:List (FuncId×Sigma (Ct aG))}(hl:∀p∈l,dI E p.1 (dD p.2.2)){ord:List (Nat×List fC)}{sg:Sig}{an:Ann}
  {F:iC sg.inp->(iC sg.out->Prop)->Prop} (hrun:Ru X E (std 0) ord an sg fn l F):Fn E f F (cn F):=by
 obtain⟨code,hb⟩:=Option.isSome_iff_exists.1 hb;have hr:∀x,pO (std 0) X (ofL aG l) (Xr ord) (agf E ord) an sg fn code x=F x:=λx=>by have:=hrun x;rw [hb]at this;exact this
 have hFM:∀x,FM (F x):=λx=>by rw [<-hr x];exact FM.run x
 refine⟨rfl,hFM,ap6 hE hX (akw hl) hm (ord:=Xr ord) (chk:=agf E ord) agh hf hb (hent _ hb) (an:=an) (λx hx=> ?_)⟩;rw [hr x];simp only [cn]at hx;exact @Classical.epsilon_spec _ (λy=>F x λz=>z=y) (@of_decide_eq_true _ (Classical.propDecidable _) hx)
end
abbrev aB.z : aB := ⟨[], []⟩
abbrev Tup.q{C : Car}{a b c d : LTy}{ts : List LTy}(x : Tup C (a :: b :: c :: d :: ts)) : Tup C ts := x.2.2.2.2
abbrev Tup.o{C : Car}{a b c d e f g h : LTy}{ts : List LTy}(x : Tup C (a :: b :: c :: d :: e :: f :: g :: h :: ts)) : Tup C ts := x.2.2.2.2.2.2.2.2
abbrev Pt(A : Alg)(s : Sig) : Type := Tup A.au s.inp -> A.B
abbrev Ft(A : Alg)(s : Sig) : Type := Tup A.au s.inp -> Tup A.au s.out
abbrev Ot(A : Alg)(s : Sig) : Type := A.M (Tup A.au s.out)
structure Al(A:Alg) where
 n:Int->A.I
 z:A.I
 u:A.I
 T:A.B
 F:A.B
 e:A.I->A.I->A.B
 d:A.I->A.I->A.B
 l:A.I->A.I->A.B
 m:A.I->A.I->A.B
 g:A.I->A.I->A.B
 h:A.I->A.I->A.B
 p:A.I->A.I->A.I
 q:A.I->A.I->A.I
 t:A.I->A.I->A.I
 i: {ρ:Type}->A.I->(Tup A.au [.i]->A.M ρ)->A.M ρ
 b: {ρ:Type}->A.B->(Tup A.au [.b]->A.M ρ)->A.M ρ
 s: {ρ:Type}->(t:LTy)->LT A.au t->(Tup A.au [t]->A.M ρ)->A.M ρ
 j: {ρ:Type}->{i o:List LTy}->(Tup A.au i->A.B)->(Tup A.au i->Tup A.au o)->Tup A.au i->(Tup A.au o->A.M ρ)->A.M ρ
 k: {ρ:Type}->{i o:List LTy}->A.B->(Tup A.au i->A.B)->(Tup A.au i->Tup A.au o)->Tup A.au i->(Tup A.au o->A.M ρ)->A.M ρ
 v:A.B->A.M (Tup A.au [.b])
 w: {ρ:Type}->(c:Co)->A.L c->A.I->A.M ρ->A.M ρ
 c: {ρ:Type}->A.B->A.M ρ->A.M ρ->A.M ρ
 C: {ρ:Type}->A.B->A.M ρ->A.M ρ
 r: {ts:List LTy}->Tup A.au ts->A.M (Tup A.au ts)
 L: {ρ:Type}->{ts:List LTy}->Tup A.au ts->A.M (Sum (Tup A.au ts) ρ)
 R: {ρ:Type}->{ts:List LTy}->A.M ρ->A.M (Sum (Tup A.au ts) ρ)
 I: {ρ:Type}->(ts:List LTy)->(Tup A.au ts->A.M (Sum (Tup A.au ts) ρ))->Tup A.au ts->A.M ρ
 f:(c:Co)->Nat->A.X c->A.I
 D:(c:Co)->Nat->(c':Co)->A.X c->A.L c'
 x:(c:Co)->Tup A.au c.pJ->A.X c
 y:(c:Co)->A.L c->A.I
 o:(c:Co)->A.L c->A.I->A.X c
 a:A.B->A.B->A.B->A.B
 N:A.B->A.B
 O:A.B->A.B->A.B
abbrev Alg.al(A : Alg) : Al A where
 n:=A.lit
 z:=A.lit 0
 u:=A.lit 1
 T:=A.bl true
 F:=A.bl false
 e:=A.cmp .eql
 d:=A.cmp .neq
 l:=A.cmp .lss
 m:=A.cmp .leq
 g:=A.cmp .gtr
 h:=A.cmp .geq
 p:=A.arith .add .i64
 q:=A.arith .sub .i64
 t:=A.arith .mul .i64
 i:=λv k=>A.sN [.i] (v,()) k
 b:=λv k=>A.sN [.b] (v,()) k
 s:=λt v k=>A.sN [t] (v,()) k
 j:=λp f a k=>A.chk (p a) (A.sN _ (f a) k)
 k:=λb p f a k=>A.chk (A.orB (A.yM b) (p a)) (A.sN _ (f a) k)
 v:=λv=>A.sN [.b] (v,()) λx=>A.ret [.b] (x.1,())
 w:=λc l i m=>A.chk (A.cmp .leq (A.lit 0) i) (A.chk (A.cmp .lss i (A.len c l)) m)
 c:=A.cond
 C:=A.chk
 r:=A.ret _
 L:=A.inl _
 R:=A.inr _
 I:=A.iter
 f:=A.fI
 D:=A.fL
 x:=A.mkX
 y:=A.len
 o:=A.get
 a:=A.I6
 N:=A.yM
 O:=A.orB
abbrev SkC.i : SkC := .int .i64
abbrev SkV.i : SkV := .c (.int .i64)
abbrev SkV.b : SkV := .c .bool
abbrev SkV.p(l s : Nat) : SkV := .c (.pb l s 0)
abbrev SkV.o(l : Nat) : SkV := .c (.own l)
abbrev SkV.r(f : Bool)(c : Co) : SkV := .c (.rows f c)
abbrev SkO.g(l : List SkC) : SkO := .box (.agg l)
abbrev SkO.s(f : Bool)(c : Co) : SkO := .box (.sv f c)
abbrev Ann.v(a : Ann) : Ann := .seq .u a
abbrev od(n : Nat)(l : List Nat) : fC := (n, l, [])
end Go.TX
namespace Go.TX
open Go Go.AE
inductive Ex where
 | v (n j:Nat) | ln (n:Nat) | lz (n:Nat) | bl (b:Bool) | st (s:ByteArray)
 | ar (op:BinOp) (k:IntKind) (x y:Ex) | cm (op:BinOp) (x y:Ex) | addN (x y:Ex) | LA (x y:Ex) | neg (k:IntKind) (x:Ex) | conv (k:IntKind) (x:Ex) | NS (x y:Ex) | jg (x y:Ex)
 | yM (x:Ex) | LB (x y:Ex) | orB (x y:Ex) | eqB (x y:Ex) | eqS (x y:Ex) | NT (x:Ex)
 | NU (b x y:Ex) | I6 (b x y:Ex) | NV (b:Ex) (c:Co) (x y:Ex) | Xe (b:Ex) (c:Co) (x y:Ex)
 | len (c:Co) (x:Ex) | EG (c:Co) | get (c:Co) (x i:Ex) | set (c:Co) (x i y:Ex) | app (c:Co) (x y:Ex) | sub (c:Co) (x i j:Ex) | rep (c:Co) (n x:Ex) | lst (c:Co) (xs:List Ex) | glob (n:Nat) (c:Co)
 | fI (c:Co) (j:Nat) (x:Ex) | fB (c:Co) (j:Nat) (x:Ex) | fS (c:Co) (j:Nat) (x:Ex) | fL (c:Co) (j:Nat) (c':Co) (x:Ex) | mkX (c:Co) (ts:List LTy) (t:List Ex) | eqX (c:Co) (x y:Ex)
 | cp (i:Nat) (ts:List LTy) (t:List Ex) | cf (i:Nat) (ts:List LTy) (t:List Ex) (j:Nat)
inductive Pg where
 | ret (ts:List LTy) (t:List Ex) | sN (ts:List LTy) (t:List Ex) (k:Pg) | aqg (i:Nat) (ts:List LTy) (t:List Ex) (k:Pg) | fail | chk (b:Ex) (m:Pg) | cond (b:Ex) (x y:Pg) | bind (ts:List LTy) (m k:Pg) | tV (ts:List LTy) (m k:Pg)
 | inl (ts:List LTy) (t:List Ex) | inr (ts:List LTy) (m:Pg) | iter (ts:List LTy) (b:Pg) (t:List Ex)
abbrev Jq:Car:={I:=Ex,B:=Ex,S:=Ex,L:=λ_=>Ex,X:=λ_=>Ex}
def lvE:LV Jq->Ex | .i x=>x | .b x=>x | .s x=>x | .l _ x=>x | .x _ x=>x
def tE(ts:List LTy)(t:Tup Jq ts):List Ex:=(unpack Jq ts t).map lvE
def eT(f:Nat->Ex):(ts:List LTy)->Nat->Tup Jq ts
 | [],_=>()
 | t::r,j=>(match t with | .i=>f j | .b=>f j | .s=>f j | .l _=>f j | .x _=>f j,eT f r (j+1))
def vT(ts:List LTy)(n:Nat):Tup Jq ts:=eT (.v n) ts 0
def aqh(i:Nat):Nat->List Ex->Bool
 | _,[]=>true
 | j,.cf i' _ _ j'::r=>Nat.beq i i'&&Nat.beq j j'&&aqh i (j+1) r
 | _,_=>false
structure MS where
 run:Nat->Pg
def aup:Alg:={
 au:=Jq
 M:=λ_=>MS
 lit:=λn=>(match n with | .ofNat k=> .ln k | .negSucc k=> .lz (k+1)),bl:= .bl,st:= .st,arith:= .ar,cmp:= .cm,addN:= .addN,LA:= .LA,neg:= .neg,conv:= .conv,NS:= .NS,jg:= .jg
 yM:= .yM,LB:= .LB,orB:= .orB,eqB:= .eqB,eqS:= .eqS,NT:= .NT,NU:= .NU,I6:= .I6,NV:= .NV,Xe:= .Xe
 len:= .len,EG:= .EG,get:= .get,set:= .set,app:= .app,sub:= .sub,rep:= .rep,lst:= .lst,glob:= .glob
 fI:= .fI,fB:= .fB,fS:= .fS,fL:= .fL,mkX:=λc t=> .mkX c c.pJ (tE c.pJ t),eqX:= .eqX
 ret:=λts t=>⟨λ_=> .ret ts (tE ts t)⟩
 sN:=λts t k=>⟨λn=>match tE ts t with | .cf i q e 0::r=>if aqh i 1 r then .aqg i q e ((k (vT ts n)).run (n+1))else .sN ts (.cf i q e 0::r) ((k (vT ts n)).run (n+1)) | e=> .sN ts e ((k (vT ts n)).run (n+1))⟩
 fail:=⟨λ_=> .fail⟩
 chk:=λb m=>⟨λn=> .chk b (m.run n)⟩
 cond:=λb x y=>⟨λn=> .cond b (x.run n) (y.run n)⟩
 bind:=λts m k=>⟨λn=> .bind ts (m.run n) ((k (vT ts n)).run (n+1))⟩
 tV:=λts m k=>⟨λn=> .tV ts (m.run n) ((k (vT ts n)).run (n+1))⟩
 inl:=λts t=>⟨λ_=> .inl ts (tE ts t)⟩
 inr:=λts m=>⟨λn=> .inr ts (m.run n)⟩
 iter:=λts b t=>⟨λn=> .iter ts ((b (vT ts n)).run (n+1)) (tE ts t)⟩}
def sCt(i:Nat)(s:Sig):Ct Jq s:={pre:=λt=> .cp i s.inp (tE s.inp t),fn:=λt=>eT (.cf i s.inp (tE s.inp t)) s.out 0}
def scs:List (Nat×Sig)->Nat->List (FuncId×Sigma (Ct Jq))
 | [],_=> []
 | p::r,i=>(p.1,⟨p.2,sCt i p.2⟩)::scs r (i+1)
def auq(k:aB)(X:XT)(o:List (Nat×List fC))(a:Ann)(s:Sig)(f:Func)(l:List (Nat×Sig)):Pg:=
 (pO aup X (ofL Jq (scs l 0)) (Xr o) (λ_ _ _=>true) a s f (f.body.getD .skip) (vT s.inp 0)).run 1
abbrev Cs(A:Alg):List (Nat×Sig)->Type
 | []=>Unit
 | p::r=>Pt A p.2×Ft A p.2×Cs A r
abbrev csl(A:Alg):(l:List (Nat×Sig))->Cs A l->List (FuncId×Sigma (Ct A.au))
 | [],_=> []
 | p::r,c=>(p.1,⟨p.2,⟨c.1,c.2.1⟩⟩)::csl A r c.2.2
abbrev Vs(A:Alg):=List ((ts:List LTy)×Tup A.au ts)
section
variable (A:Alg) (L Z:Nat->A.I) (W:ByteArray->A.S) (P:∀ {α β:Type},α×β->α) (Q:∀ {α β:Type},α×β->β) (U:Unit) (l:List (Nat×Sig)) (C:Cs A l) (N:Nat) (V:Vs A)
def dfl:(t:LTy)->LT A.au t
 | .i=>L 0 | .b=>A.bl true | .s=>W default | .l c=>A.EG c | .x c=>A.get c (A.EG c) (L 0)
def akx:(ts:List LTy)->Tup A.au ts | []=>() | t::r=>(dfl A L W t,akx r)
def cst(t' t:LTy)(x:LT A.au t'):LT A.au t:=if h:t'=t then h▸x else dfl A L W t
def Xt(ts' ts:List LTy)(x:Tup A.au ts'):Tup A.au ts:=if h:ts'=ts then h▸x else akx A L W ts
def vrT:(ts:List LTy)->Tup A.au ts->Nat->(t:LTy)->LT A.au t
 | [],_,_,t=>dfl A L W t
 | t'::_,x,0,t=>cst A L W t' t (P x)
 | _::r,x,j+1,t=>vrT r (Q x) j t
def vr(n j:Nat)(t:LTy):LT A.au t:=match V[N-1-n]? with | some p=>vrT A L W P Q p.1 p.2 j t | none=>dfl A L W t
def cP:(l:List (Nat×Sig))->Cs A l->Nat->((s:Sig)->Tup A.au s.inp)->A.B
 | [],_,_,_=>A.bl true
 | p::_,c,0,g=>c.1 (g p.2)
 | _::r,c,i+1,g=>cP r c.2.2 i g
def cF{R:Type}(d:R):(l:List (Nat×Sig))->Cs A l->Nat->((s:Sig)->Ft A s->R)->R
 | [],_,_,_=>d
 | p::_,c,0,g=>g p.2 c.2.1
 | _::r,c,i+1,g=>cF d r c.2.2 i g
mutual
def ev:Ex->(t:LTy)->LT A.au t
 | .v n j,t=>vr A L W P Q N V n j t
 | .ln n,.i=>L n
 | .lz n,.i=>Z n
 | .bl b,.b=>A.bl b
 | .st s,.s=>W s
 | .ar op k x y,.i=>A.arith op k (ev x .i) (ev y .i)
 | .cm op x y,.b=>A.cmp op (ev x .i) (ev y .i)
 | .addN x y,.i=>A.addN (ev x .i) (ev y .i)
 | .LA x y,.i=>A.LA (ev x .i) (ev y .i)
 | .neg k x,.i=>A.neg k (ev x .i)
 | .conv k x,.i=>A.conv k (ev x .i)
 | .NS x y,.i=>A.NS (ev x .i) (ev y .i)
 | .jg x y,.i=>A.jg (ev x .i) (ev y .i)
 | .yM x,.b=>A.yM (ev x .b)
 | .LB x y,.b=>A.LB (ev x .b) (ev y .b)
 | .orB x y,.b=>A.orB (ev x .b) (ev y .b)
 | .eqB x y,.b=>A.eqB (ev x .b) (ev y .b)
 | .eqS x y,.b=>A.eqS (ev x .s) (ev y .s)
 | .NT x,.s=>A.NT (ev x (.l .u8))
 | .NU b x y,.i=>A.NU (ev b .b) (ev x .i) (ev y .i)
 | .I6 b x y,.b=>A.I6 (ev b .b) (ev x .b) (ev y .b)
 | .NV b _ x y,.l c=>A.NV (ev b .b) c (ev x (.l c)) (ev y (.l c))
 | .Xe b _ x y,.x c=>A.Xe (ev b .b) c (ev x (.x c)) (ev y (.x c))
 | .len c x,.i=>A.len c (ev x (.l c))
 | .EG _,.l c=>A.EG c
 | .get _ x i,.x c=>A.get c (ev x (.l c)) (ev i .i)
 | .set _ x i y,.l c=>A.set c (ev x (.l c)) (ev i .i) (ev y (.x c))
 | .app _ x y,.l c=>A.app c (ev x (.l c)) (ev y (.l c))
 | .sub _ x i j,.l c=>A.sub c (ev x (.l c)) (ev i .i) (ev j .i)
 | .rep _ n x,.l c=>A.rep c (ev n .i) (ev x (.x c))
 | .lst _ xs,.l c=>A.lst c (evs c xs)
 | .glob n _,.l c=>A.glob n c
 | .fI c j x,.i=>A.fI c j (ev x (.x c))
 | .fB c j x,.b=>A.fB c j (ev x (.x c))
 | .fS c j x,.s=>A.fS c j (ev x (.x c))
 | .fL c j _ x,.l c'=>A.fL c j c' (ev x (.x c))
 | .mkX _ ts t,.x c=>A.mkX c (Xt A L W ts c.pJ (tp t ts))
 | .eqX c x y,.b=>A.eqX c (ev x (.x c)) (ev y (.x c))
 | .cp i ts t,.b=>cP A l C i λs=>Xt A L W ts s.inp (tp t ts)
 | .cf i ts t j,ty=>cF A (dfl A L W ty) l C i λs f=>vrT A L W P Q s.out (f (Xt A L W ts s.inp (tp t ts))) j ty
 | _,t=>dfl A L W t
termination_by structural e=>e
def tp:List Ex->(ts:List LTy)->Tup A.au ts
 | _,[]=>U
 | e::r,t::ts=>(ev e t,tp r ts)
 | [],t::ts=>akx A L W (t::ts)
termination_by structural e=>e
def evs(c:Co):List Ex->List (A.X c)
 | []=> []
 | e::r=>ev e (.x c)::evs c r
termination_by structural e=>e
end
end
inductive RT where
 | t (ts:List LTy) | s (ts:List LTy) (r:RT)
abbrev RT.den(A:Alg):RT->Type
 | .t ts=>Tup A.au ts
 | .s ts r=>Sum (Tup A.au ts) (r.den A)
def den(A:Alg)(L Z:Nat->A.I)(W:ByteArray->A.S)(P:∀ {α β:Type},α×β->α)(Q:∀ {α β:Type},α×β->β)(U:Unit)(l:List (Nat×Sig))(C:Cs A l):Pg->(r:RT)->Nat->Vs A->A.M (r.den A)
 | .ret q t,.t ts,N,V=>A.ret ts (Xt A L W q ts (tp A L Z W P Q U l C N V t q))
 | .sN ts t k,r,N,V=>A.sN ts (tp A L Z W P Q U l C N V t ts) λy=>den A L Z W P Q U l C k r (N+1) (⟨ts,y⟩::V)
 | .aqg i q t k,r,N,V=>cF A A.fail l C i λs f=>A.sN s.out (f (Xt A L W q s.inp (tp A L Z W P Q U l C N V t q))) λy=>den A L Z W P Q U l C k r (N+1) (⟨s.out,y⟩::V)
 | .chk b m,r,N,V=>A.chk (ev A L Z W P Q U l C N V b .b) (den A L Z W P Q U l C m r N V)
 | .cond b x y,r,N,V=>A.cond (ev A L Z W P Q U l C N V b .b) (den A L Z W P Q U l C x r N V) (den A L Z W P Q U l C y r N V)
 | .bind ts m k,r,N,V=>A.bind ts (den A L Z W P Q U l C m (.t ts) N V) λy=>den A L Z W P Q U l C k r (N+1) (⟨ts,y⟩::V)
 | .tV ts m k,r,N,V=>A.tV ts (den A L Z W P Q U l C m (.s ts r) N V) λy=>den A L Z W P Q U l C k r (N+1) (⟨ts,y⟩::V)
 | .inl q t,.s ts _,N,V=>A.inl ts (Xt A L W q ts (tp A L Z W P Q U l C N V t q))
 | .inr _ m,.s ts r,N,V=>A.inr ts (den A L Z W P Q U l C m r N V)
 | .iter ts b t,r,N,V=>A.iter ts (λy=>den A L Z W P Q U l C b (.s ts r) (N+1) (⟨ts,y⟩::V)) (tp A L Z W P Q U l C N V t ts)
 | _,_,_,_=>A.fail
inductive Hx {α:Type}:α->α->Prop | r (a:α):Hx a a
theorem nz(n:Nat):(Nat.cast (no_index (@OfNat.ofNat Nat n (instOfNatNat n))):Int)=OfNat.ofNat n:=rfl
structure Gt(k:aB)(X:XT)(E:Tab)(o:List (Nat×List fC))(a:Ann)(s:Sig)(f:Func)(l:List (Nat×Sig)) where
 F:Cs (std 0) l->iC s.inp->(iC s.out->Prop)->Prop
 h:∀C,Ru X E (std 0) o a s f (csl (std 0) l C) (F C)
def gm{k:aB}{X:XT}{E:Tab}{o:List (Nat×List fC)}{a:Ann}{s:Sig}{f:Func}{l:List (Nat×Sig)}{F:(A:Alg)->Cs A l->Tup A.au s.inp->Ot A s}
 (_g:∀A (P:∀ {α β:Type},α×β->α) (Q:∀ {α β:Type},α×β->β) (U:Unit), @P= @Prod.fst-> @Q= @Prod.snd->U=()->∀C x,Hx (den A (λn=>A.lit (Nat.cast n)) (λn=>A.lit (-(Nat.cast n))) A.st P Q U l C (auq k X o a s f l) (.t s.out) 1 [⟨s.inp,x⟩]) (F A C x):=by
  intro A P Q U hP hQ hU C x;generalize hL:(λn:Nat=>A.lit (Nat.cast n))=L;generalize hZ:(λn:Nat=>A.lit (-(Nat.cast n)))=Z
  conv=>arg 1;arg 10;reduce
  conv=>arg 1;reduce
  subst hL hZ hP hQ hU
  try dsimp only [nz]
  exact .r _)
 (h:∀A C,Ru X E A o a s f (csl A l C) (F A C):=by intro _ _ _;kernel_rfl):Gt k X E o a s f l:=⟨F (std 0),h (std 0)⟩
end Go.TX
namespace Go.TX.Seat
open Go Go.AE Go.TX Go.Proofs
set_option maxRecDepth 100000
def ty:TypeId->Option TY
 | 2=>some ⟨(.int .i64),1,8,[.d true (.int .i64 0)]⟩
 | 3=>some ⟨(.int .i64),1,8,[.d true (.int .i64 0)]⟩
 | 4=>some ⟨.bool,1,1,[.d true (.bool false)]⟩
 | 5=>some ⟨(.int .u8),1,1,[.d true (.int .u8 0)]⟩
 | 6=>some ⟨(.int .u8),1,1,[.d true (.int .u8 0)]⟩
 | 7=>some ⟨(.struct [(0,2),(1,3),(2,4),(3,6)]),4,24,[.d true (.int .i64 0),.d true (.int .i64 0),.d true (.bool false),.d true (.int .u8 0)]⟩
 | 8=>some ⟨(.struct [(0,2),(1,3),(2,4),(3,6)]),4,24,[.d true (.int .i64 0),.d true (.int .i64 0),.d true (.bool false),.d true (.int .u8 0)]⟩
 | 9=>some ⟨.str,1,16,[.d true (.str ⟨#[]⟩)]⟩
 | 10=>some ⟨.str,1,16,[.d true (.str ⟨#[]⟩)]⟩
 | 11=>some ⟨.str,1,16,[.d true (.str ⟨#[]⟩)]⟩
 | 12=>some ⟨(.int .u64),1,8,[.d true (.int .u64 0)]⟩
 | 13=>some ⟨(.struct [(0,9),(1,12)]),2,24,[.d true (.str ⟨#[]⟩),.d true (.int .u64 0)]⟩
 | 14=>some ⟨(.struct [(0,9),(1,12)]),2,24,[.d true (.str ⟨#[]⟩),.d true (.int .u64 0)]⟩
 | 15=>some ⟨.scalar,1,8,[.np]⟩
 | 16=>some ⟨.scalar,1,8,[.np]⟩
 | 17=>some ⟨.scalar,1,8,[.np]⟩
 | 18=>some ⟨(.struct [(0,17)]),1,8,[.np]⟩
 | 19=>some ⟨(.struct [(0,17)]),1,8,[.np]⟩
 | 21=>some ⟨(.int .i32),1,4,[.d true (.int .i32 0)]⟩
 | 22=>some ⟨(.slice 5),1,24,[.nil]⟩
 | 23=>some ⟨(.slice 101),1,24,[.nil]⟩
 | 24=>some ⟨(.struct [(0,3),(1,3),(2,23),(3,3),(4,3),(5,3),(6,3)]),7,72,[.d true (.int .i64 0),.d true (.int .i64 0),.nil,.d true (.int .i64 0),.d true (.int .i64 0),.d true (.int .i64 0),.d true (.int .i64 0)]⟩
 | 25=>some ⟨(.struct [(0,3),(1,3),(2,23),(3,3),(4,3),(5,3),(6,3)]),7,72,[.d true (.int .i64 0),.d true (.int .i64 0),.nil,.d true (.int .i64 0),.d true (.int .i64 0),.d true (.int .i64 0),.d true (.int .i64 0)]⟩
 | 30=>some ⟨(.slice 3),1,24,[.nil]⟩
 | 31=>some ⟨(.struct [(0,30),(1,3),(2,30),(3,3),(4,4),(5,4),(6,3),(7,30),(8,30),(9,3)]),10,136,[.nil,.d true (.int .i64 0),.nil,.d true (.int .i64 0),.d true (.bool false),.d true (.bool false),.d true (.int .i64 0),.nil,.nil,.d true (.int .i64 0)]⟩
 | 32=>some ⟨(.struct [(0,30),(1,3),(2,30),(3,3),(4,4),(5,4),(6,3),(7,30),(8,30),(9,3)]),10,136,[.nil,.d true (.int .i64 0),.nil,.d true (.int .i64 0),.d true (.bool false),.d true (.bool false),.d true (.int .i64 0),.nil,.nil,.d true (.int .i64 0)]⟩
 | 42=>some ⟨(.slice 119),1,24,[.nil]⟩
 | 43=>some ⟨(.struct [(0,42)]),1,24,[.nil]⟩
 | 44=>some ⟨(.struct [(0,42)]),1,24,[.nil]⟩
 | 47=>some ⟨(.slice 105),1,24,[.nil]⟩
 | 48=>some ⟨(.slice 51),1,24,[.nil]⟩
 | 49=>some ⟨(.slice 171),1,24,[.nil]⟩
 | 50=>some ⟨(.struct [(0,49)]),1,24,[.nil]⟩
 | 51=>some ⟨(.struct [(0,49)]),1,24,[.nil]⟩
 | 52=>some ⟨(.struct [(0,47),(1,48),(2,3),(3,51),(4,51),(5,3)]),6,112,[.nil,.nil,.d true (.int .i64 0),.nil,.nil,.d true (.int .i64 0)]⟩
 | 53=>some ⟨(.struct [(0,47),(1,48),(2,3),(3,51),(4,51),(5,3)]),6,112,[.nil,.nil,.d true (.int .i64 0),.nil,.nil,.d true (.int .i64 0)]⟩
 | 59=>some ⟨(.slice 64),1,24,[.nil]⟩
 | 63=>some ⟨(.struct [(0,30),(1,25)]),8,96,[.nil,.d true (.int .i64 0),.d true (.int .i64 0),.nil,.d true (.int .i64 0),.d true (.int .i64 0),.d true (.int .i64 0),.d true (.int .i64 0)]⟩
 | 64=>some ⟨(.struct [(0,30),(1,25)]),8,96,[.nil,.d true (.int .i64 0),.d true (.int .i64 0),.nil,.d true (.int .i64 0),.d true (.int .i64 0),.d true (.int .i64 0),.d true (.int .i64 0)]⟩
 | 74=>some ⟨(.slice 191),1,24,[.nil]⟩
 | 75=>some ⟨(.struct [(0,32),(10,59),(11,74)]),12,184,[.nil,.d true (.int .i64 0),.nil,.d true (.int .i64 0),.d true (.bool false),.d true (.bool false),.d true (.int .i64 0),.nil,.nil,.d true (.int .i64 0),.nil,.nil]⟩
 | 76=>some ⟨(.struct [(0,32),(10,59),(11,74)]),12,184,[.nil,.d true (.int .i64 0),.nil,.d true (.int .i64 0),.d true (.bool false),.d true (.bool false),.d true (.int .i64 0),.nil,.nil,.d true (.int .i64 0),.nil,.nil]⟩
 | 80=>some ⟨.scalar,1,8,[.np]⟩
 | 93=>some ⟨.scalar,1,8,[.np]⟩
 | 96=>some ⟨.scalar,1,8,[.np]⟩
 | 97=>some ⟨(.struct [(0,44),(1,4)]),2,32,[.nil,.d true (.bool false)]⟩
 | 98=>some ⟨(.struct [(0,44),(1,4)]),2,32,[.nil,.d true (.bool false)]⟩
 | 100=>some ⟨(.struct [(0,3),(1,3),(2,3),(3,3),(4,3)]),5,40,[.d true (.int .i64 0),.d true (.int .i64 0),.d true (.int .i64 0),.d true (.int .i64 0),.d true (.int .i64 0)]⟩
 | 101=>some ⟨(.struct [(0,3),(1,3),(2,3),(3,3),(4,3)]),5,40,[.d true (.int .i64 0),.d true (.int .i64 0),.d true (.int .i64 0),.d true (.int .i64 0),.d true (.int .i64 0)]⟩
 | 104=>some ⟨(.struct [(0,3),(1,3),(2,51),(3,51),(4,48)]),5,88,[.d true (.int .i64 0),.d true (.int .i64 0),.nil,.nil,.nil]⟩
 | 105=>some ⟨(.struct [(0,3),(1,3),(2,51),(3,51),(4,48)]),5,88,[.d true (.int .i64 0),.d true (.int .i64 0),.nil,.nil,.nil]⟩
 | 118=>some ⟨(.struct [(0,3),(1,3),(2,51),(3,51)]),4,64,[.d true (.int .i64 0),.d true (.int .i64 0),.nil,.nil]⟩
 | 119=>some ⟨(.struct [(0,3),(1,3),(2,51),(3,51)]),4,64,[.d true (.int .i64 0),.d true (.int .i64 0),.nil,.nil]⟩
 | 136=>some ⟨(.slice 159),1,24,[.nil]⟩
 | 151=>some ⟨(.struct [(0,22),(1,3)]),2,32,[.nil,.d true (.int .i64 0)]⟩
 | 152=>some ⟨(.struct [(0,22),(1,3)]),2,32,[.nil,.d true (.int .i64 0)]⟩
 | 158=>some ⟨(.struct [(0,3),(1,3),(2,3),(3,3)]),4,32,[.d true (.int .i64 0),.d true (.int .i64 0),.d true (.int .i64 0),.d true (.int .i64 0)]⟩
 | 159=>some ⟨(.struct [(0,3),(1,3),(2,3),(3,3)]),4,32,[.d true (.int .i64 0),.d true (.int .i64 0),.d true (.int .i64 0),.d true (.int .i64 0)]⟩
 | 170=>some ⟨(.struct [(0,3),(1,30)]),2,32,[.d true (.int .i64 0),.nil]⟩
 | 171=>some ⟨(.struct [(0,3),(1,30)]),2,32,[.d true (.int .i64 0),.nil]⟩
 | 190=>some ⟨(.struct [(0,25),(7,25)]),14,144,[.d true (.int .i64 0),.d true (.int .i64 0),.nil,.d true (.int .i64 0),.d true (.int .i64 0),.d true (.int .i64 0),.d true (.int .i64 0),.d true (.int .i64 0),.d true (.int .i64 0),.nil,.d true (.int .i64 0),.d true (.int .i64 0),.d true (.int .i64 0),.d true (.int .i64 0)]⟩
 | 191=>some ⟨(.struct [(0,25),(7,25)]),14,144,[.d true (.int .i64 0),.d true (.int .i64 0),.nil,.d true (.int .i64 0),.d true (.int .i64 0),.d true (.int .i64 0),.d true (.int .i64 0),.d true (.int .i64 0),.d true (.int .i64 0),.nil,.d true (.int .i64 0),.d true (.int .i64 0),.d true (.int .i64 0),.d true (.int .i64 0)]⟩
 | 214=>some ⟨(.struct [(0,4),(1,22)]),2,32,[.d true (.bool false),.nil]⟩
 | 215=>some ⟨(.struct [(0,4),(1,22)]),2,32,[.d true (.bool false),.nil]⟩
 | 226=>some ⟨(.slice 4),1,24,[.nil]⟩
 | 259=>some ⟨(.slice 49),1,24,[.nil]⟩
 | 261=>some ⟨(.slice 30),1,24,[.nil]⟩
 | 265=>some ⟨(.int .u64),1,8,[.d true (.int .u64 0)]⟩
 | 277=>some ⟨(.int .i64),1,8,[.d true (.int .i64 0)]⟩
 | 284=>some ⟨(.int .u32),1,4,[.d true (.int .u32 0)]⟩
 | 286=>some ⟨(.int .u64),1,8,[.d true (.int .u64 0)]⟩
 | 295=>some ⟨(.int .u64),1,8,[.d true (.int .u64 0)]⟩
 | 299=>some ⟨.scalar,1,8,[.np]⟩
 | 302=>some ⟨.scalar,1,8,[.np]⟩
 | 307=>some ⟨(.struct [(0,17),(1,17),(2,17),(3,9)]),4,40,[.np,.np,.np,.d true (.str ⟨#[]⟩)]⟩
 | 308=>some ⟨(.struct [(0,17),(1,17),(2,17),(3,9)]),4,40,[.np,.np,.np,.d true (.str ⟨#[]⟩)]⟩
 | 312=>some ⟨(.int .u8),1,1,[.d true (.int .u8 0)]⟩
 | 313=>some ⟨(.int .u8),1,1,[.d true (.int .u8 0)]⟩
 | 315=>some ⟨.scalar,1,8,[.np]⟩
 | 316=>some ⟨(.int .i32),1,4,[.d true (.int .i32 0)]⟩
 | 317=>some ⟨(.int .i32),1,4,[.d true (.int .i32 0)]⟩
 | _=>none
def yA{P:Program}{t:TypeId}{y:TY}(i:TypeInfo)(d:IC P t y.desc)(h:P.info? t=some i:=by kernel_rfl)(s:i.size=y.size:=by rfl)(b:i.bytes=y.bytes:=by rfl)
 (z:∃z,i.zero=some z/\zcs z.cells.toList=some y.zero:=by exact⟨_,rfl,rfl⟩) (l:y.zero.length=y.size:=by rfl):XJ P t y:=⟨⟨i,h,s,b,z.elim λx h=>⟨x,h.1,λ_ _=>UM h.2⟩⟩,d,l⟩
def yS{P:Program}{t:TypeId}{y:TY}{F:Array Field}(i:TypeInfo)(u:P.underlying t=some (.struct F))(e:y.desc= .struct (F.toList.map λf=>(f.offset,f.type)):=by rfl)(h:P.info? t=some i:=by kernel_rfl)(s:i.size=y.size:=by rfl)(b:i.bytes=y.bytes:=by rfl)
 (z:∃z,i.zero=some z/\zcs z.cells.toList=some y.zero:=by exact⟨_,rfl,rfl⟩) (l:y.zero.length=y.size:=by rfl):XJ P t y:=yA i (by rw [e];exact⟨F,u,rfl⟩) h s b z l
def yP{P:Program}{t:TypeId}{y:TY}{e:TypeId}(i:TypeInfo)(u:P.underlying t=some (.pointer e))(e:y.desc= .scalar:=by rfl)(h:P.info? t=some i:=by kernel_rfl)(s:i.size=y.size:=by rfl)(b:i.bytes=y.bytes:=by rfl)
 (z:∃z,i.zero=some z/\zcs z.cells.toList=some y.zero:=by exact⟨_,rfl,rfl⟩) (l:y.zero.length=y.size:=by rfl):XJ P t y:=yA i (by rw [e];exact⟨_,u,(λ_ h=>by cases h),(λ_ _ h=>by cases h)⟩) h s b z l
def aur:∀t y,ty t=some y->XJ Tryz.prog t y:=by
 intro t y h;unfold ty at h;split at h<;>first | (cases h;done) | skip
 .cases h;exact yA Tryz.t2 Tryz.underlying2
 .cases h;exact yA Tryz.t3 Tryz.underlying3
 .cases h;exact yA Tryz.t4 Tryz.underlying4
 .cases h;exact yA Tryz.t5 Tryz.underlying5
 .cases h;exact yA Tryz.t6 Tryz.underlying6
 .cases h;exact yS Tryz.t7 Tryz.underlying7
 .cases h;exact yS Tryz.t8 Tryz.underlying8
 .cases h;exact yA Tryz.t9 Tryz.underlying9
 .cases h;exact yA Tryz.t10 Tryz.underlying10
 .cases h;exact yA Tryz.t11 Tryz.underlying11
 .cases h;exact yA Tryz.t12 Tryz.underlying12
 .cases h;exact yS Tryz.t13 Tryz.underlying13
 .cases h;exact yS Tryz.t14 Tryz.underlying14
 .cases h;exact yP Tryz.t15 Tryz.underlying15
 .cases h;exact yP Tryz.t16 Tryz.underlying16
 .cases h;exact yP Tryz.t17 Tryz.underlying17
 .cases h;exact yS Tryz.t18 Tryz.underlying18
 .cases h;exact yS Tryz.t19 Tryz.underlying19
 .cases h;exact yA Tryz.t21 Tryz.underlying21
 .cases h;exact yA Tryz.t22 Tryz.underlying22
 .cases h;exact yA Tryz.t23 Tryz.underlying23
 .cases h;exact yS Tryz.t24 Tryz.underlying24
 .cases h;exact yS Tryz.t25 Tryz.underlying25
 .cases h;exact yA Tryz.t30 Tryz.underlying30
 .cases h;exact yS Tryz.t31 Tryz.underlying31
 .cases h;exact yS Tryz.t32 Tryz.underlying32
 .cases h;exact yA Tryz.t42 Tryz.underlying42
 .cases h;exact yS Tryz.t43 Tryz.underlying43
 .cases h;exact yS Tryz.t44 Tryz.underlying44
 .cases h;exact yA Tryz.t47 Tryz.underlying47
 .cases h;exact yA Tryz.t48 Tryz.underlying48
 .cases h;exact yA Tryz.t49 Tryz.underlying49
 .cases h;exact yS Tryz.t50 Tryz.underlying50
 .cases h;exact yS Tryz.t51 Tryz.underlying51
 .cases h;exact yS Tryz.t52 Tryz.underlying52
 .cases h;exact yS Tryz.t53 Tryz.underlying53
 .cases h;exact yA Tryz.t59 Tryz.underlying59
 .cases h;exact yS Tryz.t63 Tryz.underlying63
 .cases h;exact yS Tryz.t64 Tryz.underlying64
 .cases h;exact yA Tryz.t74 Tryz.underlying74
 .cases h;exact yS Tryz.t75 Tryz.underlying75
 .cases h;exact yS Tryz.t76 Tryz.underlying76
 .cases h;exact yP Tryz.t80 Tryz.underlying80
 .cases h;exact yP Tryz.t93 Tryz.underlying93
 .cases h;exact yP Tryz.t96 Tryz.underlying96
 .cases h;exact yS Tryz.t97 Tryz.underlying97
 .cases h;exact yS Tryz.t98 Tryz.underlying98
 .cases h;exact yS Tryz.t100 Tryz.underlying100
 .cases h;exact yS Tryz.t101 Tryz.underlying101
 .cases h;exact yS Tryz.t104 Tryz.underlying104
 .cases h;exact yS Tryz.t105 Tryz.underlying105
 .cases h;exact yS Tryz.t118 Tryz.underlying118
 .cases h;exact yS Tryz.t119 Tryz.underlying119
 .cases h;exact yA Tryz.t136 Tryz.underlying136
 .cases h;exact yS Tryz.t151 Tryz.underlying151
 .cases h;exact yS Tryz.t152 Tryz.underlying152
 .cases h;exact yS Tryz.t158 Tryz.underlying158
 .cases h;exact yS Tryz.t159 Tryz.underlying159
 .cases h;exact yS Tryz.t170 Tryz.underlying170
 .cases h;exact yS Tryz.t171 Tryz.underlying171
 .cases h;exact yS Tryz.t190 Tryz.underlying190
 .cases h;exact yS Tryz.t191 Tryz.underlying191
 .cases h;exact yS Tryz.t214 Tryz.underlying214
 .cases h;exact yS Tryz.t215 Tryz.underlying215
 .cases h;exact yA Tryz.t226 Tryz.underlying226
 .cases h;exact yA Tryz.t259 Tryz.underlying259
 .cases h;exact yA Tryz.t261 Tryz.underlying261
 .cases h;exact yA Tryz.t265 Tryz.underlying265
 .cases h;exact yA Tryz.t277 Tryz.underlying277
 .cases h;exact yA Tryz.t284 Tryz.underlying284
 .cases h;exact yA Tryz.t286 Tryz.underlying286
 .cases h;exact yA Tryz.t295 Tryz.underlying295
 .cases h;exact yP Tryz.t299 Tryz.underlying299
 .cases h;exact yP Tryz.t302 Tryz.underlying302
 .cases h;exact yS Tryz.t307 Tryz.underlying307
 .cases h;exact yS Tryz.t308 Tryz.underlying308
 .cases h;exact yA Tryz.t312 Tryz.underlying312
 .cases h;exact yA Tryz.t313 Tryz.underlying313
 .cases h;exact yP Tryz.t315 Tryz.underlying315
 .cases h;exact yA Tryz.t316 Tryz.underlying316
 .cases h;exact yA Tryz.t317 Tryz.underlying317
def co:TypeId->Option Co
 | 3=>some .i64
 | 4=>some .bool
 | 5=>some .u8
 | 9=>some .str
 | 25=>some .blk
 | 30=>some .ints
 | 32=>some .gG
 | 44=>some .tab
 | 49=>some .poly
 | 51=>some .poly
 | 53=>some .sym
 | 64=>some .cac
 | 76=>some .eng
 | 101=>some .iop
 | 105=>some .ev
 | 119=>some .atom
 | 159=>some .ins
 | 171=>some .mono
 | 191=>some .cer
 | 215=>some .ask
 | _=>none
def ieq:TypeId->Option Co
 | 101=>some .iop
 | 159=>some .ins
 | _=>none
def X:XT:={ty:=ty,co:=co,glob:=λg=>none,ieq:=ieq}
noncomputable def E:Tab:={P:=Tryz.prog,ty:=ty,glob:=λg=>none,ieq:=λt=>(ieq t).map λc=>c.size}
end Go.TX.Seat
namespace Go.TX.F
open Go Go.AE Go.TX
set_option maxRecDepth 100000
abbrev jW : Sig := ⟨[.i, .i, .i], [], [.b], []⟩
abbrev uz : Sig := ⟨[.i], [], [.b], []⟩
abbrev YL : Sig := ⟨[.i], [], [.b], []⟩
abbrev Oq : Sig := ⟨[.r false .iop, .i, .i], [], [.b], []⟩
abbrev YM : Sig := ⟨[.r false .iop, .i, .i], [], [.b], []⟩
abbrev YN : Sig := ⟨[.sv false .blk], [], [.b], []⟩
abbrev uD : Sig := ⟨[.sv false .blk], [], [.b], []⟩
abbrev gI : Sig := ⟨[.p 0 2, .i], [.g [.rows true .u8, .i]], [.i], [.g [.rows true .u8, .i]]⟩
abbrev yU : Sig := ⟨[.p 0 2, .i], [.g [.rows true .u8, .i]], [.b], [.g [.rows true .u8, .i]]⟩
abbrev Jr : Sig := ⟨[.sv false .blk], [], [.agg [.i, .i, .own 0, .i, .i, .i, .i]], [.rows true .iop]⟩
abbrev YO : Sig := ⟨[.p 0 2, .sv false .blk], [.g [.rows true .u8, .i]], [.agg [.i, .i, .own 1, .i, .i, .i, .i]], [.g [.rows true .u8, .i], .rows true .iop]⟩
abbrev YP : Sig := ⟨[.sv false .ins], [], [.b], []⟩
abbrev Fw : Sig := ⟨[.sv false .ins], [], [.b], []⟩
abbrev Ou : Sig := ⟨[.i], [], [.b], []⟩
abbrev Js : Sig := ⟨[.sv false .ins], [], [.b], []⟩
abbrev Ov : Sig := ⟨[.p 0 2], [.g [.rows true .u8, .i]], [.agg [.i, .i, .i, .i]], [.g [.rows true .u8, .i]]⟩
abbrev Jt : Sig := ⟨[.p 0 2], [.g [.rows true .u8, .i]], [.agg [.i, .i, .i, .i]], [.g [.rows true .u8, .i]]⟩
abbrev Ow : Sig := ⟨[.p 0 2], [.g [.rows true .u8, .i]], [.o 1], [.g [.rows true .u8, .i], .rows true .ins]⟩
abbrev YQ : Sig := ⟨[.i, .r false .ins], [], [.b], []⟩
abbrev BK : Sig := ⟨[.agg [.i, .i, .own 0, .i, .i, .i, .i], .sv false .iop], [.rows true .iop], [.agg [.i, .i, .own 1, .i, .i, .i, .i], .i], [.gone, .rows true .iop]⟩
abbrev Ox : Sig := ⟨[.agg [.i, .i, .own 0, .i, .i, .i, .i], .i, .i], [.rows true .iop], [.agg [.i, .i, .own 1, .i, .i, .i, .i]], [.gone, .rows true .iop]⟩
abbrev Fx : Sig := ⟨[.agg [.i, .i, .own 0, .i, .i, .i, .i], .i], [.rows true .iop], [.agg [.i, .i, .own 1, .i, .i, .i, .i], .i], [.gone, .rows true .iop]⟩
abbrev Oy : Sig := ⟨[.agg [.i, .i, .own 0, .i, .i, .i, .i], .i, .i, .sv false .iop], [.rows true .iop], [.agg [.i, .i, .own 1, .i, .i, .i, .i], .i], [.gone, .rows true .iop]⟩
abbrev YR : Sig := ⟨[.i], [], [.i], []⟩
abbrev YS : Sig := ⟨[.agg [.i, .i, .own 0, .i, .i, .i, .i], .sv false .ins, .i], [.rows true .iop], [.agg [.i, .i, .own 1, .i, .i, .i, .i]], [.gone, .rows true .iop]⟩
abbrev YT : Sig := ⟨[.agg [.i, .i, .own 0, .i, .i, .i, .i], .sv false .ins], [.rows true .iop], [.agg [.i, .i, .own 1, .i, .i, .i, .i]], [.gone, .rows true .iop]⟩
abbrev YU : Sig := ⟨[.agg [.i, .i, .own 0, .i, .i, .i, .i], .sv false .ins, .i], [.rows true .iop], [.agg [.i, .i, .own 1, .i, .i, .i, .i]], [.gone, .rows true .iop]⟩
abbrev Oz : Sig := ⟨[.i, .r false .ins], [], [.agg [.i, .i, .own 0, .i, .i, .i, .i]], [.rows true .iop]⟩
abbrev OA : Sig := ⟨[.sv false .iop, .r false .i64], [], [.sv true .iop], []⟩
abbrev OB : Sig := ⟨[.sv false .blk], [], [.agg [.i, .i, .own 0, .i, .i, .i, .i]], [.rows true .iop]⟩
abbrev OC : Sig := ⟨[.sv false .blk, .r false .bool], [], [.agg [.i, .i, .own 0, .i, .i, .i, .i]], [.rows true .iop]⟩
abbrev YV : Sig := ⟨[.sv false .blk], [], [.o 0], [.rows true .bool]⟩
abbrev YW : Sig := ⟨[.sv false .blk], [], [.agg [.i, .i, .own 0, .i, .i, .i, .i]], [.rows true .iop]⟩
abbrev YX : Sig := ⟨[.r false .iop, .i], [], [.b], []⟩
abbrev YZ : Sig := ⟨[.sv false .blk], [], [.agg [.i, .i, .own 0, .i, .i, .i, .i]], [.rows true .iop]⟩
abbrev qM : Sig := ⟨[.i], [], [.i], []⟩
abbrev Fy : Sig := ⟨[.i, .i, .i], [], [.i], []⟩
abbrev OD : Sig := ⟨[.r false .iop, .i], [], [.i, .b], []⟩
abbrev Y0 : Sig := ⟨[.sv false .blk, .i], [], [.agg [.i, .i, .rows false .iop, .i, .i, .i, .i]], []⟩
abbrev Za : Sig := ⟨[.sv false .blk], [], [.sv false .blk], []⟩
abbrev Zb : Sig := ⟨[.sv false .blk], [], [.sv false .blk], []⟩
abbrev OE : Sig := ⟨[.sv false .blk], [], [.agg [.i, .i, .own 0, .i, .i, .i, .i]], [.rows true .iop]⟩
abbrev Zc : Sig := ⟨[.p 0 2], [.g [.rows true .u8, .i]], [.agg [.i, .i, .own 1, .i, .i, .i, .i]], [.g [.rows true .u8, .i], .rows true .iop]⟩
abbrev OG : Sig := ⟨[.p 0 2, .i], [.g [.rows true .u8, .i]], [.sv true .blk], [.g [.rows true .u8, .i]]⟩
abbrev OH : Sig := ⟨[.r true .u8], [], [.p 0 2], [.g [.rows true .u8, .i]]⟩
abbrev lu : Sig := ⟨[.i, .i, .i], [], [.b], []⟩
abbrev z8 : Sig := ⟨[.i], [], [.b], []⟩
abbrev Zd : Sig := ⟨[.sv false .iop], [], [.b, .b, .b, .b], []⟩
abbrev Ze : Sig := ⟨[.i], [], [.b], []⟩
abbrev Zf : Sig := ⟨[.i], [], [.b], []⟩
abbrev ahB : Sig := ⟨[.sv false .iop], [], [.b], []⟩
abbrev Zg : Sig := ⟨[.sv false .blk, .i, .i], [], [.b], []⟩
abbrev ahC : Sig := ⟨[.sv false .blk, .i], [], [.b], []⟩
abbrev aky : Sig := ⟨[.sv false .blk], [], [.b, .b, .b], []⟩
abbrev aqi : Sig := ⟨[.sv false .blk], [], [.b], []⟩
abbrev Zh : Sig := ⟨[.sv false .blk], [], [.b], []⟩
abbrev ahD : Sig := ⟨[.i, .p 0 1], [.box (.i)], [.b], [.box (.i)]⟩
abbrev ahE : Sig := ⟨[.r false .i64, .c (.fn 239 [(0, 1)])], [.box (.i)], [.i], [.box (.i)]⟩
abbrev ahF : Sig := ⟨[.r false .i64, .c (.fn 239 [(0, 1)])], [.box (.i)], [.b], [.box (.i)]⟩
abbrev Zi : Sig := ⟨[.sv false .poly, .i], [], [.b], []⟩
abbrev akz : Sig := ⟨[.i], [], [.b], []⟩
abbrev agi : Sig := ⟨[.i, .i], [], [.i], []⟩
abbrev akA : Sig := ⟨[.r false .i64], [], [.i], []⟩
abbrev ahG : Sig := ⟨[.r false .i64, .r false .i64], [], [.i], []⟩
abbrev Mr : Sig := ⟨[.r false .i64, .r false .i64], [], [.i], []⟩
abbrev agj : Sig := ⟨[.i, .i], [], [.b], []⟩
abbrev ahH : Sig := ⟨[.r false .i64], [], [.b], []⟩
abbrev ahI : Sig := ⟨[.sv false .mono], [], [.b], []⟩
abbrev ahJ : Sig := ⟨[.r false .mono, .c (.fn 203 [])], [], [.i], []⟩
abbrev ahK : Sig := ⟨[.r false .mono, .c (.fn 203 [])], [], [.b], []⟩
abbrev CX : Sig := ⟨[.sv false .poly], [], [.b], []⟩
abbrev Zj : Sig := ⟨[.sv false .atom, .i], [], [.b], []⟩
abbrev Vw : Sig := ⟨[.sv false .poly, .sv false .poly], [], [.i], []⟩
abbrev Vx : Sig := ⟨[.sv false .poly, .sv false .poly], [], [.b], []⟩
abbrev ahL : Sig := ⟨[.sv false .atom, .sv false .atom], [], [.b], []⟩
abbrev ahM : Sig := ⟨[.sv false .atom, .p 0 4], [.s false .atom], [.b], [.s false .atom]⟩
abbrev ahN : Sig := ⟨[.r false .atom, .c (.fn 192 [(0, 4)])], [.s false .atom], [.i], [.s false .atom]⟩
abbrev Zk : Sig := ⟨[.sv false .tab, .sv false .atom], [], [.i], []⟩
abbrev ahO : Sig := ⟨[.sv false .tab], [], [.b], []⟩
abbrev ahP : Sig := ⟨[.r true .atom], [], [.c (.clip true .atom)], []⟩
abbrev Zl : Sig := ⟨[.sv true .tab, .sv true .atom], [], [.sv true .tab, .i], []⟩
abbrev Zm : Sig := ⟨[.i], [], [.agg [.own 0]], [.rows true .mono]⟩
abbrev Zn : Sig := ⟨[.p 0 2, .i, .i], [.g [.rows true .atom, .bool]], [.sv true .poly], [.g [.rows true .atom, .bool]]⟩
abbrev ahQ : Sig := ⟨[.p 0 2], [.g [.rows true .atom, .bool]], [.o 1], [.g [.rows true .atom, .bool], .rows true .poly]⟩
abbrev ahR : Sig := ⟨[.sv false .iop], [], [.b], []⟩
abbrev ahS : Sig := ⟨[.o 0], [.rows true .poly], [.o 1], [.rows true .poly, .rows true .poly]⟩
abbrev Vy : Sig := ⟨[.i], [], [.agg [.own 0]], [.rows true .mono]⟩
abbrev Vz : Sig := ⟨[.i], [], [.i], []⟩
abbrev Zo : Sig := ⟨[.i, .i, .i], [], [.i], []⟩
abbrev Zp : Sig := ⟨[.sv false .poly], [], [.i, .b], []⟩
abbrev VA : Sig := ⟨[.r false .i64], [], [.o 0], [.rows true .i64]⟩
abbrev Zq : Sig := ⟨[.sv false .mono, .sv false .mono], [], [.i], []⟩
abbrev Zr : Sig := ⟨[.o 0, .i, .i, .c (.fn 266 [])], [.rows false .mono], [], [.rows false .mono]⟩
abbrev Zt : Sig := ⟨[.o 0, .i, .i, .i, .c (.fn 266 [])], [.rows false .mono], [], [.rows false .mono]⟩
abbrev Zu : Sig := ⟨[.o 0, .i, .i, .i, .c (.fn 266 [])], [.rows false .mono], [], [.rows false .mono]⟩
abbrev BL : Sig := ⟨[.o 0, .i, .i, .i, .c (.fn 266 [])], [.rows false .mono], [], [.rows false .mono]⟩
abbrev Zv : Sig := ⟨[.o 0, .i, .c (.fn 266 [])], [.rows false .mono], [], [.rows false .mono]⟩
abbrev Zw : Sig := ⟨[.o 0, .c (.fn 266 [])], [.rows false .mono], [], [.rows false .mono]⟩
abbrev Zx : Sig := ⟨[.o 0], [.rows false .mono], [.agg [.own 1], .b], [.rows false .mono, .rows true .mono]⟩
abbrev ahT : Sig := ⟨[.c (.nil), .i], [], [.o 0], [.rows true .mono]⟩
abbrev ahU : Sig := ⟨[.r false .poly], [], [.o 0], [.rows false .mono]⟩
abbrev ahV : Sig := ⟨[.sv false .poly, .sv false .poly], [], [.agg [.own 0], .b], [.rows true .mono]⟩
abbrev ahW : Sig := ⟨[.c (.nil), .i], [], [.o 0], [.rows true .i64]⟩
abbrev ahX : Sig := ⟨[.r false .ints], [], [.o 0], [.rows true .i64]⟩
abbrev Zy : Sig := ⟨[.o 0, .i, .i], [.rows true .i64], [], [.rows true .i64]⟩
abbrev OI : Sig := ⟨[.o 0, .i, .i], [.rows true .i64], [], [.rows true .i64]⟩
abbrev OJ : Sig := ⟨[.o 0, .i, .i], [.rows true .i64], [], [.rows true .i64]⟩
abbrev OL : Sig := ⟨[.o 0, .i, .i], [.rows true .i64], [.i, .i], [.rows true .i64]⟩
abbrev OM : Sig := ⟨[.o 0, .i, .i], [.rows true .i64], [], [.rows true .i64]⟩
abbrev OO : Sig := ⟨[.o 0, .i, .i], [.rows true .i64], [.b], [.rows true .i64]⟩
abbrev OQ : Sig := ⟨[.o 0, .i, .i, .i], [.rows true .i64], [.i], [.rows true .i64]⟩
abbrev OT : Sig := ⟨[.o 0, .i, .i, .i], [.rows true .i64], [.i, .b], [.rows true .i64]⟩
abbrev Fz : Sig := ⟨[.o 0, .i, .i, .i], [.rows true .i64], [], [.rows true .i64]⟩
abbrev ahY : Sig := ⟨[.c (.int .u64)], [], [.i], []⟩
abbrev Zz : Sig := ⟨[.o 0], [.rows true .i64], [], [.rows true .i64]⟩
abbrev ZA : Sig := ⟨[.sv false .poly, .sv false .poly], [], [.agg [.own 0], .b], [.rows true .mono]⟩
abbrev ahZ : Sig := ⟨[.sv false .poly, .i], [], [.agg [.own 0]], [.rows true .mono]⟩
abbrev ah0 : Sig := ⟨[.i, .sv true .poly, .sv true .poly], [], [.sv true .poly, .b], []⟩
abbrev ah1 : Sig := ⟨[.sv true .tab, .i, .sv true .poly, .sv true .poly], [], [.sv true .tab, .sv true .poly, .b], []⟩
abbrev VB : Sig := ⟨[.sv false .poly], [], [.agg [.own 0]], [.rows true .mono]⟩
abbrev ah2 : Sig := ⟨[.sv false .tab], [], [.agg [.own 0]], [.rows true .atom]⟩
abbrev ZB : Sig := ⟨[.i, .i, .i], [], [.b], []⟩
abbrev ah3 : Sig := ⟨[.r false .poly], [], [.o 0], [.rows true .poly]⟩
abbrev ah4 : Sig := ⟨[.sv false .sym], [], [.agg [.own 0, .own 1, .i, .own 2, .own 3, .i]], [.rows true .ev, .rows true .poly, .rows true .mono, .rows true .mono]⟩
abbrev ah5 : Sig := ⟨[.sv false .sym, .i], [], [.sv true .sym], []⟩
abbrev ah6 : Sig := ⟨[.sv true .tab, .sv false .blk], [], [.sv true .tab, .sv true .sym], []⟩
abbrev yV : Sig := ⟨[.i], [], [.agg [.own 0]], [.rows true .mono]⟩
abbrev OU : Sig := ⟨[], [], [.agg [.own 0], .o 1], [.rows true .atom, .rows true .poly]⟩
abbrev Ju : Sig := ⟨[.r false .i64, .r false .i64], [], [.i], []⟩
abbrev ZE : Sig := ⟨[.sv false .mono], [], [.b], []⟩
abbrev qN : Sig := ⟨[.sv false .poly], [], [.b], []⟩
abbrev ZF : Sig := ⟨[.sv false .atom], [], [.b], []⟩
abbrev OV : Sig := ⟨[.sv false .poly, .i], [], [.b], []⟩
abbrev OX : Sig := ⟨[.sv false .atom, .i], [], [.b], []⟩
abbrev FB : Sig := ⟨[.sv false .poly, .sv false .poly], [], [.i], []⟩
abbrev OY : Sig := ⟨[.sv false .atom, .sv false .atom], [], [.b], []⟩
abbrev FC : Sig := ⟨[.sv false .tab], [], [.b], []⟩
abbrev oP : Sig := ⟨[.r false .mono], [], [.agg [.own 0]], [.rows true .mono]⟩
abbrev OZ : Sig := ⟨[.sv false .atom], [], [.agg [.i, .i, .own 0, .own 1]], [.rows true .mono, .rows true .mono]⟩
abbrev Jv : Sig := ⟨[.sv false .tab], [], [.agg [.own 0]], [.rows true .atom]⟩
abbrev FD : Sig := ⟨[.agg [.own 0], .sv false .atom], [.rows true .atom], [.agg [.own 1], .i], [.gone, .rows true .atom]⟩
abbrev ZG : Sig := ⟨[.o 0, .i], [.rows false .poly], [.sv false .poly], [.rows false .poly]⟩
abbrev Jw : Sig := ⟨[.i], [], [.agg [.own 0]], [.rows true .mono]⟩
abbrev O5 : Sig := ⟨[.r false .mono, .sv false .mono], [], [.o 0], [.rows false .mono]⟩
abbrev O6 : Sig := ⟨[.r false .mono], [], [.agg [.own 0], .b], [.rows true .mono]⟩
abbrev O7 : Sig := ⟨[.sv false .poly, .sv false .poly], [], [.agg [.own 0], .b], [.rows true .mono]⟩
abbrev ZH : Sig := ⟨[.sv false .poly, .i], [], [.agg [.own 0]], [.rows true .mono]⟩
abbrev ZI : Sig := ⟨[.r false .i64, .r false .i64], [], [.o 0], [.rows true .i64]⟩
abbrev O8 : Sig := ⟨[.sv false .poly, .sv false .poly], [], [.agg [.own 0], .b], [.rows true .mono]⟩
abbrev ZJ : Sig := ⟨[.i, .sv false .poly, .sv false .poly], [], [.agg [.own 0], .b], [.rows true .mono]⟩
abbrev Jy : Sig := ⟨[.sv false .poly], [], [.i, .b], []⟩
abbrev ZK : Sig := ⟨[.i, .i, .sv false .poly], [], [.agg [.own 0], .b], [.rows true .mono]⟩
abbrev ZL : Sig := ⟨[.i, .sv false .poly, .sv false .poly], [], [.agg [.own 0], .b], [.rows true .mono]⟩
abbrev O9 : Sig := ⟨[.agg [.own 0], .i, .sv false .poly, .sv false .poly], [.rows true .atom], [.agg [.own 1], .agg [.own 2]], [.gone, .rows true .atom, .rows true .mono]⟩
abbrev ZM : Sig := ⟨[.r false .ev, .i], [], [.i], []⟩
abbrev ZN : Sig := ⟨[.agg [.own 0], .r false .ev, .i], [.rows true .atom], [.agg [.own 1], .agg [.own 2]], [.gone, .rows true .atom, .rows true .mono]⟩
abbrev Jz : Sig := ⟨[.r false .poly], [], [.o 0], [.rows true .poly]⟩
abbrev ZO : Sig := ⟨[.sv false .iop, .sv false .poly, .sv false .poly, .r false .poly], [], [.agg [.i, .i, .own 0, .own 1, .own 2]], [.rows true .mono, .rows true .mono, .rows true .poly]⟩
abbrev ZP : Sig := ⟨[.sv false .blk], [], [.i], []⟩
abbrev ZQ : Sig := ⟨[.sv false .blk], [], [.i], []⟩
abbrev Pb : Sig := ⟨[.sv false .sym, .i], [], [.agg [.rows false .ev, .rows false .poly, .i, .nil, .nil, .i]], []⟩
abbrev ZR : Sig := ⟨[.sv false .sym, .i], [], [.sv false .sym], []⟩
abbrev ZT : Sig := ⟨[.sv false .sym, .i], [], [.sv false .sym], []⟩
abbrev ZU : Sig := ⟨[.sv false .tab, .sv false .blk], [], [.sv false .tab, .sv false .sym], []⟩
abbrev ah7 : Sig := ⟨[], [], [.b], []⟩
abbrev FH : Sig := ⟨[.r false .i64], [], [.b], []⟩
abbrev ZV : Sig := ⟨[.r false .i64, .r false .i64], [], [.agg [.own 0, .i, .own 1, .i, .bool, .bool, .i, .own 2, .nil, .i]], [.rows true .i64, .rows true .i64, .rows true .i64]⟩
abbrev Pf : Sig := ⟨[.sv false .ins], [], [.i], []⟩
abbrev ZW : Sig := ⟨[.r false .ins], [], [.o 0], [.rows true .i64]⟩
abbrev JA : Sig := ⟨[.p 0 2], [.g [.rows true .u8, .i]], [.i], [.g [.rows true .u8, .i]]⟩
abbrev ZX : Sig := ⟨[.p 0 2, .i], [.g [.rows true .u8, .i]], [.o 1], [.g [.rows true .u8, .i], .rows true .ins]⟩
abbrev ZY : Sig := ⟨[.p 0 2, .i], [.g [.rows true .u8, .i]], [.o 1], [.g [.rows true .u8, .i], .rows true .ins]⟩
abbrev Z0 : Sig := ⟨[.p 0 2], [.g [.rows true .u8, .i]], [.o 1], [.g [.rows true .u8, .i], .rows true .i64]⟩
abbrev Z4 : Sig := ⟨[.p 0 2, .i], [.g [.rows true .u8, .i]], [.o 1], [.g [.rows true .u8, .i], .rows true .i64]⟩
abbrev JB : Sig := ⟨[.sv false .gG], [], [.b], []⟩
abbrev Ph : Sig := ⟨[.sv false .gG], [], [.agg [.own 0, .i, .own 1, .i, .bool, .bool, .i, .own 2, .own 3, .i]], [.rows true .i64, .rows true .i64, .rows true .i64, .rows true .i64]⟩
abbrev Z5 : Sig := ⟨[.i], [], [.agg [.i, .i, .i, .i], .b], []⟩
abbrev Z6 : Sig := ⟨[.agg [.own 0, .i, .own 1, .i, .bool, .bool, .i, .rows true .i64, .own 2, .i], .b], [.rows true .i64, .rows true .i64, .rows true .i64], [.agg [.own 0, .i, .own 1, .i, .bool, .bool, .i, .rows true .i64, .own 2, .i]], [.rows true .i64, .rows true .i64, .rows true .i64]⟩
abbrev JC : Sig := ⟨[.agg [.own 0, .i, .own 1, .i, .bool, .bool, .i, .rows true .i64, .own 2, .i], .i], [.rows true .i64, .rows true .i64, .rows true .i64], [.agg [.own 0, .i, .own 1, .i, .bool, .bool, .i, .rows true .i64, .own 2, .i]], [.rows true .i64, .rows true .i64, .rows true .i64]⟩
abbrev BM : Sig := ⟨[.agg [.own 0, .i, .own 1, .i, .bool, .bool, .i, .rows true .i64, .own 2, .i], .i], [.rows true .i64, .rows true .i64, .rows true .i64], [.agg [.own 0, .i, .own 1, .i, .bool, .bool, .i, .rows true .i64, .own 2, .i]], [.rows true .i64, .rows true .i64, .rows true .i64]⟩
abbrev Z7 : Sig := ⟨[.agg [.own 0, .i, .own 1, .i, .bool, .bool, .i, .rows true .i64, .own 2, .i], .i], [.rows true .i64, .rows true .i64, .rows true .i64], [.agg [.own 0, .i, .own 1, .i, .bool, .bool, .i, .rows true .i64, .own 2, .i]], [.rows true .i64, .rows true .i64, .rows true .i64]⟩
abbrev JD : Sig := ⟨[.agg [.own 0, .i, .own 1, .i, .bool, .bool, .i, .rows true .i64, .own 2, .i], .i, .i], [.rows true .i64, .rows true .i64, .rows true .i64], [.agg [.own 0, .i, .own 1, .i, .bool, .bool, .i, .rows true .i64, .own 2, .i]], [.rows true .i64, .rows true .i64, .rows true .i64]⟩
abbrev Z8 : Sig := ⟨[.i, .i], [], [.i], []⟩
abbrev Z9 : Sig := ⟨[.agg [.own 0, .i, .own 1, .i, .bool, .bool, .i, .rows true .i64, .own 2, .i], .sv false .ins], [.rows true .i64, .rows true .i64, .rows true .i64], [.agg [.own 0, .i, .own 1, .i, .bool, .bool, .i, .rows true .i64, .own 2, .i]], [.rows true .i64, .rows true .i64, .rows true .i64]⟩
abbrev aac : Sig := ⟨[.agg [.own 0, .i, .own 1, .i, .bool, .bool, .i, .rows true .i64, .own 2, .i], .sv false .ins], [.rows true .i64, .rows true .i64, .rows true .i64], [.agg [.own 0, .i, .own 1, .i, .bool, .bool, .i, .rows true .i64, .own 3, .i]], [.rows true .i64, .rows true .i64, .gone, .rows true .i64]⟩
abbrev aad : Sig := ⟨[.agg [.own 0, .i, .own 1, .i, .bool, .bool, .i, .rows true .i64, .own 2, .i], .sv false .ins], [.rows true .i64, .rows true .i64, .rows true .i64], [.agg [.own 0, .i, .own 1, .i, .bool, .bool, .i, .rows true .i64, .own 3, .i]], [.rows true .i64, .rows true .i64, .gone, .rows true .i64]⟩
abbrev aae : Sig := ⟨[.sv false .gG, .b], [], [.agg [.own 0, .i, .own 1, .i, .bool, .bool, .i, .rows true .i64, .own 2, .i]], [.rows true .i64, .rows true .i64, .rows true .i64]⟩
abbrev aaf : Sig := ⟨[.r false .i64, .i], [], [.b], []⟩
abbrev aag : Sig := ⟨[.sv false .gG, .r false .i64, .i], [], [.agg [.own 0, .i, .own 1, .i, .bool, .bool, .i, .rows true .i64, .own 2, .i]], [.rows true .i64, .rows true .i64, .rows true .i64]⟩
abbrev aah : Sig := ⟨[.p 0 2], [.g [.rows true .u8, .i]], [.o 1], [.g [.rows true .u8, .i], .rows true .i64]⟩
abbrev Pj : Sig := ⟨[.p 0 2], [.g [.rows true .u8, .i]], [.agg [.own 1, .i, .own 2, .i, .bool, .bool, .i, .rows true .i64, .own 3, .i]], [.g [.rows true .u8, .i], .rows true .i64, .rows true .i64, .rows true .i64]⟩
abbrev Pm : Sig := ⟨[.p 0 2, .sv false .blk], [.g [.rows true .u8, .i]], [.agg [.own 1, .i, .own 2, .i, .bool, .bool, .i, .rows true .i64, .own 3, .i]], [.g [.rows true .u8, .i], .rows true .i64, .rows true .i64, .rows true .i64]⟩
abbrev aai : Sig := ⟨[.p 0 2], [.g [.rows true .u8, .i]], [.agg [.i, .i, .own 1, .i, .i, .i, .i], .agg [.own 2, .i, .own 3, .i, .bool, .bool, .i, .rows true .i64, .own 4, .i]], [.g [.rows true .u8, .i], .rows true .iop, .rows true .i64, .rows true .i64, .rows true .i64]⟩
abbrev aaj : Sig := ⟨[.p 0 2, .i], [.g [.rows true .u8, .i]], [.agg [.own 1, .i, .rows true .i64, .i, .bool, .bool, .i, .rows true .i64, .own 2, .i]], [.g [.rows true .u8, .i], .rows true .i64, .rows true .i64]⟩
abbrev aak : Sig := ⟨[.r true .u8], [], [.sv true .blk, .agg [.own 0, .i, .rows true .i64, .i, .bool, .bool, .i, .rows true .i64, .own 1, .i]], [.rows true .i64, .rows true .i64]⟩
abbrev ah8 : Sig := ⟨[.r false .i64], [], [.b], []⟩
abbrev ah9 : Sig := ⟨[.sv false .gG], [], [.b], []⟩
abbrev aia : Sig := ⟨[.sv false .gG], [], [.agg [.own 0, .i, .own 1, .i, .bool, .bool, .i, .own 2, .own 3, .i]], [.rows true .i64, .rows true .i64, .rows true .i64, .rows true .i64]⟩
abbrev aib : Sig := ⟨[.p 0 10], [.g [.own 1, .i, .own 2, .i, .bool, .bool, .i, .rows true .i64, .own 3, .i], .rows true .i64, .rows true .i64, .rows true .i64], [.i], [.g [.own 1, .i, .own 2, .i, .bool, .bool, .i, .rows true .i64, .own 3, .i], .rows true .i64, .rows true .i64, .rows true .i64]⟩
abbrev aic : Sig := ⟨[.sv false .blk, .p 0 10], [.g [.own 1, .i, .own 2, .i, .bool, .bool, .i, .rows true .i64, .own 3, .i], .rows true .i64, .rows true .i64, .rows true .i64], [], [.g [.own 1, .i, .own 2, .i, .bool, .bool, .i, .rows true .i64, .own 4, .i], .rows true .i64, .rows true .i64, .gone, .rows true .i64]⟩
abbrev aie : Sig := ⟨[.sv false .blk, .sv false .gG], [], [.agg [.own 0, .i, .own 1, .i, .bool, .bool, .i, .own 2, .own 3, .i], .b], [.rows true .i64, .rows true .i64, .rows true .i64, .rows true .i64]⟩
abbrev aal : Sig := ⟨[.r false .i64, .r false .i64], [], [.b], []⟩
abbrev aif : Sig := ⟨[.sv false .gG, .sv false .gG], [], [.b], []⟩
abbrev aam : Sig := ⟨[.sv false .poly, .sv false .poly, .i], [], [.b], []⟩
abbrev aan : Sig := ⟨[.sv false .tab, .i, .sv false .poly, .sv false .poly], [], [.agg [.own 0], .agg [.own 1]], [.rows true .atom, .rows true .mono]⟩
abbrev aao : Sig := ⟨[.p 0 2, .i], [.g [.rows true .u8, .i]], [.agg [.own 1]], [.g [.rows true .u8, .i], .rows true .mono]⟩
abbrev aap : Sig := ⟨[.sv false .tab, .sv false .atom], [], [.agg [.own 0], .i], [.rows true .atom]⟩
abbrev aaq : Sig := ⟨[.p 0 2], [.g [.rows true .u8, .i]], [.agg [.own 1]], [.g [.rows true .u8, .i], .rows true .atom]⟩
abbrev aar : Sig := ⟨[.p 0 2, .i], [.g [.rows true .u8, .i]], [.agg [.own 1]], [.g [.rows true .u8, .i], .rows true .atom]⟩
abbrev aas : Sig := ⟨[.r true .u8], [], [.sv true .tab, .sv true .blk], []⟩
abbrev VD : Sig := ⟨[.sv false .poly, .sv false .poly], [], [.b], []⟩
abbrev aii : Sig := ⟨[.sv false .tab, .sv false .tab], [], [.b], []⟩
abbrev aij : Sig := ⟨[.r false .poly, .r false .poly], [], [.b], []⟩
abbrev aik : Sig := ⟨[.sv false .sym, .sv false .sym], [], [.b], []⟩
abbrev JE : Sig := ⟨[.sv false .poly, .r false .i64], [], [.i], []⟩
abbrev aat : Sig := ⟨[.r false .i64, .i], [], [.i], []⟩
abbrev aau : Sig := ⟨[.sv false .tab, .r false .i64, .r false .i64, .r false .i64], [], [.o 0], [.rows true .i64]⟩
abbrev ail : Sig := ⟨[.sv false .gG, .r false .poly, .r false .i64, .i, .i, .i], [], [.agg [.own 0, .i, .rows false .i64, .i, .bool, .bool, .i, .rows false .i64, .rows false .i64, .i]], [.rows true .i64]⟩
abbrev ain : Sig := ⟨[.sv false .tab, .sv false .sym, .sv false .blk, .sv false .gG], [], [.agg [.own 0, .i, .rows false .i64, .i, .bool, .bool, .i, .rows false .i64, .rows false .i64, .i]], [.rows true .i64]⟩
abbrev aqj : Sig := ⟨[.r true .u8, .r true .u8], [], [.b], []⟩
end Go.TX.F
noncomputable section
namespace Go.TX.F
open Go Go.AE Go.TX Go.TX.Seat Go.Proofs
set_option maxRecDepth 100000
set_option maxHeartbeats 4000000
def Pn:Gt aB.z X E [] .u jW Tryz.f56 []:=gm
def Po:Gt aB.z X E [] .u uz Tryz.f55 []:=gm
def Pp:Gt aB.z X E [] .u YL Tryz.f212 [(56,jW)]:=gm
def Pq:Gt aB.z X E [] .u Oq Tryz.f159 [(212,YL)]:=gm
def Pv:Gt aB.z X E [] (.v (.v (.seq (.v (.block (.v (.cond .u (.v (.cond .u (.v (.cond .u (.seq (.v (.cut ⟨[(0,.r false .iop),(1,.i),(2,.i),(7,.p 0 5),(13,.i),(78,.b)],[.s false .iop]⟩ (.cond .u .u))) .u))))))))) .u))) YM Tryz.f91 [(55,uz),(56,jW),(159,Oq)]:=gm
def Pw:Gt aB.z X E [] (.v (.v (.seq (.v (.block (.v (.cond .u (.v (.cond .u (.seq (.v (.cut ⟨[(1,.p 0 7),(3,.i),(42,.b)],[.s false .blk]⟩ (.cond .u .u))) .u))))))) .u))) YN Tryz.f92 [(55,uz),(159,Oq)]:=gm
def Px:Gt aB.z X E [] (.v (.v (.seq (.v (.block (.loop ⟨[(1,.p 0 7),(3,.i)],[.s false .blk]⟩ .u))) .u))) uD Tryz.f24 [(56,jW),(92,YN),(91,YM)]:=gm
def Py:Gt aB.z X E [(7,[od 0 [0],od 1 [47],od 2 [48],od 3 [49],od 4 [5],od 5 [0],od 6 [52],od 7 [53],od 8 [54],od 9 [55],od 10 [51,56],od 11 [50,57],od 12 [58],od 13 [59],od 14 [60],od 15 [0],od 16 [62],od 17 [63],od 18 [64],od 19 [5],od 20 [66],od 21 [67],od 22 [0],od 23 [69],od 24 [70],od 25 [71],od 26 [72],od 27 [68,73],od 28 [65,74],od 29 [75],od 30 [76],od 31 [77],od 32 [61,78],od 33 [5],od 34 [80],od 35 [79,81],od 36 [5],od 37 [0],od 38 [84],od 39 [85],od 40 [86],od 41 [87],od 42 [83,88],od 43 [89],od 44 [82,90],od 45 [91]])] .u gI Tryz.f48 []:=gm
def Pz:Gt aB.z X E [] .u yU Tryz.f52 [(48,gI)]:=gm
def PD:Gt aB.z X E [] .u Jr Tryz.f168 []:=gm
def JF:Gt aB.z X E [(9,[od 0 [5],od 1 [33],od 2 [6],od 3 [5],od 4 [36],od 5 [6],od 6 [37,38],od 7 [39],od 8 [40],od 9 [41],od 10 [34,35],od 11 [43],od 12 [42,44]]),(11,[od 0 [5],od 1 [47],od 2 [6],od 3 [0],od 4 [6],od 5 [51],(6,([50,52],[1])),od 7 [48,49],od 8 [54],od 9 [53,55]]),(13,[od 0 [5],od 1 [58],od 2 [6],od 3 [0],od 4 [6],od 5 [62],(6,([61,63],[1])),od 7 [59,60],od 8 [65],od 9 [64,66]]),(15,[od 0 [5],od 1 [69],od 2 [6],od 3 [0],od 4 [5],od 5 [73],od 6 [74],(7,([72,75],[1])),od 8 [70,71],od 9 [77],od 10 [76,78]]),(23,[od 0 [5],od 1 [99],od 2 [6],od 3 [5],od 4 [102],od 5 [6],od 6 [104],od 7 [103,105],od 8 [106],od 9 [100,101],od 10 [107,108]]),(26,[od 0 [5],od 1 [117],od 2 [6],od 3 [0],(4,([120],[1])),od 5 [121],od 6 [118,119],od 7 [122,123]])] (.v (.v (.v (.v (.seq (.v (.block (.v (.cut ⟨[(4,.p 1 7),(5,.p 2 7)],[.g [.rows true .u8,.i],.g [.i,.i,.nil,.i,.i,.i,.i],.g [.i,.i,.own 3,.i,.i,.i,.i],.rows true .iop]⟩ (.cond .u (.v (.cut ⟨[(4,.p 1 7),(5,.p 2 7)],[.g [.rows true .u8,.i],.g [.i,.i,.nil,.i,.i,.i,.i],.g [.i,.i,.own 3,.i,.i,.i,.i],.rows true .iop]⟩ (.cond .u (.v (.cut ⟨[(4,.p 1 7),(5,.p 2 7)],[.g [.rows true .u8,.i],.g [.i,.i,.nil,.i,.i,.i,.i],.g [.i,.i,.own 3,.i,.i,.i,.i],.rows true .iop]⟩ (.cond .u (.v (.cut ⟨[(4,.p 1 7),(5,.p 2 7)],[.g [.rows true .u8,.i],.g [.i,.i,.nil,.i,.i,.i,.i],.g [.i,.i,.own 3,.i,.i,.i,.i],.rows true .iop]⟩ (.cond .u (.v (.cut ⟨[(4,.p 1 7),(5,.p 2 7)],[.g [.rows true .u8,.i],.g [.i,.i,.nil,.i,.i,.i,.i],.g [.i,.i,.own 3,.i,.i,.i,.i],.rows true .iop]⟩ (.cond .u (.v (.cut ⟨[(4,.p 1 7),(5,.p 2 7)],[.g [.rows true .u8,.i],.g [.i,.i,.nil,.i,.i,.i,.i],.g [.i,.i,.own 3,.i,.i,.i,.i],.rows true .iop]⟩ (.cond .u (.v (.cut ⟨[(4,.p 1 7),(5,.p 2 7)],[.g [.rows true .u8,.i],.g [.i,.i,.nil,.i,.i,.i,.i],.g [.i,.i,.own 3,.i,.i,.i,.i],.rows true .iop]⟩ (.cond (.v (.cut ⟨[(4,.p 1 7),(5,.p 2 7)],[.g [.rows true .u8,.i],.g [.i,.i,.nil,.i,.i,.i,.i],.g [.i,.i,.own 3,.i,.i,.i,.i],.rows true .iop]⟩ (.cond .u .u))) (.v (.cut ⟨[(4,.p 1 7),(5,.p 2 7)],[.g [.rows true .u8,.i],.g [.i,.i,.nil,.i,.i,.i,.i],.g [.i,.i,.own 3,.i,.i,.i,.i],.rows true .iop]⟩ (.cond .u .u)))))))))))))))))))))))))) .u))))) YO Tryz.f117 [(48,gI),(168,Jr)]:=gm
def PE:Gt aB.z X E [] (.v (.seq (.v (.block (.v (.cond .u (.v (.cond .u (.v (.cond .u (.seq (.v (.cut ⟨[(1,.p 0 4),(4,.i),(30,.b)],[.s false .ins]⟩ (.cond .u (.v (.cut ⟨[(1,.p 0 4),(4,.i),(30,.b)],[.s false .ins]⟩ (.cond .u (.v (.cut ⟨[(1,.p 0 4),(4,.i),(30,.b)],[.s false .ins]⟩ (.cond .u (.v (.cut ⟨[(1,.p 0 4),(4,.i),(30,.b)],[.s false .ins]⟩ (.cond .u .u)))))))))))) (.cond .u (.v (.cond .u (.v (.cond .u (.seq (.v (.cut ⟨[(1,.p 0 4),(54,.b)],[.s false .ins]⟩ (.cond .u .u))) .u))))))))))))))) .u)) YP Tryz.f231 []:=gm
def PG:Gt aB.z X E [] .u Fw Tryz.f178 [(56,jW),(231,YP)]:=gm
def PI:Gt aB.z X E [] .u Ou Tryz.f179 []:=gm
def PL:Gt aB.z X E [] .u Js Tryz.f127 [(179,Ou),(178,Fw)]:=gm
def PN:Gt aB.z X E [] (.v (.v (.v (.seq (.v (.block (.seq (.v (.cut ⟨[(0,.p 0 2),(2,.p 1 4),(3,.i),(4,.i),(10,.i),(11,.b)],[.g [.rows true .u8,.i],.g [.i,.i,.i,.i]]⟩ (.cond .u .u))) (.cond .u (.v (.cond .u (.seq (.v (.cut ⟨[(0,.p 0 2),(2,.p 1 4),(3,.i),(4,.i),(10,.i),(30,.b)],[.g [.rows true .u8,.i],.g [.i,.i,.i,.i]]⟩ (.cond .u (.v (.cut ⟨[(0,.p 0 2),(2,.p 1 4),(3,.i),(4,.i),(10,.i),(30,.b)],[.g [.rows true .u8,.i],.g [.i,.i,.i,.i]]⟩ (.cond .u .u)))))) (.cond .u (.v (.cond .u (.seq (.v (.cut ⟨[(0,.p 0 2),(2,.p 1 4),(3,.i),(4,.i),(10,.i),(54,.b)],[.g [.rows true .u8,.i],.g [.i,.i,.i,.i]]⟩ (.cond .u .u))) .u))))))))))) .u)))) Ov Tryz.f216 [(48,gI)]:=gm
def PO:Gt aB.z X E [(3,[od 0 [3],od 1 [9],od 2 [3],od 3 [11],od 4 [0],(5,([13],[1,3])),od 6 [10,12,14],od 7 [2,15]])] .u Jt Tryz.f163 [(216,Ov),(48,gI),(127,Js)]:=gm
def PU:Gt aB.z X E [] (.v (.v (.seq (.v (.block (.loop ⟨[(0,.p 0 2),(3,.o 1),(4,.i)],[.g [.rows true .u8,.i],.rows true .ins]⟩ .u))) .u))) Ow Tryz.f99 [(163,Jt),(48,gI)]:=gm
def PW:Gt aB.z X E [] (.v (.v (.seq (.v (.block (.loop ⟨[(1,.r false .ins),(5,.i)],[]⟩ .u))) .u))) YQ Tryz.f165 [(179,Ou),(178,Fw),(56,jW),(127,Js)]:=gm
def PX:Gt aB.z X E [(2,[od 0 [2],od 1 [2],od 2 [13],od 3 [14],od 4 [15],(5,([4,12],[2])),od 6 [16]])] .u BK Tryz.f217 []:=gm
def PY:Gt aB.z X E [] .u Ox Tryz.f218 [(217,BK)]:=gm
def PZ:Gt aB.z X E [] .u Fx Tryz.f219 [(217,BK)]:=gm
def P8:Gt aB.z X E [] .u Oy Tryz.f220 [(219,Fx),(217,BK)]:=gm
def P9:Gt aB.z X E [] (.v (.v (.seq (.v (.block (.loop ⟨[(0,.i),(3,.i),(4,.i)],[]⟩ .u))) .u))) YR Tryz.f221 []:=gm
def Qa:Gt aB.z X E [] .u YS Tryz.f222 [(219,Fx),(217,BK),(220,Oy),(218,Ox)]:=gm
def Qb:Gt aB.z X E [] (.v (.v (.v (.v (.v (.seq (.v (.cut ⟨[(3,.p 1 4),(4,.p 2 7),(8,.i),(9,.p 3 7),(10,.i)],[.gone,.s false .ins,.g [.i,.i,.nil,.i,.i,.i,.i],.g [.i,.i,.own 4,.i,.i,.i,.i],.rows true .iop]⟩ (.cond .u .u))) .u)))))) YT Tryz.f223 [(219,Fx)]:=gm
def Qc:Gt aB.z X E [(9,[od 0 [3],od 1 [4],od 2 [56],od 3 [4],od 4 [58],(5,([59],[0,2])),od 6 [60],od 7 [55,57,61],od 8 [62],od 9 [54],od 10 [54],od 11 [],od 12 [11,63],od 13 [64]])] (.v (.seq (.v (.block (.v (.cond .u (.v (.cond .u (.v (.cond .u (.seq (.v (.cut ⟨[(2,.i),(3,.p 1 7),(4,.p 2 4),(6,.p 3 7),(22,.i),(70,.b)],[.rows true .iop,.g [.i,.i,.own 0,.i,.i,.i,.i],.s false .ins,.g [.i,.i,.nil,.i,.i,.i,.i]]⟩ (.cond .u .u))) (.cond .u (.v (.cond .u (.v (.cond .u (.seq (.v (.cut ⟨[(3,.p 1 7),(4,.p 2 4),(6,.p 3 7),(109,.b)],[.rows true .iop,.g [.i,.i,.own 0,.i,.i,.i,.i],.s false .ins,.g [.i,.i,.nil,.i,.i,.i,.i]]⟩ (.cond .u (.v (.cut ⟨[(3,.p 1 7),(4,.p 2 4),(6,.p 3 7),(109,.b)],[.rows true .iop,.g [.i,.i,.own 0,.i,.i,.i,.i],.s false .ins,.g [.i,.i,.nil,.i,.i,.i,.i]]⟩ (.cond .u .u)))))) .u))))))))))))))) .u)) YU Tryz.f166 [(219,Fx),(223,YT),(217,BK),(222,YS),(220,Oy),(218,Ox),(221,YR)]:=gm
def Qd:Gt aB.z X E [(7,[od 0 [5],od 1 [1],od 2 [6],od 3 [27,28],od 4 [29],od 5 [6],od 6 [26,30,31],od 7 [5,32]])] (.v (.v (.v (.seq (.v (.block (.loop ⟨[(1,.r false .ins),(4,.p 0 7),(5,.p 1 7),(6,.i)],[.g [.i,.i,.nil,.i,.i,.i,.i],.g [.i,.i,.own 2,.i,.i,.i,.i],.rows true .iop]⟩ .u))) .u)))) Oz Tryz.f101 [(165,YQ),(166,YU)]:=gm
def Qe:Gt aB.z X E [] (.v (.v (.seq (.v (.cut ⟨[(1,.r false .i64),(2,.p 0 5),(4,.p 1 5),(5,.p 2 5)],[.s false .iop,.g [.i,.i,.i,.i,.i],.s true .iop]⟩ (.cond .u .u))) (.seq (.v (.cut ⟨[(4,.p 0 5),(5,.p 1 5)],[.g [.i,.i,.i,.i,.i],.s true .iop]⟩ (.cond .u .u))) .u)))) OA Tryz.f174 [(56,jW)]:=gm
def Qf:Gt aB.z X E [] (.v (.v (.v (.v (.v (.seq (.v (.block (.loop ⟨[(2,.p 0 7),(3,.p 1 7),(4,.o 2),(5,.o 3),(6,.i)],[.g [.i,.i,.nil,.i,.i,.i,.i],.g [.i,.i,.own 4,.i,.i,.i,.i],.rows true .i64,.rows true .i64,.rows true .iop]⟩ (.v (.seq (.block (.v (.v (.v (.seq (.v (.cut ⟨[(2,.p 0 7),(3,.p 1 7),(4,.o 2),(5,.o 3),(6,.i),(7,.p 4 5),(8,.i)],[.g [.i,.i,.nil,.i,.i,.i,.i],.g [.i,.i,.own 5,.i,.i,.i,.i],.rows true .i64,.rows true .i64,.s true .iop,.rows true .iop]⟩ (.cond .u .u))) (.seq (.v (.cut ⟨[(2,.p 0 7),(3,.p 1 7),(4,.o 2),(5,.o 3),(6,.i),(7,.p 4 5),(8,.i)],[.g [.i,.i,.nil,.i,.i,.i,.i],.g [.i,.i,.own 5,.i,.i,.i,.i],.rows true .i64,.rows true .i64,.s true .iop,.rows true .iop]⟩ (.cond .u .u))) (.seq (.v (.cut ⟨[(2,.p 0 7),(3,.p 1 7),(4,.o 2),(5,.o 3),(6,.i),(8,.i)],[.g [.i,.i,.nil,.i,.i,.i,.i],.g [.i,.i,.own 4,.i,.i,.i,.i],.rows true .i64,.rows true .i64,.rows true .iop]⟩ (.cond .u .u))) .u))))))) .u))))) (.seq (.v (.cut ⟨[(2,.p 0 7),(3,.p 1 7),(4,.o 2)],[.g [.i,.i,.nil,.i,.i,.i,.i],.g [.i,.i,.own 3,.i,.i,.i,.i],.rows true .i64,.rows true .iop]⟩ (.cond .u .u))) (.seq (.v (.cut ⟨[(2,.p 0 7),(3,.p 1 7)],[.g [.i,.i,.nil,.i,.i,.i,.i],.g [.i,.i,.own 2,.i,.i,.i,.i],.rows true .iop]⟩ (.cond .u .u))) .u)))))))) OB Tryz.f118 [(24,uD),(174,OA),(168,Jr)]:=gm
end Go.TX.F
end
noncomputable section
namespace Go.TX.F
open Go Go.AE Go.TX Go.TX.Seat Go.Proofs
set_option maxRecDepth 100000
set_option maxHeartbeats 4000000
def Qg:Gt aB.z X E [] (.v (.v (.v (.seq (.v (.block (.loop ⟨[(1,.r false .bool),(2,.p 0 7),(4,.p 1 7),(5,.o 2),(6,.o 3),(7,.i)],[.s false .blk,.g [.i,.i,.nil,.i,.i,.i,.i],.rows true .iop,.rows true .i64]⟩ (.v (.seq (.block (.v (.v (.cut ⟨[(1,.r false .bool),(2,.p 0 7),(4,.p 1 7),(5,.o 2),(6,.o 3),(7,.i)],[.s false .blk,.g [.i,.i,.nil,.i,.i,.i,.i],.rows true .iop,.rows true .i64]⟩ (.cond .u .u))))) .u))))) (.v (.v (.seq (.v (.cut ⟨[(2,.p 0 7),(4,.p 1 7),(6,.o 2),(8,.p 3 7)],[.s false .blk,.g [.i,.i,.nil,.i,.i,.i,.i],.rows true .i64,.g [.i,.i,.own 4,.i,.i,.i,.i],.rows true .iop]⟩ (.cond .u .u))) (.seq (.v (.cut ⟨[(4,.p 0 7),(8,.p 1 7)],[.g [.i,.i,.nil,.i,.i,.i,.i],.g [.i,.i,.own 2,.i,.i,.i,.i],.rows true .iop]⟩ (.cond .u .u))) .u)))))))) OC Tryz.f226 [(174,OA)]:=gm
def Qh:Gt aB.z X E [] (.v (.v (.v (.seq (.v (.block (.loop ⟨[(1,.p 0 7),(3,.o 1),(4,.i)],[.s false .blk,.rows true .bool]⟩ .u))) (.seq (.v (.cut ⟨[(1,.p 0 7),(3,.o 1)],[.s false .blk,.rows true .bool]⟩ (.cond .u .u))) (.seq (.v (.cut ⟨[(1,.p 0 7),(3,.o 1)],[.s false .blk,.rows true .bool]⟩ (.cond .u .u))) (.seq (.v (.block (.loop ⟨[(1,.p 0 7),(3,.o 1),(5,.i)],[.s false .blk,.rows true .bool]⟩ (.v (.seq (.cut ⟨[(1,.p 0 7),(3,.o 1),(5,.i)],[.s false .blk,.rows true .bool]⟩ (.block (.v (.v (.seq (.v (.cut ⟨[(1,.p 0 7),(3,.o 1),(5,.i),(6,.p 2 5)],[.s false .blk,.rows true .bool,.s false .iop]⟩ (.cond .u .u))) (.v (.cut ⟨[(1,.p 0 7),(3,.o 1),(5,.i)],[.s false .blk,.rows true .bool]⟩ (.cond .u .u)))))))) .u))))) .u))))))) YV Tryz.f227 [(24,uD),(56,jW)]:=gm
def Qi:Gt aB.z X E [(3,[od 0 [1],od 1 [1],(2,([8],[0])),od 3 [7,9],od 4 [2,10]])] .u YW Tryz.f171 [(24,uD),(227,YV),(226,OC)]:=gm
def Qj:Gt aB.z X E [(4,[od 0 [0],od 1 [5],od 2 [14,15],od 3 [16],od 4 [17],od 5 [18],od 6 [19],od 7 [0,20],od 8 [5,20],od 9 [20,21,22],od 10 [20,23],od 11 [20,24],od 12 [20,25],od 13 [20,26],od 14 [27],od 15 [0,28],od 16 [5,28],od 17 [28,29,30],od 18 [28,31],od 19 [28,32],od 20 [28,33],od 21 [28,34],od 22 [0,35],od 23 [5,35],od 24 [35,36,37],od 25 [35,38],od 26 [35,39],od 27 [0,35],od 28 [1,35],od 29 [35,41,42],od 30 [35,43],od 31 [35,44],od 32 [35,40,45],od 33 [28,35,46],od 34 [28,47]]),(6,[od 0 [0],od 1 [5],od 2 [49,50],od 3 [51],od 4 [52],od 5 [53],od 6 [54],od 7 [0,55],od 8 [5,55],od 9 [55,56,57],od 10 [55,58],od 11 [55,59],od 12 [0,55],od 13 [1,55],od 14 [55,61,62],od 15 [55,63],od 16 [55,64],od 17 [55,60,65],od 18 [55,66]])] (.v (.seq (.v (.block (.loop ⟨[(0,.r false .iop),(1,.i),(5,.i)],[]⟩ .u))) .u)) YX Tryz.f228 []:=gm
def Qk:Gt aB.z X E [] (.v (.v (.v (.seq (.v (.block (.loop ⟨[(1,.p 0 7),(2,.p 1 7),(3,.o 2),(4,.i)],[.s false .blk,.g [.i,.i,.nil,.i,.i,.i,.i],.rows true .bool]⟩ .u))) .u)))) YZ Tryz.f172 [(24,uD),(226,OC),(228,YX)]:=gm
def Ql:Gt aB.z X E [] (.v (.v (.seq (.v (.cut ⟨[(3,.i)],[]⟩ (.cond .u .u))) .u))) qM Tryz.f17 []:=gm
def Qm:Gt aB.z X E [] .u Fy Tryz.f161 [(17,qM),(55,uz)]:=gm
def Qn:Gt aB.z X E [] .u OD Tryz.f229 []:=gm
def Qo:Gt aB.z X E [] .u Y0 Tryz.f260 []:=gm
def Qp:Gt aB.z X E [] (.v (.v (.v (.seq (.block (.v (.cond .u (.seq (.v (.cut ⟨[(1,.p 0 7),(2,.p 1 7),(4,.b),(6,.b),(33,.b)],[.s false .blk,.g [.i,.i,.nil,.i,.i,.i,.i]]⟩ (.cond .u .u))) .u)))) .u)))) Za Tryz.f230 [(260,Y0),(229,OD)]:=gm
def Qq:Gt aB.z X E [(11,[od 0 [3],od 1 [53],od 2 [4],od 3 [5],od 4 [56],od 5 [6],od 6 [8],(7,([57,58,59],[1])),od 8 [60],od 9 [54,55],od 10 [61,62]])] (.v (.v (.v (.seq (.v (.block (.loop ⟨[(2,.p 0 7),(3,.p 1 7),(4,.i)],[.g [.i,.i,.nil,.i,.i,.i,.i],.g [.i,.i,.own 2,.i,.i,.i,.i],.rows true .iop]⟩ (.v (.seq (.block (.v (.v (.v (.v (.cut ⟨[(2,.p 0 7),(3,.p 1 7),(4,.i)],[.g [.i,.i,.nil,.i,.i,.i,.i],.g [.i,.i,.own 2,.i,.i,.i,.i],.rows true .iop]⟩ (.cond .u .u))))))) .u))))) .u)))) Zb Tryz.f173 [(24,uD),(161,Fy),(230,Za),(229,OD),(168,Jr)]:=gm
def Qr:Gt aB.z X E [] .u OE Tryz.f116 [(173,Zb),(118,OB),(171,YW),(172,YZ)]:=gm
def Qs:Gt aB.z X E [] .u Zc Tryz.f128 [(101,Oz),(116,OE),(118,OB),(48,gI),(99,Ow)]:=gm
def Qt:Gt aB.z X E [(15,[od 0 [5],od 1 [54],od 2 [],od 3 [0],od 7 [5],od 8 [61],od 9 [62],(4,([57],[1,8])),od 5 [56,58],od 6 [59],od 10 [60,63],od 11 [64],od 12 [55,65],od 13 [5],od 14 [66,67]])] (.v (.v (.seq (.v (.cut ⟨[(4,.p 1 7),(5,.p 2 7)],[.g [.rows true .u8,.i],.g [.i,.i,.nil,.i,.i,.i,.i],.g [.i,.i,.own 3,.i,.i,.i,.i],.rows true .iop]⟩ (.cond (.v (.block (.v (.cut ⟨[(4,.p 1 7),(5,.p 2 7)],[.g [.rows true .u8,.i],.g [.i,.i,.nil,.i,.i,.i,.i],.g [.i,.i,.own 3,.i,.i,.i,.i],.rows true .iop]⟩ (.cond .u (.v (.cut ⟨[(4,.p 1 7),(5,.p 2 7)],[.g [.rows true .u8,.i],.g [.i,.i,.nil,.i,.i,.i,.i],.g [.i,.i,.own 3,.i,.i,.i,.i],.rows true .iop]⟩ (.cond .u (.v (.cut ⟨[(4,.p 1 7),(5,.p 2 7)],[.g [.rows true .u8,.i],.g [.i,.i,.nil,.i,.i,.i,.i],.g [.i,.i,.own 3,.i,.i,.i,.i],.rows true .iop]⟩ (.cond (.block (.loop ⟨[(4,.p 1 7),(5,.p 2 7)],[.g [.rows true .u8,.i],.g [.i,.i,.nil,.i,.i,.i,.i],.g [.i,.i,.own 3,.i,.i,.i,.i],.rows true .iop]⟩ .u)) (.v (.cut ⟨[(4,.p 1 7),(5,.p 2 7)],[.g [.rows true .u8,.i],.g [.i,.i,.nil,.i,.i,.i,.i],.g [.i,.i,.own 3,.i,.i,.i,.i],.rows true .iop]⟩ (.cond .u .u)))))))))))))) .u))) .u))) OG Tryz.f50 [(52,yU),(48,gI),(117,YO),(128,Zc)]:=gm
def Qu:Gt aB.z X E [] (.v (.seq (.v (.cut ⟨[(0,.r true .u8)],[]⟩ (.cond .u .u))) .u)) OH Tryz.f40 []:=gm
def aav:Gt aB.z X E [] .u lu Tryz.f60 []:=gm
def aaw:Gt aB.z X E [] .u z8 Tryz.f47 [(60,lu)]:=gm
def aax:Gt aB.z X E [] .u Zd Tryz.f66 [(60,lu)]:=gm
def aay:Gt aB.z X E [] .u Ze Tryz.f135 [(60,lu)]:=gm
def aaz:Gt aB.z X E [] .u Zf Tryz.f136 [(60,lu)]:=gm
def aaA:Gt aB.z X E [] .u ahB Tryz.f186 [(60,lu)]:=gm
def aaB:Gt aB.z X E [] .u Zg Tryz.f137 [(186,ahB),(60,lu)]:=gm
def aaC:Gt ⟨[],[27,40]⟩ X E [(5,[od 0 [],od 1 [5],od 2 [28],od 5 [5],od 6 [31],od 9 [5],od 10 [34],od 13 [5],od 14 [37],od 18 [5],od 19 [41],(3,([29],[6,10,14,19])),od 4 [27,30],(7,([32],[10,14,19])),od 8 [27,33],(11,([35],[14,19])),od 12 [27,36],(15,([38],[19])),od 16 [27,39],od 17 [27],od 20 [30,33,36,39,40,42],od 21 [43]])] .u ahC Tryz.f61 [(137,Zg),(66,Zd),(47,z8),(60,lu),(136,Zf),(135,Ze)]:=gm
def akB:Gt aB.z X E [(1,[od 0 [1],od 1 [5],od 2 [6],od 3 [1],od 4 [8],od 5 [9],od 6 [1],od 7 [11],od 8 [12],od 9 [7],od 10 [10],od 11 [13]])] .u aky Tryz.f72 []:=gm
def akC:Gt aB.z X E [] .u aqi Tryz.f62 [(72,aky),(137,Zg),(47,z8),(60,lu)]:=gm
def aaD:Gt aB.z X E [] (.v (.v (.seq (.v (.block (.loop ⟨[(1,.p 0 7),(25,.i),(26,.i)],[.s false .blk]⟩ .u))) .u))) Zh Tryz.f18 [(62,aqi),(61,ahC),(60,lu)]:=gm
def aaE:Gt aB.z X E [] .u ahD Tryz.f239 []:=gm
def aaF:Gt aB.z X E [] (.v (.seq (.v (.block (.loop ⟨[(0,.r false .i64),(1,.c (.fn 239 [(0,1)])),(7,.i),(8,.i)],[.box (.i)]⟩ .u))) .u)) ahE Tryz.f264 [(239,ahD)]:=gm
def aaG:Gt aB.z X E [] .u ahF Tryz.f238 [(264,ahE)]:=gm
def aaH:Gt aB.z X E [] (.v (.seq (.v (.block (.loop ⟨[(3,.p 0 1),(8,.r false .mono),(9,.i),(10,.i)],[.box (.i)]⟩ .u))) .u)) Zi Tryz.f190 [(238,ahF)]:=gm
def akD:Gt aB.z X E [] .u akz Tryz.f244 []:=gm
def akE:Gt aB.z X E [] .u agi Tryz.f197 [(244,akz)]:=gm
def akF:Gt aB.z X E [] (.v (.v (.seq (.v (.block (.loop ⟨[(3,.i),(6,.r false .i64),(7,.i),(8,.i)],[]⟩ .u))) .u))) akA Tryz.f198 []:=gm
def aaI:Gt aB.z X E [] (.v (.seq (.v (.block (.loop ⟨[(0,.r false .i64),(1,.r false .i64),(9,.r false .i64),(10,.i),(11,.i)],[]⟩ .u))) .u)) ahG Tryz.f245 [(197,agi)]:=gm
def aaJ:Gt aB.z X E [] .u Mr Tryz.f199 [(198,akA),(197,agi),(245,ahG)]:=gm
def akG:Gt aB.z X E [] .u agj Tryz.f246 [(244,akz)]:=gm
def aaK:Gt aB.z X E [(4,[od 0 [0],od 1 [3],od 2 [11,12],od 3 [13],od 4 [0],od 5 [3],od 6 [16],od 7 [15,17],od 8 [18],od 9 [14,19]])] (.v (.seq (.v (.block (.loop ⟨[(0,.r false .i64),(3,.i)],[]⟩ .u))) .u)) ahH Tryz.f201 [(246,agj)]:=gm
def aaL:Gt aB.z X E [] .u ahI Tryz.f203 []:=gm
def aaM:Gt aB.z X E [] (.v (.seq (.v (.block (.loop ⟨[(0,.r false .mono),(1,.c (.fn 203 [])),(7,.i),(8,.i)],[]⟩ .u))) .u)) ahJ Tryz.f247 [(203,ahI)]:=gm
def aaN:Gt aB.z X E [] .u ahK Tryz.f202 [(247,ahJ)]:=gm
def aaO:Gt aB.z X E [(4,[od 0 [4],od 1 [13],od 2 [14],od 3 [15],od 4 [16],od 5 [4,17],od 6 [17,18],od 7 [17,19],od 8 [17,20],od 9 [17,21],od 10 [22],od 11 [4,23],od 12 [23,24],od 13 [23,25],od 14 [23,26],od 15 [23,27],od 16 [28],od 17 [3,29],od 18 [29,30],od 19 [29,31],od 20 [1,32],od 21 [32,33],od 22 [3,32],od 23 [32,35],od 24 [32,34,36],od 25 [32,37],od 26 [32,38],od 27 [4,32],od 28 [32,40],od 29 [32,39,41],od 30 [32,42],od 31 [29,32,43],od 32 [29,44]])] (.v (.seq (.v (.block (.loop ⟨[(1,.p 0 1),(6,.r false .mono),(7,.i),(8,.i)],[.s false .poly]⟩ .u))) .u)) CX Tryz.f146 [(60,lu),(190,Zi),(201,ahH),(199,Mr),(202,ahK)]:=gm
end Go.TX.F
end
noncomputable section
namespace Go.TX.F
open Go Go.AE Go.TX Go.TX.Seat Go.Proofs
set_option maxRecDepth 100000
set_option maxHeartbeats 4000000
def aaP:Gt aB.z X E [] .u Zj Tryz.f139 [(60,lu),(136,Zf),(190,Zi),(146,CX),(135,Ze)]:=gm
def aaQ:Gt aB.z X E [(7,[od 0 [7],od 1 [27],od 2 [3],od 3 [29],od 4 [6],od 5 [30,31],od 6 [32],od 7 [33],od 9 [7],od 10 [36],od 11 [3],od 12 [38],od 13 [6],od 14 [39,40],od 15 [41],od 16 [42],(8,([28,34],[10,12,16])),od 17 [37,43],od 18 [35,44],od 19 [45],od 20 [46]])] (.v (.v (.seq (.v (.block (.loop ⟨[(3,.p 0 1),(20,.r false .mono),(21,.i),(22,.i)],[.s false .poly]⟩ .u))) .u))) Vw Tryz.f142 [(198,akA),(197,agi),(199,Mr)]:=gm
def aaR:Gt aB.z X E [] .u Vx Tryz.f122 [(142,Vw)]:=gm
def aaS:Gt aB.z X E [] .u ahL Tryz.f193 [(122,Vx)]:=gm
def aaT:Gt aB.z X E [] .u ahM Tryz.f192 [(193,ahL)]:=gm
def aaU:Gt aB.z X E [] (.v (.seq (.v (.block (.loop ⟨[(0,.r false .atom),(1,.c (.fn 192 [(0,4)])),(7,.i),(8,.i)],[.s false .atom]⟩ .u))) .u)) ahN Tryz.f191 [(192,ahM)]:=gm
def aaV:Gt aB.z X E [] .u Zk Tryz.f140 [(191,ahN)]:=gm
def aaW:Gt aB.z X E [] (.v (.seq (.v (.block (.loop ⟨[(1,.p 0 1),(6,.r false .atom),(7,.i),(8,.i)],[.s false .tab]⟩ .u))) .u)) ahO Tryz.f64 [(139,Zj),(140,Zk)]:=gm
def aaX:Gt aB.z X E [] .u ahP Tryz.f200 []:=gm
def aaY:Gt aB.z X E [(6,[od 0 [2],od 1 [28],od 3 [3],od 4 [31],(2,([29],[3])),od 5 [30,32],od 6 [33],od 7 [],od 8 [7,34]]),(7,[od 0 [7],od 1 [2],od 2 [36],od 3 [37],(4,([4,35],[2])),od 5 [38]])] .u Zl Tryz.f143 [(139,Zj),(140,Zk),(200,ahP)]:=gm
def aaZ:Gt aB.z X E [] .u Zm Tryz.f144 [(60,lu)]:=gm
def aa0:Gt aB.z X E [] .u Zn Tryz.f71 [(144,Zm),(143,Zl)]:=gm
def aa1:Gt aB.z X E [] (.v (.v (.seq (.v (.block (.loop ⟨[(0,.p 0 2),(3,.o 1),(5,.i)],[.g [.rows true .atom,.bool],.rows true .poly]⟩ .u))) .u))) ahQ Tryz.f65 [(71,Zn)]:=gm
def aa2:Gt aB.z X E [] .u ahR Tryz.f67 [(60,lu)]:=gm
def aa3:Gt aB.z X E [] .u ahS Tryz.f68 []:=gm
def aa4:Gt aB.z X E [] .u Vy Tryz.f69 [(60,lu)]:=gm
def aa5:Gt aB.z X E [] .u Vz Tryz.f185 []:=gm
def aa6:Gt aB.z X E [] .u Zo Tryz.f132 [(47,z8),(185,Vz)]:=gm
def aa7:Gt aB.z X E [] .u Zp Tryz.f148 [(146,CX)]:=gm
def aa8:Gt aB.z X E [] .u VA Tryz.f131 []:=gm
def aa9:Gt aB.z X E [] .u Zq Tryz.f266 [(199,Mr)]:=gm
def Qv:Gt aB.z X E [(4,[od 0 [9],od 1 [1],od 2 [18,19],od 3 [20],od 4 [3,21],od 5 [0,21],od 6 [9,21],od 7 [21,23,24],od 8 [21,25],od 9 [0,21],od 10 [9,21],od 11 [21,28],od 12 [21,27,29],od 13 [21,30],od 14 [21,22,26,31],od 15 [21,32],od 16 [21,33]]),(6,[od 0 [0],od 1 [9],od 2 [0],od 3 [9],od 4 [40],od 5 [0],od 6 [9],od 7 [43],od 8 [42,44],od 9 [45],od 10 [0],od 11 [9],od 12 [47,48],od 13 [49],od 14 [37,38],od 15 [46,51],od 16 [39,41],od 17 [50,52]])] (.v (.block (.loop ⟨[(0,.o 0),(1,.i),(2,.i),(3,.c (.fn 266 [])),(8,.i)],[.rows false .mono]⟩ (.v (.seq (.block (.v (.block (.loop ⟨[(0,.o 0),(1,.i),(2,.i),(3,.c (.fn 266 [])),(8,.i),(9,.i)],[.rows false .mono]⟩ .u)))) .u))))) Zr Tryz.f299 [(266,Zq)]:=gm
def Qw:Gt aB.z X E [(3,[od 0 [0],od 1 [1],od 2 [10],od 3 [17,18],od 4 [0],od 5 [2],od 6 [10],od 7 [21,22],od 8 [0],od 9 [2],od 10 [10],od 11 [25,26],od 12 [24,27],od 13 [28],od 14 [0],od 15 [1],od 16 [10],od 17 [31,32],od 18 [30,33],od 19 [34],od 20 [16,19],od 21 [29,36],od 22 [20,23],od 23 [35,37]])] (.v (.block (.loop ⟨[(0,.o 0),(1,.i),(2,.i),(3,.i),(10,.i)],[.rows false .mono]⟩ .u))) Zt Tryz.f310 []:=gm
def Qx:Gt aB.z X E [] (.v (.v (.seq (.block (.loop ⟨[(0,.o 0),(2,.i),(4,.c (.fn 266 [])),(10,.i),(11,.i)],[.rows false .mono]⟩ (.v (.block (.v (.cut ⟨[(0,.o 0),(2,.i),(4,.c (.fn 266 [])),(10,.i),(11,.i)],[.rows false .mono]⟩ (.cond .u .u))))))) .u))) Zu Tryz.f307 [(310,Zt)]:=gm
def FJ:Gt aB.z X E [(5,[od 0 [4],od 1 [0],od 2 [12],od 3 [41,42],od 4 [43],od 5 [0],od 6 [1],od 7 [45,46],od 8 [47],od 9 [40,44,48],od 10 [49]]),(11,[od 0 [0],od 1 [13],od 2 [0],od 3 [13],od 4 [64],od 5 [0],od 6 [13],od 7 [67],od 8 [66,68],od 9 [69],od 10 [0],od 11 [13],od 12 [71,72],od 13 [73],od 14 [61,62],od 15 [70,75],od 16 [63,65],od 17 [74,76]]),(17,[od 0 [4],od 1 [0],od 2 [2],od 3 [93,94],od 4 [95],od 5 [0],od 6 [16],od 7 [97,98],od 8 [99],od 9 [92,96,100],od 10 [101],od 11 [102]]),(23,[od 0 [0],od 1 [17],od 2 [0],od 3 [17],od 4 [116],od 5 [0],od 6 [17],od 7 [119],od 8 [118,120],od 9 [121],od 10 [0],od 11 [17],od 12 [123,124],od 13 [125],od 14 [113,114],od 15 [122,127],od 16 [115,117],od 17 [126,128]]),(35,[od 0 [4],od 1 [0],od 2 [22],od 3 [23],od 4 [160,161],od 5 [159,162],od 6 [163],od 7 [0],od 8 [23],od 9 [165,166],od 10 [167],od 11 [158,164,168],od 12 [169],od 13 [170]])] (.seq (.v (.cond (.v (.v (.seq (.block (.loop ⟨[(0,.o 0),(1,.i),(4,.c (.fn 266 [])),(10,.i),(11,.i)],[.rows false .mono]⟩ (.v (.block (.v (.v (.cut ⟨[(0,.o 0),(1,.i),(4,.c (.fn 266 [])),(10,.i),(11,.i)],[.rows false .mono]⟩ (.cond .u .u)))))))) (.seq (.v (.block (.loop ⟨[(0,.o 0),(10,.i),(13,.i)],[.rows false .mono]⟩ .u))) .u)))) .u)) (.seq (.v (.cond (.v (.v (.seq (.block (.loop ⟨[(0,.o 0),(2,.i),(4,.c (.fn 266 [])),(14,.i),(15,.i)],[.rows false .mono]⟩ (.v (.block (.v (.v (.cut ⟨[(0,.o 0),(2,.i),(4,.c (.fn 266 [])),(14,.i),(15,.i)],[.rows false .mono]⟩ (.cond .u .u)))))))) (.seq (.v (.block (.loop ⟨[(0,.o 0),(14,.i),(17,.i)],[.rows false .mono]⟩ .u))) .u)))) .u)) (.v (.v (.v (.seq (.v (.cut ⟨[(0,.o 0),(1,.i),(2,.i),(3,.i),(4,.c (.fn 266 [])),(18,.i),(19,.i),(20,.i),(21,.i)],[.rows false .mono]⟩ (.cond .u .u))) (.v (.seq (.block (.loop ⟨[(0,.o 0),(1,.i),(2,.i),(3,.i),(4,.c (.fn 266 [])),(18,.i),(19,.i),(20,.i),(21,.i),(22,.i)],[.rows false .mono]⟩ (.v (.block (.v (.v (.cut ⟨[(0,.o 0),(1,.i),(2,.i),(3,.i),(4,.c (.fn 266 [])),(18,.i),(19,.i),(20,.i),(21,.i),(22,.i)],[.rows false .mono]⟩ (.cond .u .u)))))))) (.v (.seq (.v (.cut ⟨[(0,.o 0),(1,.i),(3,.i),(4,.c (.fn 266 [])),(18,.i),(20,.i),(24,.i)],[.rows false .mono]⟩ (.cond .u .u))) (.seq (.v (.cut ⟨[(0,.o 0),(3,.i),(4,.c (.fn 266 [])),(18,.i),(24,.i)],[.rows false .mono]⟩ (.cond .u .u))) (.v (.cut ⟨[],[.rows false .mono]⟩ (.cond .u .u)))))))))))))) BL Tryz.f300 [(266,Zq),(307,Zu),(300,BL)]:=gm
def Qy:Gt aB.z X E [] (.v (.v (.seq (.block (.loop ⟨[(0,.o 0),(1,.i),(2,.c (.fn 266 [])),(6,.i),(7,.i),(8,.i)],[.rows false .mono]⟩ .u)) (.v (.block (.loop ⟨[(0,.o 0),(1,.i),(2,.c (.fn 266 [])),(6,.i)],[.rows false .mono]⟩ (.v (.block (.v (.seq (.block (.loop ⟨[(0,.o 0),(1,.i),(2,.c (.fn 266 [])),(6,.i),(7,.i),(8,.i)],[.rows false .mono]⟩ .u)) (.seq (.v (.v (.cut ⟨[(0,.o 0),(1,.i),(2,.c (.fn 266 [])),(6,.i)],[.rows false .mono]⟩ (.cond .u .u)))) .u))))))))))) Zv Tryz.f283 [(299,Zr),(300,BL)]:=gm
def Qz:Gt aB.z X E [] .u Zw Tryz.f265 [(283,Zv)]:=gm
def abb:Gt ⟨[51],[]⟩ X E [(5,[od 0 [0],od 1 [5],od 2 [14,15],od 3 [16],od 5 [],od 4 [],od 6 [7,17]]),(6,[od 0 [5],od 1 [0],od 2 [19],od 3 [18,20],od 4 [21],od 5 [7,22],od 6 [22,23],od 7 [0,22],od 8 [5,22],od 9 [22,25,26],od 10 [22,27],od 11 [22,28],od 12 [22,24,29],od 13 [22,30],od 14 [22,31]]),(10,[od 0 [4],od 1 [45],od 2 [6],od 3 [7],od 4 [48],(5,([49],[1])),od 6 [47,50],(7,([51],[1])),od 8 [46,52],od 9 [4],od 10 [53,54]])] (.v (.v (.v (.seq (.v (.block (.loop ⟨[(0,.o 0),(2,.p 1 1),(4,.p 2 1),(5,.i)],[.rows false .mono,.g [.nil],.g [.own 3],.rows true .mono]⟩ (.v (.block (.v (.seq (.block (.loop ⟨[(0,.o 0),(2,.p 1 1),(4,.p 2 1),(5,.i),(6,.i),(7,.p 3 2)],[.rows false .mono,.g [.nil],.g [.own 4],.s false .mono,.rows true .mono]⟩ .u)) (.v (.cut ⟨[(0,.o 0),(2,.p 1 1),(4,.p 2 1),(5,.i)],[.rows false .mono,.g [.nil],.g [.own 3],.rows true .mono]⟩ (.cond .u .u)))))))))) .u)))) Zx Tryz.f240 [(199,Mr),(146,CX),(185,Vz),(131,VA),(265,Zw)]:=gm
def abd:Gt aB.z X E [] (.v (.v (.seq (.v (.v (.cut ⟨[(0,.o 0)],[.rows true .mono]⟩ (.cond .u .u)))) .u))) ahT Tryz.f267 []:=gm
def abe:Gt aB.z X E [] (.v (.v (.seq (.v (.block (.loop ⟨[(0,.r false .poly),(3,.i),(9,.r false .poly),(10,.i),(11,.i)],[]⟩ .u))) (.v (.seq (.v (.block (.loop ⟨[(6,.o 0),(25,.r false .poly),(26,.i),(27,.i)],[.rows false .mono]⟩ .u))) .u))))) ahU Tryz.f241 [(267,ahT)]:=gm
def abf:Gt aB.z X E [] .u ahV Tryz.f194 [(146,CX),(240,Zx),(241,ahU)]:=gm
def abg:Gt aB.z X E [] (.v (.v (.seq (.v (.v (.cut ⟨[(0,.o 0)],[.rows true .i64]⟩ (.cond .u .u)))) .u))) ahW Tryz.f268 []:=gm
def abh:Gt aB.z X E [] (.v (.v (.seq (.v (.block (.loop ⟨[(0,.r false .ints),(3,.i),(9,.r false .ints),(10,.i),(11,.i)],[]⟩ .u))) (.v (.seq (.v (.block (.loop ⟨[(6,.o 0),(25,.r false .ints),(26,.i),(27,.i)],[.rows true .i64]⟩ .u))) .u))))) ahX Tryz.f242 [(268,ahW)]:=gm
def QA:Gt aB.z X E [(4,[od 0 [7],od 1 [1],od 2 [16,17],od 3 [18],od 4 [0,19],od 5 [7,19],od 6 [19,20,21],od 7 [19,22],od 8 [0,19],od 9 [7,19],od 10 [19,25],od 11 [19,24,26],od 12 [19,27],od 13 [19,23,28],od 14 [19,29]]),(6,[od 0 [0],od 1 [7],od 2 [0],od 3 [7],od 4 [36],od 5 [0],od 6 [7],od 7 [39],od 8 [38,40],od 9 [41],od 10 [0],od 11 [7],od 12 [43,44],od 13 [45],od 14 [33,34],od 15 [42,47],od 16 [35,37],od 17 [46,48]])] (.v (.block (.loop ⟨[(0,.o 0),(1,.i),(2,.i),(6,.i)],[.rows true .i64]⟩ (.v (.seq (.block (.v (.block (.loop ⟨[(0,.o 0),(1,.i),(2,.i),(6,.i),(7,.i)],[.rows true .i64]⟩ .u)))) .u))))) Zy Tryz.f284 [(246,agj)]:=gm
def QB:Gt aB.z X E [(17,[od 0 [1],od 1 [73],od 2 [74],od 3 [0,75],od 4 [1,75],od 5 [75,77],od 6 [75,76,78],od 7 [75,79],od 8 [0,75],od 9 [11,75],od 10 [75,81,82],od 11 [75,83],od 12 [75,80,84],od 13 [75,85],od 14 [75,86]])] (.v (.v (.block (.loop ⟨[(0,.o 0),(1,.i),(2,.i),(3,.i),(8,.b),(9,.b)],[.rows true .i64]⟩ (.cut ⟨[(0,.o 0),(1,.i),(2,.i),(3,.i),(8,.b),(9,.b)],[.rows true .i64]⟩ (.block (.v (.v (.v (.seq (.v (.cut ⟨[(0,.o 0),(1,.i),(2,.i),(3,.i),(8,.b),(9,.b),(10,.i)],[.rows true .i64]⟩ (.cond .u .u))) (.v (.seq (.v (.cut ⟨[(0,.o 0),(1,.i),(2,.i),(3,.i),(8,.b),(9,.b),(10,.i),(11,.i),(12,.i)],[.rows true .i64]⟩ (.cond .u .u))) (.seq (.v (.cut ⟨[(0,.o 0),(1,.i),(2,.i),(3,.i),(8,.b),(9,.b),(10,.i),(11,.i)],[.rows true .i64]⟩ (.cond .u .u))) (.v (.v (.v (.v (.v (.v (.cut ⟨[(0,.o 0),(1,.i),(2,.i),(3,.i),(8,.b),(9,.b)],[.rows true .i64]⟩ (.cond .u .u))))))))))))))))))))) Fz Tryz.f269 [(246,agj),(284,Zy),(285,OI),(286,OJ),(287,OL),(288,OM),(289,OO),(290,OQ),(291,OT),(269,Fz)]:=gm
def QC:Gt aB.z X E [] .u Zz Tryz.f243 [(269,Fz),(270,ahY)]:=gm
def abj:Gt aB.z X E [] (.v (.v (.v (.seq (.v (.block (.loop ⟨[(3,.p 0 1),(4,.p 1 1),(6,.o 2),(22,.r false .mono),(23,.i),(24,.i)],[.s false .poly,.g [.nil],.rows true .mono]⟩ (.v (.v (.seq (.block (.v (.v (.block (.loop ⟨[(3,.p 0 1),(4,.p 1 1),(6,.o 2),(8,.p 3 2),(22,.r false .mono),(23,.i),(24,.i),(29,.r false .mono),(30,.i),(31,.i)],[.s false .poly,.g [.nil],.rows true .mono,.s false .mono]⟩ .u))))) .u)))))) .u)))) ZA Tryz.f196 [(146,CX),(185,Vz),(240,Zx),(242,ahX),(243,Zz)]:=gm
def abk:Gt aB.z X E [(3,[od 0 [2],od 1 [1],(2,([18],[0])),od 3 [17,19],od 4 [20],od 5 [16],od 6 [16],od 7 [],od 8 [5,21],od 9 [22]])] .u ahZ Tryz.f195 [(146,CX),(69,Vy),(47,z8),(196,ZA)]:=gm
def abl:Gt aB.z X E [(5,[od 0 [4],od 1 [5],(2,([23],[0])),od 3 [22,24],od 4 [25],od 5 [25],od 6 [6,26],od 7 [27]])] (.v (.v (.v (.v (.v (.seq (.v (.cut ⟨[(0,.i),(4,.p 0 1),(6,.p 1 1),(10,.i),(11,.b)],[.s true .poly,.g [.nil]]⟩ (.cond .u .u))) .u)))))) ah0 Tryz.f141 [(122,Vx),(69,Vy),(132,Zo),(194,ahV),(196,ZA),(195,ahZ),(148,Zp)]:=gm
def abm:Gt aB.z X E [(3,[od 0 [4],od 1 [11],(2,([8,23],[1])),od 3 [9,24],od 4 []]),(9,[od 0 [13],od 1 [14],(2,([49],[0])),od 3 [8,48],od 4 [9,50],od 5 []])] (.v (.v (.seq (.v (.cut ⟨[(1,.i),(4,.p 0 1),(6,.p 1 1),(7,.p 2 1),(8,.p 3 1),(9,.p 4 1)],[.s true .tab,.s true .poly,.s true .poly,.g [.nil],.g [.nil]]⟩ (.cond .u .u))) .u))) ah1 Tryz.f70 [(142,Vw),(141,ah0),(143,Zl),(144,Zm)]:=gm
def abn:Gt ⟨[20],[]⟩ X E [(5,[od 0 [3],od 1 [13],od 2 [5],od 3 [15],od 4 [5],od 5 [17],(6,([18],[1,3])),od 7 [16,19],(8,([20],[1])),od 9 [14,21],od 10 [3],od 11 [22,23]])] (.v (.v (.seq (.v (.block (.loop ⟨[(2,.p 0 1),(3,.p 1 1),(7,.r false .mono),(8,.i),(9,.i)],[.g [.nil],.g [.own 2],.rows true .mono]⟩ .u))) .u))) VB Tryz.f145 [(131,VA)]:=gm
def abo:Gt ⟨[25],[]⟩ X E [(5,[od 0 [3],od 1 [13],od 2 [5],od 3 [15],od 4 [5],od 5 [17],od 6 [5],od 7 [19],od 9 [5],od 10 [22],(8,([20],[1,3,5,10])),(11,([23],[1,3,5])),od 12 [16,18,21,24],(13,([25],[1])),od 14 [14,26],od 15 [3],od 16 [27,28]])] (.v (.v (.seq (.v (.block (.loop ⟨[(2,.p 0 1),(3,.p 1 1),(7,.r false .atom),(8,.i),(9,.i)],[.g [.nil],.g [.own 2],.rows true .atom]⟩ .u))) .u))) ah2 Tryz.f73 [(145,VB)]:=gm
def abp:Gt aB.z X E [] .u ZB Tryz.f134 [(47,z8)]:=gm
def abq:Gt aB.z X E [] (.v (.v (.seq (.v (.block (.loop ⟨[(3,.o 0),(6,.r false .poly),(7,.i),(8,.i)],[.rows true .poly]⟩ .u))) .u))) ah3 Tryz.f204 [(145,VB)]:=gm
def abr:Gt ⟨[42],[]⟩ X E [(1,[od 0 [1],od 1 [6],od 3 [1],od 4 [9],od 5 [1],od 6 [11],od 8 [1],od 9 [14],od 11 [1],od 12 [17],(2,([7],[4,6,9,12])),(7,([12],[4,9,12])),(10,([15],[4,12])),od 13 [8,10,13,16,18],od 14 [],od 15 [3,19]]),(5,[od 0 [3],od 1 [27],od 2 [5],od 3 [29],od 4 [5],od 5 [31],od 6 [5],od 7 [33],od 9 [5],od 10 [36],od 12 [5],od 13 [39],(8,([34],[1,3,5,10,13])),(11,([37],[1,3,5,13])),(14,([40],[1,3,5])),od 15 [30,32,35,38,41],(16,([42],[1])),od 17 [28,43],od 18 [3],od 19 [44,45]])] (.v (.v (.seq (.v (.block (.loop ⟨[(2,.p 0 6),(3,.p 1 6),(21,.r false .ev),(22,.i),(23,.i)],[.g [.nil,.nil,.i,.nil,.nil,.i],.g [.own 2,.own 3,.i,.own 4,.own 5,.i],.rows true .ev,.rows true .poly,.rows true .mono,.rows true .mono]⟩ .u))) .u))) ah4 Tryz.f147 [(145,VB),(204,ah3)]:=gm
def abt:Gt aB.z X E [] (.v (.v (.v (.v (.v (.v (.seq (.block (.v (.cut ⟨[(4,.p 0 6),(5,.p 1 6)],[.g [.nil,.nil,.i,.nil,.nil,.i],.g [.own 2,.own 3,.i,.own 4,.own 5,.i],.rows true .ev,.rows true .poly,.rows true .mono,.rows true .mono]⟩ (.cond .u (.v (.cut ⟨[(4,.p 0 6),(5,.p 1 6)],[.g [.nil,.nil,.i,.nil,.nil,.i],.g [.own 2,.own 3,.i,.own 4,.own 5,.i],.rows true .ev,.rows true .poly,.rows true .mono,.rows true .mono]⟩ (.cond .u (.v (.cut ⟨[(4,.p 0 6),(5,.p 1 6)],[.g [.nil,.nil,.i,.nil,.nil,.i],.g [.own 2,.own 3,.i,.own 4,.own 5,.i],.rows true .ev,.rows true .poly,.rows true .mono,.rows true .mono]⟩ (.cond (.v (.v (.v (.cut ⟨[(4,.p 0 6),(5,.p 1 6)],[.g [.nil,.nil,.i,.nil,.nil,.i],.g [.own 2,.own 3,.i,.nil,.nil,.i],.rows true .ev,.rows true .poly]⟩ (.cond .u .u))))) (.v (.cut ⟨[(4,.p 0 6),(5,.p 1 6)],[.g [.nil,.nil,.i,.nil,.nil,.i],.g [.own 2,.own 3,.i,.own 4,.own 5,.i],.rows true .ev,.rows true .poly,.rows true .mono,.rows true .mono]⟩ (.cond .u .u))))))))))))) .u))))))) ah5 Tryz.f74 [(148,Zp),(146,CX),(142,Vw),(147,ah4),(122,Vx),(134,ZB)]:=gm
def abu:Gt aB.z X E [(4,[od 0 [6],od 2 [3],od 3 [47],od 4 [3],od 5 [49],(1,([45],[3,5])),od 6 [46,48,50],od 7 [],od 8 [7,51]]),(27,[od 0 [6],od 1 [134],od 2 [135],od 3 [136],od 4 [12],od 5 [138],od 6 [17],od 7 [18],od 8 [137,139,140,141],od 9 [142],od 10 [133],od 11 [133],od 12 [133],od 13 [],od 14 [],od 15 [20,143],od 16 [21,144],od 17 [145]]),(30,[od 0 [6],od 1 [8],od 2 [11],od 3 [20],od 4 [21],od 5 [150],od 6 [155],(7,([153,156],[4])),od 8 [151,152],od 9 [154,157]]),(47,[od 0 [6],od 1 [213],od 2 [214],od 3 [215],od 5 [7],od 6 [3],od 7 [219],od 8 [3],od 9 [221],od 10 [220,222],(4,([216],[5,7,9])),od 11 [218,223],od 12 [4,217],od 13 [5,224]])] (.v (.v (.v (.v (.v (.v (.seq (.v (.block (.loop ⟨[(3,.p 0 7),(4,.p 1 1),(5,.p 2 6),(6,.p 3 2),(7,.p 4 6),(8,.o 5),(9,.i),(10,.i),(57,.r false .iop),(58,.i),(59,.i)],[.s false .blk,.g [.nil],.g [.nil,.nil,.i,.nil,.nil,.i],.g [.rows true .atom,.bool],.g [.own 6,.own 7,.i,.nil,.nil,.i],.rows true .poly,.rows true .ev,.rows true .poly]⟩ (.v (.v (.seq (.block (.v (.v (.v (.seq (.v (.cut ⟨[(3,.p 0 7),(4,.p 1 1),(5,.p 2 6),(6,.p 3 2),(7,.p 4 6),(8,.o 5),(9,.i),(10,.i),(11,.i),(12,.p 6 5),(14,.b),(17,.p 7 1),(18,.p 8 1),(57,.r false .iop),(58,.i),(59,.i)],[.s false .blk,.g [.nil],.g [.nil,.nil,.i,.nil,.nil,.i],.g [.rows true .atom,.bool],.g [.own 9,.own 10,.i,.nil,.nil,.i],.rows true .poly,.s false .iop,.s true .poly,.g [.nil],.rows true .ev,.rows true .poly]⟩ (.cond .u .u))) (.seq (.v (.cut ⟨[(3,.p 0 7),(4,.p 1 1),(5,.p 2 6),(6,.p 3 2),(7,.p 4 6),(8,.o 5),(9,.i),(10,.i),(11,.i),(12,.p 6 5),(17,.p 7 1),(18,.p 8 1),(57,.r false .iop),(58,.i),(59,.i)],[.s false .blk,.g [.nil],.g [.nil,.nil,.i,.nil,.nil,.i],.g [.rows true .atom,.bool],.g [.own 9,.own 10,.i,.nil,.nil,.i],.rows true .poly,.s false .iop,.s true .poly,.s true .poly,.rows true .ev,.rows true .poly]⟩ (.cond .u .u))) (.seq (.v (.cut ⟨[(3,.p 0 7),(4,.p 1 1),(5,.p 2 6),(6,.p 3 2),(7,.p 4 6),(8,.o 5),(9,.i),(10,.i),(11,.i),(12,.p 6 5),(17,.p 7 1),(18,.p 8 1),(57,.r false .iop),(58,.i),(59,.i)],[.s false .blk,.g [.nil],.g [.nil,.nil,.i,.nil,.nil,.i],.g [.rows true .atom,.bool],.g [.own 9,.own 10,.i,.nil,.nil,.i],.rows true .poly,.s false .iop,.s true .poly,.s true .poly,.rows true .ev,.rows true .poly]⟩ (.cond (.v (.seq (.v (.cut ⟨[(3,.p 0 7),(4,.p 1 1),(5,.p 2 6),(6,.p 3 2),(7,.p 4 6),(8,.o 5),(9,.i),(10,.i),(11,.i),(12,.p 6 5),(17,.p 7 1),(18,.p 8 1),(19,.p 9 5),(57,.r false .iop),(58,.i),(59,.i)],[.s false .blk,.g [.nil],.g [.nil,.nil,.i,.nil,.nil,.i],.g [.rows true .atom,.bool],.g [.own 10,.own 11,.i,.nil,.nil,.i],.rows true .poly,.s false .iop,.s true .poly,.s true .poly,.g [.i,.i,.rows true .mono,.rows true .mono,.own 12],.rows true .ev,.rows true .poly,.rows true .poly]⟩ (.cond .u .u))) .u)) .u))) (.v (.block (.v (.cut ⟨[(3,.p 0 7),(4,.p 1 1),(5,.p 2 6),(6,.p 3 2),(7,.p 4 6),(8,.o 5),(9,.i),(10,.i),(57,.r false .iop),(58,.i),(59,.i)],[.s false .blk,.g [.nil],.g [.nil,.nil,.i,.nil,.nil,.i],.g [.rows true .atom,.bool],.g [.own 6,.own 7,.i,.nil,.nil,.i],.rows true .poly,.rows true .ev,.rows true .poly]⟩ (.cond .u (.v (.cut ⟨[(3,.p 0 7),(4,.p 1 1),(5,.p 2 6),(6,.p 3 2),(7,.p 4 6),(8,.o 5),(9,.i),(10,.i),(57,.r false .iop),(58,.i),(59,.i)],[.s false .blk,.g [.nil],.g [.nil,.nil,.i,.nil,.nil,.i],.g [.rows true .atom,.bool],.g [.own 6,.own 7,.i,.nil,.nil,.i],.rows true .poly,.rows true .ev,.rows true .poly]⟩ (.cond .u (.v (.cut ⟨[(3,.p 0 7),(4,.p 1 1),(5,.p 2 6),(6,.p 3 2),(7,.p 4 6),(8,.o 5),(9,.i),(10,.i),(57,.r false .iop),(58,.i),(59,.i)],[.s false .blk,.g [.nil],.g [.nil,.nil,.i,.nil,.nil,.i],.g [.rows true .atom,.bool],.g [.own 6,.own 7,.i,.nil,.nil,.i],.rows true .poly,.rows true .ev,.rows true .poly]⟩ (.cond .u (.v (.cut ⟨[(3,.p 0 7),(4,.p 1 1),(5,.p 2 6),(6,.p 3 2),(7,.p 4 6),(8,.o 5),(9,.i),(10,.i),(57,.r false .iop),(58,.i),(59,.i)],[.s false .blk,.g [.nil],.g [.nil,.nil,.i,.nil,.nil,.i],.g [.rows true .atom,.bool],.g [.own 6,.own 7,.i,.nil,.nil,.i],.rows true .poly,.rows true .ev,.rows true .poly]⟩ (.cond .u (.v (.cut ⟨[(3,.p 0 7),(4,.p 1 1),(5,.p 2 6),(6,.p 3 2),(7,.p 4 6),(8,.o 5),(9,.i),(10,.i),(57,.r false .iop),(58,.i),(59,.i)],[.s false .blk,.g [.nil],.g [.nil,.nil,.i,.nil,.nil,.i],.g [.rows true .atom,.bool],.g [.own 6,.own 7,.i,.nil,.nil,.i],.rows true .poly,.rows true .ev,.rows true .poly]⟩ (.cond .u (.v (.cut ⟨[(3,.p 0 7),(4,.p 1 1),(5,.p 2 6),(6,.p 3 2),(7,.p 4 6),(8,.o 5),(9,.i),(10,.i),(57,.r false .iop),(58,.i),(59,.i)],[.s false .blk,.g [.nil],.g [.nil,.nil,.i,.nil,.nil,.i],.g [.rows true .atom,.bool],.g [.own 6,.own 7,.i,.nil,.nil,.i],.rows true .poly,.rows true .ev,.rows true .poly]⟩ (.cond .u .u))))))))))))))))))))))))))) .u)))))) (.v (.seq (.v (.cut ⟨[(3,.p 0 7),(4,.p 1 1),(5,.p 2 6),(6,.p 3 2),(7,.p 4 6),(8,.o 5),(24,.b)],[.s false .blk,.g [.nil],.g [.nil,.nil,.i,.nil,.nil,.i],.g [.rows true .atom,.bool],.g [.own 6,.own 7,.i,.rows true .mono,.nil,.i],.rows true .poly,.rows true .ev,.rows true .poly]⟩ (.cond .u .u))) (.seq (.v (.cut ⟨[(3,.p 0 7),(4,.p 1 1),(5,.p 2 6),(6,.p 3 2),(7,.p 4 6)],[.s false .blk,.g [.nil],.g [.nil,.nil,.i,.nil,.nil,.i],.g [.rows true .atom,.bool],.g [.own 5,.own 6,.i,.rows true .mono,.rows true .mono,.i],.rows true .ev,.rows true .poly]⟩ (.cond .u .u))) .u)))))))))) ah6 Tryz.f20 [(72,aky),(18,Zh),(67,ahR),(66,Zd),(69,Vy),(74,ah5),(64,ahO),(73,ah2),(70,ah1),(71,Zn),(65,ahQ),(68,ahS)]:=gm
end Go.TX.F
end
noncomputable section
namespace Go.TX.F
open Go Go.AE Go.TX Go.TX.Seat Go.Proofs
set_option maxRecDepth 100000
set_option maxHeartbeats 4000000
def QD:Gt aB.z X E [] .u yV Tryz.f78 [(56,jW)]:=gm
def QE:Gt aB.z X E [] (.v (.v (.v (.seq (.v (.block (.loop ⟨[(0,.p 0 1),(2,.p 1 1),(3,.o 2),(4,.i)],[.g [.nil],.g [.own 3],.rows true .poly,.rows true .atom]⟩ .u))) .u)))) OU Tryz.f45 [(78,yV)]:=gm
def QF:Gt aB.z X E [(8,[od 0 [0],od 1 [5],od 2 [22,23],od 3 [24],od 4 [1],od 5 [5],od 6 [26,27],od 7 [28],od 8 [25,29]]),(10,[od 0 [0],od 1 [5],od 2 [31,32],od 3 [33],od 4 [1],od 5 [5],od 6 [35,36],od 7 [37],od 8 [34,38]])] (.v (.v (.seq (.v (.block (.loop ⟨[(0,.r false .i64),(1,.r false .i64),(5,.i)],[]⟩ .u))) .u))) Ju Tryz.f177 []:=gm
def QG:Gt aB.z X E [(6,[od 0 [1],od 1 [21],od 2 [3],od 3 [22,23],od 4 [24],od 5 [25],od 6 [26],od 7 [27],od 8 [3,28],od 9 [28,29],od 10 [28,30],od 11 [1,31],od 12 [31,32],od 13 [3,31],od 14 [31,34],od 15 [31,33,35],od 16 [31,36],od 17 [1,31],od 18 [31,38],od 19 [3,31],od 20 [31,39,40],od 21 [31,41],od 22 [31,37,42],od 23 [28,31,43],od 24 [28,44]])] (.v (.v (.seq (.v (.block (.loop ⟨[(1,.p 0 2),(3,.i)],[.s false .mono]⟩ .u))) .u))) ZE Tryz.f211 [(56,jW)]:=gm
def QH:Gt aB.z X E [(6,[od 0 [1],od 1 [15],od 2 [3],od 3 [16,17],od 4 [18],od 5 [19],od 6 [20],od 7 [21],od 8 [3,22],od 9 [22,23],od 10 [22,24],od 11 [1,25],od 12 [25,26],od 13 [3,25],od 14 [25,28],od 15 [25,27,29],od 16 [25,30],od 17 [25,31],od 18 [1,25],od 19 [25,33],od 20 [3,25],od 21 [25,34,35],od 22 [25,36],od 23 [25,37],od 24 [25,32,38],od 25 [25,39],od 26 [22,25,40],od 27 [22,41]])] (.v (.v (.seq (.v (.block (.loop ⟨[(1,.p 0 1),(3,.i)],[.s false .poly]⟩ .u))) .u))) qN Tryz.f155 [(211,ZE),(177,Ju)]:=gm
def QI:Gt aB.z X E [] .u ZF Tryz.f205 []:=gm
def QJ:Gt aB.z X E [] (.v (.seq (.v (.block (.loop ⟨[(1,.i),(2,.p 0 1),(5,.i)],[.s false .poly]⟩ (.v (.seq (.block (.v (.block (.loop ⟨[(1,.i),(2,.p 0 1),(5,.i),(6,.i)],[.s false .poly]⟩ .u)))) .u))))) .u)) OV Tryz.f206 []:=gm
def QK:Gt aB.z X E [] (.v (.seq (.v (.block (.v (.cond .u (.seq (.v (.cut ⟨[(1,.i),(2,.p 0 4),(6,.i),(16,.b)],[.s false .atom]⟩ (.cond .u .u))) .u))))) .u)) OX Tryz.f149 [(56,jW),(155,qN),(206,OV),(205,ZF)]:=gm
def QL:Gt aB.z X E [(8,[od 0 [2],od 1 [28],od 2 [5],od 3 [29,30],od 4 [31],od 5 [32],od 6 [3],od 7 [34],od 8 [5],od 9 [35,36],od 10 [37],od 11 [38],od 12 [33,39],od 13 [40]]),(11,[od 0 [2],od 1 [44],od 2 [5],od 3 [45,46],od 4 [47],od 5 [48],od 6 [3],od 7 [50],od 8 [5],od 9 [51,52],od 10 [53],od 11 [54],od 12 [49,55]]),(12,[od 0 [2],od 1 [57],od 2 [5],od 3 [58,59],od 4 [60],od 5 [61],od 6 [3],od 7 [63],od 8 [5],od 9 [64,65],od 10 [66],od 11 [67],od 12 [62,68]])] (.v (.v (.seq (.v (.block (.loop ⟨[(2,.p 0 1),(3,.p 1 1),(5,.i)],[.s false .poly,.s false .poly]⟩ .u))) .u))) FB Tryz.f125 [(177,Ju)]:=gm
def QM:Gt aB.z X E [] .u OY Tryz.f150 [(125,FB)]:=gm
def QN:Gt aB.z X E [(11,[od 0 [1],od 1 [29],od 2 [4],od 3 [30,31],od 4 [32],od 5 [1],od 6 [34],od 7 [3],od 8 [35,36],od 9 [37],od 10 [33,38]])] (.v (.v (.seq (.v (.block (.loop ⟨[(1,.p 0 1),(3,.i)],[.s false .tab]⟩ (.v (.seq (.block (.v (.v (.block (.loop ⟨[(1,.p 0 1),(3,.i),(4,.i)],[.s false .tab]⟩ .u))))) .u))))) .u))) FC Tryz.f75 [(149,OX),(150,OY)]:=gm
def QO:Gt ⟨[26],[]⟩ X E [(5,[od 0 [3],od 1 [12],od 2 [0],od 3 [4],od 4 [14,15],od 5 [16],od 6 [17],od 7 [],od 8 [0],od 9 [4],od 10 [20,21],od 11 [22],od 12 [23],(13,([19,24],[1,6])),od 14 [18,25],(15,([26],[1])),od 16 [13,27],od 17 [3],od 18 [28,29]])] (.v (.v (.seq (.v (.block (.loop ⟨[(0,.r false .mono),(2,.p 0 1),(3,.p 1 1),(4,.i)],[.g [.nil],.g [.own 2],.rows true .mono]⟩ .u))) .u))) oP Tryz.f85 []:=gm
def QS:Gt aB.z X E [(1,[od 0 [1],od 1 [3],od 2 [1],od 3 [5],od 4 [1],od 5 [7],od 6 [8],od 8 [1],od 9 [11],od 10 [12],(7,([9],[1,3,10])),(11,([13],[1,3])),od 12 [4,6,10,14],od 13 [2,15]])] .u OZ Tryz.f151 [(85,oP)]:=gm
def QT:Gt ⟨[20],[]⟩ X E [(5,[od 0 [3],od 1 [13],od 2 [1],od 3 [15],od 4 [4],od 5 [16,17],od 6 [18],(7,([19],[1])),(8,([20],[1])),od 9 [14,21],od 10 [3],od 11 [22,23]])] (.v (.v (.seq (.v (.block (.loop ⟨[(1,.p 0 1),(2,.p 1 1),(3,.p 2 1),(4,.i)],[.s false .tab,.g [.nil],.g [.own 3],.rows true .atom]⟩ .u))) .u))) Jv Tryz.f76 [(151,OZ)]:=gm
def QU:Gt ⟨[38],[]⟩ X E [(6,[od 0 [2],od 1 [21],od 2 [6],od 3 [22,23],od 4 [24],od 5 [3],od 6 [25,26]]),(10,[od 0 [2],od 1 [35],od 2 [3],(3,([37],[1])),(4,([38],[1])),od 5 [36,39],od 6 [2],od 7 [40,41]]),(11,[od 0 [2],od 1 [2],od 2 [43],od 3 [44],od 4 [45],(5,([4,42],[2])),od 6 [46]])] (.v (.v (.seq (.v (.block (.loop ⟨[(2,.p 1 1),(3,.p 2 4),(4,.p 3 1),(6,.i)],[.rows true .atom,.g [.own 0],.s false .atom,.g [.nil]]⟩ .u))) .u))) FD Tryz.f77 [(149,OX),(150,OY),(151,OZ)]:=gm
def QV:Gt aB.z X E [] .u ZG Tryz.f79 []:=gm
def QW:Gt aB.z X E [] .u Jw Tryz.f80 [(56,jW)]:=gm
def QX:Gt aB.z X E [(6,[od 0 [3],od 1 [17],od 2 [0],od 3 [7],od 4 [19,20],od 5 [21],od 6 [22],od 7 [18,23],od 8 [24]]),(12,[od 0 [0],od 1 [7],od 2 [37,38],od 3 [39],od 4 [40],od 5 [3],od 6 [42],od 7 [41,43],od 8 [44],od 9 [45]])] (.v (.v (.v (.seq (.v (.block (.loop ⟨[(0,.r false .mono),(3,.p 0 2),(5,.o 1),(6,.b),(7,.i)],[.s false .mono,.rows false .mono]⟩ (.v (.seq (.block (.v (.seq (.v (.cut ⟨[(0,.r false .mono),(3,.p 0 2),(5,.o 1),(6,.b),(7,.i),(8,.i)],[.s false .mono,.rows false .mono]⟩ (.cond .u .u))) (.v (.cut ⟨[(0,.r false .mono),(3,.p 0 2),(5,.o 1),(6,.b),(7,.i)],[.s false .mono,.rows false .mono]⟩ (.cond (.v (.v (.v (.cut ⟨[(0,.r false .mono),(3,.p 0 2),(5,.o 1),(6,.b),(7,.i)],[.s false .mono,.rows false .mono]⟩ (.cond .u .u))))) .u)))))) .u))))) (.seq (.v (.cut ⟨[(5,.o 0)],[.rows false .mono]⟩ (.cond .u .u))) .u))))) O5 Tryz.f248 [(177,Ju),(17,qM)]:=gm
def QY:Gt aB.z X E [] (.v (.v (.seq (.v (.block (.loop ⟨[(0,.r false .mono),(2,.p 0 1),(4,.i)],[.g [.nil]]⟩ .u))) .u))) O6 Tryz.f249 [(85,oP)]:=gm
def QZ:Gt aB.z X E [] (.v (.v (.v (.seq (.v (.block (.loop ⟨[(3,.p 0 1),(4,.p 1 1),(6,.r false .mono),(7,.i)],[.s false .poly,.g [.nil]]⟩ .u))) .u)))) O7 Tryz.f207 [(155,qN),(248,O5),(249,O6)]:=gm
def Q0:Gt aB.z X E [] (.v (.v (.v (.seq (.v (.block (.loop ⟨[(1,.i),(2,.p 0 1),(4,.p 1 1),(5,.o 2),(6,.i)],[.s false .poly,.g [.nil],.rows false .mono]⟩ (.v (.seq (.block (.v (.v (.cut ⟨[(1,.i),(2,.p 0 1),(4,.p 1 1),(5,.o 2),(6,.i)],[.s false .poly,.g [.nil],.rows false .mono]⟩ (.cond .u .u))))) .u))))) .u)))) ZH Tryz.f208 [(155,qN),(17,qM),(85,oP),(55,uz)]:=gm
def Q5:Gt aB.z X E [(6,[od 0 [6],od 1 [0],od 2 [16],od 3 [15,17],od 4 [18],od 5 [0,19],od 6 [6,19],od 7 [19,20,21],od 8 [19,22],od 9 [1,19],od 10 [7,19],od 11 [19,24,25],od 12 [19,26],od 13 [19,23,27],od 14 [19,28]])] (.v (.v (.v (.seq (.v (.block (.loop ⟨[(0,.r false .i64),(1,.r false .i64),(5,.o 0),(6,.i),(7,.i)],[.rows true .i64]⟩ (.v (.seq (.block (.seq (.block (.loop ⟨[(0,.r false .i64),(1,.r false .i64),(5,.o 0),(6,.i),(7,.i)],[.rows true .i64]⟩ .u)) .u)) .u))))) .u)))) ZI Tryz.f250 []:=gm
def Q6:Gt aB.z X E [(10,[od 0 [2],od 1 [34],od 2 [7],od 3 [35,36],od 4 [37],od 5 [38],od 6 [3],od 7 [40],od 8 [8],od 9 [41,42],od 10 [43],od 11 [44],od 12 [39,45],od 13 [46],od 14 [47]]),(12,[od 0 [6],od 1 [9],od 2 [2],od 3 [52],od 4 [7],od 5 [53,54],od 6 [55],od 7 [56],od 8 [3],od 9 [58],od 10 [8],od 11 [59,60],od 12 [61],od 13 [62],od 14 [57,63],od 15 [51,64],od 16 [50,65],od 17 [66]])] (.v (.v (.v (.seq (.v (.block (.loop ⟨[(2,.p 0 1),(3,.p 1 1),(4,.p 2 1),(6,.o 3),(7,.i)],[.s false .poly,.s false .poly,.g [.nil],.rows false .mono]⟩ (.v (.seq (.block (.v (.block (.loop ⟨[(2,.p 0 1),(3,.p 1 1),(4,.p 2 1),(6,.o 3),(7,.i),(8,.i)],[.s false .poly,.s false .poly,.g [.nil],.rows false .mono]⟩ (.v (.seq (.block (.v (.v (.cut ⟨[(2,.p 0 1),(3,.p 1 1),(4,.p 2 1),(6,.o 3),(7,.i),(8,.i)],[.s false .poly,.s false .poly,.g [.nil],.rows false .mono]⟩ (.cond .u .u))))) .u)))))) .u))))) .u)))) O8 Tryz.f209 [(155,qN),(17,qM),(248,O5),(250,ZI),(249,O6)]:=gm
def Q7:Gt aB.z X E [(5,[od 0 [4],od 1 [5],(2,([19],[0])),od 3 [18,20],od 4 [21],od 5 [21],od 6 [6,22],od 7 [23]])] .u ZJ Tryz.f152 [(209,O8),(207,O7),(208,ZH)]:=gm
def Q8:Gt aB.z X E [] .u Jy Tryz.f156 [(155,qN)]:=gm
def Q9:Gt aB.z X E [] .u ZK Tryz.f210 [(85,oP)]:=gm
def Ra:Gt aB.z X E [] .u ZL Tryz.f153 [(125,FB),(85,oP),(161,Fy),(80,Jw),(156,Jy),(210,ZK)]:=gm
def Rb:Gt aB.z X E [(5,[od 0 [4],od 1 [10],(2,([8,36],[1])),od 3 [9,37]]),(12,[od 0 [13],od 1 [14],(2,([65],[0])),od 3 [8,64],od 4 [9,66]])] (.v (.v (.seq (.v (.cut ⟨[(1,.i),(4,.p 1 1),(6,.p 2 1),(7,.p 3 1),(8,.p 4 1),(9,.p 5 1),(10,.p 6 1),(11,.b)],[.rows true .atom,.g [.own 0],.s false .poly,.s false .poly,.g [.nil],.g [.nil],.g [.own 7],.rows true .mono]⟩ (.cond .u .u))) (.v (.v (.seq (.v (.cut ⟨[(4,.p 1 1),(8,.p 2 1),(9,.p 3 1),(12,.p 4 4)],[.rows true .atom,.g [.own 0],.g [.nil],.g [.nil],.g [.i,.i,.rows false .mono,.rows false .mono]]⟩ (.cond .u .u))) .u)))))) O9 Tryz.f81 [(78,yV),(125,FB),(152,ZJ),(153,ZL),(77,FD)]:=gm
def Rc:Gt aB.z X E [] (.v (.v (.seq (.v (.block (.loop ⟨[(0,.r false .ev),(1,.i),(5,.i),(6,.i)],[]⟩ (.v (.seq (.block (.v (.cut ⟨[(0,.r false .ev),(1,.i),(5,.i),(6,.i)],[]⟩ (.cond .u .u)))) .u))))) .u))) ZM Tryz.f154 []:=gm
def Rf:Gt aB.z X E [(5,[od 0 [9],od 1 [10],(2,([25],[0])),od 3 [6,24],od 4 [7,26]])] (.v (.v (.seq (.v (.cut ⟨[(3,.p 1 1),(6,.p 2 1),(7,.p 3 1),(8,.p 4 4)],[.rows true .atom,.g [.own 0],.g [.nil],.g [.nil],.g [.i,.i,.nil,.nil]]⟩ (.cond .u .u))) .u))) ZN Tryz.f82 [(78,yV),(77,FD),(154,ZM)]:=gm
def Rh:Gt aB.z X E [] (.v (.v (.seq (.v (.block (.loop ⟨[(0,.r false .poly),(3,.o 0),(4,.i)],[.rows true .poly]⟩ .u))) .u))) Jz Tryz.f84 [(85,oP)]:=gm
def Ri:Gt aB.z X E [] (.v (.v (.seq (.v (.cut ⟨[(3,.r false .poly),(4,.p 0 5),(6,.p 1 1),(8,.p 2 5),(9,.p 3 5)],[.s false .iop,.s false .poly,.g [.i,.i,.nil,.nil,.nil],.g [.i,.i,.own 4,.nil,.nil],.rows true .mono]⟩ (.cond .u .u))) (.seq (.v (.cut ⟨[(3,.r false .poly),(4,.p 0 5),(8,.p 1 5),(9,.p 2 5)],[.s false .iop,.g [.i,.i,.nil,.nil,.nil],.g [.i,.i,.own 3,.own 4,.nil],.rows true .mono,.rows true .mono]⟩ (.cond .u .u))) (.seq (.v (.cut ⟨[(8,.p 0 5),(9,.p 1 5)],[.g [.i,.i,.nil,.nil,.nil],.g [.i,.i,.own 2,.own 3,.own 4],.rows true .mono,.rows true .mono,.rows true .poly]⟩ (.cond .u .u))) .u))))) ZO Tryz.f83 [(85,oP),(84,Jz)]:=gm
def Rj:Gt aB.z X E [] .u ZP Tryz.f86 []:=gm
def Rk:Gt aB.z X E [] .u ZQ Tryz.f87 []:=gm
def Rl:Gt aB.z X E [] .u Pb Tryz.f157 []:=gm
def Rm:Gt aB.z X E [] (.v (.v (.v (.v (.seq (.block (.seq (.v (.cut ⟨[(1,.i),(2,.p 0 6),(4,.p 1 6),(6,.b),(8,.b),(9,.b),(29,.b)],[.s false .sym,.g [.nil,.nil,.i,.nil,.nil,.i]]⟩ (.cond .u .u))) (.cond .u (.seq (.v (.cut ⟨[(1,.i),(2,.p 0 6),(4,.p 1 6),(54,.b)],[.s false .sym,.g [.nil,.nil,.i,.nil,.nil,.i]]⟩ (.cond .u .u))) .u)))) (.seq (.v (.cut ⟨[(2,.p 0 6),(4,.p 1 6)],[.s false .sym,.g [.nil,.nil,.i,.nil,.nil,.i]]⟩ (.cond .u .u))) .u)))))) ZR Tryz.f158 [(156,Jy),(125,FB),(157,Pb)]:=gm
def Rn:Gt ⟨[53],[]⟩ X E [(9,[od 0 [5],od 1 [36],od 2 [7],od 3 [38],od 4 [7],od 5 [40],od 6 [7],od 7 [42],od 8 [43],od 10 [7],od 11 [46],od 12 [47],od 14 [7],od 15 [50],(9,([44],[1,3,5,12,15])),(13,([48],[1,3,5,15])),(16,([51],[1,3,5])),od 17 [39,41,45,49,52],(18,([53],[1])),od 19 [37,54],od 20 [5],od 21 [55,56]])] (.v (.v (.v (.v (.seq (.v (.block (.loop ⟨[(1,.i),(2,.p 0 6),(4,.p 1 6),(5,.p 2 6),(6,.i)],[.s false .sym,.g [.nil,.nil,.i,.nil,.nil,.i],.g [.own 3,.rows false .poly,.i,.rows false .mono,.rows false .mono,.i],.rows true .ev]⟩ .u))) (.v (.v (.v (.seq (.v (.block (.v (.cut ⟨[(4,.p 0 6),(5,.p 1 6)],[.g [.nil,.nil,.i,.nil,.nil,.i],.g [.own 2,.own 3,.i,.own 4,.own 5,.i],.rows true .ev,.rows true .poly,.rows true .mono,.rows true .mono]⟩ (.cond .u (.seq (.v (.cut ⟨[(1,.i),(4,.p 0 6),(5,.p 1 6),(85,.b)],[.g [.nil,.nil,.i,.nil,.nil,.i],.g [.own 2,.own 3,.i,.own 4,.own 5,.i],.rows true .ev,.rows true .poly,.rows true .mono,.rows true .mono]⟩ (.cond .u .u))) .u)))))) .u))))))))) ZT Tryz.f88 [(156,Jy),(155,qN),(85,oP),(157,Pb),(158,ZR),(84,Jz)]:=gm
def Ro:Gt ⟨[116],[]⟩ X E [(25,[od 0 [7],od 1 [110],od 2 [15],od 3 [16],od 4 [17],od 5 [9],(6,([112,113,114,115],[1])),(7,([116],[1])),od 8 [111,117],od 9 [7],od 10 [118,119]]),(40,[od 0 [6],od 1 [7],od 2 [3],od 3 [175],od 4 [3],od 5 [177],od 6 [176,178],(7,([174,179],[0])),od 8 [4,173],od 9 [5,180]])] (.v (.v (.v (.v (.v (.seq (.v (.block (.loop ⟨[(3,.p 0 7),(4,.p 1 1),(5,.p 2 6),(6,.p 3 1),(7,.p 4 6),(9,.o 5),(10,.i)],[.s false .blk,.g [.nil],.g [.nil,.nil,.i,.nil,.nil,.i],.g [.own 6],.g [.nil,.nil,.i,.nil,.nil,.i],.rows true .poly,.rows true .atom]⟩ .u))) (.v (.seq (.v (.block (.loop ⟨[(3,.p 0 7),(4,.p 1 1),(5,.p 2 6),(6,.p 3 1),(7,.p 4 6),(9,.o 5),(13,.o 6),(14,.i)],[.s false .blk,.g [.nil],.g [.nil,.nil,.i,.nil,.nil,.i],.g [.own 7],.g [.own 8,.nil,.i,.nil,.nil,.i],.rows false .poly,.rows false .poly,.rows true .atom,.rows true .ev]⟩ (.v (.seq (.block (.v (.v (.v (.v (.seq (.v (.block (.v (.cut ⟨[(3,.p 0 7),(4,.p 1 1),(5,.p 2 6),(6,.p 3 1),(7,.p 4 6),(9,.o 5),(13,.o 6),(14,.i),(18,.p 7 1)],[.s false .blk,.g [.nil],.g [.nil,.nil,.i,.nil,.nil,.i],.g [.own 8],.g [.own 9,.nil,.i,.nil,.nil,.i],.rows false .poly,.rows false .poly,.s false .poly,.rows true .atom,.rows true .ev]⟩ (.cond .u (.v (.cut ⟨[(3,.p 0 7),(4,.p 1 1),(5,.p 2 6),(6,.p 3 1),(7,.p 4 6),(9,.o 5),(13,.o 6),(14,.i),(18,.p 7 1)],[.s false .blk,.g [.nil],.g [.nil,.nil,.i,.nil,.nil,.i],.g [.own 8],.g [.own 9,.nil,.i,.nil,.nil,.i],.rows false .poly,.rows false .poly,.s false .poly,.rows true .atom,.rows true .ev]⟩ (.cond .u (.v (.cut ⟨[(3,.p 0 7),(4,.p 1 1),(5,.p 2 6),(6,.p 3 1),(7,.p 4 6),(9,.o 5),(13,.o 6),(14,.i),(18,.p 7 1)],[.s false .blk,.g [.nil],.g [.nil,.nil,.i,.nil,.nil,.i],.g [.own 8],.g [.own 9,.nil,.i,.nil,.nil,.i],.rows false .poly,.rows false .poly,.g [.own 10],.rows true .atom,.rows true .ev,.rows true .mono]⟩ (.cond .u (.v (.cut ⟨[(3,.p 0 7),(4,.p 1 1),(5,.p 2 6),(6,.p 3 1),(7,.p 4 6),(9,.o 5),(13,.o 6),(14,.i),(18,.p 7 1)],[.s false .blk,.g [.nil],.g [.nil,.nil,.i,.nil,.nil,.i],.g [.own 8],.g [.own 9,.nil,.i,.nil,.nil,.i],.rows false .poly,.rows false .poly,.g [.own 10],.rows true .atom,.rows true .ev,.rows true .mono]⟩ (.cond .u (.seq (.v (.cut ⟨[(3,.p 0 7),(4,.p 1 1),(5,.p 2 6),(6,.p 3 1),(7,.p 4 6),(9,.o 5),(13,.o 6),(14,.i),(15,.p 7 5),(16,.p 8 1),(17,.p 9 1),(18,.p 10 1)],[.s false .blk,.g [.nil],.g [.nil,.nil,.i,.nil,.nil,.i],.g [.own 11],.g [.own 12,.nil,.i,.nil,.nil,.i],.rows false .poly,.rows false .poly,.s false .iop,.s false .poly,.s false .poly,.g [.own 13],.rows true .atom,.rows true .ev,.rows true .mono]⟩ (.cond .u .u))) .u))))))))))))))) .u)))))) .u))))) .u)))))))) ZU Tryz.f21 [(24,uD),(78,yV),(80,Jw),(88,ZT),(45,OU),(75,FC),(85,oP),(76,Jv),(81,O9),(77,FD),(82,ZN),(83,ZO),(79,ZG),(84,Jz),(86,ZP),(87,ZQ)]:=gm
end Go.TX.F
end
noncomputable section
namespace Go.TX.F
open Go Go.AE Go.TX Go.TX.Seat Go.Proofs
set_option maxRecDepth 100000
set_option maxHeartbeats 4000000
def abv:Gt aB.z X E [] .u ah7 Tryz.f12 [(47,z8)]:=gm
def Rp:Gt aB.z X E [] (.v (.seq (.v (.block (.loop ⟨[(0,.r false .i64),(3,.i)],[]⟩ .u))) .u)) FH Tryz.f54 [(55,uz)]:=gm
def Rq:Gt aB.z X E [] (.v (.v (.v (.seq (.v (.block (.loop ⟨[(0,.r false .i64),(4,.p 0 10),(5,.p 1 10),(6,.i)],[.g [.nil,.i,.nil,.i,.bool,.bool,.i,.nil,.nil,.i],.g [.own 2,.i,.own 3,.i,.bool,.bool,.i,.own 4,.nil,.i],.rows true .i64,.rows true .i64,.rows true .i64]⟩ (.v (.seq (.block (.v (.seq (.v (.cut ⟨[(0,.r false .i64),(4,.p 0 10),(5,.p 1 10),(6,.i),(7,.i)],[.g [.nil,.i,.nil,.i,.bool,.bool,.i,.nil,.nil,.i],.g [.own 2,.i,.own 3,.i,.bool,.bool,.i,.own 4,.nil,.i],.rows true .i64,.rows true .i64,.rows true .i64]⟩ (.cond .u .u))) .u))) .u))))) .u)))) ZV Tryz.f180 [(54,FH)]:=gm
def Rs:Gt aB.z X E [] .u Pf Tryz.f164 [(178,Fw)]:=gm
def Rt:Gt aB.z X E [] (.v (.v (.seq (.v (.block (.loop ⟨[(0,.r false .ins),(3,.o 0),(4,.i)],[.rows true .i64]⟩ .u))) .u))) ZW Tryz.f100 [(164,Pf)]:=gm
def Rv:Gt aB.z X E [] .u JA Tryz.f108 [(48,gI)]:=gm
def Rw:Gt aB.z X E [] (.v (.v (.v (.seq (.v (.block (.loop ⟨[(0,.p 0 2),(1,.i),(6,.o 1),(7,.i)],[.g [.rows true .u8,.i],.rows true .ins]⟩ (.v (.seq (.block (.v (.seq (.v (.cut ⟨[(0,.p 0 2),(1,.i),(6,.o 1),(7,.i),(8,.p 2 4)],[.g [.rows true .u8,.i],.rows true .ins,.g [.i,.i,.i,.i]]⟩ (.cond .u .u))) .u))) .u))))) .u)))) ZX Tryz.f232 [(163,Jt),(48,gI)]:=gm
def Rx:Gt aB.z X E [] .u ZY Tryz.f233 [(48,gI)]:=gm
def Ry:Gt aB.z X E [] (.v (.v (.seq (.v (.cut ⟨[(0,.p 0 2),(3,.o 1)],[.g [.rows true .u8,.i],.rows true .ins]⟩ (.cond .u .u))) (.seq (.v (.block (.loop ⟨[(0,.p 0 2),(3,.o 1),(4,.i)],[.g [.rows true .u8,.i],.rows true .ins]⟩ (.v (.seq (.block (.v (.block (.v (.cut ⟨[(0,.p 0 2),(3,.o 1),(4,.i)],[.g [.rows true .u8,.i],.rows true .ins]⟩ (.cond .u (.v (.cut ⟨[(0,.p 0 2),(3,.o 1),(4,.i)],[.g [.rows true .u8,.i],.rows true .ins]⟩ (.cond .u (.v (.block (.loop ⟨[(0,.p 0 2),(3,.o 1),(4,.i),(5,.i)],[.g [.rows true .u8,.i],.rows true .ins]⟩ .u)))))))))))) .u))))) (.v (.v (.seq (.block (.loop ⟨[(0,.p 0 2),(6,.o 1)],[.g [.rows true .u8,.i],.rows true .i64]⟩ .u)) (.v (.seq (.v (.block (.loop ⟨[(0,.p 0 2),(6,.o 1),(7,.i)],[.g [.rows true .u8,.i],.rows true .i64]⟩ .u))) (.v (.seq (.v (.cut ⟨[(6,.o 1)],[.g [.rows true .u8,.i],.rows true .i64]⟩ (.cond .u .u))) .u))))))))))) Z0 Tryz.f181 [(100,ZW),(164,Pf),(232,ZX),(163,Jt),(216,Ov),(233,ZY),(52,yU),(48,gI),(108,JA)]:=gm
def Rz:Gt aB.z X E [] (.v (.v (.seq (.v (.block (.loop ⟨[(0,.p 0 2),(1,.i),(5,.o 1),(6,.i)],[.g [.rows true .u8,.i],.rows true .i64]⟩ .u))) .u))) Z4 Tryz.f182 [(108,JA)]:=gm
def RA:Gt aB.z X E [] .u JB Tryz.f14 [(55,uz),(56,jW),(54,FH)]:=gm
def RD:Gt aB.z X E [] .u Ph Tryz.f234 []:=gm
def RF:Gt aB.z X E [] .u Z5 Tryz.f259 [(178,Fw),(55,uz)]:=gm
def RG:Gt aB.z X E [] (.v (.v (.seq (.v (.cut ⟨[(2,.p 3 10),(4,.p 4 10)],[.rows true .i64,.rows true .i64,.rows true .i64,.g [.own 0,.i,.own 1,.i,.bool,.bool,.i,.rows true .i64,.own 2,.i],.g [.nil,.i,.nil,.i,.bool,.bool,.i,.nil,.nil,.i]]⟩ (.cond .u .u))) .u))) Z6 Tryz.f261 []:=gm
def RH:Gt aB.z X E [] .u JC Tryz.f262 []:=gm
def RL:Gt aB.z X E [] .u BM Tryz.f281 [(17,qM)]:=gm
def RN:Gt aB.z X E [] (.v (.seq (.v (.block (.v (.cond .u (.v (.cut ⟨[(2,.p 3 10),(4,.p 4 10)],[.rows true .i64,.rows true .i64,.rows true .i64,.g [.own 0,.i,.own 1,.i,.bool,.bool,.i,.rows true .i64,.own 2,.i],.g [.nil,.i,.nil,.i,.bool,.bool,.i,.nil,.nil,.i]]⟩ (.cond .u (.v (.cut ⟨[(2,.p 3 10),(4,.p 4 10)],[.rows true .i64,.rows true .i64,.rows true .i64,.g [.own 0,.i,.own 1,.i,.bool,.bool,.i,.rows true .i64,.own 2,.i],.g [.nil,.i,.nil,.i,.bool,.bool,.i,.nil,.nil,.i]]⟩ (.cond .u .u)))))))))) .u)) Z7 Tryz.f277 [(262,JC),(281,BM)]:=gm
def RO:Gt aB.z X E [] .u JD Tryz.f278 [(281,BM)]:=gm
def RQ:Gt aB.z X E [] (.v (.v (.seq (.v (.block (.loop ⟨[(1,.i),(5,.i),(6,.i)],[]⟩ .u))) .u))) Z8 Tryz.f279 [(17,qM)]:=gm
def RS:Gt aB.z X E [(1,[od 0 [2],od 1 [6],od 2 [3],od 3 [8],od 4 [7,9],od 5 [10],od 6 [3],od 7 [12],od 8 [11,13],od 9 [14],od 10 [15]]),(5,[od 0 [2],od 1 [3],od 2 [24],od 3 [2],od 4 [26],od 5 [5],od 6 [27,28],od 7 [29],od 8 [23,25,30],od 9 [4,31]]),(6,[od 0 [2],od 1 [32],od 2 [5],od 3 [2],od 4 [35],od 5 [3],od 6 [37],od 7 [36,38],od 8 [39],od 9 [33,34],od 10 [40,41]])] .u Z9 Tryz.f280 [(17,qM),(262,JC),(281,BM),(278,JD)]:=gm
def RU:Gt aB.z X E [(2,[od 0 [2],od 1 [9],od 2 [2],od 3 [11],od 4 [3],od 5 [13],od 6 [12,14],od 7 [15],od 8 [16],od 9 [10,17],od 10 [2],od 11 [18,19]])] (.v (.v (.v (.seq (.v (.cut ⟨[(2,.p 3 10),(3,.p 4 4),(4,.p 5 10),(5,.i)],[.rows true .i64,.rows true .i64,.rows true .i64,.g [.own 0,.i,.own 1,.i,.bool,.bool,.i,.rows true .i64,.own 2,.i],.s false .ins,.g [.nil,.i,.nil,.i,.bool,.bool,.i,.nil,.nil,.i]]⟩ (.cond .u .u))) .u)))) aac Tryz.f282 [(281,BM),(278,JD)]:=gm
def RV:Gt aB.z X E [(10,[od 0 [2],od 1 [3],od 2 [38],od 3 [5],od 4 [3],od 5 [41],(6,([40,42],[0,2])),od 7 [37,39,43],od 8 [4,44]]),(27,[od 0 [2],od 1 [3],od 2 [101],od 3 [3],od 4 [103],od 5 [104],od 6 [105],od 7 [5],od 8 [2],od 9 [108],od 10 [3],od 11 [110],od 12 [109,111],od 13 [112],(14,([106,107,113],[0,2])),od 15 [100,102,114],od 16 [4,115]])] (.v (.v (.seq (.v (.block (.v (.cond .u (.v (.cond .u (.v (.cond .u (.v (.cond .u (.seq (.v (.cut ⟨[(2,.p 3 10),(3,.p 4 4),(4,.p 5 10),(5,.i),(13,.i),(45,.b)],[.rows true .i64,.rows true .i64,.rows true .i64,.g [.own 0,.i,.own 1,.i,.bool,.bool,.i,.rows true .i64,.own 2,.i],.s false .ins,.g [.nil,.i,.nil,.i,.bool,.bool,.i,.nil,.nil,.i]]⟩ (.cond .u .u))) (.cond .u (.v (.cond .u (.v (.cond .u (.v (.cond .u (.seq (.v (.cut ⟨[(2,.p 3 10),(3,.p 4 4),(4,.p 5 10),(5,.i),(94,.b)],[.rows true .i64,.rows true .i64,.rows true .i64,.g [.own 0,.i,.own 1,.i,.bool,.bool,.i,.rows true .i64,.own 2,.i],.s false .ins,.g [.nil,.i,.nil,.i,.bool,.bool,.i,.nil,.nil,.i]]⟩ (.cond .u .u))) .u))))))))))))))))))) .u))) aad Tryz.f263 [(161,Fy),(281,BM),(282,aac),(280,Z9),(278,JD),(279,Z8),(277,Z7)]:=gm
def RX:Gt aB.z X E [] .u aae Tryz.f235 [(259,Z5),(14,JB),(234,Ph),(263,aad),(262,JC),(261,Z6)]:=gm
def RY:Gt aB.z X E [] (.v (.seq (.v (.block (.loop ⟨[(0,.r false .i64),(1,.i),(5,.i)],[]⟩ .u))) .u)) aaf Tryz.f236 []:=gm
def RZ:Gt aB.z X E [(7,[od 0 [7],od 1 [1],od 2 [7],od 3 [36],(4,([35,37],[0])),od 5 [34,38],od 6 [7,39]])] (.v (.v (.v (.seq (.v (.block (.loop ⟨[(1,.r false .i64),(2,.i),(6,.p 0 10),(7,.p 1 10),(8,.i)],[.g [.nil,.i,.nil,.i,.bool,.bool,.i,.nil,.nil,.i],.g [.own 2,.i,.own 3,.i,.bool,.bool,.i,.rows true .i64,.own 4,.i],.rows true .i64,.rows true .i64,.rows true .i64]⟩ .u))) .u)))) aag Tryz.f183 [(14,JB),(235,aae),(234,Ph),(236,aaf)]:=gm
def R3:Gt aB.z X E [] (.v (.v (.seq (.v (.block (.loop ⟨[(0,.p 0 2),(3,.o 1),(4,.i)],[.g [.rows true .u8,.i],.rows true .i64]⟩ .u))) .u))) aah Tryz.f184 [(48,gI)]:=gm
def R4:Gt aB.z X E [(2,[od 0 [3],od 1 [0],od 3 [0],(2,([12],[0])),(4,([14],[0])),od 5 [11,13,15],od 6 [3,16]])] (.v (.v (.v (.seq (.v (.cut ⟨[(0,.p 0 2),(2,.p 1 10),(3,.p 2 10)],[.g [.rows true .u8,.i],.g [.nil,.i,.nil,.i,.bool,.bool,.i,.nil,.nil,.i],.g [.own 3,.i,.own 4,.i,.bool,.bool,.i,.rows true .i64,.own 5,.i],.rows true .i64,.rows true .i64,.rows true .i64]⟩ (.cond .u .u))) (.seq (.v (.cut ⟨[(0,.p 0 2),(2,.p 1 10),(3,.p 2 10)],[.g [.rows true .u8,.i],.g [.nil,.i,.nil,.i,.bool,.bool,.i,.nil,.nil,.i],.g [.own 3,.i,.own 4,.i,.bool,.bool,.i,.rows true .i64,.own 5,.i],.rows true .i64,.rows true .i64,.rows true .i64]⟩ (.cond .u .u))) (.seq (.v (.cut ⟨[(0,.p 0 2),(2,.p 1 10),(3,.p 2 10)],[.g [.rows true .u8,.i],.g [.nil,.i,.nil,.i,.bool,.bool,.i,.nil,.nil,.i],.g [.own 3,.i,.own 4,.i,.bool,.bool,.i,.rows true .i64,.own 5,.i],.rows true .i64,.rows true .i64,.rows true .i64]⟩ (.cond .u .u))) (.seq (.v (.cut ⟨[(2,.p 1 10),(3,.p 2 10)],[.g [.rows true .u8,.i],.g [.nil,.i,.nil,.i,.bool,.bool,.i,.nil,.nil,.i],.g [.own 3,.i,.own 4,.i,.bool,.bool,.i,.rows true .i64,.own 5,.i],.rows true .i64,.rows true .i64,.rows true .i64]⟩ (.cond .u .u))) .u))))))) Pj Tryz.f129 [(180,ZV),(183,aag),(181,Z0),(184,aah),(52,yU),(48,gI),(182,Z4)]:=gm
end Go.TX.F
end
noncomputable section
namespace Go.TX.F
open Go Go.AE Go.TX Go.TX.Seat Go.Proofs
set_option maxRecDepth 100000
set_option maxHeartbeats 4000000
def R5:Gt aB.z X E [(8,[od 0 [5],od 1 [20],od 2 [6],od 3 [3],od 4 [23],od 5 [24],od 6 [3],od 7 [26],od 8 [3],od 9 [28],od 10 [27,29],od 11 [30],od 12 [0],od 15 [0],(13,([32],[1,4,7,9])),od 14 [25,31,33],(16,([35],[1,4,7,9])),od 17 [34,36],od 18 [37],od 19 [21,22],od 20 [38,39]])] (.v (.v (.v (.v (.seq (.v (.block (.loop ⟨[(0,.p 0 2),(3,.p 1 7),(4,.p 2 10),(5,.p 3 10),(6,.i)],[.g [.rows true .u8,.i],.s false .blk,.g [.nil,.i,.nil,.i,.bool,.bool,.i,.nil,.nil,.i],.g [.own 4,.i,.own 5,.i,.bool,.bool,.i,.rows true .i64,.own 6,.i],.rows true .i64,.rows true .i64,.rows true .i64]⟩ (.v (.seq (.block (.v (.cut ⟨[(0,.p 0 2),(3,.p 1 7),(4,.p 2 10),(5,.p 3 10),(6,.i)],[.g [.rows true .u8,.i],.s false .blk,.g [.nil,.i,.nil,.i,.bool,.bool,.i,.nil,.nil,.i],.g [.own 4,.i,.own 5,.i,.bool,.bool,.i,.rows true .i64,.own 6,.i],.rows true .i64,.rows true .i64,.rows true .i64]⟩ (.cond .u .u)))) .u))))) .u))))) Pm Tryz.f51 [(129,Pj),(48,gI)]:=gm
def R6:Gt aB.z X E [(2,[od 0 [0],od 4 [4],od 5 [4],od 6 [17],od 7 [18],od 8 [16,19],od 1 [12],od 2 [13],od 3 [14],od 9 [15,20],od 10 [21]]),(15,[od 0 [9],od 1 [69],od 2 [7],od 3 [5],od 4 [71,72],od 5 [0],od 6 [4],od 7 [75],od 8 [5],od 9 [76,77],od 10 [78],(11,([74,79],[1])),od 12 [73,80],od 13 [70],od 14 [81,82]]),(16,[od 0 [8],od 1 [9],(2,([2,83],[1])),od 3 [3,84]])] (.v (.v (.v (.v (.seq (.seq (.cut ⟨[(0,.p 0 2),(2,.p 1 7),(3,.p 2 10),(4,.o 3),(5,.i),(29,.b)],[.g [.rows true .u8,.i],.g [.i,.i,.nil,.i,.i,.i,.i],.g [.nil,.i,.nil,.i,.bool,.bool,.i,.nil,.nil,.i],.rows true .ins]⟩ .u) (.cut ⟨[(0,.p 0 2),(2,.p 1 7),(3,.p 2 10),(4,.o 3),(5,.i)],[.g [.rows true .u8,.i],.g [.i,.i,.nil,.i,.i,.i,.i],.g [.nil,.i,.nil,.i,.bool,.bool,.i,.nil,.nil,.i],.rows true .ins]⟩ (.cond (.v (.v (.cut ⟨[(0,.p 0 2),(2,.p 1 7),(3,.p 2 10),(4,.o 3),(5,.i)],[.g [.rows true .u8,.i],.g [.i,.i,.nil,.i,.i,.i,.i],.g [.nil,.i,.nil,.i,.bool,.bool,.i,.nil,.nil,.i],.rows true .ins]⟩ (.cond .u .u)))) .u))) (.v (.v (.seq (.v (.cut ⟨[(0,.p 0 2),(2,.p 1 7),(3,.p 2 10),(4,.o 3),(5,.i),(7,.i),(8,.p 4 7)],[.g [.rows true .u8,.i],.g [.i,.i,.nil,.i,.i,.i,.i],.g [.nil,.i,.nil,.i,.bool,.bool,.i,.nil,.nil,.i],.rows true .ins,.g [.i,.i,.own 5,.i,.i,.i,.i],.rows true .iop]⟩ (.cond .u .u))) .u)))))))) aai Tryz.f49 [(101,Oz),(116,OE),(48,gI),(51,Pm),(99,Ow),(127,Js)]:=gm
def R7:Gt aB.z X E [(12,[od 0 [5],od 1 [42],od 2 [0],od 3 [5],od 4 [45],od 5 [46],(6,([44,47],[1])),od 7 [43,48],od 8 [49]])] (.v (.v (.seq (.v (.cut ⟨[(4,.p 1 10),(5,.p 2 10)],[.g [.rows true .u8,.i],.g [.nil,.i,.nil,.i,.bool,.bool,.i,.nil,.nil,.i],.g [.own 3,.i,.rows true .i64,.i,.bool,.bool,.i,.rows true .i64,.own 4,.i],.rows true .i64,.rows true .i64]⟩ (.cond (.v (.block (.v (.cut ⟨[(4,.p 1 10),(5,.p 2 10)],[.g [.rows true .u8,.i],.g [.nil,.i,.nil,.i,.bool,.bool,.i,.nil,.nil,.i],.g [.own 3,.i,.rows true .i64,.i,.bool,.bool,.i,.rows true .i64,.own 4,.i],.rows true .i64,.rows true .i64]⟩ (.cond .u (.v (.cut ⟨[(4,.p 1 10),(5,.p 2 10)],[.g [.rows true .u8,.i],.g [.nil,.i,.nil,.i,.bool,.bool,.i,.nil,.nil,.i],.g [.own 3,.i,.rows true .i64,.i,.bool,.bool,.i,.rows true .i64,.own 4,.i],.rows true .i64,.rows true .i64]⟩ (.cond .u (.v (.cut ⟨[(4,.p 1 10),(5,.p 2 10)],[.g [.rows true .u8,.i],.g [.nil,.i,.nil,.i,.bool,.bool,.i,.nil,.nil,.i],.g [.own 3,.i,.rows true .i64,.i,.bool,.bool,.i,.rows true .i64,.own 4,.i],.rows true .i64,.rows true .i64]⟩ (.cond .u (.v (.cut ⟨[(4,.p 1 10),(5,.p 2 10)],[.g [.rows true .u8,.i],.g [.nil,.i,.nil,.i,.bool,.bool,.i,.nil,.nil,.i],.g [.own 3,.i,.own 4,.i,.bool,.bool,.i,.rows true .i64,.own 5,.i],.rows true .i64,.rows true .i64,.rows true .i64]⟩ (.cond .u (.v (.cut ⟨[(4,.p 1 10),(5,.p 2 10)],[.g [.rows true .u8,.i],.g [.nil,.i,.nil,.i,.bool,.bool,.i,.nil,.nil,.i],.g [.own 3,.i,.own 4,.i,.bool,.bool,.i,.rows true .i64,.own 5,.i],.rows true .i64,.rows true .i64,.rows true .i64]⟩ (.cond .u (.v (.cut ⟨[(4,.p 1 10),(5,.p 2 10)],[.g [.rows true .u8,.i],.g [.nil,.i,.nil,.i,.bool,.bool,.i,.nil,.nil,.i],.g [.own 3,.i,.own 4,.i,.bool,.bool,.i,.rows true .i64,.own 5,.i],.rows true .i64,.rows true .i64,.rows true .i64]⟩ (.cond .u (.v (.cut ⟨[(4,.p 1 10),(5,.p 2 10)],[.g [.rows true .u8,.i],.g [.nil,.i,.nil,.i,.bool,.bool,.i,.nil,.nil,.i],.g [.own 3,.i,.own 4,.i,.bool,.bool,.i,.rows true .i64,.own 5,.i],.rows true .i64,.rows true .i64,.rows true .i64]⟩ (.cond .u .u))))))))))))))))))))))) .u))) .u))) aaj Tryz.f53 [(129,Pj),(52,yU),(48,gI)]:=gm
def R8:Gt aB.z X E [(8,[od 0 [5],od 1 [6],(2,([2,25],[1])),od 3 [3,26]])] (.v (.v (.v (.v (.v (.seq (.v (.cut ⟨[(2,.p 0 7),(3,.p 1 10),(5,.p 2 7),(6,.p 3 10)],[.g [.i,.i,.nil,.i,.i,.i,.i],.g [.nil,.i,.nil,.i,.bool,.bool,.i,.nil,.nil,.i],.s true .blk,.g [.own 4,.i,.rows true .i64,.i,.bool,.bool,.i,.rows true .i64,.own 5,.i],.rows true .i64,.rows true .i64]⟩ (.cond .u .u))) .u)))))) aak Tryz.f13 [(53,aaj),(40,OH),(52,yU),(48,gI),(51,Pm),(50,OG),(49,aai)]:=gm
def abw:Gt aB.z X E [] (.v (.seq (.v (.block (.loop ⟨[(5,.r false .i64),(6,.i),(7,.i)],[]⟩ .u))) .u)) ah8 Tryz.f130 [(47,z8)]:=gm
def abx:Gt aB.z X E [] .u ah9 Tryz.f57 [(47,z8),(60,lu),(130,ah8)]:=gm
def aby:Gt aB.z X E [(1,[od 0 [1],od 1 [3],od 3 [1],od 4 [6],od 6 [1],od 7 [9],od 9 [1],od 10 [12],(2,([4],[4,7,10])),od 12 [1],(5,([7],[7,10])),(8,([10],[10])),od 11 [13],od 13 [5,15],od 14 [1],od 15 [8,16],od 16 [1],od 17 [11,17],od 18 [1],od 19 [14,18]])] .u aia Tryz.f58 [(131,VA)]:=gm
def abz:Gt aB.z X E [] .u aib Tryz.f133 []:=gm
def abA:Gt aB.z X E [(7,[od 0 [4],od 1 [6],od 2 [24],od 3 [23,25],od 4 [26],od 5 [4],od 6 [6],od 7 [29],od 8 [28,30],od 9 [31],od 10 [27],od 11 [32]]),(10,[od 0 [1],od 1 [48],od 2 [49],od 3 [50],od 4 [6],od 5 [52],od 6 [51,53],od 7 [48],od 8 [55],od 9 [54,56]]),(11,[od 0 [1],od 1 [57],od 2 [58],od 3 [59],od 4 [6],od 5 [61],od 6 [60,62],od 7 [57],od 8 [64],od 9 [63,65]]),(16,[od 0 [4],od 1 [5],od 2 [1],od 3 [79],od 4 [80],od 5 [81],od 6 [6],od 7 [83],od 8 [82,84],od 9 [85],od 10 [77,78],od 11 [86,87]]),(24,[od 0 [1],od 1 [133],od 2 [134],od 3 [135],od 4 [6],od 5 [137],od 6 [138],od 7 [136,139],od 8 [133],od 9 [141],od 10 [140,142]]),(25,[od 0 [1],od 1 [143],od 2 [144],od 3 [145],od 4 [6],od 5 [147],od 6 [148],od 7 [146,149],od 8 [143],od 9 [151],od 10 [150,152]]),(31,[od 0 [1],od 1 [174],od 2 [175],od 3 [176],od 4 [6],od 5 [178],od 6 [7],od 7 [177,179],od 8 [180,181]]),(33,[od 0 [1],od 1 [183],od 2 [184],od 3 [185],od 4 [2],od 5 [187],od 6 [186,188],od 7 [183],od 8 [190],od 9 [189,191]]),(36,[od 0 [2],od 1 [202],od 2 [203],od 3 [204],od 4 [4],od 5 [2],od 6 [207],od 7 [206,208],od 8 [209],od 9 [4],od 10 [2],od 11 [212],od 12 [211,213],od 13 [214],od 14 [205,210,215]])] (.v (.v (.seq (.v (.block (.loop ⟨[(1,.p 0 10),(2,.p 4 7),(4,.o 5),(14,.r false .iop),(15,.i),(16,.i)],[.g [.own 1,.i,.own 2,.i,.bool,.bool,.i,.rows true .i64,.own 6,.i],.rows true .i64,.rows true .i64,.gone,.s false .blk,.rows true .i64,.rows true .i64]⟩ (.v (.v (.seq (.block (.v (.v (.seq (.v (.cut ⟨[(1,.p 0 10),(2,.p 4 7),(4,.o 5),(5,.i),(6,.p 6 5),(7,.i),(8,.i),(14,.r false .iop),(15,.i),(16,.i)],[.g [.own 1,.i,.own 2,.i,.bool,.bool,.i,.rows true .i64,.own 7,.i],.rows true .i64,.rows true .i64,.gone,.s false .blk,.rows true .i64,.s false .iop,.rows true .i64]⟩ (.cond .u .u))) (.v (.v (.block (.v (.cut ⟨[(1,.p 0 10),(2,.p 4 7),(4,.o 5),(14,.r false .iop),(15,.i),(16,.i)],[.g [.own 1,.i,.own 2,.i,.bool,.bool,.i,.rows true .i64,.own 6,.i],.rows true .i64,.rows true .i64,.gone,.s false .blk,.rows true .i64,.rows true .i64]⟩ (.cond .u (.v (.cut ⟨[(1,.p 0 10),(2,.p 4 7),(4,.o 5),(14,.r false .iop),(15,.i),(16,.i)],[.g [.own 1,.i,.own 2,.i,.bool,.bool,.i,.rows true .i64,.own 6,.i],.rows true .i64,.rows true .i64,.gone,.s false .blk,.rows true .i64,.rows true .i64]⟩ (.cond .u (.v (.cut ⟨[(1,.p 0 10),(2,.p 4 7),(4,.o 5),(14,.r false .iop),(15,.i),(16,.i)],[.g [.own 1,.i,.own 2,.i,.bool,.bool,.i,.rows true .i64,.own 6,.i],.rows true .i64,.rows true .i64,.gone,.s false .blk,.rows true .i64,.rows true .i64]⟩ (.cond .u (.v (.cut ⟨[(1,.p 0 10),(2,.p 4 7),(4,.o 5),(14,.r false .iop),(15,.i),(16,.i)],[.g [.own 1,.i,.own 2,.i,.bool,.bool,.i,.rows true .i64,.own 6,.i],.rows true .i64,.rows true .i64,.gone,.s false .blk,.rows true .i64,.rows true .i64]⟩ (.cond .u (.v (.cut ⟨[(1,.p 0 10),(2,.p 4 7),(4,.o 5),(14,.r false .iop),(15,.i),(16,.i)],[.g [.own 1,.i,.own 2,.i,.bool,.bool,.i,.rows true .i64,.own 6,.i],.rows true .i64,.rows true .i64,.gone,.s false .blk,.rows true .i64,.rows true .i64]⟩ (.cond .u (.v (.cut ⟨[(1,.p 0 10),(2,.p 4 7),(4,.o 5),(14,.r false .iop),(15,.i),(16,.i)],[.g [.own 1,.i,.own 2,.i,.bool,.bool,.i,.rows true .i64,.own 6,.i],.rows true .i64,.rows true .i64,.gone,.s false .blk,.rows true .i64,.rows true .i64]⟩ (.cond .u (.v (.cut ⟨[(1,.p 0 10),(2,.p 4 7),(4,.o 5),(14,.r false .iop),(15,.i),(16,.i)],[.g [.own 1,.i,.own 2,.i,.bool,.bool,.i,.rows true .i64,.own 6,.i],.rows true .i64,.rows true .i64,.gone,.s false .blk,.rows true .i64,.rows true .i64]⟩ (.cond .u (.v (.cut ⟨[(1,.p 0 10),(2,.p 4 7),(4,.o 5),(14,.r false .iop),(15,.i),(16,.i)],[.g [.own 1,.i,.own 2,.i,.bool,.bool,.i,.rows true .i64,.own 6,.i],.rows true .i64,.rows true .i64,.gone,.s false .blk,.rows true .i64,.rows true .i64]⟩ (.cond .u .u))))))))))))))))))))))))))))))) .u)))))) (.v (.v (.block (.v (.cut ⟨[],[.g [.own 1,.i,.own 2,.i,.bool,.bool,.i,.rows true .i64,.own 4,.i],.rows true .i64,.rows true .i64,.gone,.rows true .i64]⟩ (.cond .u (.v (.cut ⟨[],[.g [.own 1,.i,.own 2,.i,.bool,.bool,.i,.rows true .i64,.own 4,.i],.rows true .i64,.rows true .i64,.gone,.rows true .i64]⟩ (.cond .u (.v (.v (.cut ⟨[],[.g [.own 1,.i,.own 2,.i,.bool,.bool,.i,.rows true .i64,.own 4,.i],.rows true .i64,.rows true .i64,.gone,.rows true .i64]⟩ (.cond .u .u)))))))))))))))) aic Tryz.f59 [(133,aib),(132,Zo),(134,ZB),(60,lu)]:=gm
def abB:Gt aB.z X E [] .u aie Tryz.f15 [(59,aic),(18,Zh),(58,aia),(57,ah9)]:=gm
def abC:Gt aB.z X E [(6,[od 0 [0],od 1 [5],od 2 [17,18],od 3 [19],od 4 [1],od 5 [5],od 6 [21,22],od 7 [23],od 8 [20,24]])] (.v (.v (.seq (.v (.block (.loop ⟨[(0,.r false .i64),(1,.r false .i64),(5,.i)],[]⟩ .u))) .u))) aal Tryz.f36 []:=gm
def abD:Gt aB.z X E [] .u aif Tryz.f16 [(36,aal)]:=gm
def R9:Gt aB.z X E [] .u aam Tryz.f237 [(155,qN),(206,OV)]:=gm
def Sb:Gt aB.z X E [(3,[od 0 [4],od 2 [1],od 3 [6],od 4 [7],(1,([29],[3,4])),od 5 [30,31,32,33],od 6 [34],od 7 [34],od 8 [8,35],od 9 [9,36]])] .u aan Tryz.f187 [(56,jW),(75,FC),(237,aam),(81,O9),(76,Jv)]:=gm
def Sc:Gt aB.z X E [(9,[od 0 [7],od 1 [0],od 2 [1],(3,([49,50],[0])),(4,([51],[0])),od 5 [48,52],od 6 [53],od 7 [47],od 8 [47],od 9 [],od 10 [9,54],od 11 [55]])] (.v (.v (.seq (.v (.block (.loop ⟨[(0,.p 0 2),(1,.i),(4,.p 1 1),(5,.p 2 1),(6,.i)],[.g [.rows true .u8,.i],.g [.nil],.g [.own 3],.rows true .mono]⟩ (.v (.seq (.block (.v (.seq (.v (.block (.loop ⟨[(0,.p 0 2),(1,.i),(4,.p 1 1),(5,.p 2 1),(6,.i),(7,.p 3 1),(8,.i)],[.g [.rows true .u8,.i],.g [.nil],.g [.own 4],.g [.own 5],.rows true .mono,.rows true .mono]⟩ (.v (.seq (.block (.v (.v (.cut ⟨[(0,.p 0 2),(1,.i),(4,.p 1 1),(5,.p 2 1),(6,.i),(7,.p 3 1),(8,.i)],[.g [.rows true .u8,.i],.g [.nil],.g [.own 4],.g [.own 5],.rows true .mono,.rows true .mono]⟩ (.cond .u .u))))) .u))))) (.v (.v (.cut ⟨[(0,.p 0 2),(1,.i),(4,.p 1 1),(5,.p 2 1),(6,.i)],[.g [.rows true .u8,.i],.g [.nil],.g [.own 3],.rows true .mono]⟩ (.cond .u .u))))))) .u))))) .u))) aao Tryz.f188 [(48,gI),(78,yV),(209,O8),(207,O7),(80,Jw),(108,JA)]:=gm
end Go.TX.F
end
noncomputable section
namespace Go.TX.F
open Go Go.AE Go.TX Go.TX.Seat Go.Proofs
set_option maxRecDepth 100000
set_option maxHeartbeats 4000000
def Sd:Gt aB.z X E [(3,[od 0 [2],od 2 [3],(1,([10],[2])),od 3 [11,12],od 4 [13],od 5 [13],od 6 [4,14],od 7 [15]])] .u aap Tryz.f189 [(75,FC),(77,FD),(76,Jv)]:=gm
def Sg:Gt aB.z X E [(6,[od 0 [3],od 1 [0],od 4 [0],od 5 [6],od 7 [0],od 8 [6],(2,([26],[0])),od 3 [27],(6,([29,30],[0])),(9,([32,33],[0])),od 10 [25,28,31,34],od 11 [35],od 12 [24],od 13 [24],od 14 [],od 15 [],od 16 [7,36],od 17 [8,37]]),(9,[od 0 [3],od 1 [],od 2 [0],od 6 [0],(3,([45],[0])),od 4 [44,46],od 5 [47],(7,([49],[0,5])),od 8 [48,50],od 9 [43,51],od 10 [52],od 11 [42],od 12 [42],od 13 [],od 14 [9,53],od 15 [54]])] (.v (.v (.seq (.v (.block (.loop ⟨[(0,.p 0 2),(2,.p 1 1),(3,.p 2 1),(5,.i)],[.g [.rows true .u8,.i],.g [.nil],.g [.own 3],.rows true .atom]⟩ .u))) (.seq (.v (.cut ⟨[(2,.p 1 1),(3,.p 2 1)],[.g [.rows true .u8,.i],.g [.nil],.g [.own 3],.rows true .atom]⟩ (.cond .u .u))) .u)))) aaq Tryz.f138 [(48,gI),(187,aan),(188,aao),(45,OU),(189,aap)]:=gm
def Si:Gt ⟨[26,35],[]⟩ X E [(6,[od 0 [5],od 1 [21],od 2 [5],od 3 [23],od 4 [24],od 5 [25],(6,([26],[1])),od 7 [22,27],od 8 [5],od 9 [28,29]]),(8,[od 0 [5],od 1 [32],(2,([],[1])),od 3 [34],(4,([35],[1])),od 5 [33,36],od 6 [5],od 7 [37,38]]),(10,[od 0 [5],od 1 [41],od 2 [],od 3 [0],(4,([44],[1])),od 5 [43,45],od 6 [46],od 7 [42],od 8 [48],od 9 [47,49]])] (.v (.v (.seq (.v (.cut ⟨[(4,.p 1 1),(5,.p 2 1)],[.g [.rows true .u8,.i],.g [.nil],.g [.own 3],.rows true .atom]⟩ (.cond (.v (.block (.v (.cut ⟨[(4,.p 1 1),(5,.p 2 1)],[.g [.rows true .u8,.i],.g [.nil],.g [.own 3],.rows true .atom]⟩ (.cond .u (.v (.cut ⟨[(4,.p 1 1),(5,.p 2 1)],[.g [.rows true .u8,.i],.g [.nil],.g [.own 3],.rows true .atom]⟩ (.cond .u (.v (.cut ⟨[(4,.p 1 1),(5,.p 2 1)],[.g [.rows true .u8,.i],.g [.nil],.g [.own 3],.rows true .atom]⟩ (.cond .u .u))))))))))) .u))) .u))) aar Tryz.f63 [(48,gI),(52,yU),(78,yV),(138,aaq)]:=gm
def Sj:Gt aB.z X E [] .u aas Tryz.f19 [(40,OH),(50,OG),(63,aar)]:=gm
def abE:Gt aB.z X E [(6,[od 0 [2],od 1 [20],od 2 [5],od 3 [21,22],od 4 [23],od 5 [24],od 6 [3],od 7 [26],od 8 [5],od 9 [27,28],od 10 [29],od 11 [30],od 12 [25,31],od 13 [32],od 14 [2,33],od 15 [33,34],od 16 [5,33],od 17 [33,35,36],od 18 [33,37],od 19 [33,38],od 20 [3,33],od 21 [33,40],od 22 [5,33],od 23 [33,41,42],od 24 [33,43],od 25 [33,44],od 26 [33,39,45],od 27 [33,46],od 28 [33,47]])] (.v (.v (.seq (.v (.block (.loop ⟨[(2,.p 0 1),(3,.p 1 1),(5,.i)],[.s false .poly,.s false .poly]⟩ .u))) .u))) VD Tryz.f89 [(36,aal)]:=gm
def abF:Gt aB.z X E [] (.v (.v (.seq (.v (.block (.loop ⟨[(2,.p 0 1),(3,.p 1 1),(5,.i)],[.s false .tab,.s false .tab]⟩ .u))) .u))) aii Tryz.f22 [(89,VD)]:=gm
def abG:Gt aB.z X E [(6,[od 0 [0],od 1 [5],od 2 [17,18],od 3 [19],od 4 [1],od 5 [5],od 6 [21,22],od 7 [23],od 8 [20,24],od 9 [25]])] (.v (.v (.seq (.v (.block (.loop ⟨[(0,.r false .poly),(1,.r false .poly),(5,.i)],[]⟩ .u))) .u))) aij Tryz.f90 [(89,VD)]:=gm
def abH:Gt aB.z X E [] (.v (.v (.seq (.v (.block (.loop ⟨[(2,.p 0 6),(3,.p 1 6),(5,.i)],[.s false .sym,.s false .sym]⟩ .u))) .u))) aik Tryz.f23 [(89,VD),(90,aij)]:=gm
def Sk:Gt aB.z X E [] (.v (.v (.v (.seq (.v (.block (.loop ⟨[(1,.r false .i64),(2,.p 0 1),(5,.i),(6,.i)],[.s false .poly]⟩ (.v (.seq (.block (.v (.seq (.v (.block (.loop ⟨[(1,.r false .i64),(2,.p 0 1),(5,.i),(6,.i),(7,.i),(8,.i)],[.s false .poly]⟩ (.v (.seq (.block (.v (.seq (.v (.cut ⟨[(1,.r false .i64),(2,.p 0 1),(5,.i),(6,.i),(7,.i),(8,.i),(9,.i)],[.s false .poly]⟩ (.cond .u .u))) .u))) .u))))) .u))) .u))))) .u)))) JE Tryz.f94 [(155,qN),(17,qM),(54,FH)]:=gm
def Sl:Gt aB.z X E [] .u aat Tryz.f160 []:=gm
def Sn:Gt aB.z X E [(10,[od 0 [11],od 1 [47],od 2 [11],od 3 [49],od 4 [9],od 6 [11],od 7 [53],od 8 [9],(5,([50,51],[1,7])),(9,([54,55],[1])),od 10 [48,52,56],od 11 [57]])] (.v (.v (.v (.seq (.v (.block (.loop ⟨[(1,.r false .i64),(2,.r false .i64),(3,.r false .i64),(4,.p 0 1),(9,.o 1),(10,.i)],[.s false .tab,.rows true .i64]⟩ (.v (.seq (.block (.v (.v (.seq (.v (.block (.v (.cut ⟨[(1,.r false .i64),(2,.r false .i64),(3,.r false .i64),(4,.p 0 1),(9,.o 1),(10,.i),(12,.i)],[.s false .tab,.rows true .i64]⟩ (.cond .u (.v (.cut ⟨[(1,.r false .i64),(2,.r false .i64),(3,.r false .i64),(4,.p 0 1),(9,.o 1),(10,.i),(12,.i)],[.s false .tab,.rows true .i64]⟩ (.cond .u (.v (.cut ⟨[(1,.r false .i64),(2,.r false .i64),(3,.r false .i64),(4,.p 0 1),(9,.o 1),(10,.i),(12,.i)],[.s false .tab,.rows true .i64]⟩ (.cond .u .u))))))))))) .u)))) .u))))) .u)))) aau Tryz.f93 [(94,JE),(75,FC),(161,Fy),(54,FH),(160,aat)]:=gm
def abI:Gt aB.z X E [(6,[od 0 [13],od 1 [24],od 2 [1],od 3 [14],od 4 [26,27],od 5 [28],od 6 [2],(7,([29,30],[1])),od 8 [31],od 9 [25,32],od 10 [13],od 11 [33,34]])] (.v (.v (.v (.seq (.v (.block (.loop ⟨[(1,.r false .poly),(2,.r false .i64),(3,.i),(4,.i),(5,.i),(6,.p 0 10),(12,.p 1 10),(13,.p 2 10),(14,.i)],[.s false .gG,.g [.nil,.i,.nil,.i,.bool,.bool,.i,.nil,.nil,.i],.g [.own 3,.i,.rows false .i64,.i,.bool,.bool,.i,.rows false .i64,.rows false .i64,.i],.rows true .i64]⟩ .u))) .u)))) ail Tryz.f95 [(94,JE)]:=gm
def abJ:Gt aB.z X E [(17,[od 0 [9],od 1 [83],od 2 [15],od 3 [13],od 4 [86],od 5 [14],(6,([87,88],[1])),od 7 [84,85],od 8 [89,90]])] (.v (.v (.v (.v (.v (.v (.seq (.v (.block (.loop ⟨[(4,.p 0 1),(5,.p 1 6),(6,.p 2 7),(7,.p 3 10),(8,.p 4 10),(9,.p 5 10),(10,.o 6),(11,.o 7),(12,.i)],[.s false .tab,.s false .sym,.s false .blk,.s false .gG,.g [.nil,.i,.nil,.i,.bool,.bool,.i,.nil,.nil,.i],.g [.rows false .i64,.i,.own 8,.i,.bool,.bool,.i,.rows false .i64,.own 9,.i],.rows true .i64,.rows true .i64,.rows true .i64,.rows true .i64]⟩ (.v (.seq (.block (.v (.v (.v (.v (.block (.v (.cut ⟨[(4,.p 0 1),(5,.p 1 6),(6,.p 2 7),(7,.p 3 10),(8,.p 4 10),(9,.p 5 10),(10,.o 6),(11,.o 7),(12,.i)],[.s false .tab,.s false .sym,.s false .blk,.s false .gG,.g [.nil,.i,.nil,.i,.bool,.bool,.i,.nil,.nil,.i],.g [.rows false .i64,.i,.own 8,.i,.bool,.bool,.i,.rows false .i64,.own 9,.i],.rows true .i64,.rows true .i64,.rows true .i64,.rows true .i64]⟩ (.cond .u (.v (.cut ⟨[(4,.p 0 1),(5,.p 1 6),(6,.p 2 7),(7,.p 3 10),(8,.p 4 10),(9,.p 5 10),(10,.o 6),(11,.o 7),(12,.i)],[.s false .tab,.s false .sym,.s false .blk,.s false .gG,.g [.nil,.i,.nil,.i,.bool,.bool,.i,.nil,.nil,.i],.g [.rows false .i64,.i,.own 8,.i,.bool,.bool,.i,.rows false .i64,.own 9,.i],.rows true .i64,.rows true .i64,.rows true .i64,.rows true .i64]⟩ (.cond (.v (.seq (.v (.cut ⟨[(4,.p 0 1),(5,.p 1 6),(6,.p 2 7),(7,.p 3 10),(8,.p 4 10),(9,.p 5 10),(10,.o 6),(11,.o 7),(12,.i),(16,.i)],[.s false .tab,.s false .sym,.s false .blk,.s false .gG,.g [.nil,.i,.nil,.i,.bool,.bool,.i,.nil,.nil,.i],.g [.rows false .i64,.i,.own 8,.i,.bool,.bool,.i,.rows false .i64,.own 9,.i],.rows true .i64,.rows true .i64,.rows true .i64,.rows true .i64]⟩ (.cond .u .u))) .u)) (.v (.v (.cut ⟨[(4,.p 0 1),(5,.p 1 6),(6,.p 2 7),(7,.p 3 10),(8,.p 4 10),(9,.p 5 10),(10,.o 6),(11,.o 7),(12,.i)],[.s false .tab,.s false .sym,.s false .blk,.s false .gG,.g [.nil,.i,.nil,.i,.bool,.bool,.i,.nil,.nil,.i],.g [.rows false .i64,.i,.own 8,.i,.bool,.bool,.i,.rows false .i64,.own 9,.i],.rows true .i64,.rows true .i64,.rows true .i64,.rows true .i64]⟩ (.cond .u .u)))))))))))))))) .u))))) (.v (.v (.v (.v (.seq (.v (.cut ⟨[(5,.p 0 6),(6,.p 1 7),(8,.p 2 10),(9,.p 3 10),(17,.o 4),(18,.i),(20,.i)],[.s false .sym,.s false .blk,.g [.nil,.i,.nil,.i,.bool,.bool,.i,.nil,.nil,.i],.g [.rows false .i64,.i,.own 5,.i,.bool,.bool,.i,.rows false .i64,.own 6,.i],.rows true .i64,.rows true .i64,.rows true .i64]⟩ (.cond .u .u))) (.seq (.v (.cut ⟨[(5,.p 0 6),(6,.p 1 7),(8,.p 2 10),(9,.p 3 10),(17,.o 4),(20,.i)],[.s false .sym,.s false .blk,.g [.nil,.i,.nil,.i,.bool,.bool,.i,.nil,.nil,.i],.g [.rows false .i64,.i,.own 5,.i,.bool,.bool,.i,.rows false .i64,.own 6,.i],.rows true .i64,.rows true .i64,.rows true .i64]⟩ (.cond .u .u))) .u))))))))))))) ain Tryz.f25 [(95,ail),(94,JE),(93,aau)]:=gm
def abK:Gt aB.z X E [(17,[od 0 [14],od 1 [85],od 2 [13,86],od 3 [7,86],od 4 [8,86],od 5 [6,86],od 6 [12,86],(7,([86,88,89,90,91],[2])),od 8 [86,87,92],od 9 [86,93],od 10 [94]])] (.v (.v (.v (.v (.v (.v (.v (.v (.v (.v (.v (.v (.v (.seq (.cut ⟨[(4,.b)],[]⟩ .u) .u)))))))))))))) aqj Tryz.f4 [(15,aie),(20,ah6),(16,aif),(12,ah7),(25,ain),(23,aik),(22,aii),(13,aak),(19,aas),(24,uD),(14,JB),(21,ZU)]:=gm
end Go.TX.F
end
noncomputable section
namespace Go.TX.F
open Go Go.AE Go.TX Go.TX.Seat Go.Proofs
set_option maxRecDepth 100000
set_option maxHeartbeats 4000000
end Go.TX.F
end

namespace Go.TX
open Go Go.AE
theorem akH(x y:Int):bg .lss x y=decide (x<y):=rfl
theorem akI(x y:Int):bg .leq x y=decide (x<=y):=rfl
theorem akJ(x y:Int):bg .gtr x y=decide (y<x):=rfl
theorem akK(x y:Int):bg .geq x y=decide (y<=x):=rfl
theorem abL(x y:Int):bg .eql x y=decide (x=y):=rfl
theorem akL(x y:Int):bg .neq x y= !decide (x=y):=rfl
theorem akM(k:IntKind)(x y:Int):jB .add k x y=k.wrap (x+y):=rfl
theorem abM(k:IntKind)(x y:Int):jB .sub k x y=k.wrap (x-y):=rfl
theorem akN(k:IntKind)(x y:Int):jB .mul k x y=k.wrap (x*y):=rfl
theorem akO(k:IntKind)(x y:Int):jB .quo k x y=k.wrap (x.tdiv y):=rfl
theorem abN(k:IntKind)(x y:Int):jB .rem k x y=x.tmod y:=rfl
def w64{x:Int}(h1: -9223372036854775808<=x)(h2:x<=9223372036854775807):IntKind.i64.wrap x=x:=IntWalk.i64_in _ ah
theorem agk(m:aj):fZ .mono 0 m=m.aW:=rfl
theorem agl(m:aj):je .mono 1 .i64 m=m.atoms:=rfl
theorem akP(p:List aj):je .poly 0 .mono p=p:=rfl
theorem aqk(p:List Atom):je .tab 0 .atom p=p:=rfl
theorem akQ(p:List Int):je .ints 0 .i64 p=p:=rfl
theorem agm(m:Atom):fZ .atom 0 m=m.kind:=rfl
theorem agn(m:Atom):fZ .atom 1 m=m.k:=rfl
theorem agp(m:Atom):je .atom 2 .mono m=m.x:=rfl
theorem agq(m:Atom):je .atom 3 .mono m=m.y:=rfl
theorem aql(n:Int):fZ .i64 0 n=n:=rfl
theorem aus(n:Int):fZ .u8 0 n=n:=rfl
theorem agr(x):Co.mk .mono x=⟨x.1,x.2.1⟩:=rfl
theorem ags(x):Co.mk .poly x=x.1:=rfl
theorem akR(x):Co.mk .tab x=x.1:=rfl
theorem agt(x):Co.mk .ints x=x.1:=rfl
theorem qO(x):Co.mk .i64 x=x.1:=rfl
theorem agu(x):Co.mk .atom x=⟨x.1,x.2.1,x.2.2.1,x.2.2.2.1⟩:=rfl
def ak{α ρ:Type}{f:α->(α ⊕ ρ->Prop)->Prop}{x:α}{Q:ρ->Prop}(I:α->Prop)(μ:α->Nat)(h0:I x)(hs:∀y,I y->f y (Dv (λz _=>I z/\μ z<μ y) Q)):Vf f x Q:=⟨I,μ,h0,hs⟩
theorem abO{α ρ:Type}(k:α->(ρ->Prop)->Prop)(Q:ρ->Prop)(x:α):Dv k Q (.inl x)=k x Q:=rfl
theorem abP{α ρ:Type}(k:α->(ρ->Prop)->Prop)(Q:ρ->Prop)(r:ρ):Dv k Q (.inr r)=Q r:=rfl
def getD_lt{α:Type}{xs:List α}{d:α}{i:Nat}(h:i<xs.length):xs.getD i d=xs[i]:=by simp [List.getD,h]
def bN{α:Type}{xs:List α}{d:α}{i:Int}(h0:0<=i)(h:i<xs.length):xs.getD i.toNat d∈xs:=by
 rw [getD_lt ah];exact List.getElem_mem _
def RR:(∀(x y:Int),bg BinOp.lss x y=decide (x<y))/\(∀(x y:Int),bg BinOp.leq x y=decide (x<=y))/\(∀(x y:Int),bg BinOp.gtr x y=decide (y<x))/\(∀(x y:Int),bg BinOp.geq x y=decide (y<=x))/\(∀(x y:Int),bg BinOp.eql x y=decide (x=y))/\(∀(x y:Int),bg BinOp.neq x y= !decide (x=y))/\(∀(k:IntKind) (x y:Int),jB BinOp.add k x y=k.wrap (x+y))/\(∀(k:IntKind) (x y:Int),jB BinOp.sub k x y=k.wrap (x-y))/\(∀(k:IntKind) (x y:Int),jB BinOp.mul k x y=k.wrap (x*y))/\(∀(k:IntKind) (x y:Int),jB BinOp.quo k x y=k.wrap (x.tdiv y))/\(∀(k:IntKind) (x y:Int),jB BinOp.rem k x y=x.tmod y)/\(∀ {x:Int}, -9223372036854775808<=x->x<=9223372036854775807->IntKind.i64.wrap x=x)/\(∀(m:aj),fZ Co.mono 0 m=m.aW)/\(∀(m:aj),je Co.mono 1 Co.i64 m=m.atoms)/\(∀(p:List aj),je Co.poly 0 Co.mono p=p)/\(∀(p:List Atom),je Co.tab 0 Co.atom p=p)/\(∀(p:List Int),je Co.ints 0 Co.i64 p=p)/\(∀(m:Atom),fZ Co.atom 0 m=m.kind)/\(∀(m:Atom),fZ Co.atom 1 m=m.k)/\(∀(m:Atom),je Co.atom 2 Co.mono m=m.x)/\(∀(m:Atom),je Co.atom 3 Co.mono m=m.y)/\(∀(n:Int),fZ Co.i64 0 n=n)/\(∀(n:Int),fZ Co.u8 0 n=n)/\(∀(x:iC Co.mono.pJ),Co.mono.mk x=aj.mk x.fst x.snd.fst)/\(∀(x:iC Co.poly.pJ),Co.poly.mk x=x.fst)/\(∀(x:iC Co.tab.pJ),Co.tab.mk x=x.fst)/\(∀(x:iC Co.ints.pJ),Co.ints.mk x=x.fst)/\(∀(x:iC Co.i64.pJ),Co.i64.mk x=x.fst)/\(∀(x:iC Co.atom.pJ),Co.atom.mk x=Atom.mk x.fst x.snd.fst x.snd.snd.fst x.snd.snd.snd.fst)/\(∀ {α ρ:Type} (k:α->(ρ->Prop)->Prop) (Q:ρ->Prop) (x:α),Dv k Q (Sum.inl x)=k x Q)/\(∀ {α ρ:Type} (k:α->(ρ->Prop)->Prop) (Q:ρ->Prop) (r:ρ),Dv k Q (Sum.inr r)=Q r)/\(∀(c f:Bool),(bif c then true else f)=(c || f))/\(∀(c t:Bool),(bif c then t else false)=(c&&t))/\(∀(c f:Bool),(bif c then false else f)=(!c&&f))/\(∀(c t:Bool),(bif c then t else true)=(!c || t))/\(∀(a b:Bool),((a || b)=true)=(a=true\/b=true))/\(∀ {x y:Bool},(x || y)=false↔x=false/\y=false)/\(∀(a b:Bool),((a&&b)=true)=(a=true/\b=true))/\(∀ {p:Prop} [inst:Decidable p],(decide p=true)=p)/\(∀ {p:Prop} {x:Decidable p},decide p=false↔¬p)/\(∀(b:Bool),((!b)=true)=(b=false))/\(∀(b:Bool),((!b)=false)=(b=true))/\(∀(b:Bool),(!!b)=b)/\(∀(p:Prop),(True/\p)=p)/\(∀(p:Prop),(p/\True)=p)/\(∀ {α:Type} [inst:LE α] {x y:α},x>=y↔y<=x)/\(¬True)=False/\(¬False)=True/\(false=true)=False/\(true=false)=False/\(∀(p:Prop),(False->p)=True)/\(∀(p:Prop),(True->p)=p)/\(∀(α:Prop),(α->True)=True)/\(∀(α:Type),(∀(a:α),True)=True)/\(∀(p:Prop),(False\/p)=p)/\(∀(p:Prop),(p\/False)=p)/\(∀(p:Prop),(True\/p)=True)/\(∀(p:Prop),(p\/True)=True)/\(∀ {α:Type} {x:Decidable True} (t e:α),(if True then t else e)=t)/\∀ {α:Type} {x:Decidable False} (t e:α),(if False then t else e)=e:=And.intro (@akH)<| And.intro (@akI)<| And.intro (@akJ)<| And.intro (@akK)<| And.intro (@abL)<| And.intro (@akL)<| And.intro (@akM)<| And.intro (@abM)<| And.intro (@akN)<| And.intro (@akO)<| And.intro (@abN)<| And.intro (@w64)<| And.intro (@agk)<| And.intro (@agl)<| And.intro (@akP)<| And.intro (@aqk)<| And.intro (@akQ)<| And.intro (@agm)<| And.intro (@agn)<| And.intro (@agp)<| And.intro (@agq)<| And.intro (@aql)<| And.intro (@aus)<| And.intro (@agr)<| And.intro (@ags)<| And.intro (@akR)<| And.intro (@agt)<| And.intro (@qO)<| And.intro (@agu)<| And.intro (@abO)<| And.intro (@abP)<| And.intro (@Bool.cond_true_left)<| And.intro (@Bool.cond_false_right)<| And.intro (@Bool.cond_false_left)<| And.intro (@Bool.cond_true_right)<| And.intro (@Bool.or_eq_true)<| And.intro (@Bool.or_eq_false_iff)<| And.intro (@Bool.and_eq_true)<| And.intro (@decide_eq_true_eq)<| And.intro (@decide_eq_false_iff_not)<| And.intro (@Bool.not_eq_true')<| And.intro (@Bool.not_eq_false')<| And.intro (@Bool.not_not)<| And.intro (@true_and)<| And.intro (@and_true)<| And.intro (@ge_iff_le.{0})<| And.intro (@not_true_eq_false)<| And.intro (@not_false_eq_true)<| And.intro (@Bool.false_eq_true)<| And.intro (@Bool.true_eq_false)<| And.intro (@false_implies)<| And.intro (@true_implies)<| And.intro (@implies_true.{0})<| And.intro (@implies_true.{1})<| And.intro (@false_or)<| And.intro (@or_false)<| And.intro (@true_or)<| And.intro (@or_true)<| And.intro (@if_true.{1})<| @if_false.{1}
end Go.TX
namespace Go.TX.F
open Go Go.AE Go.TX
def inB(a lo hi:Int):Bool:=decide (lo<=a)&&decide (a<=hi)
def aio(a b c:Int):aav.F () (a,b,c,()) (λy=>y=(inB a b c,())):=by
 dsimp only [aav,gm];simp (disch:=omega) only [RR];rfl
structure Y1(pp:Int×Int×Int×Unit->Bool)(ff:Int×Int×Int×Unit->Bool×Unit):Prop where
 hp:∀a b c,pp (a,b,c,())=true
 hf:∀a b c,ff (a,b,c,())=(inB a b c,())
def aqm{p f}(U:Y1 p f)(a:Int):aaw.F (p,f,()) (a,()) (λy=>y=(inB a 0 65535,())):=by
 dsimp only [aaw,gm];simp (disch:=omega) only [RR,U.hp,U.hf]
def aqn{p f}(U:Y1 p f)(a:Int):aaz.F (p,f,()) (a,()) (λy=>y=(inB a 1 5,())):=by
 dsimp only [aaz,gm];simp (disch:=omega) only [RR,U.hp,U.hf]
def aqo{p f}(U:Y1 p f)(a:Int):aay.F (p,f,()) (a,()) (λy=>y=(inB a 0 3,())):=by
 dsimp only [aay,gm];simp (disch:=omega) only [RR,U.hp,U.hf]
def aqp(a:Int):akD.F () (a,()) (λy=>y=(false,())):=by
 dsimp only [akD,gm];simp (disch:=omega) only [RR];simp
def gZ(a b:Int):Int:=if a<b then-1 else if b<a then 1 else 0
structure Y2(pp:Int×Unit->Bool)(ff:Int×Unit->Bool×Unit):Prop where
 hp:∀a,pp (a,())=true
 hf:∀a,ff (a,())=(false,())
def aut{p f}(U:Y2 p f)(a b:Int):akE.F (p,f,()) (a,b,()) (λy=>y=(gZ a b,())):=by
 dsimp only [akE,gm];simp (disch:=omega) only [RR,U.hp,U.hf];unfold gZ;refine⟨λh=>by simp [h],λh=>⟨λh2=>by simp [h,h2],λh2=>by simp [h,h2]⟩⟩
def auu{p f}(U:Y2 p f)(a b:Int):akG.F (p,f,()) (a,b,()) (λy=>y=(decide (a<b),())):=by
 dsimp only [akG,gm];simp (disch:=omega) only [RR,U.hp,U.hf];simp
def or2(a b:Int):Int:=if a≠0 then a else b
def aqr(a b:Int):akF.F () ([a,b],()) (λy=>y=(or2 a b,())):=by
 dsimp only [akF,gm];refine ak (λ(y:Int×List Int×Int×Int×Unit)=>y.1=0/\y.2.1=[a,b]/\y.2.2.1=2/\0<=y.2.2.2.1/\y.2.2.2.1<=2/\(0<y.2.2.2.1->a=0)/\(1<y.2.2.2.1->b=0)) (λy=>(2-y.2.2.2.1).toNat) ⟨rfl,rfl,rfl,by simp,by simp,λh=>absurd h (by simp),λh=>absurd h (by simp)⟩ ?_;rintro⟨(z:Int),(l:List Int),(n:Int),(i:Int),⟨⟩⟩ hI;dsimp only at hI ⊢;obtain⟨rfl,rfl,rfl,h1,h2,h3,h4⟩:=hI;simp (disch:=omega) only [RR];have hi:i=0\/i=1\/i=2:=by omega
 rcases hi with rfl | rfl | rfl
 .by_cases ha:a=0<;>simp [or2,ha]<;>(try omega)
 .have:=h3 ah;by_cases hb:b=0<;>simp [or2,this,hb]<;>(try omega)
 .have:=h3 ah;have:=h4 ah;simp [or2, *]
def jX:List Int->List Int->Int
 | [],[]=>0
 | [],_::_=> -1
 | _::_,[]=>1
 | a::az,b::bs=>if gZ a b≠0 then gZ a b else jX az bs
def BN(a b:List Int)(i:Nat):(h1:i<a.length)->(h2:i<b.length)->jX (a.drop i) (b.drop i)=if gZ a[i] b[i]≠0 then gZ a[i] b[i]else jX (a.drop (i+1)) (b.drop (i+1)):=by
 intro h1 h2;rw [List.drop_eq_getElem_cons h1,List.drop_eq_getElem_cons h2];rfl
def abQ(l:List Int)(h:l≠ []):jX l []=1:=by cases l<;>simp_all [jX]
structure Y3(pp:Int×Int×Unit->Bool)(ff:Int×Int×Unit->Int×Unit):Prop where
 hp:∀a b,pp (a,b,())=true
 hf:∀a b,ff (a,b,())=(gZ a b,())
def aqs{p f}(U:Y3 p f)(a b:List Int)(ha:a.length<1000000000):
  aaI.F (p,f,()) (a,b,()) (λy=>y=(jX a b,())):=by
 dsimp only [aaI,gm]
 refine ak (λ(y:List Int×List Int×List Int×Int×Int×Unit)=>y.1=a/\y.2.1=b/\y.2.2.1=a/\y.2.2.2.1=a.length/\0<=y.2.2.2.2.1/\y.2.2.2.2.1<=a.length/\y.2.2.2.2.1<=b.length/\jX a b=jX (a.drop y.2.2.2.2.1.toNat) (b.drop y.2.2.2.2.1.toNat))
  (λy=>(a.length-y.2.2.2.2.1).toNat) ⟨rfl,rfl,rfl,rfl,by simp,by simp,by simp,by simp⟩ ?_
 rintro⟨(l1:List Int),(l2:List Int),(l3:List Int),(n:Int),(i:Int),⟨⟩⟩ hI;dsimp only at hI ⊢;obtain⟨rfl,rfl,rfl,rfl,h1,h2,h3,h4⟩:=hI;simp (disch:=omega) only [RR,U.hp,U.hf];refine⟨λhi=>⟨h1,hi,λhj=> ?_,λhj=>⟨h1,ah,λhc=> ?_,λhc=> ?_⟩⟩,λhi=>⟨λhj=> ?_,λhj=> ?_⟩⟩
 .rw [h4,List.drop_eq_nil_of_le (show l2.length<=i.toNat by omega),abQ _ (by simp;omega)]
 .rw [h4,BN l3 l2 i.toNat ah ah];rw [getD_lt ah,getD_lt ah]at hc;rw [getD_lt ah,getD_lt ah,if_pos hc]
 .rw [getD_lt ah,getD_lt ah]at hc;refine⟨⟨ah,ah,ah,?_⟩,ah⟩;rw [h4,BN l3 l2 i.toNat ah ah,if_neg (by simpa using hc),show(i+1).toNat=i.toNat+1 by omega]
 .rw [h4,List.drop_eq_nil_of_le (show l3.length<=i.toNat by omega)];have:∃q r,l2.drop i.toNat=q::r:=by
   cases hq:l2.drop i.toNat with
   | nil=>have:=congrArg List.length hq;simp at this;omega
   | cons q r=>exact⟨q,r,rfl⟩
  obtain⟨q,r,hq⟩:=this;rw [hq];rfl
 .rw [h4,List.drop_eq_nil_of_le (show l3.length<=i.toNat by omega),List.drop_eq_nil_of_le (show l2.length<=i.toNat by omega)];rfl
def cB(a b:List Int):Int:=or2 (gZ a.length b.length) (jX a b)
structure Y4(pp:List Int×Unit->Bool)(ff:List Int×Unit->Int×Unit):Prop where
 hp:∀a b,pp ([a,b],())=true
 hf:∀a b,ff ([a,b],())=(or2 a b,())
def aqt{p1 f1 p3 f3}(U1:Y3 p1 f1){p2:List Int×List Int×Unit->Bool}{f2:List Int×List Int×Unit->Int×Unit}(hp2:∀a b,a.length<1000000000->p2 (a,b,())=true)(hf2:∀a b,a.length<1000000000->f2 (a,b,())=(jX a b,()))(U3:Y4 p3 f3)(a b:List Int)(ha:a.length<1000000000):
  aaJ.F (p3,f3,p1,f1,p2,f2,()) (a,b,()) (λy=>y=(cB a b,())):=by
 dsimp only [aaJ,gm];simp (disch:=omega) only [RR,U1.hp,U1.hf,hp2 a b ha,hf2 a b ha,U3.hp,U3.hf];rfl
noncomputable def bp (P:Prop):Bool:= @decide P (Classical.propDecidable P)
def aV{P:Prop}(h:P):bp P=true:=by simp [bp,h]
def bP{P:Prop}(h:¬P):bp P=false:=by simp [bp,h]
def aQ{P:Prop}:bp P=true↔P:=by simp [bp]
def jh{P:Prop}:bp P=false↔¬P:=by simp [bp]
def lN{P Q:Prop}:bp (P/\Q)=(bp P&&bp Q):=by by_cases h1:P<;>by_cases h2:Q<;>simp [bp,h1,h2]
def uE{P Q:Prop}(h:P↔Q):bp P=bp Q:=by simp [bp,h]
def All(n:Int)(G:Int->Prop):Prop:=∀j,0<=j->j<n->G j
def All.zero{G:Int->Prop}:All 0 G:=λj h1 h2=>absurd h2 ah
def All.snoc{n:Int}{G:Int->Prop}(h:All n G)(hi:G n):All (n+1) G:=λj h1 h2=>by
 by_cases hj:j=n
 .exact hj▸hi
 .exact h j h1 ah
def All.le{n m:Int}{G:Int->Prop}(h:All n G)(hi:m<=n):All m G:=λj h1 h2=>h j h1 ah
def Idx(n:Int)(G:Int->Prop)(r:Int):Prop:=(r= -1/\All n (λj=>¬G j))\/(0<=r/\r<n/\G r/\All r (λj=>¬G j))
def Idx.ge{n:Int}{G:Int->Prop}{r:Int}(h:Idx n G r):(0<=r)↔¬All n (λj=>¬G j):=by
 rcases h with⟨rfl,h⟩ | ⟨h1,h2,h3,h4⟩
 .simp [h]
 .simp only [h1,true_iff];exact λh=>h r h1 h2 h3
def Srt(l:List Int):Prop:=All (l.length-1) (λi=>l.getD i.toNat default<=l.getD (i+1).toNat default)
structure Y5(pp:Int×Int×Unit->Bool)(ff:Int×Int×Unit->Bool×Unit):Prop where
 hp:∀a b,pp (a,b,())=true
 hf:∀a b,ff (a,b,())=(decide (a<b),())
def aqu{p f}(U:Y5 p f)(a:List Int)(ha:a.length<1000000000):
  aaK.F (p,f,()) (a,()) (λy=>y=(bp (Srt a),())):=by
 dsimp only [aaK,gm];simp (disch:=omega) only [RR,U.hp,U.hf];refine ak (λ(y:List Int×Int×Unit)=>y.1=a/\ -1<=y.2.1/\y.2.1<=a.length-1/\∀j,y.2.1<=j->0<=j->j< (a.length:Int)-1->a.getD j.toNat default<=a.getD (j+1).toNat default) (λy=>(y.2.1+1).toNat) ⟨rfl,by simp;omega,by simp,by simp;omega⟩ ?_;rintro⟨(l:List Int),(i:Int),⟨⟩⟩ hI;dsimp only at hI ⊢;obtain⟨rfl,h1,h2,h3⟩:=hI;simp (disch:=omega) only [RR,U.hp,U.hf];refine⟨λh4=>⟨ah,ah,ah,ah,λh5=> ?_,λh5=>⟨⟨ah,ah,λj h6 h7 h8=> ?_⟩,ah⟩⟩,λh4=> ?_⟩
 .rw [bP];intro h;have:=h (i-1) ah ah;dsimp only at this;rw [show i-1+1=i by omega]at this;omega
 .by_cases hj:j=i-1
  .subst hj;rw [show i-1+1=i by omega];omega
  .exact h3 j ah h7 h8
 .rw [aV];exact λj h6 h7=>h3 j ah h6 h7
def aip(a n:Int):aaE.F () (a,n,()) (λy=>y=(decide (n<=a),n,())):=by
 dsimp only [aaE,gm];simp (disch:=omega) only [RR]
def aqv{p:Int×Int×Unit->Bool}{f:Int×Int×Unit->Bool×Int×Unit}(hp:∀a b,p (a,b,())=true)(hf:∀a b,f (a,b,())=(decide (b<=a),b,()))(a:List Int)(n:Int)(ha:a.length<1000000000):
  aaF.F (p,f,()) (a,n,()) (λy=>Idx a.length (λi=>n<=a.getD i.toNat default) y.1/\y.2.1=n):=by
 dsimp only [aaF,gm];refine ak (λ(y:List Int×Int×Int×Int×Unit)=>y.1=a/\y.2.1=a.length/\y.2.2.2.1=n/\0<=y.2.2.1/\y.2.2.1<=a.length/\All y.2.2.1 (λi=>¬n<=a.getD i.toNat default)) (λy=>(a.length-y.2.2.1).toNat) ⟨rfl,rfl,rfl,by simp,by simp,All.zero⟩ ?_;rintro⟨(l:List Int),(m:Int),(i:Int),(n':Int),⟨⟩⟩ hI;dsimp only at hI ⊢;obtain⟨rfl,rfl,rfl,h1,h2,h3⟩:=hI;simp (disch:=omega) only [RR,hp,hf];refine⟨λh4=>⟨ah,ah,λh5=> ?_,λh5=>⟨⟨ah,ah,h3.snoc h5⟩,ah⟩⟩,λh4=> ?_⟩
 .exact Or.inr ⟨ah,ah,h5,h3⟩
 .exact Or.inl ⟨rfl,h3.le ah⟩
def aqw{p:List Int×Int×Unit->Bool}{f:List Int×Int×Unit->Int×Int×Unit}(hp:∀a b,a.length<1000000000->p (a,b,())=true)
  (hf:∀a n,a.length<1000000000->Idx a.length (λi=>n<=a.getD i.toNat default) (f (a,n,())).1/\(f (a,n,())).2.1=n) (a:List Int) (n:Int) (ha:a.length<1000000000):
  aaG.F (p,f,()) (a,n,()) (λy=>y=(bp (¬All a.length (λi=>¬n<=a.getD i.toNat default)),n,())):=by
 obtain⟨h1,h2⟩:=hf a n ha;dsimp only [aaG,gm];simp (disch:=omega) only [RR,hp a n ha,h2];rw [show decide ((0:Int)<=(f (a,n,())).1)=bp (¬All a.length (λi=>¬n<=a.getD i.toNat default))from ?_];rw [<-uE h1.ge];simp [bp]
def JG(n:Int)(m:aj):Prop:=All m.atoms.length (λi=>¬n<=m.atoms.getD i.toNat default)
def aN(p:List aj)(n:Int):Prop:=All p.length (λi=>JG n (p.getD i.toNat default))
def Sh(p:List aj):Prop:=p.length<1000000000/\∀m∈p,m.atoms.length<1000000000
def Sh.at{p:List aj}(h:Sh p)(n:Nat):(p.getD n default).atoms.length<1000000000:=by
 by_cases h1:n<p.length
 .rw [getD_lt h1];exact h.2 _ (List.getElem_mem _)
 .simp only [List.getD,List.getElem?_eq_none (by omega:p.length<=n)];decide
def aqx{p:List Int×Int×Unit->Bool}{f:List Int×Int×Unit->Bool×Int×Unit}(hp:∀a b,a.length<1000000000->p (a,b,())=true)
  (hf:∀a n,a.length<1000000000->f (a,n,())=(bp (¬All a.length (λi=>¬n<=a.getD i.toNat default)),n,())) (a:List aj) (n:Int) (ha:Sh a):
  aaH.F (p,f,()) (a,n,()) (λy=>y=(bp (aN a n),())):=by
 have hlen:=ha.1;dsimp only [aaH,gm];refine ak (λ(y:List aj×Int×Int×Int×Unit)=>y.1=a/\y.2.1=a.length/\y.2.2.2.1=n/\0<=y.2.2.1/\y.2.2.1<=a.length/\All y.2.2.1 (λi=>JG n (a.getD i.toNat default))) (λy=>(a.length-y.2.2.1).toNat) ⟨rfl,rfl,rfl,by simp,by simp,All.zero⟩ ?_;rintro⟨(l:List aj),(m:Int),(i:Int),(n':Int),⟨⟩⟩ hI;dsimp only at hI ⊢;obtain⟨rfl,rfl,rfl,h1,h2,h3⟩:=hI;simp (disch:=omega) only [RR];refine⟨λh4=> ?_,λh4=> ?_⟩
 .have h5:=ha.at i.toNat;rw [hp _ _ h5,hf _ _ h5];refine⟨ah,ah,rfl,λh6=> ?_,λh6=>⟨⟨rfl,ah,ah,h3.snoc ?_⟩,ah⟩⟩
  .rw [bP (λh=> ?_)];exact aQ.1 h6 (h i h1 h4)
  .exact Classical.byContradiction (λh=>jh.1 h6 h)
 .rw [aV (show aN l n' from h3.le ah)]
def aiq(m:aj):aaL.F () (m,()) (λy=>y=(bp (0<m.atoms.length/\m.atoms.getD 0 default<0),())):=by
 dsimp only [aaL,gm];simp (disch:=omega) only [RR];refine⟨ah,ah,?_⟩;rw [lN];by_cases h1:0<m.atoms.length
 .by_cases h2:m.atoms.getD 0 default<0
  .rw [aV h1,aV h2,show Int.toNat 0=0 from rfl,decide_eq_true h2,decide_eq_true ah]
  .rw [aV h1,bP h2,show Int.toNat 0=0 from rfl,decide_eq_false h2,Bool.and_false,Bool.and_false]
 .rw [bP h1,decide_eq_false ah,Bool.false_and,Bool.false_and]
def aqy{p:aj×Unit->Bool}{f:aj×Unit->Bool×Unit}(G:aj->Prop)(hp:∀a,p (a,())=true)(hf:∀a,f (a,())=(bp (G a),()))(a:List aj)(ha:a.length<1000000000):
  aaM.F (p,f,()) (a,()) (λy=>Idx a.length (λi=>G (a.getD i.toNat default)) y.1):=by
 dsimp only [aaM,gm];refine ak (λ(y:List aj×Int×Int×Unit)=>y.1=a/\y.2.1=a.length/\0<=y.2.2.1/\y.2.2.1<=a.length/\All y.2.2.1 (λi=>¬G (a.getD i.toNat default))) (λy=>(a.length-y.2.2.1).toNat) ⟨rfl,rfl,by simp,by simp,All.zero⟩ ?_;rintro⟨(l:List aj),(m:Int),(i:Int),⟨⟩⟩ hI;dsimp only at hI ⊢;obtain⟨rfl,rfl,h1,h2,h3⟩:=hI;simp (disch:=omega) only [RR,hp,hf];refine⟨λh4=>⟨ah,ah,λh5=> ?_,λh5=>⟨⟨ah,ah,h3.snoc (jh.1 h5)⟩,ah⟩⟩,λh4=> ?_⟩
 .exact Or.inr ⟨ah,ah,aQ.1 h5,h3⟩
 .exact Or.inl ⟨rfl,h3.le ah⟩
def aqz{p:List aj×Unit->Bool}{f:List aj×Unit->Int×Unit}(G:aj->Prop)(hp:∀a,a.length<1000000000->p (a,())=true)
  (hf:∀a,a.length<1000000000->Idx a.length (λi=>G (a.getD i.toNat default)) (f (a,())).1) (a:List aj) (ha:a.length<1000000000):
  aaN.F (p,f,()) (a,()) (λy=>y=(bp (¬All a.length (λi=>¬G (a.getD i.toNat default))),())):=by
 have h1:=hf a ha;dsimp only [aaN,gm];simp (disch:=omega) only [RR,hp a ha];rw [show decide ((0:Int)<=(f (a,())).1)=bp (¬All a.length (λi=>¬G (a.getD i.toNat default)))from ?_];rw [<-uE h1.ge];simp [bp]
def mOk(m:aj):Prop:=(1<=m.aW/\m.aW<=65535)/\m.atoms.length<=4/\Srt m.atoms
def aF(p:List aj):Prop:=All p.length (λi=>mOk (p.getD i.toNat default)/\(0<i->cB (p.getD (i-1).toNat default).atoms (p.getD i.toNat default).atoms<0))/\p.length<=12/\aN p 200
 /\All p.length (λi=>¬(0< (p.getD i.toNat default).atoms.length/\(p.getD i.toNat default).atoms.getD 0 default<0))
structure Y6(pp:List aj×Int×Unit->Bool)(ff:List aj×Int×Unit->Bool×Unit):Prop where
 hp:∀a n,Sh a->pp (a,n,())=true
 hf:∀a n,Sh a->ff (a,n,())=(bp (aN a n),())
structure Y7(pp:List Int×List Int×Unit->Bool)(ff:List Int×List Int×Unit->Int×Unit):Prop where
 hp:∀a b,a.length<1000000000->pp (a,b,())=true
 hf:∀a b,a.length<1000000000->ff (a,b,())=(cB a b,())
def aqA{p1 f1 p2 f2 p4 f4}(U1:Y1 p1 f1)(U2:Y6 p2 f2){p3:List Int×Unit->Bool}{f3:List Int×Unit->Bool×Unit}(hp3:∀a,a.length<1000000000->p3 (a,())=true)(hf3:∀a,a.length<1000000000->f3 (a,())=(bp (Srt a),()))(U4:Y7 p4 f4){p5:List aj×Unit->Bool}{f5:List aj×Unit->Bool×Unit}(hp5:∀a,a.length<1000000000->p5 (a,())=true)(hf5:∀a,a.length<1000000000->f5 (a,())=(bp (¬All a.length (λi=>¬(0< (a.getD i.toNat default).atoms.length/\(a.getD i.toNat default).atoms.getD 0 default<0))),()))(a:List aj)(ha:Sh a):aaO.F (p1,f1,p2,f2,p3,f3,p4,f4,p5,f5,()) (a,()) (λy=>y=(bp (aF a),())):=by
 have hlen:=ha.1;dsimp only [aaO,gm];refine ak (λ(y:List aj×Int×Int×List aj×Unit)=>y.1=a/\y.2.1=a.length/\y.2.2.2.1=a/\0<=y.2.2.1/\y.2.2.1<=a.length/\All y.2.2.1 (λi=>mOk (a.getD i.toNat default)/\(0<i->cB (a.getD (i-1).toNat default).atoms (a.getD i.toNat default).atoms<0))) (λy=>(a.length-y.2.2.1).toNat) ⟨rfl,rfl,rfl,by simp,by simp,All.zero⟩ ?_;rintro⟨(l:List aj),(m:Int),(i:Int),(l':List aj),⟨⟩⟩ hI;dsimp only at hI ⊢;obtain⟨rfl,rfl,rfl,h1,h2,h3⟩:=hI;simp (disch:=omega) only [RR,U1.hp,U1.hf,U2.hp l' _ ha,U2.hf l' _ ha,hp5 l' hlen,hf5 l' hlen];refine⟨λh4=> ?_,λh4=> ?_⟩
 .simp (disch:=omega) only [RR,hp3 _ (ha.at _),hf3 _ (ha.at _),U4.hp _ _ (ha.at _),U4.hf _ _ (ha.at _),aQ,jh,inB];refine⟨ah,ah,by by_cases h:i<=0<;>simp [h]<;>omega,ah,λh5=> ?_,λh5=>⟨⟨ah,ah,h3.snoc ?_⟩,ah⟩⟩
  .rw [bP (λh=> ?_)];have:=h.1 i h1 h4;dsimp only [mOk]at this;obtain⟨⟨h6,h7,h8⟩,h9⟩:=this;rcases h5 with((h5 | h5) | h5) | ⟨h5,h10⟩
   .simp [-List.getD_eq_getElem?_getD]at h5;omega
   .omega
   .exact h5 h8
   .have:=h9 h5;omega
  .refine⟨⟨ah,ah,h5.1.2⟩,λh6=> ?_⟩;have:=h5.2;simp only [decide_eq_true h6,Bool.true_and,decide_eq_false_iff_not]at this;omega
 .unfold aF;rw [show All (↑l'.length) (λi=>mOk (l'.getD i.toNat default)/\(0<i->cB (l'.getD (i-1).toNat default).atoms (l'.getD i.toNat default).atoms<0))=True from eq_true (h3.le ah)];rw [true_and,lN,lN,Bool.and_assoc];refine congrArg (λb=>(b,())) ?_
  congr 1
  .by_cases h:l'.length<=12<;>simp [bp,h]<;>omega
  .congr 1
   simp [bp]
def Dw(a b:aj):Int:=or2 (cB a.atoms b.atoms) (gZ a.aW b.aW)
def wN:List aj->List aj->Int
 | a::az,b::bs=>if Dw a b≠0 then Dw a b else wN az bs
 | _,_=>0
def dU(a b:List aj):Int:=if gZ a.length b.length≠0 then gZ a.length b.length else wN a b
def BO(a b:List aj)(i:Nat):(h1:i<a.length)->(h2:i<b.length)->wN (a.drop i) (b.drop i)=if Dw a[i] b[i]≠0 then Dw a[i] b[i]else wN (a.drop (i+1)) (b.drop (i+1)):=by
 intro h1 h2;rw [List.drop_eq_getElem_cons h1,List.drop_eq_getElem_cons h2];rfl
def aqB{p1 f1 p2 f2 p4 f4}(U1:Y4 p1 f1)(U2:Y3 p2 f2)(U4:Y7 p4 f4)(a b:List aj)(ha:Sh a):aaQ.F (p1,f1,p2,f2,p4,f4,()) (a,b,()) (λy=>y=(dU a b,())):=by
 have hlen:=ha.1;dsimp only [aaQ,gm];simp (disch:=omega) only [RR,U2.hp,U2.hf];refine⟨λh=>by rw [dU,if_pos h],λh=> ?_⟩;have hl:a.length=b.length:=by unfold gZ at h;split at h<;>(try split at h)<;>omega
 rw [show dU a b=wN a b by rw [dU,if_neg (by simp [h])]];refine ak (λ(y:List aj×Int×Int×List aj×Unit)=>y.1=a/\y.2.1=a.length/\y.2.2.2.1=b/\0<=y.2.2.1/\y.2.2.1<=a.length/\wN a b=wN (a.drop y.2.2.1.toNat) (b.drop y.2.2.1.toNat)) (λy=>(a.length-y.2.2.1).toNat) ⟨rfl,rfl,rfl,by simp,by simp,by simp⟩ ?_;rintro⟨(l:List aj),(m:Int),(i:Int),(l':List aj),⟨⟩⟩ hI;dsimp only at hI ⊢;obtain⟨rfl,rfl,rfl,h1,h2,h3⟩:=hI;simp (disch:=omega) only [RR,U1.hp,U1.hf,U4.hp _ _ (ha.at _),U4.hf _ _ (ha.at _)];refine⟨λh4=>⟨ah,ah,ah,ah,ah,ah,λh5=> ?_,λh5=>⟨⟨ah,ah,?_⟩,ah⟩⟩,λh4=> ?_⟩
 .rw [h3,BO _ _ _ ah ah];rw [getD_lt ah,getD_lt ah]at h5 ⊢;exact((if_pos (c:=Dw l[i.toNat] l'[i.toNat]≠0) h5).trans rfl).symm▸rfl
 .rw [h3,BO _ _ _ ah ah];rw [getD_lt ah,getD_lt ah]at h5;rw [if_neg (show¬(Dw l[i.toNat] l'[i.toNat]≠0)from λh=>h h5),show(i+1).toNat=i.toNat+1 by omega]
 .rw [h3,List.drop_eq_nil_of_le ah];rfl
structure Y8(pp:List aj×List aj×Unit->Bool)(ff:List aj×List aj×Unit->Int×Unit):Prop where
 hp:∀a b,Sh a->pp (a,b,())=true
 hf:∀a b,Sh a->ff (a,b,())=(dU a b,())
def aqC{p1 f1}(U1:Y8 p1 f1)(a b:List aj)(ha:Sh a):
  aaR.F (p1,f1,()) (a,b,()) (λy=>y=(decide (dU a b=0),())):=by
 dsimp only [aaR,gm];simp (disch:=omega) only [RR,U1.hp a b ha,U1.hf a b ha]
theorem Sq(k:IntKind)(x y:Int):jB .and k x y=fV .and k x y:=rfl
theorem Sr(k:IntKind)(x y:Int):jB .xor k x y=fV .xor k x y:=rfl
def FK(x:Int):fV .and .i64 x 65535=x%65536:=by
 unfold fV;dsimp only;rw [BitVec.toNat_and,BitVec.toNat_ofInt,BitVec.toNat_ofInt];have h1:((65535:Int)% ((2^IntKind.i64.bits:Nat):Int)).toNat=2^16-1:=by decide
 rw [h1,Nat.and_two_pow_sub_one_eq_mod];rw [w64 ah ah];have h2:((2^IntKind.i64.bits:Nat):Int)=18446744073709551616:=by decide
 rw [h2];omega
def agv{a b:Int}(ha:0<=a)(ha':a<=65535)(hb:0<=b)(hb':b<=65535):(0<=fV .and .i64 a b/\fV .and .i64 a b<=65535)/\(0<=fV .xor .i64 a b/\fV .xor .i64 a b<=65535):=by
 have h2:((2^IntKind.i64.bits:Nat):Int)=18446744073709551616:=by decide
 have e1:fV .and .i64 a b=((a.toNat&&&b.toNat:Nat):Int):=by
  unfold fV;dsimp only;rw [BitVec.toNat_and,BitVec.toNat_ofInt,BitVec.toNat_ofInt,h2,show a%18446744073709551616=a by omega,show b%18446744073709551616=b by omega];have:=Nat.and_lt_two_pow (a.toNat) (show b.toNat<2^16 by omega);rw [w64 ah ah]
 have e2:fV .xor .i64 a b=((a.toNat^^^b.toNat:Nat):Int):=by
  unfold fV;dsimp only;rw [BitVec.toNat_xor,BitVec.toNat_ofInt,BitVec.toNat_ofInt,h2,show a%18446744073709551616=a by omega,show b%18446744073709551616=b by omega];have:=Nat.xor_lt_two_pow (show a.toNat<2^16 by omega) (show b.toNat<2^16 by omega);rw [w64 ah ah]
 rw [e1,e2];have:=Nat.and_lt_two_pow (a.toNat) (show b.toNat<2^16 by omega);have:=Nat.xor_lt_two_pow (show a.toNat<2^16 by omega) (show b.toNat<2^16 by omega);omega
def BP(a b:Int):fV .and .i64 a b=fV .and .i64 b a:=by unfold fV;dsimp only;rw [BitVec.and_comm]
def HZ(a b:Int):fV .xor .i64 a b=fV .xor .i64 b a:=by unfold fV;dsimp only;rw [BitVec.xor_comm]
def air(a:Int):aa5.F () (a,()) (λy=>y=(a%65536,())):=by
 dsimp only [aa5,gm];simp (disch:=omega) only [RR,Sq,FK]
def wdo(op a b:Int):Int:=if(0<=a/\a<=65535)/\(0<=b/\b<=65535)then
 (if op=1 then(a+b)%65536 else if op=2 then(a-b)%65536 else if op=3 then(a*b)%65536 else if op=4 then fV .and .i64 a b else if op=5 then fV .xor .i64 a b else 0)else 0
def DR(op a b:Int):0<=wdo op a b/\wdo op a b<=65535:=by
 unfold wdo;split
 .rename_i h;have:=agv h.1.1 h.1.2 h.2.1 h.2.2
  repeat' split
  all_goals omega
 .omega
def abR{op:Int}(h:op≠2)(a b:Int):wdo op a b=wdo op b a:=by
 unfold wdo;have e:((0<=b/\b<=65535)/\(0<=a/\a<=65535))=((0<=a/\a<=65535)/\(0<=b/\b<=65535)):=propext And.comm;rw [BP a b,HZ a b,Int.add_comm a b,Int.mul_comm a b];simp only [if_neg h,e]
def bL{a b c:Int}:inB a b c=true↔(b<=a/\a<=c):=by simp [inB]
def ji{a b c:Int}:inB a b c=false↔¬(b<=a/\a<=c):=by rw [<-bL,Bool.not_eq_true]
structure Y9(pp:Int×Unit->Bool)(ff:Int×Unit->Bool×Unit):Prop where
 hp:∀a,pp (a,())=true
 hf:∀a,ff (a,())=(inB a 0 65535,())
structure Y10(pp:Int×Unit->Bool)(ff:Int×Unit->Int×Unit):Prop where
 hp:∀a,pp (a,())=true
 hf:∀a,ff (a,())=(a%65536,())
def aqD{p1 f1 p2 f2}(U1:Y9 p1 f1)(U2:Y10 p2 f2)(op a b:Int):
  aa6.F (p1,f1,p2,f2,()) (op,a,b,()) (λy=>y=(wdo op a b,())):=by
 dsimp only [aa6,gm];simp (disch:=omega) only [RR,U1.hp,U1.hf,U2.hp,U2.hf,Sq,Sr,bL,ji];by_cases ha:(0<=a/\a<=65535)/\(0<=b/\b<=65535)
 .have hm:0<=a*b/\a*b<=65535*65535:=⟨Int.mul_nonneg ha.1.1 ha.2.1,Int.mul_le_mul ha.1.2 ha.2.2 ha.2.1 ah⟩;rw [w64 (x:=a+b) ah ah,w64 (x:=a-b) ah ah,w64 (x:=a*b) ah ah];unfold wdo;rw [if_pos ha];refine⟨λh=>absurd h ah,λ_=>⟨λh=> ?_,λh=>⟨λh1=> ?_,λh1=>⟨λh2=> ?_,λh2=>⟨λh3=> ?_,λh3=>⟨λh4=> ?_,λh4=> ?_⟩⟩⟩⟩⟩⟩<;>(subst_vars;first | rfl | simp only [if_true,if_false, *])
 .refine⟨λh=> ?_,λh=>absurd h ?_⟩
  .unfold wdo;rw [if_neg ha]
  .exact ha
def bK(n:Int):List aj:=if 1<=n/\n<=65535 then [⟨n,[]⟩]else []
def aqE{p1 f1}(U1:Y1 p1 f1)(a:Int):
  aa4.F (p1,f1,()) (a,()) (λy=>y=(bK a,())):=by
 dsimp only [aa4,gm];simp (disch:=omega) only [RR,U1.hp,U1.hf,bL,ji];unfold bK;exact⟨λh=>by rw [if_neg ah],λh=>by rw [if_pos ah]⟩
def bQ(n:Int):List aj:=if 0<=n/\n<=199 then [⟨1,[n]⟩]else []
def aqF{p1 f1}(U1:Y1 p1 f1)(a:Int):
  aaZ.F (p1,f1,()) (a,()) (λy=>y=(bQ a,())):=by
 dsimp only [aaZ,gm];simp (disch:=omega) only [RR,U1.hp,U1.hf,bL,ji];unfold bQ;exact⟨λh=>by rw [if_neg ah],λh=>by rw [if_pos ah]⟩
noncomputable def bE (p:List aj):Int×Bool:=if bp (aF p)then(if p.length=0 then(0,true)else if p.length=1/\(p.getD 0 default).atoms.length=0 then((p.getD 0 default).aW,true)else(0,false))else(0,false)
structure Y11(pp:List aj×Unit->Bool)(ff:List aj×Unit->Bool×Unit):Prop where
 hp:∀a,Sh a->pp (a,())=true
 hf:∀a,Sh a->ff (a,())=(bp (aF a),())
def aqG{p1 f1}(U1:Y11 p1 f1)(a:List aj)(ha:Sh a):
  aa7.F (p1,f1,()) (a,()) (λy=>y=((bE a).1,(bE a).2,())):=by
 dsimp only [aa7,gm];simp (disch:=omega) only [RR,U1.hp a ha,U1.hf a ha];unfold bE;refine⟨λh=> ?_,λh=>⟨λh1=> ?_,λh1=>⟨ah,ah,λh2=>⟨ah,ah,?_⟩,λh2=> ?_⟩⟩⟩
 .rw [if_neg (by simpa using h)]
 .rw [if_pos h,if_pos ah]
 .have h3:=h2.2;rw [show Int.toNat 0=0 from rfl]at h3;rw [if_pos h,if_neg ah,if_pos (show a.length=1/\(a.getD 0 default).atoms.length=0 by omega)];rfl
 .rw [if_pos h,if_neg ah,if_neg];intro h3;rw [decide_eq_true ah,Bool.true_and,decide_eq_false_iff_not]at h2;apply h2;rw [show Int.toNat 0=0 from rfl];omega
def ais(a:List Int)(ha:a.length<=1073741824):aa8.F () (a,()) (λy=>y=(a,())):=by
 dsimp only [aa8,gm];simp (disch:=omega) only [RR];omega
def bB{α:Type}{l:List α}{i:Int}{d x:α}(h0:0<=i)(h:i<l.length)(e:x=l.getD i.toNat d):l.take i.toNat++ [x]=l.take (i+1).toNat:=by
 rw [e,getD_lt ah,show(i+1).toNat=i.toNat+1 by omega,List.take_succ_eq_append_getElem ah]
structure Y12(pp:List Int×Unit->Bool)(ff:List Int×Unit->List Int×Unit):Prop where
 hp:∀a,a.length<=1073741824->pp (a,())=true
 hf:∀a,a.length<=1073741824->ff (a,())=(a,())
def aqH{p1 f1}(U1:Y12 p1 f1)(a:List aj)(ha:Sh a):
  abn.F (p1,f1,()) (a,()) (λy=>y=(a,())):=by
 have hlen:=ha.1;dsimp only [abn,gm];refine ak (λ(y:List aj×Int×Int×List aj×Unit)=>y.1=a/\y.2.1=a.length/\y.2.2.2.1=a.take y.2.2.1.toNat/\0<=y.2.2.1/\y.2.2.1<=a.length) (λy=>(a.length-y.2.2.1).toNat) ⟨rfl,rfl,by simp,by simp,by simp⟩ ?_;rintro⟨(l:List aj),(m:Int),(i:Int),(o:List aj),⟨⟩⟩ hI;dsimp only at hI ⊢;obtain⟨rfl,rfl,rfl,h1,h2⟩:=hI;simp (disch:=first | omega | (have:=ha.at i.toNat;omega)) only [RR,U1.hp,U1.hf];have h3:=ha.at i.toNat;refine⟨λh4=>⟨ah,ah,?_,⟨bB h1 h4 rfl,ah,ah⟩,ah⟩,λh4=>by rw [List.take_of_length_le ah]⟩;have:=List.length_take_le' i.toNat l;simp only [List.length_cons,List.length_nil];omega
def ShA(a:Atom):Prop:=Sh a.x/\Sh a.y
def ShT(t:List Atom):Prop:=t.length<1000000000/\∀a∈t,ShA a
def ShT.at{p:List Atom}(h:ShT p)(n:Nat):ShA (p.getD n default):=by
 by_cases h1:n<p.length
 .rw [getD_lt h1];exact h.2 _ (List.getElem_mem _)
 .simp only [List.getD,List.getElem?_eq_none (by omega:p.length<=n)];refine⟨⟨by decide,λm hm=> ?_⟩,⟨by decide,λm hm=> ?_⟩⟩<;>exact absurd hm (by simp [default,instInhabitedAtom.default])
structure Y13(pp:List aj×Unit->Bool)(ff:List aj×Unit->List aj×Unit):Prop where
 hp:∀a,Sh a->pp (a,())=true
 hf:∀a,Sh a->ff (a,())=(a,())
def aqI{p1 f1}(U1:Y13 p1 f1)(a:List Atom)(ha:ShT a):
  abo.F (p1,f1,()) (a,()) (λy=>y=(a,())):=by
 have hlen:=ha.1;dsimp only [abo,gm];refine ak (λ(y:List Atom×Int×Int×List Atom×Unit)=>y.1=a/\y.2.1=a.length/\y.2.2.2.1=a.take y.2.2.1.toNat/\0<=y.2.2.1/\y.2.2.1<=a.length) (λy=>(a.length-y.2.2.1).toNat) ⟨rfl,rfl,by simp,by simp,by simp⟩ ?_;rintro⟨(l:List Atom),(m:Int),(i:Int),(o:List Atom),⟨⟩⟩ hI;dsimp only at hI ⊢;obtain⟨rfl,rfl,rfl,h1,h2⟩:=hI;simp (disch:=omega) only [RR,U1.hp _ (ha.at _).1,U1.hf _ (ha.at _).1,U1.hp _ (ha.at _).2,U1.hf _ (ha.at _).2];refine⟨λh4=>⟨ah,ah,?_,⟨bB h1 h4 rfl,ah,ah⟩,ah⟩,λh4=>by rw [List.take_of_length_le ah]⟩;have:=List.length_take_le' i.toNat l;simp only [List.length_cons,List.length_nil];omega
def aqJ{p4 f4}(U4:Y7 p4 f4)(a b:aj)(ha:a.atoms.length<1000000000):
  aa9.F (p4,f4,()) (a,b,()) (λy=>y=(cB a.atoms b.atoms,())):=by
 dsimp only [aa9,gm];simp (disch:=omega) only [RR,U4.hp a.atoms b.atoms ha,U4.hf a.atoms b.atoms ha]
def aqK(a:List Atom):aaX.F () (a,()) (λy=>y=(a,())):=by
 dsimp only [aaX,gm];simp (disch:=omega) only [RR];refine⟨ah,ah,ah,?_⟩;rw [List.take_of_length_le ah];rfl
def rM(a b:Atom):Bool:=decide (a.kind=b.kind)&&decide (a.k=b.k)&&decide (dU a.x b.x=0)&&decide (dU a.y b.y=0)
structure Y14(pp:List aj×List aj×Unit->Bool)(ff:List aj×List aj×Unit->Bool×Unit):Prop where
 hp:∀a b,Sh a->pp (a,b,())=true
 hf:∀a b,Sh a->ff (a,b,())=(decide (dU a b=0),())
def aqL{p1 f1}(U1:Y14 p1 f1)(a b:Atom)(ha:ShA a):
  aaS.F (p1,f1,()) (a,b,()) (λy=>y=(rM a b,())):=by
 dsimp only [aaS,gm];simp (disch:=omega) only [RR,U1.hp a.x b.x ha.1,U1.hf a.x b.x ha.1,U1.hp a.y b.y ha.2,U1.hf a.y b.y ha.2];rfl
structure Y15(pp:Atom×Atom×Unit->Bool)(ff:Atom×Atom×Unit->Bool×Unit):Prop where
 hp:∀a b,ShA a->pp (a,b,())=true
 hf:∀a b,ShA a->ff (a,b,())=(rM a b,())
def aqM{p1 f1}(U1:Y15 p1 f1)(a b:Atom)(hb:ShA b):
  aaT.F (p1,f1,()) (a,b,()) (λy=>y=(rM b a,b,())):=by
 dsimp only [aaT,gm];simp (disch:=omega) only [RR,U1.hp b a hb,U1.hf b a hb]
noncomputable def idxOf (n:Int) (G:Int->Prop):Int:= @dite _ (∃r,Idx n G r) (Classical.propDecidable _) (λh=>Classical.choose h) (λ_=> -1)
def Idx.uniq{n:Int}{G:Int->Prop}{r s:Int}(h:Idx n G r)(h':Idx n G s):r=s:=by
 rcases h with⟨h1,h2⟩ | ⟨h1,h2,h3,h4⟩<;>rcases h' with⟨g1,g2⟩ | ⟨g1,g2,g3,g4⟩
 .omega
 .exact absurd g3 (h2 s g1 g2)
 .exact absurd h3 (g2 r h1 h2)
 .by_cases h5:r<s
  .exact absurd h3 (g4 r h1 h5)
  .by_cases h6:s<r
   .exact absurd g3 (h4 s g1 h6)
   .omega
def Idx.eq{n:Int}{G:Int->Prop}{r:Int}(h:Idx n G r):r=idxOf n G:=by
 unfold idxOf;have he:∃r,Idx n G r:=⟨r,h⟩;rw [dif_pos he];exact h.uniq (Classical.choose_spec he)
def aqN{p:Atom×Atom×Unit->Bool}{f:Atom×Atom×Unit->Bool×Atom×Unit}(hp:∀a b,ShA b->p (a,b,())=true)(hf:∀a b,ShA b->f (a,b,())=(rM b a,b,()))(a:List Atom)(b:Atom)(ha:a.length<1000000000)(hb:ShA b):
  aaU.F (p,f,()) (a,b,()) (λy=>y=(idxOf a.length (λi=>rM b (a.getD i.toNat default)=true),b,())):=by
 dsimp only [aaU,gm];refine ak (λ(y:List Atom×Int×Int×Atom×Unit)=>y.1=a/\y.2.1=a.length/\y.2.2.2.1=b/\0<=y.2.2.1/\y.2.2.1<=a.length/\All y.2.2.1 (λi=>¬rM b (a.getD i.toNat default)=true)) (λy=>(a.length-y.2.2.1).toNat) ⟨rfl,rfl,rfl,by simp,by simp,All.zero⟩ ?_;rintro⟨(l:List Atom),(m:Int),(i:Int),(b':Atom),⟨⟩⟩ hI;dsimp only at hI ⊢;obtain⟨rfl,rfl,rfl,h1,h2,h3⟩:=hI;simp (disch:=omega) only [RR,hp _ _ hb,hf _ _ hb];refine⟨λh4=>⟨ah,ah,λh5=> ?_,λh5=>⟨⟨ah,ah,h3.snoc (by simp only [h5];simp)⟩,ah⟩⟩,λh4=> ?_⟩
 .rw [<-Idx.eq (Or.inr ⟨ah,ah,h5,h3⟩)]
 .rw [<-Idx.eq (Or.inl ⟨rfl,h3.le ah⟩)]
noncomputable def jY (t:List Atom) (a:Atom):Int:=idxOf t.length (λi=>rM a (t.getD i.toNat default)=true)
def aqO{p:List Atom×Atom×Unit->Bool}{f:List Atom×Atom×Unit->Int×Atom×Unit}(hp:∀a b,a.length<1000000000->ShA b->p (a,b,())=true)
  (hf:∀a b,a.length<1000000000->ShA b->f (a,b,())=(idxOf a.length (λi=>rM b (a.getD i.toNat default)=true),b,())) (a:List Atom) (b:Atom) (ha:a.length<1000000000) (hb:ShA b):
  aaV.F (p,f,()) (a,b,()) (λy=>y=(jY a b,())):=by
 dsimp only [aaV,gm];simp (disch:=omega) only [RR,hp a b ha hb,hf a b ha hb];rfl
def dJ(a:Atom)(n:Int):Prop:=if a.kind=4 then(1<=a.k/\a.k<=5)/\aF a.x/\aF a.y/\aN a.x n/\aN a.y n else
 (a.x=[]/\a.y=[])/\((a.kind=1/\0<=a.k/\a.k<=3)\/(a.kind=2\/a.kind=3)/\0<=a.k/\a.k<=199)
structure Y16(pp:Int×Unit->Bool)(ff:Int×Unit->Bool×Unit):Prop where
 hp:∀a,pp (a,())=true
 hf:∀a,ff (a,())=(inB a 1 5,())
structure Y17(pp:Int×Unit->Bool)(ff:Int×Unit->Bool×Unit):Prop where
 hp:∀a,pp (a,())=true
 hf:∀a,ff (a,())=(inB a 0 3,())
def aqP{p1 f1 p2 f2 p3 f3 p4 f4 p5 f5}(U1:Y1 p1 f1)(U2:Y16 p2 f2)(U3:Y6 p3 f3)(U4:Y11 p4 f4)(U5:Y17 p5 f5)(a:Atom)(n:Int)(ha:ShA a):
  aaP.F (p1,f1,p2,f2,p3,f3,p4,f4,p5,f5,()) (a,n,()) (λy=>y=(bp (dJ a n),())):=by
 obtain⟨hx,hy⟩:=ha;have hx1:=hx.1;have hy1:=hy.1;dsimp only [aaP,gm];simp (disch:=omega) only [RR,U1.hp,U1.hf,U2.hp,U2.hf,U3.hp a.x n hx,U3.hf a.x n hx,U3.hp a.y n hy,U3.hf a.y n hy,U4.hp a.x hx,U4.hf a.x hx,U4.hp a.y hy,U4.hf a.y hy,U5.hp,U5.hf];unfold dJ;refine⟨λh=> ?_,λh=>⟨λh1=> ?_,λh1=> ?_⟩⟩
 .rw [if_pos h]
  congr 1
  rw [Bool.eq_iff_iff,aQ];simp only [Bool.and_eq_true,bL,aQ,and_assoc]
 .rw [if_neg h,bP];rintro⟨⟨h2,h3⟩, -⟩;rw [h2,h3]at h1;exact absurd h1 (by simp)
 .rw [if_neg h];have h2:a.x=[]:=List.eq_nil_of_length_eq_zero ah;have h3:a.y=[]:=List.eq_nil_of_length_eq_zero ah
  congr 1
  rw [Bool.eq_iff_iff,aQ];simp only [Bool.or_eq_true,Bool.and_eq_true,decide_eq_true_eq,bL,h2,h3,true_and]
def aC(t:List Atom):Prop:=All t.length (λi=>dJ (t.getD i.toNat default) i/\jY t (t.getD i.toNat default)=i)/\t.length<=200
structure Y18(pp:Atom×Int×Unit->Bool)(ff:Atom×Int×Unit->Bool×Unit):Prop where
 hp:∀a n,ShA a->pp (a,n,())=true
 hf:∀a n,ShA a->ff (a,n,())=(bp (dJ a n),())
structure Y19(pp:List Atom×Atom×Unit->Bool)(ff:List Atom×Atom×Unit->Int×Unit):Prop where
 hp:∀a b,a.length<1000000000->ShA b->pp (a,b,())=true
 hf:∀a b,a.length<1000000000->ShA b->ff (a,b,())=(jY a b,())
def aqQ{p1 f1 p2 f2}(U1:Y18 p1 f1)(U2:Y19 p2 f2)(a:List Atom)(ha:ShT a):
  aaW.F (p1,f1,p2,f2,()) (a,()) (λy=>y=(bp (aC a),())):=by
 have hlen:=ha.1;dsimp only [aaW,gm];refine ak (λ(y:List Atom×Int×Int×List Atom×Unit)=>y.1=a/\y.2.1=a.length/\y.2.2.2.1=a/\0<=y.2.2.1/\y.2.2.1<=a.length/\All y.2.2.1 (λi=>dJ (a.getD i.toNat default) i/\jY a (a.getD i.toNat default)=i)) (λy=>(a.length-y.2.2.1).toNat) ⟨rfl,rfl,rfl,by simp,by simp,All.zero⟩ ?_;rintro⟨(l:List Atom),(m:Int),(i:Int),(b':List Atom),⟨⟩⟩ hI;dsimp only at hI ⊢;obtain⟨rfl,rfl,rfl,h1,h2,h3⟩:=hI;simp (disch:=omega) only [RR,U1.hp _ _ (ha.at _),U1.hf _ _ (ha.at _),U2.hp _ _ ha.1 (ha.at _),U2.hf _ _ ha.1 (ha.at _),aQ,jh];refine⟨λh4=>⟨ah,ah,λh5=> ?_,λh5=>⟨⟨ah,ah,h3.snoc h5⟩,ah⟩⟩,λh4=> ?_⟩
 .rw [bP (λh=> ?_)];have:=h.1 i h1 h4;rcases h5 with h5 | h5
  .exact h5 this.1
  .exact h5 this.2
 .by_cases h5:b'.length<=200
  .rw [aV (show aC b' from⟨h3.le ah,h5⟩),decide_eq_true ah]
  .rw [bP (show¬aC b' from λh=>h5 h.2),decide_eq_false ah]
noncomputable def aI (t:List Atom) (a:Atom):List Atom×Int:=if 0<=jY t a then(t,jY t a)else @ite _ (¬dJ a t.length\/t.length=200) (Classical.propDecidable _) (t, -1) (t++ [a],(t.length:Int))
def aqR{p1 f1 p2 f2}(U1:Y18 p1 f1)(U2:Y19 p2 f2){p3:List Atom×Unit->Bool}{f3:List Atom×Unit->List Atom×Unit}(hp3:∀a,p3 (a,())=true)(hf3:∀a,f3 (a,())=(a,()))(t:List Atom)(a:Atom)(ht:t.length<1000000000)(ha:ShA a):
  aaY.F (p1,f1,p2,f2,p3,f3,()) (t,a,()) (λy=>y=((aI t a).1,(aI t a).2,())):=by
 dsimp only [aaY,gm];simp (disch:=omega) only [RR,U1.hp a t.length ha,U1.hf a t.length ha,U2.hp t a ht ha,U2.hf t a ht ha,hp3,hf3,aQ,jh];unfold aI;refine⟨λh=>by rw [if_pos h],λh=>⟨λh1=> ?_,λh1=>⟨?_,?_,?_⟩⟩⟩
 .rw [if_neg h,if_pos (by rcases h1 with h1 | h1;exact Or.inl h1;exact Or.inr ah)]
 .exact Or.inl (by simp)
 .simp only [List.length_cons,List.length_nil];omega
 .rw [if_neg h,if_neg (by rintro(h2 | h2);exact h2 h1.1;exact absurd h2 ah)]
def wD(a b:Int):gZ b a= -gZ a b:=by unfold gZ;repeat' split<;>omega
def iV{a b:Int}:gZ a b=0↔a=b:=by unfold gZ;constructor<;>intro h<;>(repeat' split at*)<;>omega
def H7:∀a b:List Int,jX b a= -jX a b
 | [],[]=>rfl | [],_::_=>rfl | _::_,[]=>rfl
 | a::az,b::bs=>by
  simp only [jX,wD a b,H7 az bs];split<;>split<;>omega
def H8:∀ {a b:List Int},jX a b=0->a=b
 | [],[],_=>rfl | [],_::_,h=>by simp [jX]at h
 | _::_,[],h=>by simp [jX]at h
 | a::az,b::bs,h=>by
  simp only [jX]at h;split at h
  .exact absurd h (by assumption)
  .rename_i h1;rw [iV.1 (Classical.not_not.1 h1),H8 h]
def H9:∀a:List Int,jX a a=0
 | []=>rfl
 | a::az=>by simp only [jX,show gZ a a=0 from iV.2 rfl];simp [H9 az]
def FL:∀ {a b c:List Int},jX a b<=0->jX b c<=0->jX a c<=0
 | [],_,[],_,_=>by simp [jX]
 | [],_,_::_,_,_=>by simp [jX]
 | _::_,[],_,h,_=>by simp [jX]at h
 | _::_,_::_,[],_,h=>by simp [jX]at h
 | a::az,b::bs,c::cs,h1,h2=>by
  have ih:= @FL az bs cs;simp only [jX]at h1 h2 ⊢;unfold gZ at h1 h2 ⊢
  repeat' split at h1
  all_goals (repeat' split at h2)
  all_goals (repeat' split)
  all_goals omega
def jL(a b:List Int):cB b a= -cB a b:=by
 unfold cB or2;rw [wD,H7];repeat' split<;>omega
def gU{a b:List Int}:cB a b=0↔a=b:=by
 constructor
 .intro h;unfold cB or2 at h;split at h
  .exact absurd h (by assumption)
  .exact H8 h
 .rintro rfl;unfold cB or2;rw [show gZ (a.length:Int) a.length=0 from iV.2 rfl,H9];rfl
def yX{a b c:List Int}(h1:cB a b<=0)(h2:cB b c<=0):cB a c<=0:=by
 have ih:= @FL a b c;unfold cB or2 gZ at*
 repeat' split at h1
 all_goals (repeat' split at h2)
 all_goals (repeat' split)
 all_goals omega
def le(x y:aj):Prop:=cB x.atoms y.atoms<=0
def le.trans{x y z:aj}(h1:le x y)(h2:le y z):le x z:=yX h1 h2
def qb{x y:aj}(h:¬cB y.atoms x.atoms<0):le x y:=by unfold le;rw [jL];omega
def le_of_lt{x y:aj}(h:cB x.atoms y.atoms<0):le x y:=by unfold le;omega
def le_refl(x:aj):le x x:=by unfold le;rw [gU.2 rfl];omega
def dz{x y z:aj}(h1:le x y)(h2:cB y.atoms z.atoms<0):cB x.atoms z.atoms<0:=by
 have h3:=yX h1 (le_of_lt h2);by_cases h:cB x.atoms z.atoms=0
 .have e:=gU.1 h;unfold le at h1;rw [e,jL]at h1;omega
 .omega
def jM{x y z:aj}(h1:cB x.atoms y.atoms<0)(h2:le y z):cB x.atoms z.atoms<0:=by
 have h3:=yX (le_of_lt h1) h2;by_cases h:cB x.atoms z.atoms=0
 .have e:=gU.1 h;unfold le at h2;rw [<-e,jL]at h2;omega
 .omega
def JH(g:aj->Int)(x:aj):∀(d:List aj) (n:Nat) (h:n<d.length),((d.set n x).map g).sum=(d.map g).sum-g d[n]+g x
 | [],_,h=>absurd h (by simp)
 | a::d,0,h=>by simp;omega
 | a::d,n+1,h=>by
  have:=JH g x d n (by simpa using h);simp only [List.set_cons_succ,List.map_cons,List.sum_cons,List.getElem_cons_succ];omega
structure Sm(d d':List aj):Prop where
 len:d'.length=d.length
 sum:∀g:aj->Int,(d'.map g).sum=(d.map g).sum
def Sm.refl(d:List aj):Sm d d:=⟨rfl,λ_=>rfl⟩
def Sm.trans{a b c:List aj}(h1:Sm a b)(h2:Sm b c):Sm a c:=⟨h2.1.trans h1.1,λg=>(h2.2 g).trans (h1.2 g)⟩
def Sm.symm{a b:List aj}(h1:Sm a b):Sm b a:=⟨h1.1.symm,λg=>(h1.2 g).symm⟩
def JI(x:aj):∀d:List aj,0<=(d.map (λy=>if y=x then(1:Int)else 0)).sum/\(0< (d.map (λy=>if y=x then(1:Int)else 0)).sum↔x∈d)
 | []=>by simp
 | a::d=>by
  have:=JI x d;simp only [List.map_cons,List.sum_cons,List.mem_cons];by_cases h:a=x
  .rw [if_pos h];refine⟨ah,⟨λ_=>Or.inl h.symm,λ_=>by omega⟩⟩
  .rw [if_neg h];refine⟨ah,⟨λh2=>Or.inr (this.2.1 ah),λh2=> ?_⟩⟩;rcases h2 with h2 | h2
   .exact absurd h2.symm h
   .have:=this.2.2 h2;omega
def Sm.mem{a b:List aj}(h:Sm a b){x:aj}(hx:x∈b):x∈a:=by
 rw [<-(JI x a).2,<-h.2];exact(JI x b).2.2 hx
def Sm.sh{a b:List aj}(h:Sm a b)(hs:Sh a):Sh b:=⟨by have:=hs.1;have:=h.1;omega,λm hm=>hs.2 m (h.mem hm)⟩
def swp(d:List aj)(i j:Int):List aj:=(d.set i.toNat ((d).getD (j).toNat default)).set j.toNat ((d).getD (i).toNat default)
def agw(d:List aj)(i j:Int):(swp d i j).length=d.length:=by simp [swp]
def at_set{d:List aj}{i j:Int}{x:aj}(h1:0<=i)(h2:i<d.length)(h3:0<=j):((d.set i.toNat x).getD (j).toNat default)=if j=i then x else((d).getD (j).toNat default):=by
 simp only [List.getD];by_cases h:j=i
 .subst h;rw [if_pos rfl,List.getElem?_set_self ah];rfl
 .rw [if_neg h,List.getElem?_set_ne ah]
def uF{d:List aj}{i j k:Int}(h1:0<=i)(h2:i<d.length)(h3:0<=j)(h4:j<d.length)(h5:0<=k):((swp d i j).getD (k).toNat default)=if k=j then((d).getD (i).toNat default)else if k=i then((d).getD (j).toNat default)else((d).getD (k).toNat default):=by
 unfold swp;rw [at_set h3 (by simp;omega) h5,at_set h1 h2 h5]
def JJ{d:List aj}{i j:Int}(h1:0<=i)(h2:i<d.length)(h3:0<=j)(h4:j<d.length):Sm d (swp d i j):=by
 refine⟨agw d i j,λg=> ?_⟩;unfold swp;rw [getD_lt (show i.toNat<d.length by omega),getD_lt (show j.toNat<d.length by omega),JH g _ _ _ (by simp;omega),JH g _ _ _ ah,List.getElem_set];split
 .rename_i h;have:i=j:=by omega
  subst this;omega
 .omega
def Swp(d d':List aj)(a b n:Int):Prop:=Sm d d'/\∀k,0<=k->((d').getD (k).toNat default)=if a<=k/\k<a+n then((d).getD (k+(b-a)).toNat default)else if b<=k/\k<b+n then((d).getD (k- (b-a)).toNat default)else((d).getD (k).toNat default)
theorem abS(a b n:Int)(d:List aj)(hl:d.length<1000000000)(h1:0<=a)(h2:0<=n)(h3:a+n<=b)(h4:b+n<=d.length):
  Qw.F () (a,b,n,d,()) (λy=>Swp d y.1 a b n):=by
 dsimp only [Qw,gm]
 refine ak (λ(y:Int×Int×Int×Int×List aj×Unit)=>y.1=a/\y.2.1=b/\y.2.2.1=n/\0<=y.2.2.2.1/\y.2.2.2.1<=n/\Swp d y.2.2.2.2.1 a b y.2.2.2.1) (λy=>(n-y.2.2.2.1).toNat)
  ⟨rfl,rfl,rfl,by simp,by simp;omega,Sm.refl d,λk hk=>by dsimp only;rw [if_neg ah,if_neg ah]⟩ ?_
 rintro⟨(a':Int),(b':Int),(n':Int),(i:Int),(e:List aj),⟨⟩⟩ hI;dsimp only at hI ⊢;obtain⟨rfl,rfl,rfl,h5,h6,h7,h8⟩:=hI;have hle:=h7.1;simp (disch:=omega) only [RR,List.length_set];refine⟨λh9=> ?_,λh9=> ?_⟩
 .have e1:(e.set (a'+i).toNat ((e).getD (b'+i).toNat default)).set (b'+i).toNat ((e).getD (a'+i).toNat default)=swp e (a'+i) (b'+i):=rfl;rw [e1];refine⟨ah,ah,ah,ah,ah,ah,ah,ah,ah,ah,ah,ah,ah,ah,ah,ah,⟨ah,ah,h7.trans (JJ ah ah ah ah),λk hk=> ?_⟩,ah⟩;rw [uF ah ah ah ah hk];rw [h8 _ ah,h8 _ ah,h8 _ hk]
  repeat' split
  all_goals first | rfl | (exfalso;omega) | (congr 2;omega)
 .have:i=n':=by omega
  subst this;exact⟨h7,h8⟩
def Rot(d d':List aj)(a m b:Int):Prop:=Sm d d'/\∀k,0<=k->((d').getD (k).toNat default)=if a<=k/\k<a+(b-m)then((d).getD (k+(m-a)).toNat default)else if a+(b-m)<=k/\k<b then((d).getD (k- (b-m)).toNat default)else((d).getD (k).toNat default)
def akS{p:Int×Int×Int×List aj×Unit->Bool}{f:Int×Int×Int×List aj×Unit->List aj×Unit}
  (hp:∀(a b n:Int) (d:List aj),d.length<1000000000->0<=a->0<=n->a+n<=b->b+n<=d.length->p (a,b,n,d,())=true) (hf:∀(a b n:Int) (d:List aj),d.length<1000000000->0<=a->0<=n->a+n<=b->b+n<=d.length->Swp d (f (a,b,n,d,())).1 a b n)
  (a m b:Int) (d:List aj) (hl:d.length<1000000000) (h1:0<=a) (h2:a<m) (h3:m<b) (h4:b<=d.length):
  Qx.F (p,f,()) (a,m,b,d,()) (λy=>Rot d y.1 a m b):=by
 dsimp only [Qx,gm];simp (disch:=omega) only [RR]
 refine ak (λ(y:Int×Int×Int×List aj×Unit)=>y.1=m/\0<y.2.1/\0<y.2.2.1/\a<=m-y.2.1/\m+y.2.2.1<=b/\Sm d y.2.2.2.1/\
   ∀k,0<=k->(if a<=k/\k<a+(b-m)then((d).getD (k+(m-a)).toNat default)else if a+(b-m)<=k/\k<b then((d).getD (k- (b-m)).toNat default)else((d).getD (k).toNat default))
    =(if m-y.2.1<=k/\k<m-y.2.1+y.2.2.1 then((y.2.2.2.1).getD (k+y.2.1).toNat default)else if m-y.2.1+y.2.2.1<=k/\k<m+y.2.2.1 then((y.2.2.2.1).getD (k-y.2.2.1).toNat default)else((y.2.2.2.1).getD (k).toNat default))) (λy=>(y.2.1+y.2.2.1).toNat)
  ⟨rfl,by simp;omega,by simp;omega,by simp;omega,by simp;omega,Sm.refl d,λk hk=>by
   dsimp only;rw [show m- (m-a)=a by omega,show m+(b-m)=b by omega]⟩ ?_
 rintro⟨(m':Int),(i:Int),(j:Int),(e:List aj),⟨⟩⟩ hI;dsimp only at hI ⊢;obtain⟨rfl,h5,h6,h7,h8,h9,h10⟩:=hI;have hle:=h9.1;simp (disch:=omega) only [RR];refine⟨λh11=>⟨λh12=> ?_,λh12=> ?_⟩,λh11=> ?_⟩
 .obtain⟨s1,s2⟩:=hf (m'-i) m' j e ah ah ah ah ah;refine⟨hp _ _ _ _ ah ah ah ah ah,⟨ah,ah,ah,ah,h9.trans s1,λk hk=> ?_⟩,ah⟩;rw [h10 k hk];generalize (f (m'-i,m',j,e,())).1=e' at s1 s2 ⊢;by_cases c1:m'-i<=k/\k<m'-i+j
  .rw [if_pos c1,if_neg ah,if_neg ah,s2 k hk,if_pos c1];congr 2;omega
  .rw [if_neg c1];by_cases c2:m'-i+j<=k/\k<m'+j
   .rw [if_pos c2];by_cases c3:m'- (i-j)<=k/\k<m'- (i-j)+j
    .rw [if_pos c3,s2 _ ah,if_neg ah,if_pos ah];congr 2;omega
    .rw [if_neg c3,if_pos ah,s2 _ ah,if_neg ah,if_neg ah]
   .rw [if_neg c2,if_neg ah,if_neg ah,s2 _ hk,if_neg ah,if_neg ah]
 .obtain⟨s1,s2⟩:=hf (m'-i) (m'+j-i) i e ah ah ah ah ah;refine⟨hp _ _ _ _ ah ah ah ah ah,⟨ah,ah,ah,ah,h9.trans s1,λk hk=> ?_⟩,ah⟩;rw [h10 k hk];generalize (f (m'-i,m'+j-i,i,e,())).1=e' at s1 s2 ⊢;by_cases c1:m'-i<=k/\k<m'-i+j
  .rw [if_pos c1];by_cases c3:k<m'-i+(j-i)
   .rw [if_pos ah,s2 _ ah];by_cases c4:k<m'
    .by_cases c5:k+i<m'+j-i
     .rw [if_neg ah,if_neg ah]
     .exfalso;omega
    .by_cases c5:k+i<m'+j-i
     .rw [if_neg ah,if_neg ah]
     .exfalso;omega
   .by_cases c6:k<m'
    .rw [if_neg ah,if_pos ah,s2 _ ah,if_pos ah];congr 2;omega
    .rw [if_neg ah,if_pos ah,s2 _ ah];by_cases c7:k- (j-i)<m'
     .rw [if_pos ah];congr 2;omega
     .exfalso;omega
  .rw [if_neg c1];by_cases c2:m'-i+j<=k/\k<m'+j
   .rw [if_pos c2,if_neg ah,if_neg ah,s2 _ hk,if_neg ah,if_pos ah];congr 2;omega
   .rw [if_neg c2,if_neg ah,if_neg ah,s2 _ hk,if_neg ah,if_neg ah]
 .have hij:i=j:=by omega
  subst hij;obtain⟨s1,s2⟩:=hf (m'-i) m' i e ah ah ah ah ah;refine⟨hp _ _ _ _ ah ah ah ah ah,h9.trans s1,λk hk=> ?_⟩;rw [h10 k hk,s2 k hk]
  repeat' split
  all_goals first | rfl | (exfalso;omega) | (congr 2;omega)
def lQ(d:List aj)(a b:Int):Prop:=∀p q,a<=p->p<=q->q<b->le ((d).getD (p).toNat default) ((d).getD (q).toNat default)
def Out(d d':List aj)(a b:Int):Prop:=∀k,0<=k->(k<a\/b<=k)->((d').getD (k).toNat default)=((d).getD (k).toNat default)
structure Y20(pp:aj×aj×Unit->Bool)(ff:aj×aj×Unit->Int×Unit):Prop where
 hp:∀x y,x.atoms.length<1000000000->pp (x,y,())=true
 hf:∀x y,x.atoms.length<1000000000->ff (x,y,())=(cB x.atoms y.atoms,())
theorem akT{p f}(U:Y20 p f)(a b:Int)(d:List aj)(hd:Sh d)(h1:0<=a)(h2:a<=b)(h3:b<=d.length):
  Qv.F (p,f,()) (a,b,d,()) (λy=>Sm d y.1/\Out d y.1 a b/\lQ y.1 a b):=by
 have hlen:=hd.1;dsimp only [Qv,gm];simp (disch:=omega) only [RR]
 refine ak (λ(y:Int×Int×Int×List aj×Unit)=>y.1=a/\y.2.1=b/\a+1<=y.2.2.1/\(y.2.2.1<=b\/y.2.2.1=a+1)/\Sm d y.2.2.2.1/\Out d y.2.2.2.1 a b/\lQ y.2.2.2.1 a y.2.2.1) (λy=>(b-y.2.2.1).toNat)
  ⟨rfl,rfl,by simp,Or.inr rfl,Sm.refl d,λk _ _=>rfl,λp q h1 h2 h3=>by dsimp only at h3;rw [show p=q by omega];exact le_refl _⟩ ?_
 rintro⟨(a':Int),(b':Int),(i:Int),(e:List aj),⟨⟩⟩ hI;dsimp only at hI ⊢;obtain⟨rfl,rfl,h4,h5,h6,h7,h8⟩:=hI;have hle:=h6.1;simp (disch:=omega) only [RR];refine⟨λh9=> ?_,λh9=>⟨h6,h7,λp q g1 g2 g3=>h8 p q g1 g2 ah⟩⟩
 refine ak (λ(y:Int×Int×Int×Int×List aj×Unit)=>y.1=a'/\y.2.1=b'/\y.2.2.1=i/\a'<=y.2.2.2.1/\y.2.2.2.1<=i/\Sm d y.2.2.2.2.1/\Out d y.2.2.2.2.1 a' b'
   /\(∀p q,a'<=p->p<=q->q<=i->p≠y.2.2.2.1->q≠y.2.2.2.1->le ((y.2.2.2.2.1).getD (p).toNat default) ((y.2.2.2.2.1).getD (q).toNat default))/\(∀q,y.2.2.2.1<q->q<=i->le ((y.2.2.2.2.1).getD (y.2.2.2.1).toNat default) ((y.2.2.2.2.1).getD (q).toNat default))) (λy=>y.2.2.2.1.toNat)
  ⟨rfl,rfl,rfl,by simp;omega,by simp,h6,h7,λp q g1 g2 g3 g4 g5=>h8 p q g1 g2 (by dsimp only at g3 g5;omega),λq g1 g2=>by dsimp only at g1;omega⟩ ?_
 rintro⟨(a'':Int),(b'':Int),(i':Int),(j:Int),(e':List aj),⟨⟩⟩ hI;dsimp only at hI ⊢;obtain⟨rfl,rfl,rfl,h10,h11,h12,h13,h14,h15⟩:=hI;have hle':=h12.1;have hs:=h12.sh hd;simp (disch:=omega) only [RR,List.length_set,U.hp _ _ (hs.at _),U.hf _ _ (hs.at _)];have e1:(e'.set j.toNat ((e').getD (j-1).toNat default)).set (j-1).toNat ((e').getD (j).toNat default)=swp e' j (j-1):=rfl;rw [e1]
 repeat' (refine And.intro ?_ ?_)
 all_goals try omega
 .intro ⟨g1,g2⟩
  repeat' (refine And.intro ?_ ?_)
  all_goals try omega
  .exact h12.trans (JJ ah ah ah ah)
  .intro k hk hk2;rw [uF ah ah ah ah hk,if_neg ah,if_neg ah];exact h13 k hk hk2
  .intro p q k1 k2 k3 k4 k5;rw [uF ah ah ah ah ah,if_neg k4,uF ah ah ah ah ah,if_neg k5];by_cases c1:p=j
   .rw [if_pos c1];by_cases c2:q=j
    .rw [if_pos c2];exact le_refl _
    .rw [if_neg c2];exact h14 _ _ ah ah ah ah ah
   .rw [if_neg c1];by_cases c2:q=j
    .rw [if_pos c2];exact h14 _ _ ah ah ah ah ah
    .rw [if_neg c2];exact h14 _ _ ah ah ah ah ah
  .intro q k1 k2;rw [uF ah ah ah ah ah,if_pos rfl,uF ah ah ah ah ah,if_neg ah];by_cases c2:q=j
   .rw [if_pos c2];exact le_of_lt g2
   .rw [if_neg c2];exact h15 q ah k2
 .intro g;refine⟨⟨ah,ah,h12,h13,?_⟩,ah⟩;have hj:a''<j->le ((e').getD (j-1).toNat default) ((e').getD (j).toNat default):=λc=>qb (by
   simp only [decide_eq_true c,Bool.true_and,decide_eq_false_iff_not]at g;exact g)
  intro p q k1 k2 k3;by_cases c1:p=j
  .subst c1;by_cases c2:q=p
   .rw [c2];exact le_refl _
   .exact h15 q ah ah
  .by_cases c2:q=j
   .subst c2;by_cases c3:p=q-1
    .rw [c3];exact hj ah
    .exact(h14 p (q-1) k1 ah ah c1 ah).trans (hj ah)
   .exact h14 p q k1 k2 ah c1 c2
def half{x:Int}(h1:0<=x)(h2:x<=4000000000):IntKind.i64.wrap (jB .shr .u64 (IntKind.u64.wrap x) 1)=x/2:=by
 have e1:IntKind.u64.wrap x=x:=by simp [IntKind.wrap,IntKind.bits,IntKind.signed];omega
 have e2:jB .shr .u64 x 1=x/2:=by
  show x.fdiv (2^ (min (Int.toNat 1) IntKind.u64.bits))=x/2;rw [show(2:Int)^ (min (Int.toNat 1) IntKind.u64.bits)=2 by decide,Int.fdiv_eq_ediv_of_nonneg _ ah]
 rw [e1,e2,w64 ah ah]
structure Mrg(d d':List aj)(a b:Int):Prop where
 sm:Sm d d'
 out:Out d d' a b
 ins:∀k,a<=k->k<b->∃j,a<=j/\j<b/\((d').getD (k).toNat default)=((d).getD (j).toNat default)
 srt:lQ d' a b
structure BQ(a m b:Int)(d:List aj):Prop where
 sh:Sh d
 h1:0<=a
 h2:a<m
 h3:m<b
 h4:b<=d.length
 s1:lQ d a m
 s2:lQ d m b
def BR{P Q:Prop}[Decidable P][Decidable Q]:((decide P&&decide Q)=false)↔¬(P/\Q):=by by_cases h1:P<;>by_cases h2:Q<;>simp [h1,h2]
def Ms{p2:Int×Int×Int×List aj×Unit->Bool}{f2:Int×Int×Int×List aj×Unit->List aj×Unit}
    (hp2:∀(a m b:Int) (d:List aj),d.length<1000000000->0<=a->a<m->m<b->b<=d.length->p2 (a,m,b,d,())=true) (hf2:∀(a m b:Int) (d:List aj),d.length<1000000000->0<=a->a<m->m<b->b<=d.length->Rot d (f2 (a,m,b,d,())).1 a m b)
    {p3:Int×Int×Int×List aj×Unit->Bool} {f3:Int×Int×Int×List aj×Unit->List aj×Unit}
    (K:Int) (hp3:∀(a m b:Int) (d:List aj),BQ a m b d->b-a<K->p3 (a,m,b,d,())=true) (hf3:∀(a m b:Int) (d:List aj),BQ a m b d->b-a<K->Mrg d (f3 (a,m,b,d,())).1 a b)
    (a m b mid i E:Int) (d:List aj) (hd:BQ a m b d) (hK:b-a<=K) (hmid:mid=(a+b)/2) (hE:E=mid+m-i)
    (b1:a<=i) (b2:i<=m) (b3:m<=E) (b4:E<=b) (b5:a<mid) (b6:mid<b)
    (fA:i=a\/E=b\/le ((d).getD (i-1).toNat default) ((d).getD (E).toNat default)) (fB:E=m\/i=m\/le ((d).getD (E-1).toNat default) ((d).getD (i).toNat default)):
      (i<m/\m<E->
          p2 (i,m,E,d,())=true/\
            (a<i/\i<mid->
                p3 (a,i,mid,(f2 (i,m,E,d,())).fst,())=true/\
                  (mid<E/\E<b->
                      p3 (mid,E,b,(f3 (a,i,mid,(f2 (i,m,E,d,())).fst,())).fst,())=true/\
                        Mrg d (f3 (mid,E,b,(f3 (a,i,mid,(f2 (i,m,E,d,())).fst,())).fst,())).fst
                          a b)/\
                    ((decide (mid<E)&&decide (E<b))=false->
                      Mrg d (f3 (a,i,mid,(f2 (i,m,E,d,())).fst,())).fst a b))/\
              ((decide (a<i)&&decide (i<mid))=false->
                (mid<E/\E<b->
                    p3 (mid,E,b,(f2 (i,m,E,d,())).fst,())=true/\
                      Mrg d (f3 (mid,E,b,(f2 (i,m,E,d,())).fst,())).fst a b)/\
                  ((decide (mid<E)&&decide (E<b))=false->
                    Mrg d (f2 (i,m,E,d,())).fst a b)))/\
        ((decide (i<m)&&decide (m<E))=false->
          (a<i/\i<mid->
              p3 (a,i,mid,d,())=true/\
                (mid<E/\E<b->
                    p3 (mid,E,b,(f3 (a,i,mid,d,())).fst,())=true/\
                      Mrg d (f3 (mid,E,b,(f3 (a,i,mid,d,())).fst,())).fst a b)/\
                  ((decide (mid<E)&&decide (E<b))=false->
                    Mrg d (f3 (a,i,mid,d,())).fst a b))/\
            ((decide (a<i)&&decide (i<mid))=false->
              (mid<E/\E<b->
                  p3 (mid,E,b,d,())=true/\Mrg d (f3 (mid,E,b,d,())).fst a b)/\
                ((decide (mid<E)&&decide (E<b))=false->Mrg d d a b))):=by
  obtain⟨hs,h1,h2,h3,h4,hA,hB⟩:=hd;have hlen:=hs.1;have cross:∀x y,((a<=x/\x<i)\/(m<=x/\x<E))->((i<=y/\y<m)\/(E<=y/\y<b))->le ((d).getD (x).toNat default) ((d).getD (y).toNat default):=by
    rintro x y (hx | hx) (hy | hy)
    · exact hA x y hx.1 ah hy.2
    · rcases fA with fA | fA | fA
      · omega
      · omega
      · exact((hA x (i-1) hx.1 ah ah).trans fA).trans (hB E y b3 hy.1 hy.2)
    · rcases fB with fB | fB | fB
      · omega
      · omega
      · exact((hB x (E-1) hx.1 ah ah).trans fB).trans (hA i y b1 hy.1 hy.2)
    · exact hB x y hx.1 ah hy.2
  have aqS : ∀ e, Rot d e i m E -> ∀ R : Prop, R = Mrg d e a b -> (a < i /\ i < mid ->
              p3 (a,i,mid,e,())=true/\
                (mid<E/\E<b->
                    p3 (mid,E,b,(f3 (a,i,mid,e,())).fst,())=true/\
                      Mrg d (f3 (mid,E,b,(f3 (a,i,mid,e,())).fst,())).fst a b)/\
                  ((decide (mid<E)&&decide (E<b))=false->
                    Mrg d (f3 (a,i,mid,e,())).fst a b))/\
            ((decide (a<i)&&decide (i<mid))=false->
              (mid<E/\E<b->
                  p3 (mid,E,b,e,())=true/\Mrg d (f3 (mid,E,b,e,())).fst a b)/\
                ((decide (mid<E)&&decide (E<b))=false->R)):=by
    rintro e ⟨r1,r2⟩ R rfl;have hle:=r1.1;have hes:=r1.sh hs;have lo:∀k,a<=k->k<mid->∃x,((a<=x/\x<i)\/(m<=x/\x<E))/\((e).getD (k).toNat default)=((d).getD (x).toNat default):=by
      intro k k1 k2;rw [r2 k ah];by_cases c1:i<=k/\k<i+(E-m)
      · rw [if_pos c1];exact⟨k+(m-i),ah,rfl⟩
      · rw [if_neg c1,if_neg ah];exact⟨k,ah,rfl⟩
    have hi:∀k,mid<=k->k<b->∃x,((i<=x/\x<m)\/(E<=x/\x<b))/\((e).getD (k).toNat default)=((d).getD (x).toNat default):=by
      intro k k1 k2;rw [r2 k ah,if_neg ah];by_cases c1:i+(E-m)<=k/\k<E
      · rw [if_pos c1];exact⟨k- (E-m),ah,rfl⟩
      · rw [if_neg c1];exact⟨k,ah,rfl⟩
    have S1:lQ e a i:=by
      intro p q q1 q2 q3;rw [r2 p ah,r2 q ah,if_neg ah,if_neg ah,if_neg ah,if_neg ah];exact hA p q q1 q2 ah
    have S2:lQ e i mid:=by
      intro p q q1 q2 q3;rw [r2 p ah,r2 q ah,if_pos ah,if_pos ah];exact hB _ _ ah ah ah
    have S3:lQ e mid E:=by
      intro p q q1 q2 q3;rw [r2 p ah,r2 q ah,if_neg ah,if_pos ah,if_neg ah,if_pos ah];exact hA _ _ ah ah ah
    have S4:lQ e E b:=by
      intro p q q1 q2 q3;rw [r2 p ah,r2 q ah,if_neg ah,if_neg ah,if_neg ah,if_neg ah];exact hB _ _ ah ah ah
    have fin:∀e1 e2,Mrg e e1 a mid->Mrg e1 e2 mid b->Mrg d e2 a b:=by
      intro e1 e2 m1 m2;refine⟨(r1.trans m1.sm).trans m2.sm,λk k1 k2=> ?_,λk k1 k2=> ?_,λp q q1 q2 q3=> ?_⟩
      · rw [m2.out k k1 ah,m1.out k k1 ah,r2 k k1,if_neg ah,if_neg ah]
      · by_cases c:k<mid
        · rw [m2.out k ah ah];obtain⟨j,j1,j2,j3⟩:=m1.ins k k1 c;obtain⟨x,x1,x2⟩:=lo j j1 j2;rw [j3,x2];exact⟨x,ah,ah,rfl⟩
        · obtain⟨j,j1,j2,j3⟩:=m2.ins k ah k2;rw [j3,m1.out j ah ah];obtain⟨x,x1,x2⟩:=hi j j1 j2;rw [x2];exact⟨x,ah,ah,rfl⟩
      · by_cases c:q<mid
        · rw [m2.out p ah ah,m2.out q ah ah];exact m1.srt p q q1 q2 c
        · by_cases c2:mid<=p
          · exact m2.srt p q c2 q2 q3
          · rw [m2.out p ah ah];obtain⟨j,j1,j2,j3⟩:=m1.ins p q1 ah;obtain⟨x,x1,x2⟩:=lo j j1 j2;obtain⟨j',j1',j2',j3'⟩:=m2.ins q ah q3;obtain⟨x',x1',x2'⟩:=hi j' j1' j2';rw [j3,x2,j3',m1.out j' ah ah,x2'];exact cross x x' x1 x1'
    have triv:∀e' a' b',lQ e' a' b'->Mrg e' e' a' b':=λe' a' b' h=>⟨Sm.refl _,λ_ _ _=>rfl,λk k1 k2=>⟨k,k1,k2,rfl⟩,h⟩
    have last : ∀ e1, Mrg e e1 a mid -> (mid < E /\ E < b ->
                    p3 (mid,E,b,e1,())=true/\
                      Mrg d (f3 (mid,E,b,e1,())).fst a b)/\
                  ((decide (mid<E)&&decide (E<b))=false->
                    Mrg d e1 a b):=by
      intro e1 m1;have hle1:=m1.sm.1;have O:∀a' b',mid<=a'->b'<=b->lQ e a' b'->lQ e1 a' b':=λa' b' g1 g2 g p q q1 q2 q3=>by
        rw [m1.out p ah ah,m1.out q ah ah];exact g p q q1 q2 q3
      refine⟨λc=> ?_,λc=> ?_⟩
      · have pre:BQ mid E b e1:=⟨m1.sm.sh hes,ah,c.1,c.2,ah,O _ _ ah ah S3,O _ _ ah ah S4⟩;exact⟨hp3 _ _ _ _ pre ah,fin _ _ m1 (hf3 _ _ _ _ pre ah)⟩
      · rw [BR]at c;refine fin _ _ m1 (triv _ _ _ ?_);by_cases c2:mid<E
        · have:E=b:=by omega
          subst this;exact O _ _ ah ah S3
        · have:E=mid:=by omega
          rw [this]at S4;exact O _ _ ah ah S4
    refine⟨λc=> ?_,λc=> ?_⟩
    · have pre:BQ a i mid e:=⟨hes,ah,c.1,c.2,ah,S1,S2⟩;exact⟨hp3 _ _ _ _ pre ah,last _ (hf3 _ _ _ _ pre ah)⟩
    · rw [BR]at c;refine last e (triv _ _ _ ?_);by_cases c2:a<i
      · have:i=mid:=by omega
        rw [<-this];exact S1
      · have:i=a:=by omega
        rw [this]at S2;exact S2
  refine⟨λc=>⟨hp2 _ _ _ _ hlen ah c.1 c.2 ah,aqS _ (hf2 _ _ _ _ hlen ah c.1 c.2 ah) _ rfl⟩,λc=>aqS d ?_ _ rfl⟩;rw [BR]at c;refine⟨Sm.refl _,λk k1=> ?_⟩
  repeat' split
  all_goals first | rfl | (exfalso;omega) | (congr 2;omega)
theorem akU{p f}(U:Y20 p f){p2:Int×Int×Int×List aj×Unit->Bool}{f2:Int×Int×Int×List aj×Unit->List aj×Unit}(hp2:∀(a m b:Int) (d:List aj),d.length<1000000000->0<=a->a<m->m<b->b<=d.length->p2 (a,m,b,d,())=true)(hf2:∀(a m b:Int) (d:List aj),d.length<1000000000->0<=a->a<m->m<b->b<=d.length->Rot d (f2 (a,m,b,d,())).1 a m b){p3:Int×Int×Int×List aj×Unit->Bool}{f3:Int×Int×Int×List aj×Unit->List aj×Unit}(K:Int)(hp3:∀(a m b:Int) (d:List aj),BQ a m b d->b-a<K->p3 (a,m,b,d,())=true)(hf3:∀(a m b:Int) (d:List aj),BQ a m b d->b-a<K->Mrg d (f3 (a,m,b,d,())).1 a b)(a m b:Int)(d:List aj)(hd:BQ a m b d)(hK:b-a<=K):
  FJ.F (p,f,p2,f2,p3,f3,()) (a,m,b,d,()) (λy=>Mrg d y.1 a b):=by
 obtain⟨hs,h1,h2,h3,h4,hA,hB⟩:=hd;have hlen:=hs.1;dsimp only [FJ,gm];simp (disch:=omega) only [RR];refine⟨λh5=> ?_,λh5=>⟨λh6=> ?_,λh6=> ?_⟩⟩
 ·
  have hm:m=a+1:=by omega
  subst hm
  refine ak (λ(y:Int×Int×Int×List aj×Unit)=>y.1=a/\y.2.2.2.1=d/\a+1<=y.2.1/\y.2.1<=y.2.2.1/\y.2.2.1<=b/\(∀q,a+1<=q->q<y.2.1->cB ((d).getD (q).toNat default).atoms ((d).getD (a).toNat default).atoms<0)/\(∀q,y.2.2.1<=q->q<b->¬cB ((d).getD (q).toNat default).atoms ((d).getD (a).toNat default).atoms<0)) (λy=>(y.2.2.1-y.2.1).toNat)
   ⟨rfl,rfl,by simp,by simp;omega,by simp,λq g1 g2=>by dsimp only at g2;omega,λq g1 g2=>by dsimp only at g1;omega⟩ ?_
  rintro⟨(a':Int),(i:Int),(j:Int),(d':List aj),⟨⟩⟩ hI;dsimp only at hI ⊢;obtain⟨rfl,rfl,g1,g2,g3,g4,g5⟩:=hI;simp (disch:=omega) only [RR,half,U.hp _ _ (hs.at _),U.hf _ _ (hs.at _)];refine⟨λg6=>⟨ah,ah,ah,ah,ah,ah,ah,ah,ah,λg7=>⟨⟨ah,ah,ah,λq k1 k2=> ?_,g5⟩,ah⟩,λg7=>⟨⟨ah,ah,ah,g4,λq k1 k2=> ?_⟩,ah⟩⟩,λg6=> ?_⟩
  .exact dz (hB q ((i+j)/2) k1 ah ah) g7
  .intro g8;exact g7 (dz (hB ((i+j)/2) q ah ah k2) g8)
  have hij:i=j:=by omega
  subst hij
  refine ak (λ(y:Int×Int×List aj×Unit)=>y.1=i/\a'<=y.2.1/\y.2.1<=i-1/\Sm d' y.2.2.1/\(∀k,0<=k->((y.2.2.1).getD (k).toNat default)=if a'<=k/\k<y.2.1 then((d').getD (k+1).toNat default)else if k=y.2.1 then((d').getD (a').toNat default)else((d').getD (k).toNat default))) (λy=>(i-y.2.1).toNat)
   ⟨rfl,by simp,by simp;omega,Sm.refl _,λk hk=>by dsimp only;rw [if_neg ah];split;(· congr 2);(· rfl)⟩ ?_
  rintro⟨(i':Int),(k:Int),(e:List aj),⟨⟩⟩ hI;dsimp only at hI ⊢;obtain⟨rfl,k1,k2,k3,k4⟩:=hI;have hle:=k3.1;simp (disch:=omega) only [RR,List.length_set];have e1:(e.set k.toNat ((e).getD (k+1).toNat default)).set (k+1).toNat ((e).getD (k).toNat default)=swp e k (k+1):=rfl;rw [e1];refine⟨λg7=>⟨ah,ah,ah,ah,ah,ah,ah,ah,ah,ah,ah,ah,ah,ah,ah,ah,⟨ah,ah,k3.trans (JJ ah ah ah ah),λq hq=> ?_⟩,ah⟩,λg7=> ?_⟩
  .rw [uF ah ah ah ah hq,k4 _ ah,k4 _ ah,k4 _ hq]
   repeat' split
   all_goals first | rfl | (exfalso;omega) | (congr 2;omega)
  .have hk:k=i'-1:=by omega
   subst hk;refine⟨k3,λq hq hq2=> ?_,λq hq hq2=> ?_,λq r q1 q2 q3=> ?_⟩
   .rw [k4 q hq,if_neg ah,if_neg ah]
   .rw [k4 q ah]
    repeat' split
    .exact⟨q+1,ah,ah,rfl⟩
    .exact⟨a',ah,ah,rfl⟩
    .exact⟨q,ah,ah,rfl⟩
   .rw [k4 q ah,k4 r ah];by_cases c1:a'<=q/\q<i'-1
    .rw [if_pos c1];by_cases c2:a'<=r/\r<i'-1
     .rw [if_pos c2];exact hB _ _ ah ah ah
     .rw [if_neg c2];by_cases c3:r=i'-1
      .rw [if_pos c3];exact le_of_lt (g4 _ ah ah)
      .rw [if_neg c3];exact hB _ _ ah ah ah
    .rw [if_neg c1,if_neg (by omega:¬(a'<=r/\r<i'-1))];by_cases c3:q=i'-1
     .rw [if_pos c3];by_cases c4:r=i'-1
      .rw [if_pos c4];exact le_refl _
      .rw [if_neg c4];exact qb (g5 r ah ah)
     .rw [if_neg c3,if_neg ah];exact hB _ _ ah ah ah
 ·
  have hm:b=m+1:=by omega
  subst hm
  refine ak (λ(y:Int×Int×Int×List aj×Unit)=>y.1=m/\y.2.2.2.1=d/\a<=y.2.1/\y.2.1<=y.2.2.1/\y.2.2.1<=m/\(∀q,a<=q->q<y.2.1->¬cB ((d).getD (m).toNat default).atoms ((d).getD (q).toNat default).atoms<0)/\(∀q,y.2.2.1<=q->q<m->cB ((d).getD (m).toNat default).atoms ((d).getD (q).toNat default).atoms<0)) (λy=>(y.2.2.1-y.2.1).toNat)
   ⟨rfl,rfl,by simp,by simp;omega,by simp,λq g1 g2=>by dsimp only at g2;omega,λq g1 g2=>by dsimp only at g1;omega⟩ ?_
  rintro⟨(m':Int),(i:Int),(j:Int),(d':List aj),⟨⟩⟩ hI;dsimp only at hI ⊢;obtain⟨rfl,rfl,g1,g2,g3,g4,g5⟩:=hI;simp (disch:=omega) only [RR,half,U.hp _ _ (hs.at _),U.hf _ _ (hs.at _)];refine⟨λg6=>⟨ah,ah,ah,ah,ah,ah,ah,ah,ah,λg7=>⟨⟨ah,ah,ah,λq k1 k2=> ?_,g5⟩,ah⟩,λg7=>⟨⟨ah,ah,ah,g4,λq k1 k2=> ?_⟩,ah⟩⟩,λg6=> ?_⟩
  .intro g8;have:=hA q ((i+j)/2) k1 ah ah;apply g7;have h7:=jM g8 this;exact h7
  .exact jM g7 (hA ((i+j)/2) q ah ah k2)
  have hij:i=j:=by omega
  subst hij
  refine ak (λ(y:Int×Int×List aj×Unit)=>y.1=i/\i<=y.2.1/\y.2.1<=m'/\Sm d' y.2.2.1/\(∀k,0<=k->((y.2.2.1).getD (k).toNat default)=if y.2.1<k/\k<=m' then((d').getD (k-1).toNat default)else if k=y.2.1 then((d').getD (m').toNat default)else((d').getD (k).toNat default))) (λy=>(y.2.1-i).toNat)
   ⟨rfl,by simp;omega,by simp,Sm.refl _,λk hk=>by dsimp only;rw [if_neg ah];split;(· congr 2);(· rfl)⟩ ?_
  rintro⟨(i':Int),(k:Int),(e:List aj),⟨⟩⟩ hI;dsimp only at hI ⊢;obtain⟨rfl,k1,k2,k3,k4⟩:=hI;have hle:=k3.1;simp (disch:=omega) only [RR,List.length_set];have e1:(e.set k.toNat ((e).getD (k-1).toNat default)).set (k-1).toNat ((e).getD (k).toNat default)=swp e k (k-1):=rfl;rw [e1];refine⟨λg7=>⟨ah,ah,ah,ah,ah,ah,ah,ah,ah,ah,ah,ah,ah,ah,ah,ah,⟨ah,ah,k3.trans (JJ ah ah ah ah),λq hq=> ?_⟩,ah⟩,λg7=> ?_⟩
  .rw [uF ah ah ah ah hq,k4 _ ah,k4 _ ah,k4 _ hq]
   repeat' split
   all_goals first | rfl | (exfalso;omega) | (congr 2;omega)
  .have hk:k=i':=by omega
   subst hk;refine⟨k3,λq hq hq2=> ?_,λq hq hq2=> ?_,λq r q1 q2 q3=> ?_⟩
   .rw [k4 q hq,if_neg ah,if_neg ah]
   .rw [k4 q ah]
    repeat' split
    .exact⟨q-1,ah,ah,rfl⟩
    .exact⟨m',ah,ah,rfl⟩
    .exact⟨q,ah,ah,rfl⟩
   .rw [k4 q ah,k4 r ah];by_cases c1:k<q/\q<=m'
    .rw [if_pos c1,if_pos ah];exact hA _ _ ah ah ah
    .rw [if_neg c1];by_cases c3:q=k
     .rw [if_pos c3];by_cases c2:k<r/\r<=m'
      .rw [if_pos c2];exact le_of_lt (g5 _ ah ah)
      .rw [if_neg c2,if_pos ah];exact le_refl _
     .rw [if_neg c3];by_cases c2:k<r/\r<=m'
      .rw [if_pos c2];exact hA _ _ ah ah ah
      .rw [if_neg c2];by_cases c4:r=k
       .rw [if_pos c4];exact qb (g4 _ ah ah)
       .rw [if_neg c4];exact hA _ _ ah ah ah
 ·
  simp (disch:=omega) only [RR,half];refine⟨ah,λh7=> ?_,λh7=> ?_⟩
  .refine ak (λ(y:Int×Int×Int×Int×Int×Int×Int×Int×List aj×Unit)=>y.1=a/\y.2.1=m/\y.2.2.1=b/\y.2.2.2.1=(a+b)/2/\y.2.2.2.2.1=(a+b)/2+m/\y.2.2.2.2.2.2.2.1=(a+b)/2+m-1/\y.2.2.2.2.2.2.2.2.1=d/\(a+b)/2+m-b<=y.2.2.2.2.2.1/\y.2.2.2.2.2.1<=y.2.2.2.2.2.2.1/\y.2.2.2.2.2.2.1<=(a+b)/2
     /\(∀q,(a+b)/2+m-b<=q->q<y.2.2.2.2.2.1->¬cB ((d).getD ((a+b)/2+m-1-q).toNat default).atoms ((d).getD (q).toNat default).atoms<0)/\(∀q,y.2.2.2.2.2.2.1<=q->q< (a+b)/2->cB ((d).getD ((a+b)/2+m-1-q).toNat default).atoms ((d).getD (q).toNat default).atoms<0)) (λy=>(y.2.2.2.2.2.2.1-y.2.2.2.2.2.1).toNat)
    ⟨rfl,rfl,rfl,rfl,rfl,rfl,rfl,by simp,by simp;omega,by simp,λq g1 g2=>by dsimp only at g2;omega,λq g1 g2=>by dsimp only at g1;omega⟩ ?_
   rintro⟨(a':Int),(m':Int),(b':Int),(mid:Int),(n:Int),(i:Int),(j:Int),(r:Int),(d':List aj),⟨⟩⟩ hI;dsimp only at hI ⊢;obtain⟨rfl,rfl,rfl,hmid,hn,hr,rfl,g1,g2,g3,g4,g5⟩:=hI;rw [<-hmid]at g1 g3 g4 g5 h7;simp (disch:=omega) only [RR,half,U.hp _ _ (hs.at _),U.hf _ _ (hs.at _)];refine⟨λg6=>⟨ah,ah,ah,ah,ah,ah,ah,ah,ah,λg7=>⟨⟨hmid,hn,hr,ah,ah,ah,λq k1 k2=> ?_,by rw [<-hmid];exact g5⟩,ah⟩,λg7=>⟨⟨hmid,hn,hr,ah,ah,ah,by rw [<-hmid];exact g4,λq k1 k2=> ?_⟩,ah⟩⟩,λg6=> ?_⟩
   .rw [<-hmid]at k1 ⊢;intro g8;apply g7;rw [hr,<-hmid];exact dz (hB _ _ ah ah ah) (jM g8 (hA _ _ ah ah ah))
   .rw [<-hmid]at k2 ⊢;rw [hr,<-hmid]at g7;exact dz (hB _ _ ah ah ah) (jM g7 (hA _ _ ah ah ah))
   .have hij:i=j:=by omega
    subst hij;refine Ms hp2 hf2 K hp3 hf3 a' m' b' mid i (n-i) d' ⟨hs,h1,h2,h3,h4,hA,hB⟩ hK hmid ah ah ah ah ah ah ah ?_ ?_
    .by_cases c:i=mid+m'-b'
     .first | exact Or.inl ah | exact Or.inr (Or.inl ah)
     .refine Or.inr (Or.inr ?_);have:=g4 (i-1) ah ah;rw [show mid+m'-1- (i-1)=n-i by omega]at this;exact qb this
    .by_cases c:i=mid
     .first | exact Or.inl ah | exact Or.inr (Or.inl ah)
     .refine Or.inr (Or.inr ?_);have:=g5 i ah ah;rw [show mid+m'-1-i=n-i-1 by omega]at this;exact le_of_lt this
  .refine ak (λ(y:Int×Int×Int×Int×Int×Int×Int×Int×List aj×Unit)=>y.1=a/\y.2.1=m/\y.2.2.1=b/\y.2.2.2.1=(a+b)/2/\y.2.2.2.2.1=(a+b)/2+m/\y.2.2.2.2.2.2.2.1=(a+b)/2+m-1/\y.2.2.2.2.2.2.2.2.1=d/\a<=y.2.2.2.2.2.1/\y.2.2.2.2.2.1<=y.2.2.2.2.2.2.1/\y.2.2.2.2.2.2.1<=m
     /\(∀q,a<=q->q<y.2.2.2.2.2.1->¬cB ((d).getD ((a+b)/2+m-1-q).toNat default).atoms ((d).getD (q).toNat default).atoms<0)/\(∀q,y.2.2.2.2.2.2.1<=q->q<m->cB ((d).getD ((a+b)/2+m-1-q).toNat default).atoms ((d).getD (q).toNat default).atoms<0)) (λy=>(y.2.2.2.2.2.2.1-y.2.2.2.2.2.1).toNat)
    ⟨rfl,rfl,rfl,rfl,rfl,rfl,rfl,by simp,by simp;omega,by simp,λq g1 g2=>by dsimp only at g2;omega,λq g1 g2=>by dsimp only at g1;omega⟩ ?_
   rintro⟨(a':Int),(m':Int),(b':Int),(mid:Int),(n:Int),(i:Int),(j:Int),(r:Int),(d':List aj),⟨⟩⟩ hI;dsimp only at hI ⊢;obtain⟨rfl,rfl,rfl,hmid,hn,hr,rfl,g1,g2,g3,g4,g5⟩:=hI;rw [<-hmid]at g4 g5 h7;simp (disch:=omega) only [RR,half,U.hp _ _ (hs.at _),U.hf _ _ (hs.at _)];refine⟨λg6=>⟨ah,ah,ah,ah,ah,ah,ah,ah,ah,λg7=>⟨⟨hmid,hn,hr,ah,ah,ah,λq k1 k2=> ?_,by rw [<-hmid];exact g5⟩,ah⟩,λg7=>⟨⟨hmid,hn,hr,ah,ah,ah,by rw [<-hmid];exact g4,λq k1 k2=> ?_⟩,ah⟩⟩,λg6=> ?_⟩
   .rw [<-hmid];intro g8;apply g7;rw [hr,<-hmid];exact dz (hB _ _ ah ah ah) (jM g8 (hA _ _ ah ah ah))
   .rw [<-hmid];rw [hr,<-hmid]at g7;exact dz (hB _ _ ah ah ah) (jM g7 (hA _ _ ah ah ah))
   .have hij:i=j:=by omega
    subst hij;refine Ms hp2 hf2 K hp3 hf3 a' m' b' mid i (n-i) d' ⟨hs,h1,h2,h3,h4,hA,hB⟩ hK hmid ah ah ah ah ah ah ah ?_ ?_
    .by_cases c:i=a'
     .first | exact Or.inl ah | exact Or.inr (Or.inl ah)
     .refine Or.inr (Or.inr ?_);have:=g4 (i-1) ah ah;rw [show mid+m'-1- (i-1)=n-i by omega]at this;exact qb this
    .by_cases c:i=m'
     .first | exact Or.inl ah | exact Or.inr (Or.inl ah)
     .refine Or.inr (Or.inr ?_);have:=g5 i ah ah;rw [show mid+m'-1-i=n-i-1 by omega]at this;exact le_of_lt this
def wE{s a x:Int}(h:s ∣ a)(h1:a<x)(h2:x<a+s):¬s ∣ x:=λh3=>by
 have:=Int.le_of_dvd ah (Int.dvd_sub h3 h);omega
def lQ.adj{d:List aj}{a b:Int}(h:∀p,a<=p->p+1<b->le ((d).getD (p).toNat default) ((d).getD (p+1).toNat default)):lQ d a b:=by
 intro p q h1 h2 h3;obtain⟨n,hn⟩:∃n:Nat,q=p+n:=⟨(q-p).toNat,ah⟩;subst hn
 clear h2
 induction n with
 | zero=>rw [show p+((0:Nat):Int)=p by omega];exact le_refl _
 | succ n ih=>
  have:=h (p+n) ah ah;rw [show p+((n+1:Nat):Int)=p+n+1 by omega];exact(ih ah).trans this
def lQ.at1{d:List aj}{a b p:Int}(h:lQ d a b)(h1:a<=p)(h2:p+1<b):le ((d).getD (p).toNat default) ((d).getD (p+1).toNat default):=h p (p+1) h1 ah h2
def Bl(d:List aj)(s n:Int):Prop:=∀p,0<=p->p+1<n->¬s ∣ p+1->le ((d).getD (p).toNat default) ((d).getD (p+1).toNat default)
def akV{p:Int×Int×List aj×Unit->Bool}{f:Int×Int×List aj×Unit->List aj×Unit}
  (hp:∀(a b:Int) (d:List aj),Sh d->0<=a->a<=b->b<=d.length->p (a,b,d,())=true) (hf:∀(a b:Int) (d:List aj),Sh d->0<=a->a<=b->b<=d.length->Sm d (f (a,b,d,())).1/\Out d (f (a,b,d,())).1 a b/\lQ (f (a,b,d,())).1 a b)
  {p3:Int×Int×Int×List aj×Unit->Bool} {f3:Int×Int×Int×List aj×Unit->List aj×Unit}
  (hp3:∀(a m b:Int) (d:List aj),BQ a m b d->p3 (a,m,b,d,())=true) (hf3:∀(a m b:Int) (d:List aj),BQ a m b d->Mrg d (f3 (a,m,b,d,())).1 a b)
  (n:Int) (d:List aj) (hd:Sh d) (hn:n=d.length):
  Qy.F (p,f,p3,f3,()) (n,d,()) (λy=>Sm d y.1/\lQ y.1 0 n):=by
 have hlen:=hd.1;dsimp only [Qy,gm];simp (disch:=omega) only [RR]
 refine ak (λ(y:Int×Int×Int×Int×List aj×Unit)=>y.1=n/\y.2.1=20/\0<=y.2.2.1/\y.2.2.1<=n/\(20:Int) ∣ y.2.2.1/\y.2.2.2.1=y.2.2.1+20/\Sm d y.2.2.2.2.1/\Bl y.2.2.2.2.1 20 y.2.2.1) (λy=>(n+20-y.2.2.2.1).toNat)
  ⟨rfl,rfl,by simp,by simp;omega,⟨0,by simp⟩,rfl,Sm.refl _,λp h1 h2=>by dsimp only at h2;omega⟩ ?_
 rintro⟨(n':Int),(s:Int),(a:Int),(b:Int),(e:List aj),⟨⟩⟩ hI;dsimp only at hI ⊢;obtain⟨rfl,rfl,h1,h2,h3,rfl,h5,h6⟩:=hI;have hle:=h5.1;have hs:=h5.sh hd;simp (disch:=omega) only [RR];have bl:∀a c (e e':List aj),0<=a->(20:Int) ∣ a->c<=a+20->Bl e 20 a->Out e e' a c->lQ e' a c->Bl e' 20 c:=by
  intro a c e e' c0 c1 c2 c3 c4 c5 q q1 q2 q3;by_cases k1:q+1<a
  .rw [c4 q q1 ah,c4 (q+1) ah ah];exact c3 q q1 k1 q3
  .exact c5.at1 ah q2
 refine⟨λh7=> ?_,λh7=> ?_⟩
 .obtain⟨t1,t2,t3⟩:=hf a (a+20) e hs h1 ah ah;exact⟨hp a (a+20) e hs h1 ah ah,⟨ah,ah,ah,h5.trans t1,bl a (a+20) _ _ h1 h3 ah h6 t2 t3⟩,ah⟩
 obtain⟨t1,t2,t3⟩:=hf a n' e hs h1 ah ah;refine⟨hp a n' e hs h1 ah ah,?_⟩;have t4:=bl a n' _ _ h1 h3 ah h6 t2 t3;generalize (f (a,n',e,())).1=e2 at t1 t2 t3 t4 ⊢;have u1:=h5.trans t1
 clear t1 t2 t3 h5 h6
 refine ak (λ(y:Int×Int×List aj×Unit)=>y.1=n'/\0<y.2.1/\(y.2.1<=20\/y.2.1<=2*n')/\Sm d y.2.2.1/\Bl y.2.2.1 y.2.1 n') (λy=>(n'-y.2.1).toNat)
  ⟨rfl,by simp,Or.inl (by simp),u1,t4⟩ ?_
 rintro⟨(n:Int),(s:Int),(e3:List aj),⟨⟩⟩ hI;dsimp only at hI ⊢;obtain⟨rfl,g1,g2,g3,g4⟩:=hI;simp (disch:=omega) only [RR];refine⟨λg5=> ?_,λg5=>⟨g3,lQ.adj λq q1 q2=>g4 q q1 q2 (wE (a:=0) ⟨0,by simp⟩ ah ah)⟩⟩
 refine ak (λ(y:Int×Int×Int×Int×List aj×Unit)=>y.1=n/\y.2.1=s/\0<=y.2.2.1/\y.2.2.1<=n/\(2*s) ∣ y.2.2.1/\y.2.2.2.1=y.2.2.1+2*s/\Sm d y.2.2.2.2.1
   /\∀p,0<=p->p+1<n->¬(2*s) ∣ p+1->(p+1<y.2.2.1\/¬s ∣ p+1)->le ((y.2.2.2.2.1).getD (p).toNat default) ((y.2.2.2.2.1).getD (p+1).toNat default)) (λy=>(n+2*s-y.2.2.2.1).toNat)
  ⟨rfl,rfl,by simp,by simp;omega,⟨0,by simp⟩,by simp,g3,λq q1 q2 q3 q4=>g4 q q1 q2 (by dsimp only at q4;rcases q4 with q4 | q4;(· omega);(· exact q4))⟩ ?_
 rintro⟨(n':Int),(s':Int),(a:Int),(b:Int),(e4:List aj),⟨⟩⟩ hI;dsimp only at hI ⊢;obtain⟨rfl,rfl,k1,k2,k3,rfl,k5,k6⟩:=hI;have hle:=k5.1;have hs:=k5.sh hd;have ks:s' ∣ a:=Int.dvd_trans ⟨2,ah⟩ k3;simp (disch:=omega) only [RR];have blk:∀x,x<=n'->a+s'<x->x<=a+2*s'->BQ a (a+s') x e4:=λx x1 x2 x3=>
  ⟨hs,k1,ah,x2,ah,lQ.adj λq q1 q2=>by
   refine k6 q ah ah (wE k3 ah ah) (Or.inr (wE ks ah ah)),
   lQ.adj λq q1 q2=>by
   refine k6 q ah ah (wE k3 ah ah) (Or.inr (wE (Int.dvd_add ks (Int.dvd_refl s')) ah ah))⟩
 have stp:∀x e5,x<=n'->(x=a+2*s'\/x=n')->x<=a+2*s'->Mrg e4 e5 a x->∀p,0<=p->p+1<n'->¬(2*s') ∣ p+1->(p+1<x\/¬s' ∣ p+1)->le ((e5).getD (p).toNat default) ((e5).getD (p+1).toNat default):=by
  intro x e5 x1 x2 x3 m1 q q1 q2 q3 q4;by_cases c1:q+1<a
  .rw [m1.out q q1 ah,m1.out (q+1) ah ah];exact k6 q q1 q2 q3 (Or.inl c1)
  .by_cases c2:q+1=a
   .rw [c2]at q3;exact absurd k3 q3
   .by_cases c3:q+1<x
    .exact m1.srt.at1 ah c3
    .by_cases c4:q+1=x
     .exfalso;rcases x2 with x2 | x2
      .rw [c4,x2]at q3;exact q3 (Int.dvd_add k3 (Int.dvd_refl _))
      .omega
     .rw [m1.out q q1 ah,m1.out (q+1) ah ah];refine k6 q q1 q2 q3 (Or.inr ?_);rcases q4 with q4 | q4
      .omega
      .exact q4
 refine⟨λk7=> ?_,λk7=>⟨λk8=> ?_,λk8=> ?_⟩⟩
 .have pre:=blk (a+2*s') k7 ah ah;have m1:=hf3 _ _ _ _ pre;exact⟨hp3 _ _ _ _ pre,⟨ah,ah,Int.dvd_add k3 (Int.dvd_refl _),k5.trans m1.sm,stp _ _ k7 (Or.inl rfl) ah m1⟩,ah⟩
 .have pre:=blk n' ah k8 ah;have m1:=hf3 _ _ _ _ pre;refine⟨hp3 _ _ _ _ pre,⟨ah,Or.inr ah,k5.trans m1.sm,λq q1 q2 q3=> ?_⟩,ah⟩;exact stp _ _ ah (Or.inr rfl) ah m1 q q1 q2 (by rw [Int.mul_comm];exact q3) (Or.inl q2)
 .refine⟨⟨ah,Or.inr ah,k5,λq q1 q2 q3=> ?_⟩,ah⟩;rw [Int.mul_comm]at q3;by_cases c1:q+1<a
  .exact k6 q q1 q2 q3 (Or.inl c1)
  .by_cases c2:q+1=a
   .rw [c2]at q3;exact absurd k3 q3
   .exact k6 q q1 q2 q3 (Or.inr (wE ks ah ah))
def akW{p:Int×List aj×Unit->Bool}{f:Int×List aj×Unit->List aj×Unit}(hp:∀(n:Int) (d:List aj),Sh d->n=d.length->p (n,d,())=true)
  (hf:∀(n:Int) (d:List aj),Sh d->n=d.length->Sm d (f (n,d,())).1/\lQ (f (n,d,())).1 0 n) (d:List aj) (hd:Sh d):
  Qz.F (p,f,()) (d,()) (λy=>Sm d y.1/\lQ y.1 0 d.length):=by
 have:=hf _ d hd rfl;dsimp only [Qz,gm];exact⟨hp _ d hd rfl,this⟩
def cf(l:List aj)(k:List Int):Int:=(l.map λm=>if m.atoms=k then m.aW else 0).sum
theorem gV(k:List Int):cf [] k=0:=rfl
def aP(m:aj)(l:List aj)(k:List Int):cf (m::l) k=(if m.atoms=k then m.aW else 0)+cf l k:=by simp [cf]
def bZ(a b:List aj)(k:List Int):cf (a++b) k=cf a k+cf b k:=by simp [cf]
def fT{k:List Int}:∀ {l:List aj},(∀m∈l,m.atoms≠k)->cf l k=0
 | [],_=>rfl
 | m::l,h=>by rw [aP,if_neg (h m (by simp)),fT (λm hm=>h m (by simp [hm]))];rfl
def Sm.cf{a b:List aj}(h:Sm a b)(k:List Int):cf b k=cf a k:=h.sum _
def lt(a b:aj):Prop:=cB a.atoms b.atoms<0
def lt.ne{a b:aj}(h:lt a b):a.atoms≠b.atoms:=λe=>by unfold lt at h;rw [e,gU.2 rfl]at h;omega
structure Nf(o:List aj):Prop where
 ss:o.Pairwise lt
 co:∀m∈o,1<=m.aW/\m.aW<=65535
def VE:∀ {o1 o2:List aj},Nf o1->Nf o2->(∀k,cf o1 k=cf o2 k)->o1=o2
 | [],[],_,_,_=>rfl
 | [],m::o,_,h2,h=>by
  have:=h m.atoms;rw [aP,if_pos rfl,fT (λm' hm'=>((List.rel_of_pairwise_cons h2.ss hm').ne).symm),gV]at this;have:=(h2.co m (by simp));omega
 | m::o,[],h1,_,h=>by
  have:=h m.atoms;rw [aP,if_pos rfl,fT (λm' hm'=>((List.rel_of_pairwise_cons h1.ss hm').ne).symm),gV]at this;have:=(h1.co m (by simp));omega
 | m1::o1,m2::o2,h1,h2,h=>by
  have c1:=h1.co m1 (by simp);have c2:=h2.co m2 (by simp);have z1:cf o1 m1.atoms=0:=fT λm' hm'=>((List.rel_of_pairwise_cons h1.ss hm').ne).symm
  have z2:cf o2 m2.atoms=0:=fT λm' hm'=>((List.rel_of_pairwise_cons h2.ss hm').ne).symm
  have tr:∀ {a b c:aj},lt a b->lt b c->lt a c:=λg1 g2=>dz (le_of_lt g1) g2
  have e:m1.atoms=m2.atoms:=by
   by_cases g1:lt m1 m2
   .have:=h m1.atoms;rw [aP,if_pos rfl,z1,aP,if_neg (λe=>g1.ne e.symm),fT (λm' hm'=>((tr g1 (List.rel_of_pairwise_cons h2.ss hm')).ne).symm)]at this;omega
   .by_cases g2:lt m2 m1
    .have:=h m2.atoms;rw [aP,if_neg (λe=>g2.ne e.symm),fT (λm' hm'=>((tr g2 (List.rel_of_pairwise_cons h1.ss hm')).ne).symm),aP,if_pos rfl,z2]at this;omega
    .unfold lt at g1 g2;rw [jL]at g2;exact gU.1 ah
  have ec:m1.aW=m2.aW:=by
   have:=h m1.atoms;rw [aP,if_pos rfl,z1,aP,if_pos e.symm,e,z2]at this;omega
  have em:m1=m2:=by cases m1;cases m2;simp_all
  subst em;refine congrArg _ (VE ⟨h1.ss.tail,λm hm=>h1.co m (by simp [hm])⟩ ⟨h2.ss.tail,λm hm=>h2.co m (by simp [hm])⟩ (λk=>by
   have:=h k;rw [aP,aP]at this;omega))
noncomputable def nf (l:List aj):List aj:= @dite _ (∃o,Nf o/\∀k,cf o k=cf l k%65536) (Classical.propDecidable _) (λh=>Classical.choose h) (λ_=> [])
def FN{l o:List aj}(h:Nf o)(h2:∀k,cf o k=cf l k%65536):nf l=o:=by
 have he:∃o,Nf o/\∀k,cf o k=cf l k%65536:=⟨o,h,h2⟩;unfold nf;rw [dif_pos he];have:=Classical.choose_spec he;exact VE this.1 h (λk=>(this.2 k).trans (h2 k).symm)
def Mv{l l':List aj}(h:∀k,cf l k%65536=cf l' k%65536):nf l=nf l':=by
 unfold nf;have:(λo=>Nf o/\∀k,cf o k=cf l k%65536)=(λo=>Nf o/\∀k,cf o k=cf l' k%65536):=by funext o;simp only [h]
 have e:(∃o,Nf o/\∀k,cf o k=cf l k%65536)=(∃o,Nf o/\∀k,cf o k=cf l' k%65536):=congrArg Exists this;by_cases h1:∃o,Nf o/\∀k,cf o k=cf l k%65536
 .rw [dif_pos h1,dif_pos (e▸h1)];congr 1
 .rw [dif_neg h1,dif_neg (e▸h1)]
noncomputable def jf (l:List aj):Bool×List aj:=(bp (aF (nf l)),if bp (aF (nf l))then nf l else [])
def Cb(l:List aj):Prop:=∀m∈l,0<=m.aW/\m.aW<=65535
def aqT{p1 f1 p2 f2 p3 f3 p4 f4}(U1:Y7 p1 f1)(U2:Y11 p2 f2)(U3:Y10 p3 f3)(U4:Y12 p4 f4){p5:List aj×Unit->Bool}{f5:List aj×Unit->List aj×Unit}(hp5:∀d,Sh d->p5 (d,())=true)(hf5:∀d,Sh d->Sm d (f5 (d,())).1/\lQ (f5 (d,())).1 0 d.length)(l:List aj)(hl:Sh l)(hc:Cb l):abb.F (p1,f1,p2,f2,p3,f3,p4,f4,p5,f5,()) (l,()) (λy=>y.1=(jf l).1/\y.2.2.1=(jf l).2):=by
 obtain⟨s1,s2⟩:=hf5 l hl;dsimp only [abb,gm];simp (disch:=omega) only [RR,hp5 l hl];generalize (f5 (l,())).1=d at s1 s2 ⊢;have hle:=s1.1;have hs:=s1.sh hl;have hlen:=hs.1;have hcd:Cb d:=λm hm=>hc m (s1.mem hm)
 refine ak (λ(y:Int×List aj×List aj×Unit)=>0<=y.1/\y.1<=d.length/\y.2.1=d/\Nf y.2.2.1/\y.2.2.1.length<=y.1/\(∀k,cf y.2.2.1 k=cf (d.take y.1.toNat) k%65536)/\(∀m∈y.2.2.1,m∈y.2.2.1->m.atoms.length<1000000000)
   /\(y.1<d.length->(∀m∈y.2.2.1,lt m ((d).getD (y.1).toNat default))/\(∀m∈d.take y.1.toNat,lt m ((d).getD (y.1).toNat default)))) (λy=>(d.length-y.1).toNat)
  ⟨by simp,by simp,rfl,⟨List.Pairwise.nil,λm hm=>absurd hm (by simp)⟩,by simp,λk=>by simp [cf],λm hm=>absurd hm (by simp),λ_=>⟨λm hm=>absurd hm (by simp),λm hm=>absurd hm (by simp)⟩⟩ ?_
 rintro⟨(i:Int),(d':List aj),(o:List aj),⟨⟩⟩ hI;dsimp only at hI ⊢;obtain⟨h1,h2,rfl,h4,h5,h6,h7,h8⟩:=hI;have ho:Sh o:=⟨ah,λm hm=>h7 m hm hm⟩;simp (disch:=omega) only [RR,U2.hp o ho,U2.hf o ho];refine⟨λh9=>⟨ah,ah,ah,ah,?_⟩,λh9=> ?_⟩
 .obtain⟨g1,g2⟩:=h8 h9;have z:cf (d'.take i.toNat) ((d').getD (i).toNat default).atoms=0:=fT λm hm=>(g2 m hm).ne
  refine ak (λ(y:Int×Int×List aj×aj×List aj×Unit)=>i<=y.1/\y.1<=d'.length/\y.2.2.1=d'/\y.2.2.2.1=((d').getD (i).toNat default)/\y.2.2.2.2.1=o/\y.2.1=cf (d'.take y.1.toNat) ((d').getD (i).toNat default).atoms%65536
    /\(∀k,k≠((d').getD (i).toNat default).atoms->cf (d'.take y.1.toNat) k=cf (d'.take i.toNat) k)/\(∀m∈d'.take y.1.toNat,lt m ((d').getD (i).toNat default)\/m.atoms=((d').getD (i).toNat default).atoms)) (λy=>(d'.length-y.1).toNat)
   ⟨by simp,by simp;omega,rfl,rfl,rfl,by rw [z];rfl,λk _=>rfl,λm hm=>Or.inl (g2 m hm)⟩ ?_
  rintro⟨(j:Int),(c:Int),(d'':List aj),(fi:aj),(o':List aj),⟨⟩⟩ hI;dsimp only at hI ⊢;obtain⟨k1,k2,rfl,rfl,rfl,k6,k7,k8⟩:=hI;have hc0:0<=c/\c<65536:=by omega
  have hcj:j<d''.length->0<=((d'').getD (j).toNat default).aW/\((d'').getD (j).toNat default).aW<=65535:=λh=>hcd _ (bN ah h)
  simp (disch:=omega) only [RR,U1.hp _ _ (hs.at _),U1.hf _ _ (hs.at _),U3.hp,U3.hf,U4.hp _ (Nat.le_trans (Nat.le_of_lt (hs.at _)) ah),U4.hf _ (Nat.le_trans (Nat.le_of_lt (hs.at _)) ah)];refine⟨ah,ah,ah,ah,λ⟨m1,m2⟩=> ?_,λm1=>⟨λm2=>⟨?_,?_,?_⟩,λm2=>⟨?_,?_⟩⟩⟩
  .have e:=gU.1 m2;have:=hcj m1;rw [w64 ah ah];have ts:d''.take (j+1).toNat=d''.take j.toNat++ [((d'').getD (j).toNat default)]:=(bB ah m1 rfl).symm;refine⟨ah,ah,ah,ah,⟨ah,ah,?_,λk hk=> ?_,λm hm=> ?_⟩,ah⟩
   .rw [ts,bZ,aP,if_pos e.symm,gV,k6];omega
   .rw [ts,bZ,aP,if_neg (λh=>hk (by rw [e,h])),gV,k7 k hk];omega
   .rw [ts,List.mem_append,List.mem_singleton]at hm;rcases hm with hm | hm
    .exact k8 m hm
    .right;rw [hm,e]
  all_goals
   have hb:j<d''.length->lt ((d'').getD (i).toNat default) ((d'').getD (j).toNat default):=λhj=>by
    rw [decide_eq_true hj,Bool.true_and,decide_eq_false_iff_not]at m1;have:=s2 i j h1 k1 ah;unfold le at this;unfold lt;omega
   have hij:i<j:=by
    by_cases hj:j<d''.length
    .by_cases e:i=j
     .have:=(hb hj).ne;rw [e]at this;exact absurd rfl this
     .omega
    .omega
  .simp only [List.length_append,List.length_cons,List.length_nil];omega
  .have co:∀k,cf (o'++ [⟨c,((d'').getD (i).toNat default).atoms⟩]) k=cf (d''.take j.toNat) k%65536:=λk=>by
    rw [bZ,aP,gV];dsimp only;by_cases hk:((d'').getD (i).toNat default).atoms=k
    .subst hk;rw [if_pos rfl,fT (λm hm=>(g1 m hm).ne),k6];omega
    .rw [if_neg hk,k7 k (λe=>hk e.symm),h6 k];omega
   refine⟨ah,ah,⟨?_,?_⟩,?_,co,?_,λhj=>⟨?_,?_⟩⟩
   .rw [List.pairwise_append];exact⟨h4.ss,List.pairwise_singleton _ _,λa ha b hb=>by rw [List.mem_singleton]at hb;subst hb;exact g1 a ha⟩
   .intro m hm;rw [List.mem_append,List.mem_singleton]at hm;rcases hm with hm | rfl
    .exact h4.co m hm
    .dsimp only;omega
   .simp only [List.length_append,List.length_cons,List.length_nil];omega
   .intro m hm _;rw [List.mem_append,List.mem_singleton]at hm;rcases hm with hm | rfl
    .exact h7 m hm hm
    .exact hs.at _
   .intro m hm;rw [List.mem_append,List.mem_singleton]at hm;rcases hm with hm | rfl
    .exact dz (le_of_lt (g1 m hm)) (hb hj)
    .exact hb hj
   .intro m hm;rcases k8 m hm with k | k
    .exact dz (le_of_lt k) (hb hj)
    .have:=hb hj;unfold lt at this ⊢;rw [k];exact this
  .omega
  .refine⟨ah,ah,h4,ah,λk=> ?_,h7,λhj=>⟨?_,?_⟩⟩
   .by_cases hk:((d'').getD (i).toNat default).atoms=k
    .subst hk;rw [fT (λm hm=>(g1 m hm).ne)];omega
    .rw [k7 k (λe=>hk e.symm),h6 k]
   .intro m hm;exact dz (le_of_lt (g1 m hm)) (hb hj)
   .intro m hm;rcases k8 m hm with k | k
    .exact dz (le_of_lt k) (hb hj)
    .have:=hb hj;unfold lt at this ⊢;rw [k];exact this
  .omega
 .have e:nf l=o:=FN h4 (λk=>by rw [h6 k,List.take_of_length_le ah,s1.cf k]);unfold jf;rw [e];refine⟨λh=> ?_,λh=> ?_⟩
  .rw [h];exact⟨rfl,by simp⟩
  .rw [h];exact⟨rfl,by simp⟩
end Go.TX.F
