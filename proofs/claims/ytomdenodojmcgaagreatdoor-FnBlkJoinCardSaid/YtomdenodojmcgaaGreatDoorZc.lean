/- Part 3 of a proof: what the last part needs. No condition. -/
import Derived.Test.YtomdenodojmcgaaGreatDoorZb
import Derived.Test.YtomdenodojmcgaaGreatDoorProg
import Derived.KernelRfl
set_option linter.all false
set_option linter.unusedSectionVars false
set_option linter.unusedVariables false
set_option linter.unusedSimpArgs false
namespace Go.TX
open Go Go.AE
variable [aN]
section
variable {n:Nat}
theorem Vr {t:Slots} {r:Nat}:∀ {rs:List Nat},r∈rs->aV (cut t rs) r=aV t r
 | [],h=>by simp at h
 | x::rs,h=>by
  simp only [cut,aV]
  split
  ·rename_i e;rw [e]
  ·rename_i e
   cases h with
   | head=>exact absurd rfl e
   | tail _ h=>exact Vr h
theorem adk {h:List aJ} {x:Cell} {y:SC} (hr:RC (nmh h) x y) {s:Sh} {f:Bool} {v:LV aB} (hk:dw (std n) h s y=some (f,v,[])):∃g,(f=true->g=true)/\ZC x g (lvD s v):=by
 unfold dw at hk
 split at hk
 ·rename_i f0 lf
  split at hk
  ·rename_i e;subst e;cases hk
   cases hr with | d hx hf=>
   rename_i g0 x0
   subst hx
   rw [Dl]
   refine⟨g0 || (lM lf).kS,λh=> ?_,.d _ _⟩
   rw [gN]
   cases lf with
   | rows c xs=>simp only [Leaf.flag]at h;rcases hf h with h | h<;>simp_all [Leaf.scalar]
   | _=>simp [Leaf.scalar]
  ·cases hk
 ·cases hr
  split at hk
  ·cases hk;exact⟨true,λ_=>rfl,.nil _⟩
  ·cases hk
 ·rename_i f0 c xs
  cases hr with | clip hf=>
  split at hk
  ·rename_i e;subst e;cases hk;exact⟨_,hf,.clip _ _ _⟩
  ·cases hk
 ·split at hk
  ·split at hk
   ·cases hk
   ·cases hk
  ·cases hk
 ·cases hk
theorem J7 {h:List aJ}:∀ {ss:List Sh} {ys:List SC} {xs:List Cell} (_:F2 (RC (nmh h)) xs ys) {f:Bool} {vs:List (LV aB)},aP (std n) h ss ys=some (f,vs,[])->∃g,(f=true->g=true)/\ZCs xs g (List.zipWith lvD ss vs)
 | [],[],xs,hF,f,vs,hk=>by simp [aP]at hk;obtain⟨rfl,rfl⟩:=hk;cases hF;exact⟨true,λ_=>rfl,.nil⟩
 | [],_::_,_,_,_,_,hk=>by simp [aP]at hk
 | _::_,[],_,_,_,_,hk=>by simp [aP]at hk
 | s::ss,y::ys,xs,hF,f,vs,hk=>by
  cases hF with | cons h1 h2=>
  unfold aP at hk
  split at hk
  ·rename_i f1 v1 l1 hv1
   split at hk
   ·rename_i g2 vs2 ls2 hv2
    split at hk
    ·simp only [Option.some.injEq,Prod.mk.injEq,List.append_eq_nil_iff]at hk
     obtain⟨rfl,rfl,rfl,rfl⟩:=hk
     obtain⟨ga,a1,a2⟩:=adk h1 hv1
     obtain⟨gb,b1,b2⟩:=J7 h2 hv2
     exact⟨ga&&gb,λh=>by simp at h;simp [a1 h.1,b1 h.2],.cons a2 b2⟩
    ·cases hk
   ·cases hk
  ·cases hk
theorem F9 {N:NM}:∀ {ys:List (Leaf aB)} {xs:List Cell} {f:Bool},F2 (RC N) xs (ys.map (.d f))->∃g,(f=true\/(∀y∈ys,y.scalar=true)->g=true)/\ZCs xs g (ys.map lM)
 | [],_,_,h=>by cases h;exact⟨true,λ_=>rfl,.nil⟩
 | y::ys,_,f,.cons h1 h2=>by
  obtain⟨g,q1,q2⟩:=F9 h2
  cases h1 with | d hx hf=>
  rename_i g0 x0
  subst hx
  refine⟨(g0 || (lM y).kS)&&g,λh=> ?_,.cons (.d _ _) q2⟩
  rw [gN]
  rcases h with h | h
  ·rcases hf h with h' | h'<;>simp [h',q1 (.inl h)]
  ·simp [h y (by simp),q1 (.inr λy hy=>h y (List.mem_cons_of_mem _ hy))]
theorem agE {h:List aJ} {p:PV} {q:SVal} (hp:PVR (nmh h) p q) {c:Co} {f:Bool} {x:c.den} (hk:toX (std n) h c q=some (f,x,[])):∃g,(f=true->g=true)/\ZCs (aO p) g (c.row x):=by
 unfold toX at hk
 split at hk
 ·rename_i f' c' x'
  split at hk
  ·rename_i e;subst e;cases hk
   have hF:=hp.cells
   have hx:cellsS (.sv f' c' x')=(dO (std 0) c' x' 0 c'.fields).map (.d f'):=rfl
   rw [hx]at hF
   obtain⟨g,q1,q2⟩:=F9 hF
   rw [jL]at q2
   refine⟨g,λh=>q1 ?_,q2⟩
   rcases Bool.or_eq_true _ _▸h with h | h
   ·exact .inl h
   ·exact .inr (iO c' h x')
  ·cases hk
 ·cases hk
 ·split at hk
  ·rename_i f1 ys ls1 h1
   split at hk
   ·rename_i t ht
    simp only [Option.some.injEq,Prod.mk.injEq]at hk
    obtain⟨rfl,rfl,rfl⟩:=hk
    rw [bV]at h1
    obtain⟨g,q1,q2⟩:=J7 hp.cells h1
    rw [yg c t ht]at q2
    exact⟨g,q1,q2⟩
   ·cases hk
  ·cases hk
theorem Rj {X:XT} {E:Tab} (hX:XOK X E) {t:Slots} {e:Nat->Option SVal} {c:Co} {h:List aJ} (he:EvR X E n (nmh h) t e):∀ {parts:List (Nat×Operand)} {f:Bool} {xs:List c.den} {k:List aJ},o9 (std n) X e c h parts=some (f,xs,k,[])->
  ∃g,(f=true->g=true)/\xs.length=parts.length/\ZPs E t c.size parts g (aH c xs)
 | [],f,xs,k,hk=>by
  simp only [o9,Option.some.injEq,Prod.mk.injEq]at hk
  obtain⟨rfl,rfl,_⟩:=hk
  exact⟨true,λ_=>rfl,rfl,.nil⟩
 | (i,x)::r,f,xs,k,hk=>by
  simp only [o9]at hk
  split at hk
  ·rename_i v hv
   split at hk
   ·rename_i f1 y l1 hy
    split at hk
    ·rename_i g1 ys k1 l2 hys
     simp only [Option.some.injEq,Prod.mk.injEq,List.append_eq_nil_iff]at hk
     obtain⟨rfl,rfl,_,rfl,rfl⟩:=hk
     obtain⟨pv,p1,p2⟩:=bX hX he hv
     obtain⟨ga,a1,a2⟩:=agE p2 hy
     obtain⟨gb,b1,b2,b3⟩:=Rj hX he (h:=h) hys
     have hl:(aO pv).length=c.size:=by
      have:∀ {cs:List Cell} {g:Bool} {ds:List D},ZCs cs g ds->cs.length=ds.length:=by
       intro cs g ds hz
       induction hz with
       | nil=>rfl
       | cons _ _ ih=>simp [ih]
      rw [this a2,mH]
     exact⟨ga&&gb,λh=>by simp at h;simp [a1 h.1,b1 h.2],by simp [b2],.cons p1 hl a2 b3⟩
    ·cases hk
   ·cases hk
  ·cases hk
theorem amB {X:XT} {E:Tab} (hX:XOK X E) {t:Slots} {e:Nat->Option SVal} {h:List aJ} (he:EvR X E n (nmh h) t e) {op:Op} {ps:List Bool} {v:SVal} (hk:zX (std n) X e h op=some (ps,v)):Gv (zA E op t) (nmh h) v:=by
 unfold zX at hk
 split at hk
 ·rename_i ty len parts
  rw [hX.ty]at hk
  split at hk
  ·rename_i y hy
   split at hk
   ·rename_i el hd
    split at hk
    ·rename_i z c hz hco
     split at hk
     ·rename_i hcond
      simp only [Bool.and_eq_true,Bool.not_eq_true',beq_iff_eq,beq_eq_false_iff_ne,ne_eq]at hcond
      obtain⟨⟨⟨hsz,hne⟩,hrange⟩,hbig⟩:=hcond
      have hbig:=Nat.le_of_ble_eq_true hbig
      obtain⟨z',hz',hzs⟩:=dZ hX hsz
      rw [hz]at hz';cases hz'
      split at hk
      ·rename_i f xs k hps;cases hk
       obtain⟨g,q1,q2,q3⟩:=Rj hX he hps
       have hlen:xs.length=len:=by
        have:=congrArg List.length hrange
        simp at this;rw [q2];simpa using this
       refine⟨.c (.clip g c.size (aH c xs)),.ofC (.clip q1),λK hK=> ?_⟩
       unfold zA;simp only;rw [hy];simp only [au];rw [hd];simp only;rw [hz]
       exact⟨hne,hrange,hbig,g,aH c xs,by rw [hzs];exact q3,by rw [aR];exact hlen,by rw [hzs];exact hK⟩
      ·cases hk
     ·cases hk
    ·cases hk
   ·cases hk
  ·cases hk
 ·cases hk
theorem J8 {E:Tab} {N:NM} {h' h'':Heap} {ty:TypeId} {pv:PV} {q:SVal} (hp:PVR N pv q) (hl:∀l∈rP (std n) q,AE.look h'' l=AE.look h' l) (K:PV->Prop):jD E h'' ty pv K=jD E h' ty pv K:=by
 have key:∀l sz i j,pv= .c (.ptr l sz i j)->AE.look h'' l=AE.look h' l:=by
  intro l sz i j e
  subst e
  cases hp with | one hp=>cases hp with | c hc=>
  cases hc with
  | pb=>exact hl _ (by simp [rP])
  | pr _=>exact hl _ (by simp [rP])
 unfold jD
 cases E.ty ty with
 | none=>rfl
 | some y=>
  simp only [au]
  split
  ·rename_i l sz i j;rw [key l sz i j rfl]
  ·rfl
  ·rfl
theorem stable {X:XT} {E:Tab} (hX:XOK X E) {N:NM} {h' h'':Heap} {t:Slots} {e:Nat->Option SVal} (he:EvR X E n N t e) {op:Op} (hl:∀l∈eZ (std n) X e op,AE.look h'' l=AE.look h' l) (hev:isLoad op=true->∃ty x q,op= .load ty x/\evX (std n) X e x=some q) (K:PV->Prop):
  eD E op t h'' K=eD E op t h' K:=by
 cases hL:isLoad op with
 | false=>rw [wR hL]
 | true=>
  obtain⟨ty,x,q,rfl,hq⟩:=hev hL
  obtain⟨pv,p1,p2⟩:=bX hX he hq
  simp only [eZ,hq]at hl
  unfold eD;simp only
  rw [p1];simp only [aQ]
  exact J8 p2 hl K
def HI (E:Tab) (ops:List Oper) (h':Heap) (h:List aJ) (hs':List Held) (hs:List (Nat×List Nat)):Prop:=∀p∈hs,(∀l∈p.2,l<h.length)/\∃o t v,mG hs' p.1=some (o,t,v)/\
 ∀h'',(∀l∈p.2,AE.look h'' l=AE.look h' l)->fP E ops o t h'' (λv'=>v'=v)
theorem HI.turn {E:Tab} {ops:List Oper} {h' h'':Heap} {h k:List aJ} {hs':List Held} {hs:List (Nat×List Nat)} (H:HI E ops h' h hs' hs) {td:List Nat} (x:fT h' h h'' k td):HI E ops h'' k hs' (lK hs td):=by
 intro p hp
 simp only [lK,List.mem_filter]at hp
 obtain⟨hp,hn⟩:=hp
 obtain⟨h1,o,t,v,h2,h3⟩:=H p hp
 refine⟨λl hl=>Nat.lt_of_lt_of_le (h1 l hl) x.len,o,t,v,h2,λh3' hh=>h3 h3' λl hl=> ?_⟩
 have:=List.all_eq_true.1 hn l hl
 rw [hh l hl,(x.keep l (h1 l hl) (by simpa using this)).2]
theorem yx (hs:List (Nat×List Nat)):lK hs []=hs:=by
 unfold lK;rw [List.filter_eq_self];intro p _;simp
theorem BS {E:Tab} {ops:List Oper} {h' h'':Heap} {h k:List aJ} {hs':List Held} {hs:List (Nat×List Nat)} (H:HI E ops h' h hs' hs) {td:List Nat} (x:fT h' h h'' k td):∀ {cs:List Nat},cs.all (H7 hs td)=true->Oi E ops h'' hs' cs
 | [],_=>trivial
 | j::r,hc=>by
  simp only [List.all_cons,Bool.and_eq_true]at hc
  refine⟨?_,BS H x hc.2⟩
  have hj:=hc.1
  simp only [H7,List.any_eq_true,Bool.and_eq_true,beq_iff_eq]at hj
  obtain⟨p,hp,hpj,hall⟩:=hj
  obtain⟨h1,o,t,v,h2,h3⟩:=H p hp
  rw [<-hpj,h2]
  refine h3 h'' λl hl=>(x.keep l (h1 l hl) ?_).2
  have:=List.all_eq_true.1 hall l hl
  simpa using this
theorem HI.push {E:Tab} {ops:List Oper} {h':Heap} {h:List aJ} {hs':List Held} {hs:List (Nat×List Nat)} (H:HI E ops h' h hs' hs) {i:Nat} (hi:¬(hs.any λp=>p.1==i)=true) {ns:List Nat} {o:Oper} {t:Slots} {v:Option PV}
  (hns:∀l∈ns,l<h.length) (hst:∀h'',(∀l∈ns,AE.look h'' l=AE.look h' l)->fP E ops o t h'' (λv'=>v'=v)):HI E ops h' h ((i,o,t,v)::hs') ((i,ns)::hs):=by
 intro p hp
 cases hp with
 | head=>exact⟨hns,o,t,v,by simp [mG],hst⟩
 | tail _ hp=>
  obtain⟨h1,o',t',v',h2,h3⟩:=H p hp
  have hne:i≠p.1:=λe=>hi (by rw [List.any_eq_true];exact⟨p,hp,by simp [e]⟩)
  exact⟨h1,o',t',v',by rw [JE hne];exact h2,h3⟩
theorem Ga {E:Tab} {X:XT} {N:NM} {t:Slots} {e:Nat->Option SVal} (he:EvR X E n N t e) {k:Int}:∀ {l:List (Int×Nat)} {b:Bool},BQ (std n) e k l=some b->∀K:Bool->Prop,K b->CJ t k l K
 | [],b,h,K,hb=>by cases h;exact hb
 | (k',r)::rest,b,h,K,hb=>by
  unfold BQ at h
  split at h
  ·rename_i f b1 hr
   split at h
   ·rename_i q hq
    cases h
    obtain⟨pv,h1,h2⟩:=he r _ hr
    obtain⟨g,rfl⟩:=h2.bool
    refine⟨g,b1,h1,?_⟩
    have hb:K (bif decide (k=k')then b1 else q):=hb
    by_cases c:k=k'
    ·rw [if_pos c];rw [decide_eq_true c]at hb;exact hb
    ·rw [if_neg c];rw [decide_eq_false c]at hb;exact Ga he hq K hb
   ·cases h
  ·cases h
theorem OG {X:XT} {ops:List Oper} {e:Nat->Option SVal} {h:List aJ} {op:Op} (hp:CO op=true):Oz (std n) X ops e h op=match zX (std n) X e h op with | some r=>some (some r) | none=>none:=by
 cases op
 case makeMap=>cases hp
 case insert=>cases hp
 case move=>cases hp
 case lookup a b q d=>cases q<;>first | rfl | cases hp
 all_goals first | rfl | (simp only [Oz];generalize zX (std n) X e h _=z;cases z<;>rfl)
theorem map_ok {X:XT} {E:Tab} (hX:XOK X E) {ops:List Oper} {t:Slots} {e:Nat->Option SVal} {h:List aJ} (he:EvR X E n (nmh h) t e) {op:Op} {r:Option (List Bool×SVal)} (hk:Oz (std n) X ops e h op=some r):
  match r with | none=>∀K:Option PV->Prop,K none->zM E ops op t K | some (_,v)=>∃pv,PVR (nmh h) pv v/\∀K:Option PV->Prop,K (some pv)->zM E ops op t K:=by
 by_cases hp:CO op=true
 ·rw [OG hp]at hk
  split at hk
  ·rename_i q hq
   cases hk
   obtain⟨ps,v⟩:=q
   obtain⟨pv,p1,p2⟩:=amB hX he hq
   exact⟨pv,p1,λK hK=>by rw [xO hp];exact p2 _ hK⟩
  ·cases hk
 ·cases op
  case makeMap=>cases hk;exact λK h=>h
  case insert a b c v=>
   cases v with
   | tmp r=>
    simp only [Oz]at hk
    cases hq:e r with
    | some q=>
     rw [hq]at hk
     cases hk
     obtain⟨pv,p1,_⟩:=he _ _ hq
     exact λK h=>⟨⟨pv,p1⟩,h⟩
    | none=>rw [hq]at hk;cases hk
   | _=>cases hk
  case move x=>
   simp only [Oz]at hk
   split at hk
   ·rename_i hs
    cases hk
    exact λK h=>⟨hs,h⟩
   ·cases hk
  case lookup a b q d=>
   cases q with
   | tmp q=>
    simp only [Oz]at hk
    split at hk
    ·rename_i f m hq
     split at hk
     ·rename_i bb hb
      cases hk
      obtain⟨pv,p1,p2⟩:=he _ _ hq
      obtain⟨g,rfl⟩:=p2.int
      exact⟨_,.ofC (.d rfl λ_=> .inl rfl),λK hK=>⟨g,m,p1,Ga he hb _ hK⟩⟩
     ·cases hk
    ·cases hk
   | _=>exact absurd rfl hp
  all_goals exact absurd rfl hp
theorem wW {X:XT} {gs:List (GE (std n))} {lk:Nat->Option (SV (std n))} {h:List aJ} {cur:Option Nat} {op:Op} {ps:List Bool} {v:SVal} (hk:rM (std n) X lk gs h cur op=some (ps,v)) (hl:isLoad op=true):
  (∃ty x q,op= .load ty x/\evX (std n) X (eH (std n) lk (dz (std n) gs cur)) x=some q)/\∀l∈eZ (std n) X (eH (std n) lk (dz (std n) gs cur)) op,l<h.length:=by
 cases op<;>simp only [isLoad,Bool.false_eq_true]at hl
 rename_i ty x
 simp only [rM,QV]at hk
 obtain⟨q,hq,hk⟩:=cO hk
 refine⟨⟨ty,x,q,rfl,hq⟩,λl hl=> ?_⟩
 simp only [eZ,hq]at hl
 unfold JH at hk
 split at hk
 ·cases hk
 ·unfold rP at hl
  split at hl
  ·simp at hl;subst hl
   simp only at hk
   split at hk
   ·rename_i hh;exact(List.getElem?_eq_some_iff.1 hh).1
   ·cases hk
  ·simp at hl;subst hl
   simp only at hk
   split at hk
   ·rename_i hh;exact(List.getElem?_eq_some_iff.1 hh).1
   ·cases hk
  ·simp at hl
end
end Go.TX
namespace Go.TX
open Go Go.AE
variable [aN]
section
variable {n:Nat}
theorem zT (gs:List (GE (std n))):dz (std n) gs none=[]:=by unfold dz;rw [Oy];simp
theorem Dv {E:Tab} {ops:List Oper} {o:Oper} (hg:o.guard=none) (t:Slots) (h:Heap) (K:Option PV->Prop):fP E ops o t h K=eD E o.op t h λv=>K (some v):=by unfold fP;rw [hg]
theorem pQ {E:Tab} {ops:List Oper} {o:Oper} {j d:Nat} {w:Bool} (hg:o.guard=some (j,w)) (hd:gslot ops j=some d) (t:Slots) (h:Heap) (K:Option PV->Prop):
 fP E ops o t h K=jJ (aV t d) w (eD E o.op t h λv=>K (some v)) (K (some l9)):=by unfold fP;rw [hg];simp only;rw [hd];rfl
theorem Ig {X:XT} {E:Tab} (hX:XOK X E) {C:Calls aB} {ops:List Oper} {ρ:Type} {K:RSt (std n)->(ρ->Prop)->Prop} {r:ρ->Prop} {h0:List aJ} {m0:Nat}:∀ {rest:List dU} {hs:List (Nat×List Nat)} {hs':List Held} {s':St} {s:RSt (std n)},SR s' s->(∀k,Keep k h0 s.h)->s.m=m0->
    HI E ops s'.h s.h hs' hs->gu (std n) X C ops rest hs K s r->
    dF E (ji C) ops rest hs' (λs1'=>∃s1,SR s1' s1/\(∀k,Keep k h0 s1.h)/\s1.m=m0/\K s1 r) s'
  | [],hs,hs',s',s,S,hK0,hm0,HH,hk=>⟨s,S,hK0,hm0,hk⟩
  | (i,rs,cs)::rest,hs,hs',s',s,S,hK0,hm0,HH,hk=>by
    generalize hM:gu (std n) X C ops ((i,rs,cs)::rest) hs K s=M at hk
    unfold gu at hM
    unfold dF
    split at hM
    · (subst hM;exact hk.elim)
    · rename_i o ho
      rw [ho]
      simp only [abq]
      split at hM
      · rename_i hdst
        have hd:dOK s'.m o.dst:=by rw [S.m];exact Vp hdst
        refine⟨hd,?_⟩
        simp only at hM
        have hlk:∀i sv,(if rs.contains i then bW (std n) s.t i else none)=some sv->bW (std n) s.t i=some sv:=λi sv h=>by
          split at h
          · exact h
          · cases h
        have Vs:∀d,(if rs.contains d then bW (std n) s.t d else none).isSome->aV (cut s'.t rs) d=aV s'.t d:=λd h=>by
          split at h
          · rename_i hc;exact Vr (by simpa using hc)
          · cases h
        have hev:∀ {gs:List (GE (std n))},SR s' {s with gs:=gs}->∀ {al:List Nat},(∀t∈al,∃e,gs[t]? =some e/\e.g=true)->EvR X E n (nmh s.h) (cut s'.t rs) (eH (std n) (λi=>if rs.contains i then bW (std n) s.t i else none) al):=
          λS1 _ hal=>oJ (t':=s'.t) Vs (λi sv h=>S1.val i sv (hlk i sv h)) hal
        have go:∀ {s2':St} {s2:RSt (std n)} {tag:Option Nat} {v:SVal} {hs2:List (Nat×List Nat)} {adl:List Held},SR s2' (s2.put (std n) o.dst tag v)->(∀k,Keep k s.h s2.h)->s2.m=s.m->HI E ops s2'.h s2.h adl hs2->gu (std n) X C ops rest hs2 K (s2.put (std n) o.dst tag v) r->
            dF E (ji C) ops rest adl (λs1'=>∃s1,SR s1' s1/\(∀k,Keep k h0 s1.h)/\s1.m=m0/\K s1 r) s2':=by
          intro s2' s2 tag v hs2 adl S2 hkeep hm2 HI2 hk2
          have e1:=aby (n:=n) (s:=s2) (d:=o.dst) (tag:=tag) (v:=v)
          exact Ig hX (rest:=rest) S2 (λk=>by rw [e1.1];exact(hK0 k).trans (hkeep k)) (by rw [e1.2,hm2,hm0]) (by rw [e1.1];exact HI2) hk2
        have Ih:∀(d:Option Nat) (v:Option PV),(s'.put d v).h=s'.h:=λd v=>by cases d<;>rfl
        split at hM
        ·
          rename_i hkind
          split at hM
          · (subst hM;exact hk.elim)
          rename_i hnew
          split at hM
          · rename_i hguard
            rw [hkind]
            split at hM
            · rename_i ps v hv
              subst hM
              obtain⟨hps,hk⟩:=dW hk
              rw [BR]at hk
              have rX:∀i sv,(if rs.contains i then bW (std n) s.t i else none)=some sv->yu s.gs s'.t (nmh s.h) i sv:=λi sv h=>S.val i sv (hlk i sv h)
              obtain⟨pv,p1,p2⟩:=uJ hX S.heap S.gs Vs rX (cur:=none) (λt h=>by cases h) hv hps
              simp only
              rw [Dv hguard]
              have hE0:=hev S (al:=dz (std n) s.gs none) (λt h=>by rw [zT]at h;simp at h)
              rw [zT]at hE0
              have hln:=λhL=>wW hv hL
              rw [zT]at hln
              have hst:∀h'',(∀l∈eZ (std n) X (eH (std n) (λi=>if rs.contains i then bW (std n) s.t i else none) []) o.op,AE.look h'' l=AE.look s'.h l)->fP E ops o (cut s'.t rs) h'' (λv'=>v'=some pv):=λh'' hh=>by
                rw [Dv hguard,stable hX hE0 hh (λhL=>(hln hL).1)]
                exact p2 _ rfl
              have hns:∀l∈eZ (std n) X (eH (std n) (λi=>if rs.contains i then bW (std n) s.t i else none) []) o.op,l<s.h.length:=λl hl=>by
                cases hL:isLoad o.op with
                | true=>exact(hln hL).2 l hl
                | false => unfold eZ at hl; split at hl
                           · rename_i hop;rw [hop]at hL;simp [isLoad]at hL
                           · simp at hl
              exact p2 _ (go (s2:=s) (S.put (tag:=none) ⟨pv,rfl,p1⟩) (λ_=> .refl _ _) rfl (by rw [Ih];exact HH.push hnew hns hst) hk)
            · (subst hM;exact hk.elim)
          · rename_i j want hguard
            rw [hkind]
            split at hM
            · rename_i d hgs
              have hgm:=λhb=>Dt S (lk:=λi=>if rs.contains i then bW (std n) s.t i else none) hlk (tt:=cut s'.t rs) (d:=d) (want:=want) (Vs d) rfl hb
              simp only
              rw [pQ hguard hgs]
              split at hM
              · rename_i hr
                rw [hr]at hgm
                subst hM
                cases hgm (by simp)with | skip h=>
                refine h _ _ (go (s2:=s) (S.put (tag:=none) ⟨l9,rfl,Vq⟩) (λ_=> .refl _ _) rfl (by rw [Ih];exact HH.push hnew (λl hl=>by simp at hl) (λh'' _=>by rw [pQ hguard hgs];exact h _ _ rfl)) hk)
              · rename_i gs t g hr
                rw [hr]at hgm
                cases hgm (by simp)with | run S1 hget hg rX hT hF=>
                rename_i e
                subst hg
                split at hM
                · rename_i ps v hv
                  subst hM
                  obtain⟨hps,hk⟩:=dW hk
                  have hns:∀l∈eZ (std n) X (eH (std n) (λi=>if rs.contains i then bW (std n) s.t i else none) (dz (std n) gs (some t))) o.op,l<s.h.length:=λl hl=>by
                    cases hL:isLoad o.op with
                    | true=>exact(wW hv hL).2 l hl
                    | false => unfold eZ at hl; split at hl
                               · rename_i hop;rw [hop]at hL;simp [isLoad]at hL
                               · simp at hl
                  cases hg:e.g with
                  | true=>
                    have hcur:∀t0,some t=some t0->∃e,gs[t0]? =some e/\e.g=true:=λt0 ht=>by cases ht;exact⟨e,hget,hg⟩
                    obtain⟨pv,p1,p2⟩:=uJ hX S1.heap S1.gs Vs (λi sv h=>rX i sv (hlk i sv h)) hcur hv (yw hps hg)
                    have hE0:EvR X E n (nmh s.h) (cut s'.t rs) (eH (std n) (λi=>if rs.contains i then bW (std n) s.t i else none) (dz (std n) gs (some t))):=hev S1 (mO S1.gs hcur (f:=gs.length+1))
                    refine hT hg _ _ (p2 _ (go (s2:={s with gs:=gs}) (S1.put (tag:=some t) ⟨e,hget,λ_=>⟨pv,rfl,p1⟩,λh=>by rw [hg]at h;cases h⟩) (λ_=> .refl _ _) rfl (by
                      rw [Ih]
                      refine HH.push hnew hns (λh'' hh=> ?_)
                      rw [pQ hguard hgs,stable hX hE0 hh (λhL=>(wW hv hL).1)]
                      exact hT hg _ _ (p2 _ rfl)) hk))
                  | false=>
                    exact hF hg _ _ (go (s2:={s with gs:=gs}) (S1.put (tag:=some t) ⟨e,hget,λh=>(by rw [hg]at h;cases h),λ_=>rfl⟩) (λ_=> .refl _ _) rfl (by
                      rw [Ih]
                      refine HH.push hnew hns (λh'' hh=> ?_)
                      rw [pQ hguard hgs]
                      exact hF hg _ _ rfl) hk)
                · (subst hM;exact hk.elim)
              · (subst hM;exact hk.elim)
            · (subst hM;exact hk.elim)
        · rename_i hkind
          rw [hkind]
          split at hM
          · rename_i ps v hv
            subst hM
            obtain⟨hps,hk⟩:=dW hk
            obtain⟨pv,p1,p2⟩:=map_ok hX (ops:=ops) (hev S (al:=[]) (λt h=>by simp at h)) hv
            simp only
            exact p2 _ (go (s2:=s) (S.put (tag:=none) ⟨pv,rfl,p1⟩) (λ_=> .refl _ _) rfl (by rw [Ih];exact HH) hk)
          · rename_i hv
            subst hM
            have p2:=map_ok hX (ops:=ops) (hev S (al:=[]) (λt h=>by simp at h)) hv
            simp only
            refine p2 _ ?_
            have e1:=agC (n:=n) (s:=s) (d:=o.dst)
            exact Ig hX (rest:=rest) S.del (λk=>by rw [e1.1];exact hK0 k) (by rw [e1.2,hm0]) (by rw [e1.1,Ih];exact HH) hk
          · (subst hM;exact hk.elim)
        · rename_i hkind
          rw [hkind]
          split at hM
          · rename_i hr hv
            subst hM
            obtain⟨hps,hk⟩:=dW hk
            have he0:EvR X E n (nmh s.h) [] (λ_=>none):=λi v h=>by cases h
            obtain⟨pv,h'',j,q1,q2,q3,q4,q5⟩:=Ic hX S.heap S.len he0 hv hps
            simp only
            have S2:=S.wV q3.same q2 q4
            have htd:hr.touched=[]:=by
              unfold kindOf at hkind
              split at hkind
              · rename_i ty hop
                rw [hop]at hv
                simp only [Da]at hv
                split at hv
                · split at hv
                  · split at hv<;>(cases hv;rfl)
                  · cases hv;rfl
                  · cases hv
                · cases hv
              all_goals first | cases hkind | (split at hkind<;>cases hkind)
            have HI2:=HH.turn q3
            rw [htd,yx]at HI2
            exact q5 _ (go (s2:={s with h:=hr.h}) (S2.put (tag:=none) ⟨pv,rfl,q1⟩) q3.J5 rfl (by cases o.dst<;>exact HI2) hk)
          · (subst hM;exact hk.elim)
        · rename_i hk0 hk1 hk2
          split at hM
          · rename_i hguard
            split at hM
            · rename_i cr hcr
              split at hM
              · rename_i hcs
                subst hM
                obtain⟨hps,hk⟩:=dW hk
                obtain⟨v,k,hvk,hk⟩:=zS hk
                obtain⟨v',k',e1,_,e3⟩:=zR hX S.heap S.len (hev S (al:=[]) (λt h=>by simp at h)) hcr hps ⟨v,k,hvk⟩
                rw [hvk]at e1;cases e1
                split
                · rename_i h;exact absurd h hk0
                · rename_i h;exact absurd h hk1
                · rename_i h;exact absurd h hk2
                · rw [hguard]
                  refine e3 _ λpv h'' j a1 a2 a3 a4=>⟨BS HH a3 hcs,?_⟩
                  have S2:=S.wV a3.same a2 a4
                  exact go (s2:={s with h:=k}) (S2.put (tag:=none) ⟨pv,rfl,a1⟩) a3.J5 rfl (by cases o.dst<;>exact HH.turn a3) hk
              · (subst hM;exact hk.elim)
            · (subst hM;exact hk.elim)
          · rename_i j want hguard
            split at hM
            · rename_i d hgs
              have hgm:=λhb=>Dt S (lk:=λi=>if rs.contains i then bW (std n) s.t i else none) hlk (tt:=cut s'.t rs) (d:=d) (want:=want) (Vs d) rfl hb
              have goal:jJ (aV (cut s'.t rs) d) want
                  (TI E (ji C) o (cut s'.t rs) s' λv h k=>Oi E ops h hs' cs/\dF E (ji C) ops rest hs' (λs1'=>∃s1,SR s1' s1/\(∀k,Keep k h0 s1.h)/\s1.m=m0/\K s1 r) (St.put {s' with h:=h,k:=k} o.dst (some v)))
                  (dF E (ji C) ops rest hs' (λs1'=>∃s1,SR s1' s1/\(∀k,Keep k h0 s1.h)/\s1.m=m0/\K s1 r) (s'.put o.dst (some l9))):=by
                split at hM
                · rename_i hr
                  rw [hr]at hgm
                  subst hM
                  cases hgm (by simp)with | skip h=>
                  exact h _ _ (go (s2:=s) (S.put (tag:=none) ⟨l9,rfl,Vq⟩) (λ_=> .refl _ _) rfl (by rw [Ih];exact HH) hk)
                · rename_i gs t g hr
                  rw [hr]at hgm
                  cases hgm (by simp)with | run S1 hget hg rX hT hF=>
                  rename_i e
                  subst hg
                  have hcur:e.g=true->∀t0,some t=some t0->∃e,gs[t0]? =some e/\e.g=true:=λh t0 ht=>by cases ht;exact⟨e,hget,h⟩
                  split at hM
                  · rename_i cr hcr
                    split at hM
                    · rename_i hcs
                      split at hM
                      · rename_i hpure
                        subst hM
                        obtain⟨hps,hk⟩:=dW hk
                        obtain⟨v,k,hvk,hk⟩:=zS hk
                        cases hg:e.g with
                        | true=>
                          obtain⟨v',k',e1,e2,e3⟩:=zR hX S1.heap S1.len (hev S1 (mO S1.gs (hcur hg) (f:=gs.length+1))) hcr (yw hps hg) ⟨v,k,hvk⟩
                          rw [hvk]at e1;cases e1
                          obtain⟨rfl,htd⟩:=e2 hpure
                          refine hT hg _ _ (e3 _ λpv h'' j a1 a2 a3 a4=>⟨BS HH a3 hcs,?_⟩)
                          have S2:=S1.wV (Same.refl _) a2 a4
                          have HI2:=HH.turn a3
                          rw [htd,yx]at HI2
                          exact go (s2:={s with gs:=gs}) (S2.put (tag:=some t) ⟨e,hget,λ_=>⟨pv,rfl,a1⟩,λh=>by rw [hg]at h;cases h⟩) (λ_=> .refl _ _) rfl (by cases o.dst<;>exact HI2) hk
                        | false=>
                          exact hF hg _ _ (go (s2:={s with gs:=gs}) (S1.put (tag:=some t) ⟨e,hget,λh=>(by rw [hg]at h;cases h),λ_=>rfl⟩) (λ_=> .refl _ _) rfl (by rw [Ih];exact HH) hk)
                      · subst hM
                        obtain⟨hkT,hkF⟩:(e.g=true->eO (std n) cr.ck (qp (std n) cr λv h=>gu (std n) X C ops rest (lK hs cr.touched) K (RSt.put (std n) {s with h:=h,gs:=gs} o.dst none v)) r)/\(e.g=false->gu (std n) X C ops rest hs K (RSt.put (std n) {s with gs:=xX (std n) gs t} o.dst none (.tup [])) r):=hk
                        cases hg:e.g with
                        | true=>
                          obtain⟨hps,hk⟩:=dW (hkT hg)
                          obtain⟨v,k,hvk,hk⟩:=zS hk
                          obtain⟨v',k',e1,e2,e3⟩:=zR hX S1.heap S1.len (hev S1 (mO S1.gs (hcur hg) (f:=gs.length+1))) hcr hps ⟨v,k,hvk⟩
                          rw [hvk]at e1;cases e1
                          refine hT hg _ _ (e3 _ λpv h'' j a1 a2 a3 a4=>⟨BS HH a3 hcs,?_⟩)
                          have S2:=S1.wV a3.same a2 a4
                          exact go (s2:={s with h:=k,gs:=gs}) (S2.put (tag:=none) ⟨pv,rfl,a1⟩) a3.J5 rfl (by cases o.dst<;>exact HH.turn a3) hk
                        | false=>
                          have hk:=hkF hg
                          have S2:=S1.kill hget hg
                          exact hF hg _ _ (go (s2:={s with gs:=xX (std n) gs t}) (S2.put (tag:=none) ⟨l9,rfl,Vq⟩) (λ_=> .refl _ _) rfl (by rw [Ih];exact HH) hk)
                    · (subst hM;exact hk.elim)
                  · (subst hM;exact hk.elim)
                · (subst hM;exact hk.elim)
              split
              · rename_i h;exact absurd h hk0
              · rename_i h;exact absurd h hk1
              · rename_i h;exact absurd h hk2
              · rw [hguard];simp only;rw [hgs];exact goal
            · (subst hM;exact hk.elim)
      · (subst hM;exact hk.elim)
end
end Go.TX
namespace Go.TX
open Go Go.AE
variable [aN]
section
variable {n:Nat}
theorem Gb {s:RSt (std n)}:∀ {l:List (Nat×SkV)} {e0 e:ES (std n)},rQ (std n) s.t s.h l e0=some e->
  ∃vs,F2 (λi v=>bW (std n) s.t i=some ⟨none,v⟩) (l.map (·.1)) vs/\vw (std n) s.h (l.map (·.2)) vs e0=some e
 | [],e0,e,h=>by simp only [rQ,Option.some.injEq]at h;subst h;exact⟨[],.nil,rfl⟩
 | p::l,e0,e,h=>by
  simp only [rQ]at h
  split at h
  ·rename_i v hl
   split at h
   ·rename_i e1 h1
    obtain⟨vs,q1,q2⟩:=Gb (l:=l) h
    exact⟨v::vs,.cons hl q1,by simp only [List.map_cons,vw];rw [h1];exact q2⟩
   ·cases h
  ·cases h
theorem Ii {k:Nat} {os:List SkO} {i:Nat} (hi:i<k) (hik:i<os.length):(es0 (std n) k os).ren[i]? =some (if pE os[i]? then none else some (some i)):=by
 have hb:Nat.blt i k=true:=by simpa using hi
 simp only [es0,List.getElem?_map,List.getElem?_range hik,Option.map_some,hb,Bool.true_and]
 cases pE os[i]? <;>rfl
theorem Ij (k:Nat) (os:List SkO):(es0 (std n) k os).ren.length=os.length:=by simp [es0]
theorem Ik {c:Ctx} {w:World} {N:NM} {us:List Value} {vs:List SVal} (h:F2 (WV c w N) us vs):∃pvs,F2 (bC c w) us pvs/\F2 (PVR N) pvs vs:=by
 induction h with
 | nil=>exact⟨[],.nil,.nil⟩
 | cons h1 _ ih=>
  obtain⟨p,a,b⟩:=h1
  obtain⟨pvs,q1,q2⟩:=ih
  exact⟨p::pvs,.cons a q1,.cons b q2⟩
theorem Dw {N:NM}:∀ {ids:List Nat} {vs:List SVal} {pvs:List PV},F2 (PVR N) pvs vs->∀i sv,bW (std n) (ids.zip (vs.map λv=>(⟨none,v⟩:SV (std n)))) i=some sv->sv.tag=none/\∃pv,aV (ids.zip (pvs.map some)) i=some pv/\PVR N pv sv.v
 | [],vs,pvs,_,i,sv,h=>by simp [bW]at h
 | j::ids,[],pvs,hF,i,sv,h=>by simp [bW]at h
 | j::ids,v::vs,pvs,hF,i,sv,h=>by
  cases hF with | cons h1 h2=>
  simp only [List.map_cons,List.zip_cons_cons,lQ]at h ⊢
  simp only [aV]
  split at h
  ·rename_i e;cases h;rw [if_pos e];exact⟨rfl,_,rfl,h1⟩
  ·rename_i e;rw [if_neg e];exact Dw h2 i sv h
theorem Dx {c:Ctx} {w:World} {a:Act}:∀ {ids:List Nat} {us:List Value} {pvs:List PV},F2 (bC c w) us pvs->F2 (λi u=>a.tmps[i]? =some u) ids us->∀i v,aV (ids.zip (pvs.map some)) i=some v->∃u,a.tmps[i]? =some u/\bC c w u v
 | [],us,pvs,_,_,i,v,h=>by simp [aV]at h
 | j::ids,us,pvs,hF,hI,i,v,h=>by
  cases hI with | cons h3 h4=>
  cases hF with | cons h1 h2=>
  simp only [List.map_cons,List.zip_cons_cons,aV]at h
  split at h
  ·rename_i e;subst e;cases h;exact⟨_,h3,h1⟩
  ·exact Dx h2 h4 i v h
theorem Dy {E:Tab} {s':St} {s:RSt (std n)} (S:SR s' s) {c:Ctx} {w:World} {a:Act} (A:iC E s' c w a):∀ {ids:List Nat} {vs:List SVal},F2 (λi v=>bW (std n) s.t i=some ⟨none,v⟩) ids vs->∃us,F2 (λi u=>a.tmps[i]? =some u) ids us/\F2 (WV c w (nmh s.h)) us vs
 | [],_,h=>by cases h;exact⟨[],.nil,.nil⟩
 | i::ids,_,.cons h1 h2=>by
  obtain⟨us,q1,q2⟩:=Dy S A h2
  obtain⟨pv,p1,p2⟩:=S.val i _ h1
  obtain⟨u,hu,hr⟩:=A.abs.slot i pv p1
  exact⟨u::us,.cons hu q1,.cons ⟨pv,hr,p2⟩ q2⟩
def μX (e:ES (std n)) (c:Ctx) (i:Nat):Option Nat:=match e.ren[i]? with | some (some (some l))=>c.μ l | some (some none)=>none | _=>c.μ i
theorem J9 (w:World) (K:Bool->Nat->Prop) (μ:Nat->Option Nat) (k:Nat) (hlow:∀f b,K f b->b<w.heap.size) (hsub:∀b,K true b->K false b):bD {K:=K,μ:=μ,n:=k} w []:=
 ⟨λl o h=>by simp [AE.look]at h,λl o l' o' b h=>by simp [AE.look]at h,λf b ⟨l,o,hl,_⟩=>by simp [AE.look]at hl,hlow,hsub⟩
theorem Il {E:Tab} {k:Nat} {sk:Fy} {s:RSt (std n)} {ck:List Bool} {x:fK sk.tys} (hx:Df (std n) k sk s=some (ck,x)) (hck:∀b∈ck,b=true) {s':St} (S:SR s' s) {c:Ctx} {w:World} {a:Act} (A:iC E s' c w a)
  {c0:Ctx} {w0:World} {h0:Heap} (hc0:c0.n=k) (g:Grow c0 w0 h0 c w s'.h) {m:Nat} (hm:s.m=m):
  ∃c2 s2',Grow c0 w0 h0 c2 w s2'.h/\iC E s2' c2 w a/\SR s2' (qw (std n) sk m x)/\Keep k s.h (qw (std n) sk m x).h/\(qw (std n) sk m x).m=m:=by
 unfold Df at hx
 split at hx
 ·cases hx
 rename_i hkl
 have hkl:k<=sk.objs.length:=by
  have:Nat.ble k sk.objs.length=true:=by simpa using hkl
  exact Nat.le_of_ble_eq_true this
 split at hx
 ·rename_i e1 he1
  split at hx
  ·rename_i e he
   split at hx
   ·rename_i gW
    split at hx
    ·rename_i x' hx';cases hx
     have gW:=Ie gW
     obtain⟨vs,v1,v2⟩:=Gb he1
     obtain⟨us,u1,u2⟩:=Dy S A v1
     obtain⟨new1,vs2,a1,a2,a3,a4⟩:=rV (λi=>i) v2
     obtain⟨new2,os2,b1,b2,b3,b4,b5⟩:=oH (λi=>i) (λ_=>(.gone .i64 0:aJ)) (λ_=>⟨.i64,0,rfl⟩) he
     have hlv:e.lv.reverse=new1++new2:=by rw [b1,a1];simp [es0]
     have hun:=unpack_pack hx'
     rw [hlv]at hun
     have hrl:e.ren.length=sk.objs.length:=by rw [b2.len,a2.len,Ij]
     have hof:∀(j:Nat) (kk:SkO),sk.objs[j]? =some kk->∃o2,os2[j]? =some o2/\OF e s.h (λi=>i) j kk (.gone .i64 0) o2:=λj kk hj=>by
      obtain⟨o2,q1,q2⟩:=b5 e (.refl _) j kk hj
      exact⟨o2,q1,by simpa using q2⟩
     have Ap:qw (std n) sk m x={t:=(sk.slots.map (·.1)).zip (vs2.map λv=>(⟨none,v⟩:SV (std n))),gs:=[],h:=os2,m:=m}:=by
      unfold qw
      rw [hun,a3]
      simp only
      have:=b3 []
      rw [List.append_nil]at this
      rw [show pG aB (λi=>i) (λ_=>cu.gone Co.i64 ((std n).lit 0)) 0 sk.objs new2=some (os2,[])from this]
     have H:=A.abs.heap
     obtain⟨o',m1,m2,m3,m4,m5,_⟩:=wU (ks:=sk.objs) (nm:=λi=>i) (old:=λ_=>(.gone .i64 0:aJ)) H S.heap hck gW hrl b4 hof (cb:={K:=λ_ _=>False,μ:=μX e c,n:=k}) (hb':=[])
      (J9 w _ _ _ (λ_ _ h=>h.elim) (λ_ h=>h)) false (λh=>by cases h) (μ2:=μX e c) (n2:=sk.objs.length) hkl (λ_ _=>rfl) (λi hi=>hi) (λi j _ _ h=>h)
      (λi l hi=>by simp only [μX];rw [hi]) (λi hi=>by simp only [μX];rw [hi]) (h2:=os2) (λi _=>rfl)
      (λl o hl ho=>by
       have:sk.objs.length<=l:=by
        rcases Nat.lt_or_ge l sk.objs.length with h | h
        ·exact absurd rfl (hl l h)
        ·exact h
       rw [List.getElem?_eq_none (by omega)]at ho;cases ho) (λ_ _=>rfl)
      (λb ⟨l,o,hl,_⟩ _=>by simp [AE.look]at hl) (λf b h _=>h) (λf b ⟨l,o,hl,_⟩ _=>by simp [AE.look]at hl)
     have hmu:∀l,l<k->μX e c l=c.μ l:=λl hl=>by
      have h0:=Ii (n:=n) hl (Nat.lt_of_lt_of_le hl hkl) (os:=sk.objs)
      unfold μX
      by_cases hg:pE sk.objs[l]? =true
      ·have hgo:sk.objs[l]? =some .gone:=by
        unfold pE at hg;split at hg
        ·assumption
        ·cases hg
       cases hr:e.ren[l]? with
       | none=>rfl
       | some q=>
        cases q with
        | none=>rfl
        | some v=>exact absurd hgo (gW.gone hr)
      ·rw [if_neg hg]at h0
       have:=b2.ren l _ (a2.ren l _ h0)
       rw [this]
     have hgr:Grow c0 w0 h0 {K:=λf b=>False\/KX e c false f b,μ:=μX e c,n:=sk.objs.length} w (qz (λi=>i) o' (List.range sk.objs.length) []):=by
      refine⟨⟨λf b hb=> .inr (.inl (by simpa using g.le.K f b hb)),by rw [hc0];exact hkl,λl hl=> ?_⟩,g.size,g.stays,g.kept,λf b hb=> ?_,λb hb=> ?_,g.os,g.tape,g.output⟩
      ·show μX e c l=c0.μ l
       rw [hmu l (by rw [<-hc0];exact hl)];exact g.le.μ l hl
      ·rcases hb with hb | hb | ⟨l,f',q1,q2,q3⟩
       ·exact hb.elim
       ·exact g.uU f b (by simpa using hb)
       ·obtain⟨_,g',cc,xs,hl⟩:=gW.fro l f' q1
        obtain⟨o2,ho2,hO⟩:=S.heap.old l _ hl
        cases hO with | rows _=>
        exact .inr ((g.nA b ⟨l,_,ho2,trivial,q2⟩).elim .inr .inl)
      ·rcases m4 b hb with⟨l,o,hl,_⟩ | ⟨i,lq,q,_,q1,q2,q3⟩
       ·simp [AE.look]at hl
       ·exact g.nA b ⟨lq,q,q1,q2,q3⟩
     obtain⟨pvs,p1,p2⟩:=Ik (a4 H S.heap (b2) hck m3 (λh=>by cases h) u2)
     refine⟨_,{t:=(sk.slots.map (·.1)).zip (pvs.map some),h:=qz (λi=>i) o' (List.range sk.objs.length) [],n:=sk.objs.length,k:=0,m:=m},hgr,⟨⟨λi v hv=>Dx p1 u1 i v hv,m1,?_⟩,rfl,A.defers,by rw [A.size,S.m,hm]⟩,?_,?_,by rw [Ap]⟩
     ·intro gg d hd
      obtain⟨q1,u,q2,q3⟩:=A.abs.glob gg d hd
      exact⟨.inr (.inl (by simpa using q1)),u,q2,q3.mono' λb hb=> .inr (.inl (by simpa using hb))⟩
     ·rw [Ap]
      refine⟨m2,by simp [nm,b4],rfl,λi sv hi=> ?_,λt e he=>by simp at he⟩
      obtain⟨q1,q2⟩:=Dw p2 i sv hi
      unfold yu
      rw [q1];exact q2
     ·rw [Ap]
      intro i hi
      have hik:i<sk.objs.length:=Nat.lt_of_lt_of_le hi hkl
      have hsk:sk.objs[i]? =some sk.objs[i]:=List.getElem?_eq_getElem hik
      obtain⟨o2,q1,q2⟩:=hof i _ hsk
      have h0:=Ii (n:=n) hi hik
      by_cases hg:sk.objs[i]= .gone
      ·have:Gone os2 i:=⟨.i64,0,by rw [q1,q2.gone hg]⟩
       exact⟨λ_=>this,λ_ _=> .inl this⟩
      ·have hig:pE sk.objs[i]? =false:=by
        rw [hsk];unfold pE;split
        ·rename_i hh;exact absurd (Option.some.inj hh) hg
        ·rfl
       rw [hig]at h0
       have h0:(es0 (std n) k sk.objs).ren[i]? =some (some (some i)):=by simpa using h0
       have hre:=b2.ren i _ (a2.ren i _ h0)
       have htr:pz (std n) e i=none:=by rw [b2.tr i _ (a2.ren i _ h0),a2.tr i _ h0];rfl
       refine⟨λ⟨cc,nn,hgo⟩=> ?_,λx hx=> .inr ?_⟩
       ·obtain⟨oo,r1,r2,r3,r4⟩:=q2.rel H S.heap hck m3 (λh=>by cases h)
        obtain⟨o3,h3,h4⟩:=r4 i hg hre
        obtain⟨o4,h5,h6⟩:=S.heap.old i _ hgo
        rw [h3]at h5;cases h5
        cases h6;exact h4.elim
       ·have:=q2.s1 i x.1 x.2 hg hre (by rw [hx])
        rw [htr]at this
        simp only [nmh,q1]
        simpa [nmh]using this
    ·cases hx
   ·cases hx
  ·cases hx
 ·cases hx
end
end Go.TX
namespace Go.TX
open Go Go.AE
variable [aN]
section
variable {n:Nat}
def LX (E:Tab) (c0:Ctx) (w0:World) (h0:Heap) (k:Nat) (H0:List aJ) (m0:Nat) {ρ:Type} (K:Exit->RSt (std n)->(ρ->Prop)->Prop) (r:ρ->Prop):Exit->Act->World->Prop
 | .outgrown,_,_=>False
 | .panic _,_,_=>False
 | .goto _,_,_=>False
 | e,a,w=>∃c s' s,Grow c0 w0 h0 c w s'.h/\iC E s' c w a/\SR s' s/\Keep k H0 s.h/\s.m=m0/\K e s r
theorem OH {E:Tab} {c0:Ctx} {w0:World} {h0:Heap} {k:Nat} {H0:List aJ} {m0:Nat} (hc0:c0.n=k) {code:Code} {a:Act} {w:World} {sk:Fy} {pl:Bool} {s:RSt (std n)} (hs:s.m=m0) {ρ:Type} {K:Exit->RSt (std n)->(ρ->Prop)->Prop} {r:ρ->Prop}
  {W: {σ:Type}->(Exit->RSt (std n)->(σ->Prop)->Prop)->(σ->Prop)->Prop} (hW:∀ {σ:Type} {K':Exit->RSt (std n)->(σ->Prop)->Prop} {r':σ->Prop},W K' r'->code.wp E.P (LX E c0 w0 h0 k H0 m0 K' r') a w)
  (h:OA (std n) k sk pl s K W r):code.wp E.P (LX E c0 w0 h0 k H0 m0 K r) a w:=by
 have step:∀ {t:fK sk.tys} {s1:RSt (std n)} {ck:List Bool},Df (std n) k sk s1=some (ck,t)->(∀b∈ck,b=true)->K .normal (qw (std n) sk s.m t) r->∀ {c s' a w},Grow c0 w0 h0 c w s'.h->iC E s' c w a->SR s' s1->Keep k H0 s1.h->s1.m=m0->LX E c0 w0 h0 k H0 m0 K r .normal a w:=by
  intro t s1 ck h1 h2 h3 c s' a w g A S hK hm
  obtain⟨c2,s2',g2,A2,S2,K2,hm2⟩:=Il h1 h2 S A hc0 g hm
  rw [hs]at h3
  exact⟨c2,s2',_,g2,A2,S2,hK.trans K2,hm2,h3⟩
 unfold OA at h
 split at h
 ·refine wp_mono (hW h) ?_
  intro e a' w' he
  cases e with
  | outgrown=>exact he.elim
  | panic _=>exact he
  | goto _=>exact he
  | normal=>
   obtain⟨c,s',s1,a1,a2,a3,a4,a5,a6⟩:=he
   simp only at a6
   rcases hx:Df (std n) k sk s1 with _ | ⟨ck,t'⟩
   ·rw [hx]at a6;exact a6.elim
   ·rw [hx]at a6
    obtain⟨q1,q2⟩:=dW a6
    exact step hx q1 q2 a1 a2 a3 a4 a5
  | ret=>obtain⟨c,s',s1,a1,a2,a3,a4,a5,a6⟩:=he;exact a6.elim
  | exit i=>obtain⟨c,s',s1,a1,a2,a3,a4,a5,a6⟩:=he;exact a6.elim
 ·refine wp_mono (hW h) ?_
  intro e a' w' he
  cases e with
  | outgrown=>exact he.elim
  | panic _=>exact he
  | goto _=>exact he
  | normal=>
   obtain⟨c,s',s1,a1,a2,a3,a4,a5,a6⟩:=he
   simp only at a6
   rcases hx:Df (std n) k sk s1 with _ | ⟨ck,t'⟩
   ·rw [hx]at a6;exact a6.elim
   ·rw [hx]at a6
    obtain⟨q1,q2⟩:=dW a6
    exact step hx q1 q2 a1 a2 a3 a4 a5
  | ret=>obtain⟨c,s',s1,a1,a2,a3,a4,a5,a6⟩:=he;exact⟨c,s',s1,a1,a2,a3,a4,a5,a6⟩
  | exit i=>obtain⟨c,s',s1,a1,a2,a3,a4,a5,a6⟩:=he;exact⟨c,s',s1,a1,a2,a3,a4,a5,a6⟩
section
variable {X:XT} {E:Tab} (hE:aM E) (hX:XOK X E) {C:Calls aB} (hG:nG E (ji C)) (hm:E.P.follows .mixedOrders=true) {ord:Nat->List dU} {chk:Nat->Array Oper->Nat->Bool} (Ka:∀id ops m,chk id ops m=true->Static E ord id ops m)
 {c0:Ctx} {w0:World} {h0:Heap} {k:Nat} {H0:List aJ} {m0:Nat} (hc0:c0.n=k)
include hE hX hG hm Ka
theorem adn {id:Nat} {ops:Array Oper} {draw:Bool} {s:RSt (std n)} {ρ:Type} {K:Exit->RSt (std n)->(ρ->Prop)->Prop} {r:ρ->Prop}
  (h:(if draw then(if chk id ops s.m then gu (std n) X C ops.toList (ord id) [] (λs=>K .normal s) s else(std n).fail)else dG (std n) X C ops.toList ops.toList (λs=>K .normal s) s:(std n).M ρ) r)
  {s':St} {c:Ctx} {w:World} {a:Act} (A:iC E s' c w a) (g:Grow c0 w0 h0 c w s'.h) (S:SR s' s) (hK:Keep k H0 s.h) (hs:s.m=m0):(Code.region id ops draw).wp E.P (LX E c0 w0 h0 k H0 m0 K r) a w:=by
 have fin:∀ {e:Exit} {a:Act} {w:World},vg E c0 w0 h0 (λe s1'=>e= .normal/\∃s1,SR s1' s1/\(∀k,Keep k s.h s1.h)/\s1.m=m0/\K .normal s1 r) e a w->LX E c0 w0 h0 k H0 m0 K r e a w:=by
  intro e a w he
  cases e with
  | outgrown=>exact he.elim
  | panic _=>exact he
  | goto _=>exact he
  | normal=>obtain⟨c,s1',a1,a2,_,s1,a3,a4,a5,a6⟩:=he;exact⟨c,s1',s1,a1,a2,a3,hK.trans (a4 k),a5,a6⟩
  | ret=>obtain⟨c,s1',a1,a2,q,_⟩:=he;cases q
  | exit i=>obtain⟨c,s1',a1,a2,q,_⟩:=he;cases q
 split at h
 ·rename_i hd;subst hd
  split at h
  ·rename_i hc
   have hst:=Ka _ _ _ hc
   have hr:=Ig hX (h0:=s.h) (m0:=m0) (hs':=[]) S (λ_=> .refl _ _) hs (λp hp=>by simp at hp) h
   refine wp_mono (ac4 hE hG hm ord id ops (λe s1'=>e= .normal/\∃s1,SR s1' s1/\(∀k,Keep k s.h s1.h)/\s1.m=m0/\K .normal s1 r) s' c0 w0 h0 c w a A g ⟨by rw [S.m];exact hst,?_⟩) λe a w=>fin
   simpa using hr
  ·exact h.elim
 ·rename_i hd
  have:draw=false:=by simpa using hd
  subst this
  have hr:=F8 hX (h0:=s.h) (m0:=m0) S (λ_=> .refl _ _) hs h
  refine wp_mono (wp_region_list (xM hE hG (Q:=λe s1'=>e= .normal/\∃s1,SR s1' s1/\(∀k,Keep k s.h s1.h)/\s1.m=m0/\K .normal s1 r) ops ops.toList A g ?_)) λe a w=>fin
  simpa using hr
end
end
end Go.TX
namespace Go.TX
open Go Go.AE
variable [aN]
section
variable {n:Nat}
variable {X:XT} {E:Tab} (hE:aM E) (hX:XOK X E) {C:Calls aB} (hG:nG E (ji C)) (hm:E.P.follows .mixedOrders=true) {ord:Nat->List dU} {chk:Nat->Array Oper->Nat->Bool} (Ka:∀id ops m,chk id ops m=true->Static E ord id ops m)
 {c0:Ctx} {w0:World} {h0:Heap} {k:Nat} {H0:List aJ} {m0:Nat} (hc0:c0.n=k)
include hE hX hG hm Ka hc0
theorem kY:∀(code:Code) {ρ:Type} {an:Ann} {s:RSt (std n)} {K:Exit->RSt (std n)->(ρ->Prop)->Prop} {r:ρ->Prop},bF (std n) X C ord chk k an code s K r->∀ {s':St} {c:Ctx} {w:World} {a:Act},iC E s' c w a->Grow c0 w0 h0 c w s'.h->SR s' s->Keep k H0 s.h->s.m=m0->
  code.wp E.P (LX E c0 w0 h0 k H0 m0 K r) a w
 | .skip,ρ,an,s,K,r,h,s',c,w,a,A,g,S,hK,hs=>by
  have h:K .normal s r:=by cases an<;>exact h
  exact wp_skip ⟨c,s',s,g,A,S,hK,hs,h⟩
 | .region id ops draw,ρ,an,s,K,r,h,s',c,w,a,A,g,S,hK,hs=>by
  have base:∀ {σ:Type} {K':Exit->RSt (std n)->(σ->Prop)->Prop} {r':σ->Prop},(if draw then(if chk id ops s.m then gu (std n) X C ops.toList (ord id) [] (λs=>K' .normal s) s else(std n).fail)else dG (std n) X C ops.toList ops.toList (λs=>K' .normal s) s:(std n).M σ) r'->
    (Code.region id ops draw).wp E.P (LX E c0 w0 h0 k H0 m0 K' r') a w:=λh=>adn hE hX hG hm Ka h A g S hK hs
  generalize hM:bF (std n) X C ord chk k an (.region id ops draw) s K=M at h
  simp only [bF]at hM
  split at hM
  ·subst hM;exact OH hc0 hs base h
  ·subst hM;exact base h
 | .seq x y,ρ,an,s,K,r,h,s',c,w,a,A,g,S,hK,hs=>by
  have main:∀(a1 a2:Ann) (K1:Exit->RSt (std n)->(ρ->Prop)->Prop),(∀s',K1 .normal s'=bF (std n) X C ord chk k a2 y s' K)->(∀s',K1 .ret s'=K .ret s')->(∀i s',K1 (.exit i) s'=K (.exit i) s')->bF (std n) X C ord chk k a1 x s K1 r->
    (Code.seq x y).wp E.P (LX E c0 w0 h0 k H0 m0 K r) a w:=by
   intro a1 a2 K1 e1 e2 e3 h
   refine wp_seq (wp_mono (kY x h A g S hK hs) ?_)
   intro e a' w' he
   cases e with
   | outgrown=>exact he.elim
   | panic _=>exact he
   | goto _=>exact he
   | normal=>obtain⟨c,s',s1,b1,b2,b3,b4,b5,b6⟩:=he;rw [e1]at b6;exact kY y b6 b2 b1 b3 b4 b5
   | ret=>obtain⟨c,s',s1,b1,b2,b3,b4,b5,b6⟩:=he;rw [e2]at b6;exact⟨c,s',s1,b1,b2,b3,b4,b5,b6⟩
   | exit i=>obtain⟨c,s',s1,b1,b2,b3,b4,b5,b6⟩:=he;rw [e3]at b6;exact⟨c,s',s1,b1,b2,b3,b4,b5,b6⟩
  cases an with
  | seq a1 a2=>rw [bF]at h;refine main a1 a2 _ ?_ ?_ ?_ h<;>intros<;>rfl
  | u=>rw [bF]at h;refine main .u .u _ ?_ ?_ ?_ h<;>intros<;>rfl
  | _=>simp [bF]at h
 | .cond cd x y,ρ,an,s,K,r,h,s',c,w,a,A,g,S,hK,hs=>by
  have he:EvR X E n (nmh s.h) s'.t (eH (std n) (bW (std n) s.t) []):=oJ (λ_ _=>rfl) S.val (λt h=>by simp at h)
  generalize hM:bF (std n) X C ord chk k an (.cond cd x y) s K=M at h
  simp only [bF]at hM
  split at hM
  ·rename_i f b hb
   obtain⟨pv,p1,p2⟩:=bX hX he hb
   obtain⟨gf,rfl⟩:=p2.bool
   have hbv:=iY (Jd A.abs p1)
   have main:∀(a1 a2:Ann) {σ:Type} {K':Exit->RSt (std n)->(σ->Prop)->Prop} {r':σ->Prop},((b=true->bF (std n) X C ord chk k a1 x s K' r')/\(b=false->bF (std n) X C ord chk k a2 y s K' r'))->(Code.cond cd x y).wp E.P (LX E c0 w0 h0 k H0 m0 K' r') a w:=by
    intro a1 a2 σ K' r' h
    refine wp_cond hbv ?_
    obtain⟨b,rfl⟩:∃b':Bool,b'=b:=⟨b,rfl⟩
    cases b with
    | true=>exact kY x (h.1 rfl) A g S hK hs
    | false=>exact kY y (h.2 rfl) A g S hK hs
   split at hM
   ·subst hM;exact main _ _ h
   ·subst hM;exact main _ _ h
   ·rename_i sk a1 a2
    subst hM;exact OH hc0 hs (λ{σ K' r'} h=>main a1 a2 h) h
   ·subst hM;exact h.elim
  ·subst hM;exact h.elim
 | .block id b,ρ,an,s,K,r,h,s',c,w,a,A,g,S,hK,hs=>by
  have main:∀(a1:Ann) {σ:Type} {K':Exit->RSt (std n)->(σ->Prop)->Prop} {r':σ->Prop} (K1:Exit->RSt (std n)->(σ->Prop)->Prop),(∀s',K1 .normal s'=K' .normal s')->(∀s',K1 .ret s'=K' .ret s')->(∀i s',K1 (.exit i) s'=if i==id then K' .normal s' else K' (.exit i) s')->
    bF (std n) X C ord chk k a1 b s K1 r'->(Code.block id b).wp E.P (LX E c0 w0 h0 k H0 m0 K' r') a w:=by
   intro a1 σ K' r' K1 e1 e2 e3 h
   refine wp_block (wp_mono (kY b h A g S hK hs) ?_)
   intro e a' w' he
   cases e with
   | outgrown=>exact he.elim
   | panic _=>exact he
   | goto _=>exact he
   | normal=>obtain⟨c,s',s1,b1,b2,b3,b4,b5,b6⟩:=he;rw [e1]at b6;exact⟨c,s',s1,b1,b2,b3,b4,b5,b6⟩
   | ret=>obtain⟨c,s',s1,b1,b2,b3,b4,b5,b6⟩:=he;rw [e2]at b6;exact⟨c,s',s1,b1,b2,b3,b4,b5,b6⟩
   | exit i=>
    obtain⟨c,s',s1,b1,b2,b3,b4,b5,b6⟩:=he
    rw [e3]at b6
    simp only [Exit.inBlock]
    simp only [beq_iff_eq]at b6
    split
    ·rename_i e;rw [if_pos e]at b6;exact⟨c,s',s1,b1,b2,b3,b4,b5,b6⟩
    ·rename_i e;rw [if_neg e]at b6;exact⟨c,s',s1,b1,b2,b3,b4,b5,b6⟩
  generalize hM:bF (std n) X C ord chk k an (.block id b) s K=M at h
  simp only [bF]at hM
  split at hM
  ·subst hM;refine main _ _ ?_ ?_ ?_ h<;>intros<;>rfl
  ·subst hM;refine main _ _ ?_ ?_ ?_ h<;>intros<;>rfl
  ·rename_i sk a1
   subst hM
   exact OH hc0 hs (λ{σ K' r'} h=>by refine main a1 _ ?_ ?_ ?_ h<;>intros<;>rfl) h
  ·subst hM;exact h.elim
 | .loop b,ρ,an,s,K,r,h,s',c,w,a,A,g,S,hK,hs=>by
  cases an with
  | loop sk a1=>
   rw [bF]at h
   rcases hx0:Df (std n) k sk s with _ | ⟨ck,x0⟩
   ·rw [hx0]at h;exact h.elim
   ·rw [hx0]at h
    obtain⟨hck,h⟩:=dW h
    obtain⟨I,μ,hI0,h⟩:=h
    obtain⟨c1,s1',g1,A1,S1,K1,hm1⟩:=Il hx0 hck S A hc0 g hs
    rw [hs]at h
    refine wp_loop_ghost (λN a' w'=>∃c s' x,Grow c0 w0 h0 c w' s'.h/\iC E s' c w' a'/\SR s' (qw (std n) sk m0 x)/\Keep k H0 (qw (std n) sk m0 x).h/\(qw (std n) sk m0 x).m=m0/\I x/\μ x=N) (μ x0) ⟨c1,s1',x0,g1,A1,S1,hK.trans K1,hm1,hI0,rfl⟩ ?_
    rintro N a' w' ⟨c2,s2',x,g2,A2,S2,K2,hm2,hi,rfl⟩
    have hq:=h x hi
    refine wp_mono (kY b hq A2 g2 S2 K2 hm2) ?_
    intro e a3 w3 he
    cases e with
    | outgrown=>exact he.elim
    | panic _=>exact he
    | goto _=>exact he
    | normal=>
     obtain⟨c4,s4',s4,b1,b2,b3,b4,b5,b6⟩:=he
     simp only at b6
     rcases hx4:Df (std n) k sk s4 with _ | ⟨ck4,t4⟩
     ·rw [hx4]at b6;exact b6.elim
     ·rw [hx4]at b6
      obtain⟨amC,b6⟩:=dW b6
      obtain⟨c5,s5',g5,A5,S5,K5,hm5⟩:=Il hx4 amC b3 b2 hc0 b1 b5
      exact⟨μ t4,b6.2,c5,s5',_,g5,A5,S5,b4.trans K5,hm5,b6.1,rfl⟩
    | ret=>obtain⟨c4,s4',s4,b1,b2,b3,b4,b5,b6⟩:=he;exact⟨c4,s4',s4,b1,b2,b3,b4,b5,b6⟩
    | exit i=>obtain⟨c4,s4',s4,b1,b2,b3,b4,b5,b6⟩:=he;exact⟨c4,s4',s4,b1,b2,b3,b4,b5,b6⟩
  | _=>simp [bF]at h
 | .exit i,ρ,an,s,K,r,h,s',c,w,a,A,g,S,hK,hs=>by
  have h:K (.exit i) s r:=by cases an<;>exact h
  exact wp_exit ⟨c,s',s,g,A,S,hK,hs,h⟩
 | .ret,ρ,an,s,K,r,h,s',c,w,a,A,g,S,hK,hs=>by
  have h:K .ret s r:=by cases an<;>exact h
  exact wp_ret ⟨c,s',s,g,A,S,hK,hs,h⟩
 | .rangeFunc ..,ρ,an,s,K,r,h,_,_,_,_,_,_,_,_,_=>by cases an<;>simp [bF]at h
 | .scope _,ρ,an,s,K,r,h,_,_,_,_,_,_,_,_,_=>by cases an<;>simp [bF]at h
 | .label _,ρ,an,s,K,r,h,_,_,_,_,_,_,_,_,_=>by cases an<;>simp [bF]at h
 | .goto _,ρ,an,s,K,r,h,_,_,_,_,_,_,_,_,_=>by cases an<;>simp [bF]at h
 | .refuse _,ρ,an,s,K,r,h,_,_,_,_,_,_,_,_,_=>by cases an<;>simp [bF]at h
end
end Go.TX
namespace Go.TX
open Go Go.AE
variable [aN]
section
variable {n:Nat}
theorem fM:∀(r:List (Option (Option Nat))) (m k:Nat),(newNames r m k).length=k
 | _,_,0=>by simp [newNames]
 | [],m,k+1=>by simp [newNames,fM [] (m+1) k]
 | some (some l)::r,m,k+1=>by simp [newNames,fM r m k]
 | some none::r,m,k+1=>by simp [newNames,fM r (m+1) k]
 | none::r,m,k+1=>by simp [newNames,fM r (m+1) k]
structure Vt (r:List (Option (Option Nat))) (h:List aJ) (os:List aJ) (nms:List Nat) (kT:List aJ):Prop where
 len:h.length<=kT.length
 at_:∀(i:Nat),i<os.length->∃l,nms[i]? =some l/\kT[l]? =os[i]? /\(r[i]? =some (some (some l))\/(h.length<=l/\∀q:Nat,r[i]? ≠some (some (some q))))
 old:∀l,l<h.length->(∀i:Nat,i<os.length->r[i]? ≠some (some (some l)))->kT[l]? =h[l]?
 inj:∀(i j l:Nat),nms[i]? =some l->nms[j]? =some l->i=j
 new:∀l,h.length<=l->l<kT.length->∃i:Nat,i<os.length/\nms[i]? =some l
theorem OI:∀(os:List aJ) (r:List (Option (Option Nat))) (h:List aJ),(∀i l:Nat,r[i]? =some (some (some l))->i<os.length->l<h.length)->(∀i j l:Nat,r[i]? =some (some (some l))->r[j]? =some (some (some l))->i=j)->
  Vt r h os (newNames r h.length os.length) (fJ (std n) h (newNames r h.length os.length) os)
 | [],r,h,h1,h2=>by
  refine⟨?_,λi hi=>by simp at hi,λl _ _=> ?_,λi j l hi=>by simp [newNames]at hi,λl a b=> ?_⟩<;>simp only [List.length_nil,newNames,fJ]at* <;>first | exact Nat.le_refl _ | rfl | omega
 | o::os,r,h,h1,h2=>by
  have fresh:∀r',(∀(i:Nat),r'[i]? =r[i+1]?)->(∀q:Nat,r[0]? ≠some (some (some q)))->newNames r h.length (os.length+1)=h.length::newNames r' (h.length+1) os.length->Vt r h (o::os) (newNames r h.length (os.length+1)) (fJ (std n) h (newNames r h.length (os.length+1)) (o::os)):=by
   intro r' hr h0 e
   rw [e]
   have hl:(h++ [o]).length=h.length+1:=by simp
   have P:=OI os r' (h++ [o]) (λi l hi hi2=>by rw [hl];have:=h1 (i+1) l (by rw [<-hr];exact hi) (by simp;omega);omega) (λi j l hi hj=>by have:=h2 (i+1) (j+1) l (by rw [<-hr];exact hi) (by rw [<-hr];exact hj);omega)
   rw [hl]at P
   have hput:fJ (std n) h (h.length::newNames r' (h.length+1) os.length) (o::os)=fJ (std n) (h++ [o]) (newNames r' (h.length+1) os.length) os:=by
    simp [fJ]
   rw [hput]
   have hcur:(fJ (std n) (h++ [o]) (newNames r' (h.length+1) os.length) os)[h.length]? =some o:=by
    rw [P.old h.length (by simp) (λi hi hh=>by have:=h1 (i+1) h.length (by rw [<-hr];exact hh) (by simp;omega);omega)]
    simp
   refine⟨by have:=P.len;simp at this;omega,λi hi=> ?_,λl hl2 hn=> ?_,λi j l hi hj=> ?_,λl ha hb=> ?_⟩
   ·cases i with
    | zero=>exact⟨h.length,rfl,by rw [hcur];rfl,.inr ⟨Nat.le_refl _,h0⟩⟩
    | succ i=>
     obtain⟨l,q1,q2,q3⟩:=P.at_ i (by simpa using hi)
     refine⟨l,by simpa using q1,by rw [q2];simp,?_⟩
     rw [<-hr]
     rcases q3 with q3 | ⟨q3,q4⟩
     ·exact .inl q3
     ·exact .inr ⟨by simp at q3;omega,q4⟩
   ·rw [P.old l (by simp;omega) (λi hi hh=>hn (i+1) (by simp;omega) (by rw [<-hr];exact hh))]
    exact List.getElem?_append_left hl2
   ·have ne:∀(j:Nat),(newNames r' (h.length+1) os.length)[j]? =some h.length->False:=by
     intro j hj
     have hj2:j<os.length:=by have:=(List.getElem?_eq_some_iff.1 hj).1;rw [fM]at this;exact this
     obtain⟨l,q1,q2,q3⟩:=P.at_ j hj2
     rw [hj]at q1;cases q1
     rcases q3 with q3 | ⟨q3,q4⟩
     ·have:=h1 (j+1) h.length (by rw [<-hr];exact q3) (by simp;omega);omega
     ·simp at q3;omega
    cases i with
    | zero=>
     simp at hi;subst hi
     cases j with
     | zero=>rfl
     | succ j=>exact(ne j (by simpa using hj)).elim
    | succ i=>
     cases j with
     | zero=>simp at hj;subst hj;exact(ne i (by simpa using hi)).elim
     | succ j=>rw [P.inj i j l (by simpa using hi) (by simpa using hj)]
   ·by_cases e:l=h.length
    ·subst e;exact⟨0,by simp,rfl⟩
    ·obtain⟨i,q1,q2⟩:=P.new l (by simp;omega) hb
     exact⟨i+1,by simp;omega,by simpa using q2⟩
  match r,h1,h2,fresh with
  | [],h1,h2,fresh=>exact fresh [] (λi=>by simp) (λq=>by simp) rfl
  | none::r',h1,h2,fresh=>exact fresh r' (λi=>by simp) (λq=>by simp) rfl
  | some none::r',h1,h2,fresh=>exact fresh r' (λi=>by simp) (λq=>by simp) rfl
  | some (some l0)::r',h1,h2,_=>
   have hl0:l0<h.length:=h1 0 l0 rfl (by simp)
   have e:newNames (some (some l0)::r') h.length (os.length+1)=l0::newNames r' h.length os.length:=rfl
   show Vt _ _ _ (newNames (some (some l0)::r') h.length (os.length+1)) (fJ (std n) h (newNames (some (some l0)::r') h.length (os.length+1)) (o::os))
   rw [e]
   have hl:(h.set l0 o).length=h.length:=by simp
   have P:=OI os r' (h.set l0 o) (λi l hi hi2=>by rw [hl];exact h1 (i+1) l (by simpa using hi) (by simp;omega)) (λi j l hi hj=>by have:=h2 (i+1) (j+1) l (by simpa using hi) (by simpa using hj);omega)
   rw [hl]at P
   have hput:fJ (std n) h (l0::newNames r' h.length os.length) (o::os)=fJ (std n) (h.set l0 o) (newNames r' h.length os.length) os:=by
    have:Nat.blt l0 h.length=true:=by simpa using hl0
    simp [fJ,hl0]
   rw [hput]
   have hcur:(fJ (std n) (h.set l0 o) (newNames r' h.length os.length) os)[l0]? =some o:=by
    rw [P.old l0 (by simpa using hl0) (λi hi hh=>by have:=h2 0 (i+1) l0 rfl (by simpa using hh);omega)]
    rw [List.getElem?_set_self hl0]
   refine⟨by have:=P.len;rw [hl]at this;exact this,λi hi=> ?_,λl hl2 hn=> ?_,λi j l hi hj=> ?_,λl ha hb=> ?_⟩
   ·cases i with
    | zero=>exact⟨l0,rfl,by rw [hcur];rfl,.inl rfl⟩
    | succ i=>
     obtain⟨l,q1,q2,q3⟩:=P.at_ i (by simpa using hi)
     refine⟨l,by simpa using q1,by rw [q2];simp,?_⟩
     simp only [List.getElem?_cons_succ]
     rcases q3 with q3 | ⟨q3,q4⟩
     ·exact .inl q3
     ·exact .inr ⟨by rw [hl]at q3;exact q3,q4⟩
   ·rw [P.old l (by rw [hl];exact hl2) (λi hi hh=>hn (i+1) (by simp;omega) (by simpa using hh))]
    have:l0≠l:=λe=>hn 0 (by simp) (by rw [e];rfl)
    exact List.getElem?_set_ne this
   ·have ne:∀(j:Nat),(newNames r' h.length os.length)[j]? =some l0->False:=by
     intro j hj
     have hj2:j<os.length:=by have:=(List.getElem?_eq_some_iff.1 hj).1;rw [fM]at this;exact this
     obtain⟨l,q1,q2,q3⟩:=P.at_ j hj2
     rw [hj]at q1;cases q1
     rcases q3 with q3 | ⟨q3,q4⟩
     ·have:=h2 0 (j+1) l0 rfl (by simpa using q3);omega
     ·rw [hl]at q3;omega
    cases i with
    | zero=>
     simp at hi;subst hi
     cases j with
     | zero=>rfl
     | succ j=>exact(ne j (by simpa using hj)).elim
    | succ i=>
     cases j with
     | zero=>simp at hj;subst hj;exact(ne i (by simpa using hi)).elim
     | succ j=>rw [P.inj i j l (by simpa using hi) (by simpa using hj)]
   ·obtain⟨i,q1,q2⟩:=P.new l (by rw [hl];exact ha) hb
    exact⟨i+1,by simp;omega,by simpa using q2⟩
theorem Ug {nm:Nat->Nat} {k:SkV} {r r':List (LV aB)} {v:SVal} (h:xW aB nm k r=some (v,r')):mJ v=false:=by
 cases k with
 | c k=>simp only [xW]at h;split at h<;>cases h;rfl
 | agg ks=>simp only [xW]at h;split at h<;>cases h;rfl
 | sv f c=>
  unfold xW at h
  split at h<;>first | (cases h;rfl) | (split at h<;>cases h<;>rfl) | cases h
theorem Dz {nm:Nat->Nat}:∀ {ks:List SkV} {r r':List (LV aB)} {vs:List SVal},pF aB nm ks r=some (vs,r')->∀v∈vs,mJ v=false
 | [],r,r',vs,h=>by simp only [pF,Option.some.injEq,Prod.mk.injEq]at h;obtain⟨rfl,_⟩:=h;simp
 | k::ks,r,r',vs,h=>by
  simp only [pF]at h
  split at h
  ·rename_i x r1 hx
   split at h
   ·rename_i xs r2 hxs;cases h
    intro v hv
    cases hv with
    | head=>exact Ug hx
    | tail _ hv=>exact Dz hxs v hv
   ·cases h
  ·cases h
theorem yB:∀ {ls:List Nat} {h:List aJ} {l:Nat} {g:Bool} {c:Co} {xs:List c.den},l∈ls->h[l]? =some (.rows g c xs)->Gone (aZ (std n) h ls) l
 | [],_,_,_,_,_,hm,_=>by simp at hm
 | a::ls,h,l,g,c,xs,hm,hl=>by
  rw [eF]
  have stays:∀(ls:List Nat) (h:List aJ),Gone h l->Gone (aZ (std n) h ls) l:=by
   intro ls
   induction ls with
   | nil=>intro h hg;exact hg
   | cons b ls ih=>
    intro h ⟨cc,nn,hg⟩
    rw [eF]
    refine ih _ ⟨cc,nn,?_⟩
    by_cases e:b=l
    ·subst e;unfold dH;split
     ·rename_i hh;rw [hg]at hh;cases hh
     ·exact hg
    ·rw [uG e];exact hg
  by_cases e:a=l
  ·subst e
   refine stays ls _ ⟨c,(xs.length:Int),?_⟩
   unfold dH;rw [hl];simp only
   rw [List.getElem?_set_self (List.getElem?_eq_some_iff.1 hl).1]
  ·refine yB (g:=g) (c:=c) (xs:=xs) ?_ (by rw [uG e];exact hl)
   cases hm with
   | head=>exact absurd rfl e
   | tail _ h=>exact h
theorem Gc {h:List aJ}:∀ {ks:List SkO} {j:Nat} {s s':ES (std n)},xV (std n) h j ks s=some s'->∀ {i:Nat} {k:SkO},ks[i]? =some k->k≠ .gone->∀ {l:Nat} (_:s'.ren[j+i]? =some (some (some l))),∃o,h[l]? =some o/\¬Gone [o] 0
 | [],_,_,_,_,i,k,hk,_,_,_=>by simp at hk
 | q::ks,j,s,s',hx,i,k,hk,hg,l,h5=>by
  simp only [xV]at hx
  split at hx
  ·rename_i s1 h1
   cases i with
   | succ i=>
    have:=Gc hx (i:=i) (k:=k) (by simpa using hk) hg (l:=l) (by rw [show j+1+i=j+(i+1) by omega];exact h5)
    exact this
   | zero=>
    simp at hk;subst hk
    rw [Nat.add_zero]at h5
    have e1:ELe s s':=by
     obtain⟨_,_,_,a2,_⟩:=Rh (m:=n) (λi=>i) h1 (.gone .i64 0) ⟨.i64,0,rfl⟩
     obtain⟨_,_,_,b2,_⟩:=oH (m:=n) (λi=>i) (λ_=> .gone .i64 0) (λ_=>⟨.i64,0,rfl⟩) hx
     exact a2.trans b2
    cases q with
    | gone=>exact absurd rfl hg
    | box kk=>
     rcases hr:s.ren[j]? with _ | _ | _ | l0<;>simp only [Ox,hr,reduceCtorEq]at h1
     have:=e1.ren j _ hr
     rw [h5]at this;cases this
     split at h1
     ·rename_i v hv;exact⟨_,hv,λ⟨c,m,hgo⟩=>by simp at hgo⟩
     ·cases h1
    | rows f c=>
     rcases hr:s.ren[j]? with _ | _ | _ | l0<;>simp only [Ox,hr,reduceCtorEq]at h1
     ·have:=e1.ren j _ hr
      rw [h5]at this;cases this
     ·have:=e1.ren j _ hr
      rw [h5]at this;cases this
      split at h1
      ·rename_i g c' xs hv;exact⟨_,hv,λ⟨c,m,hgo⟩=>by simp at hgo⟩
      ·cases h1
  ·cases hx
end
end Go.TX
namespace Go.TX
open Go Go.AE
variable [aN]
section
variable {n:Nat}
theorem Im {X:XT} {E:Tab} (hX:XOK X E) {s':St} {s:RSt (std n)} (S:SR s' s):∀ {rs:List ResultVar} {qs:List SVal},OB (std n) X s rs=some qs->∃ps,F2 (PVR (nmh s.h)) ps qs/\∀K,K ps->Jw E s' rs K
 | [],qs,h=>by simp only [OB,Option.some.injEq]at h;subst h;exact⟨[],.nil,λK hK=>hK⟩
 | .tmp t::r,qs,h=>by
  simp only [OB]at h
  split at h
  ·rename_i v hv
   split at h
   ·rename_i vs hvs;cases h
    obtain⟨pv,p1,p2⟩:=S.val t _ hv
    obtain⟨ps,q1,q2⟩:=Im hX S hvs
    exact⟨pv::ps,.cons p2 q1,λK hK=>by unfold Jw;exact fQ p1 _ (q2 _ hK)⟩
   ·cases h
  ·cases h
 | .cell t ty::r,qs,h=>by
  simp only [OB]at h
  split at h
  ·rename_i p hp
   split at h
   ·rename_i v hv
    split at h
    ·rename_i vs hvs;cases h
     obtain⟨pv,p1,p2⟩:=S.val t _ hp
     obtain⟨pr,r1,r2⟩:=JO hX S.heap p2 hv (λb hb=>by simp at hb)
     obtain⟨ps,q1,q2⟩:=Im hX S hvs
     exact⟨pr::ps,.cons r1 q1,λK hK=>by unfold Jw;exact fQ p1 _ (r2 _ (q2 _ hK))⟩
    ·cases h
   ·cases h
  ·cases h
theorem ado {N:NM}:∀ {ps:List PV} {vs:List SVal},F2 (PVR N) ps vs->(∀v∈vs,mJ v=false)->PVR N (one ps) (agj (std n) vs)
 | [],_,h,_=>by cases h;exact .tup .nil
 | [p],_,.cons h1 h2,_=>by cases h2;exact h1
 | p::q::ps,_,.cons h1 (.cons h2 h3),ht=>by
  have up:∀ {p v},PVR N p v->mJ v=false->PV0 N p v:=λh hv=>by
   cases h with
   | one h=>exact h
   | tup _=>simp [mJ]at hv
  have all:∀ {ps:List PV} {vs:List SVal},F2 (PVR N) ps vs->(∀v∈vs,mJ v=false)->F2 (PV0 N) ps vs:=by
   intro ps vs h
   induction h with
   | nil=>intro _;exact .nil
   | cons a _ ih=>intro ht;exact .cons (up a (ht _ (by simp))) (ih λv hv=>ht v (List.mem_cons_of_mem _ hv))
  exact .tup (all (.cons h1 (.cons h2 h3)) ht)
theorem aaq {c:Ctx} {w:World} {us:List Value} {ps:List PV} (h:F2 (bC c w) us ps):bC c w (if h:us.toArray.size=1 then us.toArray[0]else .tuple us.toArray) (one ps):=by
 cases h with
 | nil=>exact Ju _ _
 | cons q1 q2=>
  cases q2 with
  | nil=>simpa [one]using q1
  | cons q3 q4=>
   have hl:=(F2.cons q1 (F2.cons q3 q4)).length
   rw [dif_neg (by simp)]
   refine .tup _ _ hl (λi hi=> ?_)
   have hx:∀(l:List PV),i<l.length->l[i]? =some (l.getD i default):=λl hl=>by simp [List.getD,List.getElem?_eq_getElem hl]
   obtain⟨u,hu,hr⟩:=(F2.cons q1 (F2.cons q3 q4)).get (hx _ hi)
   rw [kU hu];exact hr
theorem Kc (h:List aJ) (l:Nat):Gone [rO (std n) h l] 0:=by
 unfold rO;split
 ·exact⟨_,_,rfl⟩
 ·exact⟨_,_,rfl⟩
 ·exact⟨_,_,rfl⟩
def yC (D:List Nat) (h:Heap):Heap:=D.map (λl=>(l,dK.gone))++h
theorem DC {D:List Nat} {h:Heap} {l:Nat} (hl:l∈D):AE.look (yC D h) l=some .gone:=by
 induction D with
 | nil=>simp at hl
 | cons d D ih=>
  show AE.look ((d,.gone)::yC D h) l=_
  by_cases e:d=l
  ·subst e;rw [aI]
  ·rw [aj _ _ e]
   exact ih (by cases hl with | head=>exact absurd rfl e | tail _ h=>exact h)
theorem oK {D:List Nat} {h:Heap} {l:Nat} (hl:l∉D):AE.look (yC D h) l=AE.look h l:=by
 induction D with
 | nil=>rfl
 | cons d D ih=>
  show AE.look ((d,.gone)::yC D h) l=_
  rw [aj _ _ (λe=>hl (by simp [e]))]
  exact ih (λh=>hl (List.mem_cons_of_mem _ h))
section
variable {X:XT} {E:Tab} (hE:aM E) (hX:XOK X E) {C:Calls aB} (hG:nG E (ji C)) (hm:E.P.follows .mixedOrders=true) {ord:Nat->List dU} {chk:Nat->Array Oper->Nat->Bool} (Ka:∀id ops m,chk id ops m=true->Static E ord id ops m)
include hE hX hG hm Ka
theorem agF {f:FuncId} {fn:Func} {code:Code} (hf:E.P.funcs[f]? =some fn) (hb:fn.body=some code) (hent:Enters E.P f) {sg:Sig} {an:Ann} {ct:Ct aB sg}
  (hrun:∀x,ct.pre x=true->pI (std 0) X C ord chk an sg fn code x (λy=>y=ct.fn x)):iy E f (gP ct) where
 enters:=hent
 calls:=by
  rintro args h nn K ⟨m,qs,hs,hargs,HR,hlen,cr,hcall,agG,v,kT,hvk,hK⟩ c w vs hcn rX H Gl
  subst hlen
  unfold zL at hcall
  split at hcall
  ·rename_i e1 he1
   split at hcall
   ·rename_i e he
    split at hcall
    ·rename_i gW
     simp only [Bool.and_eq_true,List.isEmpty_iff]at gW
     obtain⟨gW,htr⟩:=gW
     have gW:=Ie gW
     split at hcall
     ·rename_i x hx
      simp only [Option.some.injEq]at hcall
      subst hcall
      have hck:∀b∈e.ck,b=true:=λb hb=>agG b (List.mem_append_left _ hb)
      have hpre:ct.pre x=true:=agG _ (List.mem_append_right _ (by simp))
      obtain⟨N,hrun⟩:∃N:Nat,pI (std N) X C ord chk an sg fn code x (λy=>y=ct.fn x):=⟨0,hrun x hpre⟩
      simp only at hvk hK
      obtain⟨new1,qs1,a1,a2,a3,a4⟩:=rV (λi=>i) he1
      obtain⟨new2,os1,b1,b2,b3,b4,b5⟩:=oH (λi=>i) (λ_=>(.gone .i64 0:aJ)) (λ_=>⟨.i64,0,rfl⟩) he
      have hlv:e.lv.reverse=new1++new2:=by rw [b1,a1];simp [es0]
      have hun:=unpack_pack hx
      rw [hlv]at hun
      have hrl:e.ren.length=sg.objs.length:=by rw [b2.len,a2.len,Ij]
      have hof:∀(j:Nat) (kk:SkO),sg.objs[j]? =some kk->∃o2,os1[j]? =some o2/\OF e hs (λi=>i) j kk (.gone .i64 0) o2:=λj kk hj=>by
       obtain⟨o2,q1,q2⟩:=b5 e (.refl _) j kk hj
       exact⟨o2,q1,by simpa using q2⟩
      obtain⟨o1,m1,m2,m3,m4,_,_⟩:=wU (ks:=sg.objs) (nm:=λi=>i) (old:=λ_=>(.gone .i64 0:aJ)) H HR hck gW hrl b4 hof (cb:={K:=λ_ _=>False,μ:=μX e c,n:=0}) (hb':=[])
       (J9 w _ _ _ (λ_ _ h=>h.elim) (λ_ h=>h)) false (λh=>by cases h) (μ2:=μX e c) (n2:=sg.objs.length) (Nat.zero_le _) (λ_ _=>rfl) (λi hi=>hi) (λi j _ _ h=>h)
       (λi l hi=>by simp only [μX];rw [hi]) (λi hi=>by simp only [μX];rw [hi]) (h2:=os1) (λi _=>rfl)
       (λl o hl ho=>by
        have:sg.objs.length<=l:=by
         rcases Nat.lt_or_ge l sg.objs.length with h | h
         ·exact absurd rfl (hl l h)
         ·exact h
        rw [List.getElem?_eq_none (by omega)]at ho;cases ho) (λ_ _=>rfl)
       (λb ⟨l,o,hl,_⟩ _=>by simp [AE.look]at hl) (λf b h _=>h) (λf b ⟨l,o,hl,_⟩ _=>by simp [AE.look]at hl)
      generalize hc1:({K:=λf b=>False\/KX e c false f b,μ:=μX e c,n:=sg.objs.length}:Ctx)=c1 at m1 m2 m3 m4
      generalize hh1:qz (λi=>i) o1 (List.range sg.objs.length) []=h1' at m1 m2 m4
      have c1n:c1.n=sg.objs.length:=by rw [<-hc1]
      have c1K:∀f b,c1.K f b->c.K f b\/∃l g,(l,g)∈e.fro/\c.μ l=some b/\(f=true->g=true):=λf b hb=>by
       rw [<-hc1]at hb
       rcases hb with hb | hb | ⟨l,g,q1,q2,q3⟩
       ·exact hb.elim
       ·exact .inl (by simpa using hb)
       ·exact .inr ⟨l,g,q1,q2,λh=>q3 (by simp [h])⟩
      have adp:∀f b,c.K f b->c1.K f b:=λf b hb=>by rw [<-hc1];exact .inr (.inl (by simpa using hb))
      have agH:∀b,cZ c1 h1' b->∃(i lq:Nat) (q:dK),e.ren[i]? =some (some (some lq))/\AE.look h lq=some q/\q.live/\c.μ lq=some b:=λb hb=>by
       rcases m4 b hb with⟨l,o,hl,_⟩ | hb
       ·simp [AE.look]at hl
       ·exact hb
      have agI:F2 (WV c w (nmh hs)) vs qs:=by
       clear he1 a1 a2 a3 a4 hvk hrun
       induction rX generalizing qs with
       | nil=>cases hargs;exact .nil
       | cons q1 _ ih=>cases hargs with | cons q3 q4=>exact .cons ⟨_,q1,q3⟩ (ih _ q4)
      obtain⟨agJ,p1,p2⟩:=Ik (a4 H HR b2 hck m3 (λh=>by cases h) agI)
      unfold pI at hrun
      split at hrun
      ·exact hrun.elim
      rename_i hkk
      have hkk:sg.objs.length<=sg.dx.length:=by
       have:Nat.ble sg.objs.length sg.dx.length=true:=by simpa using hkk
       exact Nat.le_of_ble_eq_true this
      rw [show unpack (std N).ah sg.inp x=new1++new2 from hun,a3]at hrun
      simp only at hrun
      have hb3:=b3 []
      rw [List.append_nil]at hb3
      rw [show pG (std N).ah (λi=>i) (λ_=>cu.gone Co.i64 ((std N).lit 0)) 0 sg.objs new2=some (os1,[])from hb3]at hrun
      simp only at hrun
      have hql:qs1.length=vs.length:=by rw [<-p2.length,<-p1.length]
      refine calls_of_wp hf hb ?_
      have A1:iC E {t:=(List.range qs1.length).zip (agJ.map some),h:=h1',n:=sg.objs.length,k:=0,m:=qs1.length+(fn.ntmps-qs1.length)} c1 w {tmps:=vs.toArray++Array.replicate (fn.ntmps-vs.toArray.size) undef,defers:=[]}:=by
       refine⟨⟨λi u hu=>Dx p1 ?_ i u hu,m1,?_⟩,c1n,rfl,by simp [hql]⟩
       ·refine F2.Cc (by simp [hql]) λj i u hj hu=> ?_
        have:i=j:=by
         have h3:=(List.getElem?_eq_some_iff.1 hj).1
         simp at h3
         rw [List.getElem?_range h3]at hj;cases hj;rfl
        subst this
        have hlt:i<vs.length:=(List.getElem?_eq_some_iff.1 hu).1
        simp only
        rw [Array.getElem?_append_left (by simpa using hlt)]
        simpa using hu
       ·intro gg d hd
        obtain⟨q1,u,q2,q3⟩:=Gl gg d hd
        exact⟨adp _ _ q1,u,q2,q3.mono' λb hb=>adp _ _ hb⟩
      have S1:SR {t:=(List.range qs1.length).zip (agJ.map some),h:=h1',n:=sg.objs.length,k:=0,m:=qs1.length+(fn.ntmps-qs1.length)}
        ({t:=(List.range qs1.length).zip (qs1.map λv=>⟨none,v⟩),gs:=[],h:=os1,m:=qs1.length+(fn.ntmps-qs1.length)}:RSt (std N)):=by
       refine⟨m2,by simp [nm,b4],rfl,λi sv hi=> ?_,λt e he=>by simp at he⟩
       obtain⟨q1,q2⟩:=Dw p2 i sv hi
       unfold yu
       rw [q1];exact q2
      refine wp_mono (kY hE hX hG hm Ka c1n code hrun A1 (.refl _ _ _) S1 (.refl _ os1) rfl) ?_
      have fin:∀ {c3:Ctx} {s3':St} {s3:RSt (std N)} {a3x:Act} {w3:World},Grow c1 w h1' c3 w3 s3'.h->iC E s3' c3 w3 a3x->SR s3' s3->Keep sg.objs.length os1 s3.h->
        TU (std N) X sg fn s3 (λy=>y=ct.fn x)->
        a3x.defers=[]/\∃v,(results fn a3x.tmps).run E.P w3= .ok v w3/\
         Post (λv w'=>∃c' r h' j,Grow c w h c' w' h'/\bD c' w' h'/\c'.n=nm hs.length j/\bC c' w' v r/\K r h' j) (.returned v) w3:=by
       intro c3 s3' s3 anP w3 g3 A3 S3 K3 hfin
       refine⟨A3.defers,?_⟩
       generalize hM:TU (std N) X sg fn s3=M at hfin
       unfold TU at hM
       split at hM
       ·rename_i rs hrs
        split at hM
        ·rename_i e2 he2
         split at hM
         ·rename_i e3 he3
          split at hM
          ·rename_i DF
           have DF:=Ie DF
           split at hM
           ·rename_i y hy
            subst hM
            obtain⟨agK,hfin⟩:=dW hfin
            have hfin:y=ct.fn x:=hfin
            subst hfin
            obtain⟨ps,rp1,rp2⟩:=Im (E:=E) hX S3 hrs
            obtain⟨us,ps',u1,u2,u3⟩:=zF hE A3 _ (λq=>q=ps) (rp2 _ rfl)
            subst u3
            refine⟨_,Jy u1,?_⟩
            generalize hbr:(sg.fresh&&e.fro.all λp=> !p.2)=br at hvk hK
            generalize Uh:(if br=true then hs else aZ (std m) hs (e.fro.map (·.1)))=h1T at hvk
            have DJ:h1T.length=hs.length:=by
             rw [<-Uh];split
             ·rfl
             ·exact jZ _ _ _
            have agL:nmh h1T=nmh hs:=by
             rw [<-Uh];split
             ·rfl
             ·exact rT _ _ _
            obtain⟨nms,adq⟩:∃nms,newNames e.ren h1T.length sg.dx.length=nms:=⟨_,rfl⟩
            rw [adq]at hvk
            have agM:nms.length=sg.dx.length:=by rw [<-adq];exact fM _ _ _
            obtain⟨agN,qs3,x1,x2,x3,x4⟩:=rV (λi=>nms.getD i 0) he2
            obtain⟨ads,os3,y1,y2,y3,y4,y5⟩:=oH (λi=>nms.getD i 0) (λi=>rO (std m) h1T (nms.getD i 0)) (λj=>Kc h1T _) he3
            have hlv3:e3.lv.reverse=agN++ads:=by rw [y1,x1];simp [es0]
            have agO:=unpack_pack hy
            rw [hlv3]at agO
            rw [show unpack (std m).ah sg.out (ct.fn x)=agN++ads from agO,x3]at hvk
            simp only at hvk
            have hy3:=y3 []
            rw [List.append_nil]at hy3
            rw [hy3]at hvk
            simp only [Option.some.injEq,Prod.mk.injEq]at hvk
            obtain⟨hv,hkT⟩:=hvk
            have hrl3:e3.ren.length=sg.dx.length:=by rw [y2.len,x2.len,Ij]
            have Gd:∀(i l:Nat),e.ren[i]? =some (some (some l))->i<sg.objs.length:=λi l hi=>by rw [<-hrl];exact(List.getElem?_eq_some_iff.1 hi).1
            have passed:∀(i l:Nat),e.ren[i]? =some (some (some l))->∃o',AE.look h l=some o'/\o'.live:=λi l hi=>by
             have hik:=Gd i l hi
             obtain⟨o2,q1,q2⟩:=hof i _ (List.getElem?_eq_getElem hik)
             obtain⟨_,_,_,_,q3⟩:=q2.rel H HR hck m3 (λh=>by cases h)
             exact q3 l (λhg=>gW.gone hi (by rw [List.getElem?_eq_getElem hik,hg])) hi
            have hlh:∀l o',AE.look h l=some o'->l<hs.length:=λl o' hl=>by rw [<-hcn];exact(H.obj l o' hl).1
            have P:=OI (n:=m) os3 e.ren h1T (λi l hi _=>by rw [DJ];obtain⟨o',q,_⟩:=passed i l hi;exact hlh l o' q) (λi j l hi hj=>gW.dist hi hj)
            rw [y4,adq,hkT]at P
            have aar:∀i,i<sg.dx.length->nms[i]? =some (nms.getD i 0):=λi hi=>by
             have:i<nms.length:=by rw [agM];exact hi
             simp [List.getD,List.getElem?_eq_getElem this]
            have nmP:∀i,i<sg.dx.length->kT[nms.getD i 0]? =os3[i]? /\(e.ren[i]? =some (some (some (nms.getD i 0)))\/(hs.length<=nms.getD i 0/\∀q:Nat,e.ren[i]? ≠some (some (some q)))):=λi hi=>by
             obtain⟨l,q1,q2,q3⟩:=P.at_ i (by rw [y4];exact hi)
             rw [aar i hi]at q1
             have q1:=Option.some.inj q1
             subst q1
             rw [DJ]at q3
             exact⟨q2,q3⟩
            have Vu:∀i j,i<sg.dx.length->j<sg.dx.length->nms.getD i 0=nms.getD j 0->i=j:=λi j hi hj hij=>P.inj i j _ (aar i hi) (by rw [hij];exact aar j hj)
            have amD:∀i,i<sg.dx.length->nms.getD i 0<kT.length:=λi hi=>by
             have h3:=(nmP i hi).1
             rw [List.getElem?_eq_getElem (show i<os3.length by rw [y4];exact hi)]at h3
             exact(List.getElem?_eq_some_iff.1 h3).1
            have Rk:∀(i l:Nat),e.ren[i]? =some (some (some l))->nms.getD i 0=l:=λi l hi=>by
             have hik:=Nat.lt_of_lt_of_le (Gd i l hi) hkk
             rcases(nmP i hik).2 with q | ⟨_,q⟩
             ·rw [hi]at q;cases q;rfl
             ·exact absurd hi (q l)
            have hD:∀l,l∈bE e.ren->∃i,i<sg.dx.length/\nms.getD i 0=l/\e.ren[i]? =some (some (some l)):=λl hl=>by
             obtain⟨i,hi⟩:=uI hl
             exact⟨i,Nat.lt_of_lt_of_le (Gd i l hi) hkk,Rk i l hi,hi⟩
            obtain⟨D,abz⟩:∃D,bE e.ren++(if br=true then []else e.fro.map (·.1))=D:=⟨_,rfl⟩
            rw [abz]at hK
            have Ke:∀l,l∈D↔l∈bE e.ren\/(br=false/\∃f,(l,f)∈e.fro):=λl=>by
             rw [<-abz];cases br<;>simp
            have uK:∀l f,(l,f)∈e.fro->(∃g cc xs,hs[l]? =some (.rows g cc xs))/\∃o',AE.look h l=some o'/\o'.live:=λl f hl=>by
             obtain⟨_,g,cc,xs,q⟩:=gW.fro l f hl
             obtain⟨o',q1,q2⟩:=HR.old l _ q
             cases q2 with | rows _=>exact⟨⟨g,cc,xs,q⟩,_,q1,trivial⟩
            have Gf:∀l o,AE.look (yC D h) l=some o->o.live->l∉D/\AE.look h l=some o:=λl o hl hlv=>by
             by_cases hd:l∈D
             ·rw [DC hd]at hl;cases hl;exact hlv.elim
             ·rw [oK hd]at hl;exact⟨hd,hl⟩
            have Io:∀l o b,l∉D->AE.look h l=some o->o.live->c.μ l=some b->¬cZ c1 h1' b:=λl o b hd hl hlv hb ho=>by
             obtain⟨i,lq,q,q1,q2,q3,q4⟩:=agH b ho
             have:=H.inj l o lq q b hl hlv q2 q3 hb q4
             subst this
             exact hd ((Ke l).2 (.inl (oI q1)))
            have Rl:∀b,cZ c1 h1' b->cZ c h b:=λb hb=>by
             obtain⟨i,lq,q,_,q2,q3,q4⟩:=agH b hb
             exact⟨lq,q,q2,q3,q4⟩
            have kept:∀f b,c.K f b->w3.heap[b]? =w.heap[b]? :=λf b hb=>g3.kept b (H.low f b hb) (λho=>H.own f b (Rl b ho) hb)
            have Hb:bD c w3 (yC D h):=by
             refine⟨λl o hl=> ?_,λl o l' o' b q1 q2 q3 q4 q5 q6=> ?_,?_,λf b hb=>Nat.lt_of_lt_of_le (H.low f b hb) g3.size,H.sub⟩
             ·by_cases hd:l∈D
              ·rw [DC hd]at hl;cases hl
               refine⟨?_,trivial⟩
               rcases(Ke l).1 hd with h3 | ⟨_,f,h3⟩
               ·obtain⟨i,hi⟩:=uI h3
                obtain⟨o',q,_⟩:=passed i l hi
                exact(H.obj l o' q).1
               ·obtain⟨_,o',q,_⟩:=uK l f h3
                exact(H.obj l o' q).1
              ·rw [oK hd]at hl
               obtain⟨q1,q2⟩:=H.obj l o hl
               exact⟨q1,q2.mono (.refl c) kept g3.stays q1 (λb hlv hb=>g3.kept b (q2.lt hlv hb) (Io l o b hd hl hlv hb))⟩
             ·obtain⟨_,r1⟩:=Gf l o q1 q2
              obtain⟨_,r2⟩:=Gf l' o' q3 q4
              exact H.inj l o l' o' b r1 q2 r2 q4 q5 q6
             ·rintro f b ⟨l,o,hl,hlv,hb⟩ hk
              obtain⟨_,r1⟩:=Gf l o hl hlv
              exact H.own f b ⟨l,o,r1,hlv,hb⟩ hk
            have Vv:∀l o b,AE.look h l=some o->o.live->c.μ l=some b->b<w.heap.size:=λl o b hl hlv hb=>(H.obj l o hl).2.lt hlv hb
            have abA:∀l o b,l∉D->AE.look h l=some o->o.live->c.μ l=some b->¬cZ c3 s3'.h b:=λl o b hd hl hlv hb ho=>by
             rcases g3.nA b ho with h3 | h3
             ·exact Io l o b hd hl hlv hb h3
             ·have:=Vv l o b hl hlv hb;omega
            have Rm:∀q g b,(q,g)∈e3.fro->c3.μ q=some b->cZ c3 s3'.h b:=λq g b hq hb=>by
             obtain⟨_,g',cc,xs,hl⟩:=DF.fro q g hq
             obtain⟨o',q1,q2⟩:=S3.heap.old q _ hl
             cases q2 with | rows _=>exact⟨q,_,q1,trivial,hb⟩
            have agP:br=true->∀l f,(l,f)∈e.fro->f=false:=λhb l f hl=>by
             rw [<-hbr]at hb
             simp only [Bool.and_eq_true]at hb
             have:=List.all_eq_true.1 hb.2 _ hl
             simpa using this
            have adi:∀f b,cZ c (yC D h) b->KX e3 c3 br f b->False:=by
             rintro f b ⟨l,o,hl,hlv,hb⟩ hk
             obtain⟨hd,hl⟩:=Gf l o hl hlv
             rcases hk with hk | ⟨q,g,q1,q2,_⟩
             ·rcases g3.uU _ b hk with h3 | h3 | h3
              ·rcases c1K _ b h3 with h3 | ⟨l2,g2,q1,q2,q3⟩
               ·exact H.own _ b ⟨l,o,hl,hlv,hb⟩ h3
               ·obtain⟨_,o2,r1,r2⟩:=uK l2 g2 q1
                have:=H.inj l o l2 o2 b hl hlv r1 r2 hb q2
                subst this
                cases hbb:br with
                | false=>exact hd ((Ke l).2 (.inr ⟨hbb,g2,q1⟩))
                | true=>
                 have h5:=q3 (by rw [hbb];simp)
                 have h6:=agP hbb l g2 q1
                 rw [h5]at h6;cases h6
              ·have:=Vv l o b hl hlv hb;omega
              ·exact Io l o b hd hl hlv hb h3
             ·exact abA l o b hd hl hlv hb (Rm q g b q1 q2)
            have amE:∃μ2:Nat->Option Nat,(∀l,l<hs.length->μ2 l=c.μ l)/\(∀(i q:Nat),i<sg.dx.length->hs.length<=nms.getD i 0->e3.ren[i]? =some (some (some q))->μ2 (nms.getD i 0)=c3.μ q)/\
              (∀i:Nat,i<sg.dx.length->hs.length<=nms.getD i 0->e3.ren[i]? =some (some none)->μ2 (nms.getD i 0)=none):=by
             have hch:∀l,∃ob:Option Nat,(l<hs.length->ob=c.μ l)/\(∀(i q:Nat),i<sg.dx.length->hs.length<=l->nms.getD i 0=l->e3.ren[i]? =some (some (some q))->ob=c3.μ q)/\
               (∀i:Nat,i<sg.dx.length->hs.length<=l->nms.getD i 0=l->e3.ren[i]? =some (some none)->ob=none):=by
              intro l
              by_cases hl:l<hs.length
              ·exact⟨c.μ l,λ_=>rfl,λi q _ h4=>by omega,λi _ h4=>by omega⟩
              ·by_cases hx:∃i q:Nat,i<sg.dx.length/\nms.getD i 0=l/\e3.ren[i]? =some (some (some q))
               ·obtain⟨i,q,h4,h5,h6⟩:=hx
                refine⟨c3.μ q,λh=>absurd h hl,λj q' h7 _ h9 h10=> ?_,λj h7 _ h9 h10=> ?_⟩
                ·have:=Vu i j h4 h7 (h5.trans h9.symm);subst this
                 rw [h6]at h10;cases h10;rfl
                ·have:=Vu i j h4 h7 (h5.trans h9.symm);subst this
                 rw [h6]at h10;cases h10
               ·exact⟨none,λh=>absurd h hl,λj q' h7 _ h9 h10=>absurd ⟨j,q',h7,h9,h10⟩ hx,λ_ _ _ _ _=>rfl⟩
             obtain⟨μ2,adt⟩:=Classical.axiomOfChoice hch
             exact⟨μ2,λl hl=>(adt l).1 hl,λi q h4 h5 h6=>(adt _).2.1 i q h4 h5 rfl h6,λi h4 h5 h6=>(adt _).2.2 i h4 h5 rfl h6⟩
            obtain⟨μ2,μa,μb,μc⟩:=amE
            have OJ:∀(i:Nat) (v:Option Nat),i<sg.objs.length->e3.ren[i]? =some (some v)->v=some i/\(es0 (std N) sg.objs.length sg.dx).ren[i]? =some (some (some i)):=λi v hi hv=>by
             have hik:=Nat.lt_of_lt_of_le hi hkk
             have h0:=Ii (n:=N) hi hik
             have hg:pE sg.dx[i]? =false:=by
              unfold pE;split
              ·rename_i hh;exact absurd hh (DF.gone hv)
              ·rfl
             rw [hg]at h0
             have h0:(es0 (std N) sg.objs.length sg.dx).ren[i]? =some (some (some i)):=by simpa using h0
             have:=y2.ren i _ (x2.ren i _ h0)
             rw [hv]at this;cases this
             exact⟨rfl,h0⟩
            have hname:∀(i q:Nat),e3.ren[i]? =some (some (some q))->μ2 (nms.getD i 0)=c3.μ q:=λi q hi=>by
             have hik:i<sg.dx.length:=by rw [<-hrl3];exact(List.getElem?_eq_some_iff.1 hi).1
             rcases(nmP i hik).2 with h4 | ⟨h4,_⟩
             ·have hio:=Gd i _ h4
              obtain⟨h5,_⟩:=OJ i _ hio hi
              cases h5
              obtain⟨o',h6,_⟩:=passed i _ h4
              rw [μa _ (hlh _ o' h6),g3.le.μ i (by rw [c1n];exact hio)]
              exact(m3.name i _ h4).2.symm
             ·exact μb i q hik h4 hi
            have hnil:∀(i:Nat),e3.ren[i]? =some (some none)->μ2 (nms.getD i 0)=none:=λi hi=>by
             have hik:i<sg.dx.length:=by rw [<-hrl3];exact(List.getElem?_eq_some_iff.1 hi).1
             rcases Nat.lt_or_ge i sg.objs.length with h4 | h4
             ·obtain⟨h5,_⟩:=OJ i _ h4 hi;cases h5
             ·rcases(nmP i hik).2 with h5 | ⟨h5,_⟩
              ·have:=Gd i _ h5;omega
              ·exact μc i hik h5 hi
            have hsame:Same hs kT:=λl z hz=>by
             have hll:l<hs.length:=by
              rcases Nat.lt_or_ge l hs.length with hl | hl
              ·exact hl
              ·simp [nmh,List.getElem?_eq_none hl]at hz
             by_cases hp:∃i:Nat,e.ren[i]? =some (some (some l))
             ·obtain⟨i,hi⟩:=hp
              have hio:=Gd i l hi
              have hik:=Nat.lt_of_lt_of_le hio hkk
              have hn:=Rk i l hi
              have hat:=(nmP i hik).1
              rw [hn]at hat
              obtain⟨k3,hk3⟩:∃k3,sg.dx[i]? =some k3:=⟨_,List.getElem?_eq_getElem hik⟩
              obtain⟨o3,r1,r2⟩:=y5 e3 (.refl _) i k3 hk3
              rw [Nat.zero_add]at r2
              have goal:nmh [o3] 0=some z->nmh kT l=some z:=λhh=>by
               simp only [nmh,hat,r1];simpa [nmh]using hh
              by_cases hg:k3= .gone
              ·refine goal ?_
               rw [r2.gone hg]
               show nmh [rO (std m) h1T (nms.getD i 0)] 0=some z
               rw [hn]
               rw [<-agL]at hz
               unfold rO
               simp only [nmh]at hz ⊢
               split at hz
               ·rename_i hh;rw [hh];simpa using hz
               ·rename_i hh;rw [hh];simpa using hz
               ·cases hz
              ·obtain⟨v3,hv3⟩:=r2.live hg
               obtain⟨h5,h6⟩:=OJ i _ hio hv3
               subst h5
               obtain⟨o1',s1,s2⟩:=hof i _ (List.getElem?_eq_getElem hio)
               have amF:sg.objs[i]≠ .gone:=λhh=>gW.gone hi (by rw [List.getElem?_eq_getElem hio,hh])
               have t1:=s2.s1 l z.1 z.2 amF hi (by rw [hz])
               have amG:pz (std m) e i=none:=by simp [pz,htr]
               rw [amG]at t1
               have t2:nmh os1 i=some z:=by simp only [nmh,s1];simpa [nmh]using t1
               rcases(K3 i hio).2 z t2 with⟨cc,nn,hgo⟩ | t3
               ·exfalso
                obtain⟨v3',anQ⟩:=r2.live hg
                have:=Gc he3 (i:=i) hk3 hg (l:=i) (by rw [Nat.zero_add];exact hv3)
                obtain⟨o4,ho4,amH⟩:=this
                rw [hgo]at ho4;cases ho4
                exact amH ⟨_,_,rfl⟩
               ·have amI:pz (std N) e3 i=none:=by rw [y2.tr i _ (x2.ren i _ h6),x2.tr i _ h6];rfl
                have t4:=r2.s1 i z.1 z.2 hg hv3 (by rw [t3])
                rw [amI]at t4
                exact goal t4
             ·have hp':∀i:Nat,i<os3.length->e.ren[i]? ≠some (some (some l)):=λi _ hi=>hp ⟨i,hi⟩
              have:=P.old l (by rw [DJ];exact hll) hp'
              rw [<-agL]at hz
              simp only [nmh,this]
              exact hz
            have amJ:∀(j:Nat) (kk:SkO),sg.dx[j]? =some kk->∃o2,os3[j]? =some o2/\OF e3 s3.h (λi=>nms.getD i 0) j kk (rO (std m) h1T (nms.getD j 0)) o2:=λj kk hj=>by
             obtain⟨o2,q1,q2⟩:=y5 e3 (.refl _) j kk hj
             exact⟨o2,q1,by simpa using q2⟩
            have amK:br=true->sg.dx.all SkO.fresh=true:=λhb=>by
             rw [<-hbr]at hb
             simp only [Bool.and_eq_true,Sig.fresh]at hb
             exact hb.1.2
            have amL:br=true->sg.res.all SkV.fresh=true:=λhb=>by
             rw [<-hbr]at hb
             simp only [Bool.and_eq_true,Sig.fresh]at hb
             exact hb.1.1
            obtain⟨o3f,z1,z2,z3,z4,z5,z6⟩:=wU (ks:=sg.dx) (nm:=λi=>nms.getD i 0) (old:=λi=>rO (std m) h1T (nms.getD i 0)) A3.abs.heap S3.heap agK DF hrl3 y4 amJ (cb:=c) (hb':=yC D h)
             Hb br amK (μ2:=μ2) (n2:=kT.length) (by rw [hcn,<-DJ];exact P.len) (λl hl=>μa l (by rw [<-hcn];exact hl)) amD Vu hname hnil (h2:=kT) (λi hi=>(nmP i hi).1)
             (λl o hl ho=>by
              have hll:l<hs.length:=by
               rcases Nat.lt_or_ge l hs.length with h4 | h4
               ·exact h4
               ·obtain⟨i,q1,q2⟩:=P.new l (by rw [DJ];exact h4) (List.getElem?_eq_some_iff.1 ho).1
                rw [y4]at q1
                rw [aar i q1]at q2
                exact absurd (Option.some.inj q2) (hl i q1)
              have hnp:l∉bE e.ren:=λhp=>by
               obtain⟨i,q1,q2,_⟩:=hD l hp
               exact hl i q1 q2
              have h5:=P.old l (by rw [DJ];exact hll) (λi hi hh=>hnp (oI hh))
              rw [h5]at ho
              by_cases hd:l∈D
              ·rcases(Ke l).1 hd with h6 | ⟨hb0,f,h6⟩
               ·exact absurd h6 hnp
               ·rw [<-Uh,hb0]at ho
                simp only [Bool.false_eq_true,if_false]at ho
                obtain⟨⟨g,cc,xs,h7⟩,_⟩:=uK l f h6
                have:Gone (aZ (std m) hs (e.fro.map (·.1))) l:=yB (List.mem_map.2 ⟨_,h6,rfl⟩) h7
                obtain⟨c5,n5,h8⟩:=this
                rw [h8]at ho;cases ho
                exact⟨.gone,DC hd,.gone⟩
              ·have h7:hs[l]? =some o:=by
                rw [<-Uh]at ho
                split at ho
                ·exact ho
                ·rename_i hb0
                 rw [iN m _ _ (λh8=>hd ((Ke l).2 (.inr ⟨by simpa using hb0,by
                  obtain⟨p,hp,rfl⟩:=List.mem_map.1 h8
                  exact⟨p.2,hp⟩⟩)))]at ho
                 exact ho
               obtain⟨o',r1,r2⟩:=HR.old l _ h7
               exact⟨o',by rw [oK hd];exact r1,r2.mono hsame⟩)
             (λl hl=>by
              have hll:hs.length<=l:=by have:=P.len;rw [DJ]at this;omega
              have hnd:l∉D:=λhd=>by
               rcases(Ke l).1 hd with h4 | ⟨_,f,h4⟩
               ·obtain⟨i,hi⟩:=uI h4
                obtain⟨o',q,_⟩:=passed i l hi
                have:=hlh l o' q;omega
               ·obtain⟨_,o',q,_⟩:=uK l f h4
                have:=hlh l o' q;omega
              rw [oK hnd]
              exact HR.new l hll)
             (λb ⟨l,o,hl,hlv,hb⟩ ho=>by
              obtain⟨hd,hl⟩:=Gf l o hl hlv
              exact abA l o b hd hl hlv hb ho)
             (λf b hk ho=>A3.abs.heap.own f b ho (g3.le.K f b (adp f b hk))) adi
            have wvs:F2 (WV c3 w3 (nmh s3.h)) us rs:=by
             clear he2 x1 x2 x3 x4 hrs u1 rp2
             induction u2 generalizing rs with
             | nil=>cases rp1;exact .nil
             | cons q1 _ ih=>cases rp1 with | cons q3 q4=>exact .cons ⟨_,q1,q3⟩ (ih _ q4)
            obtain⟨amM,w1,w2⟩:=Ik (x4 A3.abs.heap S3.heap y2 agK z3 amL wvs)
            have hv3:PVR (nmh kT) (one amM) v:=by rw [<-hv];exact ado w2 (Dz (x3 ads))
            have hkl:kT.length=nm hs.length (kT.length-hs.length):=by have:=P.len;rw [DJ]at this;simp [nm];omega
            have amN:∀b,cZ c (yC D h) b->cZ c h b:=λb ⟨l,o,hl,hlv,hb⟩=>⟨l,o,(Gf l o hl hlv).2,hlv,hb⟩
            have abB:∀b,cZ c3 s3'.h b->cZ c h b\/w.heap.size<=b:=λb hb=>(g3.nA b hb).imp (Rl b) id
            refine⟨_,_,_,kT.length-hs.length,?_,z1,hkl,aaq w1,hK _ _ _ hv3 z2 ?_ hkl⟩
            ·refine⟨z5,g3.size,g3.stays,λb hb hno=>g3.kept b hb (λho=>hno (Rl b ho)),λf b hb=> ?_,λb hb=> ?_,g3.os,g3.tape,g3.output⟩
             ·rcases hb with hb | hb | ⟨q,g,q1,q2,_⟩
              ·exact .inl hb
              ·rcases g3.uU _ b hb with h4 | h4 | h4
               ·rcases c1K _ b h4 with h5 | ⟨l2,g2,q1,q2,q3⟩
                ·left
                 cases f with
                 | true=>simpa using h5
                 | false=>cases br with
                  | true=>exact H.sub b (by simpa using h5)
                  | false=>simpa using h5
                ·obtain⟨_,o2,r1,r2⟩:=uK l2 g2 q1
                 exact .inr (.inr ⟨l2,o2,r1,r2,q2⟩)
               ·exact .inr (.inl h4)
               ·exact .inr (.inr (Rl b h4))
              ·rcases abB b (Rm q g b q1 q2)with h4 | h4
               ·exact .inr (.inr h4)
               ·exact .inr (.inl h4)
             ·rcases z4 b hb with h4 | ⟨i,lq,q,_,q2,q3,q4⟩
              ·exact .inl (amN b h4)
              ·exact abB b ⟨lq,q,q2,q3,q4⟩
            ·refine⟨hsame,by have:=P.len;rw [DJ]at this;exact this,λl ⟨cc,nn,hgo⟩=> ?_,λl hl hnd=> ?_⟩
             ·have hll:=(List.getElem?_eq_some_iff.1 hgo).1
              have hnp:∀i:Nat,e.ren[i]? ≠some (some (some l)):=λi hi=>by
               obtain⟨o',q1,q2⟩:=passed i l hi
               obtain⟨o2,q3,q4⟩:=HR.old l _ hgo
               rw [q1]at q3;cases q3;cases q4;exact q2.elim
              have hnf:∀f,(l,f)∉e.fro:=λf hf=>by
               obtain⟨⟨g,c5,xs,h7⟩,_⟩:=uK l f hf
               rw [hgo]at h7;cases h7
              refine⟨cc,nn,?_⟩
              rw [P.old l (by rw [DJ];exact hll) (λi _=>hnp i),<-Uh]
              split
              ·exact hgo
              ·rw [iN m _ _ (λh8=>by
                obtain⟨p,hp,rfl⟩:=List.mem_map.1 h8
                exact hnf p.2 hp)]
               exact hgo
             ·have hnp:∀i:Nat,e.ren[i]? ≠some (some (some l)):=λi hi=>hnd ((Ke l).2 (.inl (oI hi)))
              refine⟨?_,?_⟩
              ·rw [P.old l (by rw [DJ];exact hl) (λi _=>hnp i),<-Uh]
               split
               ·rfl
               ·rename_i hb0
                exact iN m _ _ (λh8=>hnd ((Ke l).2 (.inr ⟨by simpa using hb0,by
                 obtain⟨p,hp,rfl⟩:=List.mem_map.1 h8
                 exact⟨p.2,hp⟩⟩)))
              ·rw [z6 l (λi hi hh=>by
                rcases(nmP i hi).2 with h4 | ⟨h4,_⟩
                ·rw [hh]at h4;exact hnp i h4
                ·omega),oK hnd]
           ·(subst hM;exact hfin.elim)
          ·(subst hM;exact hfin.elim)
         ·(subst hM;exact hfin.elim)
        ·(subst hM;exact hfin.elim)
       ·(subst hM;exact hfin.elim)
      intro ex a' w' he
      cases ex with
      | outgrown=>exact he.elim
      | panic _=>exact he.elim
      | goto _=>exact he.elim
      | normal=>obtain⟨c3,s3',s3,g1,g2,g3,g4,_,g6⟩:=he;exact fin g1 g2 g3 g4 g6
      | ret=>obtain⟨c3,s3',s3,g1,g2,g3,g4,_,g6⟩:=he;exact fin g1 g2 g3 g4 g6
      | exit i=>obtain⟨c3,s3',s3,g1,g2,g3,g4,_,g6⟩:=he;exact g6.elim
     ·cases hcall
    ·cases hcall
   ·cases hcall
  ·cases hcall
end
end
end Go.TX
namespace Go.TX
open Go Go.AE
structure FM {ρ:Type} (m:(ρ->Prop)->Prop):Prop where
 mono:∀Q Q':ρ->Prop,(∀y,Q y->Q' y)->m Q->m Q'
 one:∀Q:ρ->Prop,m Q->∃y,Q y/\m (λz=>z=y)
 two:∀Q Q':ρ->Prop,m Q->m Q'->∃y,Q y/\Q' y
section
variable {n:Nat} {ρ:Type}
theorem FM.fail:FM (λ_:ρ->Prop=>False):=⟨λ_ _ _ h=>h,λ_ h=>h.elim,λ_ _ h=>h.elim⟩
theorem FM.ret (t:ρ):FM (λQ:ρ->Prop=>Q t):=⟨λ_ _ h hq=>h _ hq,λ_ hq=>⟨t,hq,rfl⟩,λ_ _ h g=>⟨t,h,g⟩⟩
theorem FM.bind {α:Type} {m:(α->Prop)->Prop} {k:α->(ρ->Prop)->Prop} (hm:FM m) (hk:∀t,FM (k t)):FM (λQ=>m λt=>k t Q):=
 ⟨λQ Q' h hq=>hm.mono _ _ (λt ht=>(hk t).mono _ _ h ht) hq,λQ hq=>by
  obtain⟨t,h1,h2⟩:=hm.one _ hq
  obtain⟨y,h3,h4⟩:=(hk t).one _ h1
  exact⟨y,h3,hm.mono _ _ (λt' e=>by subst e;exact h4) h2⟩,λQ Q' h g=>by
  obtain⟨t,h1,h2⟩:=hm.two _ _ h g
  exact(hk t).two _ _ h1 h2⟩
theorem FM.eY {α:Type} {m:(α ⊕ ρ->Prop)->Prop} {k:α->(ρ->Prop)->Prop} (hm:FM m) (hk:∀t,FM (k t)):FM (λQ=>m (BI k Q)):=
 ⟨λQ Q' h hq=>hm.mono _ _ (λt ht=>by
  cases t with
  | inl x=>exact(hk x).mono _ _ h ht
  | inr r=>exact h _ ht) hq,λQ hq=>by
  obtain⟨t,h1,h2⟩:=hm.one _ hq
  cases t with
  | inl x=>
   obtain⟨y,h3,h4⟩:=(hk x).one _ h1
   exact⟨y,h3,hm.mono _ _ (λt' e=>by subst e;exact h4) h2⟩
  | inr r=>exact⟨r,h1,hm.mono _ _ (λt' e=>by subst e;rfl) h2⟩,λQ Q' h g=>by
  obtain⟨t,h1,h2⟩:=hm.two _ _ h g
  cases t with
  | inl x=>exact(hk x).two _ _ h1 h2
  | inr r=>exact⟨r,h1,h2⟩⟩
theorem FM.itW {α:Type} {f:α->(α ⊕ ρ->Prop)->Prop} (hf:∀x,FM (f x)):∀(N:Nat) (x:α),FM (TX.itW N f x)
 | 0,x=>by
  have e:TX.itW 0 f x=λ_=>False:=by funext Q;rw [TX.itW]
  rw [e];exact .fail
 | N+1,x=>by
  have e:TX.itW (N+1) f x=λQ=>f x (BI (TX.itW N f) Q):=by funext Q;rw [TX.itW]
  rw [e];exact .eY (hf x) (FM.itW hf N)
theorem zU {α:Type} {k k':α->(ρ->Prop)->Prop} {Q Q':ρ->Prop} (hk:∀x,k x Q->k' x Q') (hq:∀y,Q y->Q' y):∀s,BI k Q s->BI k' Q' s
 | .inl x=>hk x
 | .inr r=>hq r
theorem OL {α:Type} {f:α->(α ⊕ ρ->Prop)->Prop} (hf:∀x,FM (f x)) {Q:ρ->Prop}:∀ {N M:Nat} {x:α},N<=M->TX.itW N f x Q->TX.itW M f x Q
 | 0,_,_,_,h=>by rw [TX.itW]at h;exact h.elim
 | N+1,0,_,h,_=>absurd h (by omega)
 | N+1,M+1,x,h,g=>by
  rw [TX.itW]at g ⊢
  exact(hf x).mono _ _ (zU (λy k=>OL hf (by omega) k) (λ_ k=>k)) g
theorem DK {α:Type} {f:α->(α ⊕ ρ->Prop)->Prop} (hf:∀x,FM (f x)) {x:α} {Q:ρ->Prop} (h:Q5 f x Q):∃r,Q r/\∃N,TX.itW N f x (λz=>z=r):=by
 obtain⟨I,μ,h0,hs⟩:=h
 have key:∀(n:Nat) (y:α),μ y<n->I y->∃r,Q r/\∃N,TX.itW N f y (λz=>z=r):=by
  intro n
  induction n with
  | zero=>intro y h;omega
  | succ n ih=>
   intro y hy hI
   obtain⟨s,h1,h2⟩:=(hf y).one _ (hs y hI)
   cases s with
   | inl z=>
    obtain⟨r,q1,N,q2⟩:=ih z (by have:=h1.2;omega) h1.1
    refine⟨r,q1,N+1,?_⟩
    rw [TX.itW]
    exact(hf y).mono _ _ (λs e=>by subst e;exact q2) h2
   | inr r=>
    refine⟨r,h1,1,?_⟩
    rw [TX.itW]
    exact(hf y).mono _ _ (λs e=>by subst e;rfl) h2
 exact key _ x (Nat.lt_succ_self _) h0
theorem FM.iter {α:Type} {f:α->(α ⊕ ρ->Prop)->Prop} (hf:∀x,FM (f x)) (x:α):FM (λQ=>Q5 f x Q):=by
 refine⟨λQ Q' h ⟨I,μ,h0,hs⟩=>⟨I,μ,h0,λy hy=>(hf y).mono _ _ (zU (λ_ h=>h) h) (hs y hy)⟩,λQ h=> ?_,λQ Q' h g=> ?_⟩
 rotate_left
 ·obtain⟨r,q1,N,q2⟩:=DK hf h
  obtain⟨t,g1,M,g2⟩:=DK hf g
  obtain⟨z,rfl,rfl⟩:=(FM.itW hf (max N M) x).two _ _ (OL hf (Nat.le_max_left ..) q2) (OL hf (Nat.le_max_right ..) g2)
  exact⟨_,q1,g1⟩
 obtain⟨r,q1,N,q2⟩:=DK hf h
 refine⟨r,q1,?_⟩
 have least:∀y,(∃N,TX.itW N f y (λz=>z=r))->∃N,TX.itW N f y (λz=>z=r)/\∀M,M<N->¬TX.itW M f y (λz=>z=r):=by
  intro y ⟨N,hN⟩
  induction N using Nat.strongRecOn with
  | ind N ih=>
   by_cases h:∃M,M<N/\TX.itW M f y (λz=>z=r)
   ·obtain⟨M,h1,h2⟩:=h;exact ih M h1 h2
   ·exact⟨N,hN,λM hM hh=>h ⟨M,hM,hh⟩⟩
 have pick:∀y,∃N,(∃N,TX.itW N f y (λz=>z=r))->TX.itW N f y (λz=>z=r)/\∀M,M<N->¬TX.itW M f y (λz=>z=r):=λy=>by
  by_cases h:∃N,TX.itW N f y (λz=>z=r)
  ·obtain⟨N,hN⟩:=least y h;exact⟨N,λ_=>hN⟩
  ·exact⟨0,λhh=>absurd hh h⟩
 obtain⟨ν,hν⟩:=Classical.axiomOfChoice pick
 refine⟨λy=>∃N,TX.itW N f y (λz=>z=r),ν,⟨N,q2⟩,λy hy=> ?_⟩
 obtain⟨h1,h2⟩:=hν y hy
 cases hn:ν y with
 | zero=>rw [hn]at h1;rw [TX.itW]at h1;exact h1.elim
 | succ k=>
  rw [hn]at h1
  rw [TX.itW]at h1
  refine(hf y).mono _ _ (zU (λz hz=> ?_) (λ_ h=>h)) h1
  refine⟨⟨k,hz⟩,?_⟩
  have hz':=hν z ⟨k,hz⟩
  by_cases hlt:ν z<k+1
  ·exact hlt
  ·exact absurd hz (hz'.2 k (by omega))
theorem FM.chk {b:Bool} {m:(ρ->Prop)->Prop} (h:FM m):FM (λQ=>b=true/\m Q):=
 ⟨λ_ _ hq ⟨a,c⟩=>⟨a,h.mono _ _ hq c⟩,λ_ ⟨a,c⟩=>let⟨y,q1,q2⟩:=h.one _ c;⟨y,q1,a,q2⟩,λ_ _ ⟨_,c⟩ ⟨_,d⟩=>h.two _ _ c d⟩
theorem FM.eO {m:(ρ->Prop)->Prop} (h:FM m):∀(ps:List Bool),FM (TX.eO (std n) ps m)
 | []=>h
 | _::ps=> .chk (FM.eO h ps)
theorem FM.cond {b:Bool} {x y:(ρ->Prop)->Prop} (hx:FM x) (hy:FM y):FM (λQ=>(b=true->x Q)/\(b=false->y Q)):=
 ⟨λ_ _ hq ⟨a,c⟩=>⟨λh=>hx.mono _ _ hq (a h),λh=>hy.mono _ _ hq (c h)⟩,λ_ ⟨a,c⟩=>by
  cases b with
  | true=>obtain⟨y,q1,q2⟩:=hx.one _ (a rfl);exact⟨y,q1,λ_=>q2,λh=>by cases h⟩
  | false=>obtain⟨y,q1,q2⟩:=hy.one _ (c rfl);exact⟨y,q1,λh=>(by cases h),λ_=>q2⟩,λ_ _ ⟨a,c⟩ ⟨a',c'⟩=>by
  cases b with
  | true=>exact hx.two _ _ (a rfl) (a' rfl)
  | false=>exact hy.two _ _ (c rfl) (c' rfl)⟩
theorem FM.bind' {ts:List LTy} {m:(fK ts->Prop)->Prop} {k:fK ts->(ρ->Prop)->Prop} (hm:FM m) (hk:∀t,FM (k t)):FM ((std n).bind ts m k):=by
 have:=FM.bind hm hk
 exact this
theorem FM.adu {ts:List LTy} {m:(fK ts ⊕ ρ->Prop)->Prop} {k:fK ts->(ρ->Prop)->Prop} (hm:FM m) (hk:∀t,FM (k t)):FM ((std n).eY ts m k):=by
 have:=FM.eY hm hk
 exact this
theorem FM.inl' {ts:List LTy} (t:fK ts):FM ((std n).inl (ρ:=ρ) ts t):=FM.ret _
theorem FM.inr' {ts:List LTy} {m:(ρ->Prop)->Prop} (h:FM m):FM ((std n).inr (ρ:=ρ) ts m):=by
 have:=FM.bind (k:=λ(r:ρ) (Q:fK ts ⊕ ρ->Prop)=>Q (Sum.inr r)) h λr=>FM.ret _
 exact this
theorem FM.iter' {ts:List LTy} {f:fK ts->(fK ts ⊕ ρ->Prop)->Prop} (hf:∀x,FM (f x)) (x:fK ts):FM ((std n).iter ts f x):=FM.iter hf x
theorem FM.ret' {ts:List LTy} (t:fK ts):FM ((std n).ret ts t):=FM.ret t
theorem FM.use {cr:CR (std n)} {K:SVal->List aJ->(ρ->Prop)->Prop} (h:∀v k,FM (K v k)):FM (qp (std n) cr K):=by
  obtain⟨ck,ts,y,k,td,p⟩:=cr
  unfold qp
  cases ts with
  | nil => simp only; split
           · exact h _ _
           · exact .fail
  | cons a b=>
    simp only
    split
    · exact h _ _
    · exact .fail
end
theorem AJ:∀(ts:List LTy),Nonempty (fK ts)
 | []=>⟨()⟩
 | t::r=>by
  obtain⟨y⟩:=AJ r
  have x:Nonempty (LT aB t):=by
   cases t with
   | i=>exact⟨(0:Int)⟩
   | b=>exact⟨false⟩
   | s=>exact⟨(default:ByteArray)⟩
   | l c=>exact⟨([]:List c.den)⟩
   | x c=>exact⟨(default:c.den)⟩
  obtain⟨x⟩:=x
  exact⟨(x,y)⟩
noncomputable def cn {s:Sig} (F:fK s.inp->(fK s.out->Prop)->Prop):Ct aB s:=
 {pre:=λx=> @decide (∃y,F x λz=>z=y) (Classical.propDecidable _)
  fn:=λx=> @Classical.epsilon _ (AJ _) λy=>F x λz=>z=y}
structure Fn (E:Tab) (f:FuncId) {s:Sig} (F:fK s.inp->(fK s.out->Prop)->Prop) (c:Ct aB s):Prop where
 e:c=cn F
 fm:∀x,FM (F x)
 ok:iy E f (gP c)
theorem Fn.cs {E:Tab} {f:FuncId} {s:Sig} {F:fK s.inp->(fK s.out->Prop)->Prop} {c:Ct aB s} (h:Fn E f F c) {x:fK s.inp} {Q:fK s.out->Prop} (g:F x Q):c.pre x=true/\Q (c.fn x):=by
 rw [h.e]
 obtain⟨y,h1,h2⟩:=(h.fm x).one _ g
 have e:∃y,F x λz=>z=y:=⟨y,h2⟩
 refine⟨by simp only [cn];exact @decide_eq_true _ (Classical.propDecidable _) e,?_⟩
 obtain⟨z,k1,k2⟩:=(h.fm x).two _ _ g (@Classical.epsilon_spec _ (λy=>F x λz=>z=y) e)
 have k2:z=(cn F).fn x:=k2
 rw [<-k2];exact k1
variable [aN]
section
variable {n:Nat} {ρ:Type}
theorem FM.region {X:XT} {C:Calls aB} {ops:List Oper} {K:RSt (std n)->(ρ->Prop)->Prop} (hK:∀s,FM (K s)):∀(rest:List Oper) (s:RSt (std n)),FM (dG (std n) X C ops rest K s)
 | [],s=>by unfold dG;exact hK s
 | o::rest,s=>by
  have ih:=FM.region (X:=X) (C:=C) (ops:=ops) hK rest
  unfold dG
  split
  ·split
   ·split
    ·split
     ·refine FM.eO ?_ _
      rw [BR];exact ih _
     ·exact .fail
    ·split
     ·exact FM.eO (FM.use λv k=>ih _) _
     ·exact .fail
   ·split
    ·split
     ·exact ih _
     ·split
      ·split
       ·exact FM.eO (ih _) _
       ·exact .fail
      ·split
       ·split
        ·exact FM.eO (FM.use λv k=>ih _) _
        ·exact .cond (FM.eO (FM.use λv k=>ih _) _) (ih _)
       ·exact .fail
     ·exact .fail
    ·exact .fail
  ·exact .fail
theorem FM.draw {X:XT} {C:Calls aB} {ops:List Oper} {K:RSt (std n)->(ρ->Prop)->Prop} (hK:∀s,FM (K s)):∀(rest:List dU) (hs:List (Nat×List Nat)) (s:RSt (std n)),FM (gu (std n) X C ops rest hs K s)
 | [],hs,s=>by unfold gu;exact hK s
 | (i,rs,cs)::rest,hs,s=>by
  have ih:=FM.draw (X:=X) (C:=C) (ops:=ops) hK rest
  unfold gu
  split
  ·exact .fail
  ·split
   ·simp only
    split
    ·split
     ·exact .fail
     ·split
      ·split
       ·refine FM.eO ?_ _
        rw [BR];exact ih _ _
       ·exact .fail
      ·split
       ·split
        ·exact ih _ _
        ·split
         ·exact FM.eO (ih _ _) _
         ·exact .fail
        ·exact .fail
       ·exact .fail
    ·split
     ·exact FM.eO (ih _ _) _
     ·exact ih _ _
     ·exact .fail
    ·split
     ·exact FM.eO (ih _ _) _
     ·exact .fail
    ·split
     ·split
      ·split
       ·exact FM.eO (FM.use λv k=>ih _ _) _
       ·exact .fail
      ·exact .fail
     ·split
      ·split
       ·exact ih _ _
       ·split
        ·split
         ·split
          ·exact FM.eO (FM.use λv k=>ih _ _) _
          ·exact .cond (FM.eO (FM.use λv k=>ih _ _) _) (ih _ _)
         ·exact .fail
        ·exact .fail
       ·exact .fail
      ·exact .fail
   ·exact .fail
theorem FM.cut {k:Nat} {sk:Fy} {pl:Bool} {s:RSt (std n)} {K:Exit->RSt (std n)->(ρ->Prop)->Prop} (hK:∀e s,FM (K e s)) {W: {σ:Type}->(Exit->RSt (std n)->(σ->Prop)->Prop)->(σ->Prop)->Prop}
  (hW:∀ {σ:Type} {K':Exit->RSt (std n)->(σ->Prop)->Prop},(∀e s,FM (K' e s))->FM (W K')):FM (OA (std n) k sk pl s K W):=by
 unfold OA
 split
 ·refine FM.bind' (hW λe s=> ?_) (λt=>hK _ _)
  split
  ·split
   ·exact FM.eO (FM.ret' _) _
   ·exact .fail
  ·exact .fail
 ·refine FM.adu (hW λe s=> ?_) (λt=>hK _ _)
  split
  ·split
   ·exact FM.eO (FM.inl' _) _
   ·exact .fail
  ·exact FM.inr' (hK _ _)
theorem FM.reg {X:XT} {C:Calls aB} {ord:Nat->List dU} {chk:Nat->Array Oper->Nat->Bool} {id:Nat} {ops:Array Oper} {draw:Bool} {s:RSt (std n)} {K:Exit->RSt (std n)->(ρ->Prop)->Prop} (hK:∀e s,FM (K e s)):
  FM ((if draw then(if chk id ops s.m then gu (std n) X C ops.toList (ord id) [] (λs=>K .normal s) s else(std n).fail)else dG (std n) X C ops.toList ops.toList (λs=>K .normal s) s:(std n).M ρ)):=by
 split
 ·split
  ·exact FM.draw (λs=>hK _ s) _ _ _
  ·exact .fail
 ·exact FM.region (λs=>hK _ s) _ _
end
theorem FM.exec {n:Nat} {X:XT} {C:Calls aB} {ord:Nat->List dU} {chk:Nat->Array Oper->Nat->Bool} {k:Nat}:∀(code:Code) {ρ:Type} (an:Ann) (s:RSt (std n)) (K:Exit->RSt (std n)->(ρ->Prop)->Prop),(∀e s,FM (K e s))->FM (bF (std n) X C ord chk k an code s K)
  | .skip,ρ,an,s,K,hK=>by cases an<;>exact hK _ _
  | .region id ops draw,ρ,an,s,K,hK=>by
    simp only [bF]
    split
    · exact FM.cut hK λhK'=>FM.reg hK'
    · exact FM.reg hK
  | .seq x y,ρ,an,s,K,hK=>by
    have main:∀a1 a2 (K1:Exit->RSt (std n)->(ρ->Prop)->Prop),(∀s',K1 .normal s'=bF (std n) X C ord chk k a2 y s' K)->(∀e s',e≠ .normal->K1 e s'=K e s')->FM (bF (std n) X C ord chk k a1 x s K1):=by
      intro a1 a2 K1 h1 h2
      refine FM.exec x a1 s K1 λe s'=> ?_
      by_cases he:e= .normal
      · subst he;rw [h1];exact FM.exec y a2 s' K hK
      · rw [h2 e s' he];exact hK _ _
    cases an with
    | seq a1 a2=>rw [bF];exact main a1 a2 _ (λ_=>rfl) (λe s' he=>by cases e<;>first | rfl | exact absurd rfl he)
    | u=>rw [bF];exact main .u .u _ (λ_=>rfl) (λe s' he=>by cases e<;>first | rfl | exact absurd rfl he)
    | _=>simp only [bF];exact .fail
  | .cond cd x y,ρ,an,s,K,hK=>by
    simp only [bF]
    split
    · split
      · exact .cond (FM.exec x _ s K hK) (FM.exec y _ s K hK)
      · exact .cond (FM.exec x _ s K hK) (FM.exec y _ s K hK)
      · exact FM.cut hK λhK'=> .cond (FM.exec x _ s _ hK') (FM.exec y _ s _ hK')
      · exact .fail
    · exact .fail
  | .block id b,ρ,an,s,K,hK=>by
    have main:∀ {σ:Type} {K':Exit->RSt (std n)->(σ->Prop)->Prop},(∀e s,FM (K' e s))->∀a1 (K1:Exit->RSt (std n)->(σ->Prop)->Prop),(∀e s',K1 e s'=K' e s'\/K1 e s'=K' .normal s')->FM (bF (std n) X C ord chk k a1 b s K1):=by
      intro σ K' hK' a1 K1 h1
      refine FM.exec b a1 s K1 λe s'=> ?_
      rcases h1 e s' with h | h<;>rw [h]<;>exact hK' _ _
    have alt:∀ {σ:Type} {K':Exit->RSt (std n)->(σ->Prop)->Prop} (e:Exit) (s':RSt (std n)),(match e with | .exit i=>if i==id then K' .normal s' else K' (.exit i) s' | e=>K' e s':(std n).M σ)=K' e s'\/(match e with | .exit i=>if i==id then K' .normal s' else K' (.exit i) s' | e=>K' e s':(std n).M σ)=K' .normal s':=by
      intro σ K' e s'
      cases e with
      | exit i => simp only; split
                  · exact .inr rfl
                  · exact .inl rfl
      | _=>exact .inl rfl
    simp only [bF]
    split
    · exact main hK _ _ alt
    · exact main hK _ _ alt
    · exact FM.cut hK λhK'=>main hK' _ _ alt
    · exact .fail
  | .loop b,ρ,an,s,K,hK=>by
    cases an with
    | loop sk a1=>
      rw [bF]
      split
      · refine FM.eO (FM.iter' (λx=>FM.exec b a1 _ _ λe s'=> ?_) _) _
        split
        · split
          · exact FM.eO (FM.inl' _) _
          · exact .fail
        · exact FM.inr' (hK _ _)
      · exact .fail
    | _=>simp only [bF];exact .fail
  | .exit i,ρ,an,s,K,hK=>by cases an<;>exact hK _ _
  | .ret,ρ,an,s,K,hK=>by cases an<;>exact hK _ _
  | .rangeFunc ..,ρ,an,s,K,hK=>by cases an<;>(simp only [bF];exact .fail)
  | .scope _,ρ,an,s,K,hK=>by cases an<;>(simp only [bF];exact .fail)
  | .label _,ρ,an,s,K,hK=>by cases an<;>(simp only [bF];exact .fail)
  | .goto _,ρ,an,s,K,hK=>by cases an<;>(simp only [bF];exact .fail)
  | .refuse _,ρ,an,s,K,hK=>by cases an<;>(simp only [bF];exact .fail)
theorem FM.run {n:Nat} {X:XT} {C:Calls aB} {ord:Nat->List dU} {chk:Nat->Array Oper->Nat->Bool} {an:Ann} {sg:Sig} {fn:Func} {code:Code} (x:fK sg.inp):FM (pI (std n) X C ord chk an sg fn code x):=by
 unfold pI
 split
 ·exact .fail
 ·split
  ·split
   ·refine FM.exec code an _ _ λe s=> ?_
    have he:FM (TU (std n) X sg fn s):=by
     unfold TU
     split
     ·split
      ·split
       ·split
        ·split
         ·exact FM.eO (FM.ret' _) _
         ·exact .fail
        ·exact .fail
       ·exact .fail
      ·exact .fail
     ·exact .fail
    split
    ·exact he
    ·exact he
    ·exact .fail
   ·exact .fail
  ·exact .fail
def ofL (C:Car) (l:List (FuncId×Sigma (Ct C))):Calls C:=λf=>(l.filter λp=>p.1==f).map (·.2)
def Vw (l:List (Nat×List dU)) (i:Nat):List dU:=match l.find? λp=>p.1==i with | some p=>p.2 | none=> []
def aas (E:Tab) (l:List (Nat×List dU)) (id:Nat) (ops:Array Oper) (m:Nat):Bool:=Hr ops.toList (Vw l id)&&xS E m ops.toList&&Hu E.P ops.toList
theorem aat {E:Tab} {l:List (Nat×List dU)}:∀id ops m,aas E l id ops m=true->Static E (Vw l) id ops m:=λ_ _ _ h=>h
theorem adw {E:Tab} {l:List (FuncId×Sigma (Ct aB))} (h:∀p∈l,iy E p.1 (gP p.2.2)):nG E (ji (ofL aB l)):=by
 intro f R hR
 unfold ji at hR
 split at hR
 ·cases hR
 ·cases hR
  rename_i hne
  have hall:∀ct∈ofL aB l f,iy E f (gP ct.2):=λct hct=>by
   obtain⟨p,hp,rfl⟩:=List.mem_map.1 hct
   obtain⟨hp1,hp2⟩:=List.mem_filter.1 hp
   have:p.1=f:=by simpa using hp2
   rw [<-this];exact h p hp1
  obtain⟨ct,hct⟩:=List.exists_mem_of_ne_nil _ hne
  exact⟨(hall ct hct).enters,λargs h n K ⟨ct,hct,hk⟩=>(hall ct hct).calls args h n K hk⟩
def Ru (X:XT) (E:Tab) (A:Alg) (ord:List (Nat×List dU)) (an:Ann) (s:Sig) (fn:Func) (l:List (FuncId×Sigma (Ct A.ah))) (F:Tup A.ah s.inp->A.M (Tup A.ah s.out)):Prop:=
 ∀x,pI A X (ofL A.ah l) (Vw ord) (aas E ord) an s fn (fn.body.getD .skip) x=F x
section
variable {X:XT} {E:Tab} (hE:aM E) (hX:XOK X E) (hm:E.P.follows .mixedOrders=true)
include hE hX hm
theorem amO {f:FuncId} {fn:Func} (hf:E.P.funcs[f]? =some fn) (hb:fn.body.isSome=true) (hent:∀c,fn.body=some c->Enters E.P f) {l:List (FuncId×Sigma (Ct aB))} (hl:∀p∈l,iy E p.1 (gP p.2.2)) {ord:List (Nat×List dU)} {sg:Sig} {an:Ann}
  {F:fK sg.inp->(fK sg.out->Prop)->Prop} (hrun:Ru X E (std 0) ord an sg fn l F):Fn E f F (cn F):=by
 obtain⟨code,hb⟩:=Option.isSome_iff_exists.1 hb
 have hr:∀x,pI (std 0) X (ofL aB l) (Vw ord) (aas E ord) an sg fn code x=F x:=λx=>by have:=hrun x;rw [hb]at this;exact this
 have hFM:∀x,FM (F x):=λx=>by rw [<-hr x];exact FM.run x
 refine⟨rfl,hFM,agF hE hX (adw hl) hm (ord:=Vw ord) (chk:=aas E ord) aat hf hb (hent _ hb) (an:=an) (λx hx=> ?_)⟩
 rw [hr x]
 simp only [cn]at hx
 exact @Classical.epsilon_spec _ (λy=>F x λz=>z=y) (@of_decide_eq_true _ (Classical.propDecidable _) hx)
end
abbrev aN.z : aN := ⟨[], []⟩
abbrev Tup.q {C : Car} {a b c d : LTy} {ts : List LTy} (x : Tup C (a :: b :: c :: d :: ts)) : Tup C ts := x.2.2.2.2
abbrev Tup.o {C : Car} {a b c d e f g h : LTy} {ts : List LTy} (x : Tup C (a :: b :: c :: d :: e :: f :: g :: h :: ts)) : Tup C ts := x.2.2.2.2.2.2.2.2
abbrev Pt (A : Alg) (s : Sig) : Type := Tup A.ah s.inp -> A.B
abbrev Ft (A : Alg) (s : Sig) : Type := Tup A.ah s.inp -> Tup A.ah s.out
abbrev Ot (A : Alg) (s : Sig) : Type := A.M (Tup A.ah s.out)
structure Al (A:Alg) where
 n:Int->A.I
 z:A.I
 u:A.I
 T:A.B
 F:A.B
 e:A.I->A.I->A.B
 d:A.I->A.I->A.B
 l:A.I->A.I->A.B
 m:A.I->A.I->A.B
 g:A.I->A.I->A.B
 h:A.I->A.I->A.B
 p:A.I->A.I->A.I
 q:A.I->A.I->A.I
 t:A.I->A.I->A.I
 i: {ρ:Type}->A.I->(Tup A.ah [.i]->A.M ρ)->A.M ρ
 b: {ρ:Type}->A.B->(Tup A.ah [.b]->A.M ρ)->A.M ρ
 s: {ρ:Type}->(t:LTy)->LT A.ah t->(Tup A.ah [t]->A.M ρ)->A.M ρ
 j: {ρ:Type}->{i o:List LTy}->(Tup A.ah i->A.B)->(Tup A.ah i->Tup A.ah o)->Tup A.ah i->(Tup A.ah o->A.M ρ)->A.M ρ
 k: {ρ:Type}->{i o:List LTy}->A.B->(Tup A.ah i->A.B)->(Tup A.ah i->Tup A.ah o)->Tup A.ah i->(Tup A.ah o->A.M ρ)->A.M ρ
 v:A.B->A.M (Tup A.ah [.b])
 w: {ρ:Type}->(c:Co)->A.L c->A.I->A.M ρ->A.M ρ
 c: {ρ:Type}->A.B->A.M ρ->A.M ρ->A.M ρ
 C: {ρ:Type}->A.B->A.M ρ->A.M ρ
 r: {ts:List LTy}->Tup A.ah ts->A.M (Tup A.ah ts)
 L: {ρ:Type}->{ts:List LTy}->Tup A.ah ts->A.M (Sum (Tup A.ah ts) ρ)
 R: {ρ:Type}->{ts:List LTy}->A.M ρ->A.M (Sum (Tup A.ah ts) ρ)
 I: {ρ:Type}->(ts:List LTy)->(Tup A.ah ts->A.M (Sum (Tup A.ah ts) ρ))->Tup A.ah ts->A.M ρ
 f:(c:Co)->Nat->A.X c->A.I
 D:(c:Co)->Nat->(c':Co)->A.X c->A.L c'
 x:(c:Co)->Tup A.ah c.rH->A.X c
 y:(c:Co)->A.L c->A.I
 o:(c:Co)->A.L c->A.I->A.X c
 a:A.B->A.B->A.B->A.B
 N:A.B->A.B
 O:A.B->A.B->A.B
abbrev Alg.al (A : Alg) : Al A where
 n:=A.lit
 z:=A.lit 0
 u:=A.lit 1
 T:=A.bl true
 F:=A.bl false
 e:=A.cmp .eql
 d:=A.cmp .neq
 l:=A.cmp .lss
 m:=A.cmp .leq
 g:=A.cmp .gtr
 h:=A.cmp .geq
 p:=A.arith .add .i64
 q:=A.arith .sub .i64
 t:=A.arith .mul .i64
 i:=λv k=>A.CZ [.i] (v,()) k
 b:=λv k=>A.CZ [.b] (v,()) k
 s:=λt v k=>A.CZ [t] (v,()) k
 j:=λp f a k=>A.chk (p a) (A.CZ _ (f a) k)
 k:=λb p f a k=>A.chk (A.orB (A.Fx b) (p a)) (A.CZ _ (f a) k)
 v:=λv=>A.CZ [.b] (v,()) λx=>A.ret [.b] (x.1,())
 w:=λc l i m=>A.chk (A.cmp .leq (A.lit 0) i) (A.chk (A.cmp .lss i (A.len c l)) m)
 c:=A.cond
 C:=A.chk
 r:=A.ret _
 L:=A.inl _
 R:=A.inr _
 I:=A.iter
 f:=A.fI
 D:=A.fL
 x:=A.mkX
 y:=A.len
 o:=A.get
 a:=A.aaf
 N:=A.Fx
 O:=A.orB
abbrev SkC.i : SkC := .int .i64
abbrev SkV.i : SkV := .c (.int .i64)
abbrev SkV.b : SkV := .c .bool
abbrev SkV.p (l s : Nat) : SkV := .c (.pb l s 0)
abbrev SkV.o (l : Nat) : SkV := .c (.own l)
abbrev SkV.r (f : Bool) (c : Co) : SkV := .c (.rows f c)
abbrev SkO.g (l : List SkC) : SkO := .box (.agg l)
abbrev SkO.s (f : Bool) (c : Co) : SkO := .box (.sv f c)
abbrev Ann.v (a : Ann) : Ann := .seq .u a
abbrev od (n : Nat) (l : List Nat) : dU := (n, l, [])
end Go.TX
namespace Go.TX.F
open Go Go.AE Go.TX
set_option maxRecDepth 100000
abbrev bA : Sig := ⟨[.p 0 2, .i], [.g [.rows true .u8, .i]], [.i], [.g [.rows true .u8, .i]]⟩
abbrev gH : Sig := ⟨[.p 0 2, .i], [.g [.rows true .u8, .i]], [.b], [.g [.rows true .u8, .i]]⟩
abbrev fD : Sig := ⟨[.i, .i, .i], [], [.b], []⟩
abbrev DL : Sig := ⟨[.sv false .ins], [], [.b], []⟩
abbrev mP : Sig := ⟨[.sv false .ins], [], [.b], []⟩
abbrev AL : Sig := ⟨[.i], [], [.b], []⟩
abbrev lS : Sig := ⟨[.sv false .ins], [], [.b], []⟩
abbrev rY : Sig := ⟨[.p 0 2], [.g [.rows true .u8, .i]], [.agg [.i, .i, .i, .i]], [.g [.rows true .u8, .i]]⟩
abbrev mQ : Sig := ⟨[.p 0 2], [.g [.rows true .u8, .i]], [.agg [.i, .i, .i, .i]], [.g [.rows true .u8, .i]]⟩
abbrev rZ : Sig := ⟨[.p 0 2], [.g [.rows true .u8, .i]], [.o 1], [.g [.rows true .u8, .i], .rows true .ins]⟩
abbrev Kg : Sig := ⟨[.p 0 2, .i], [.g [.rows true .u8, .i]], [.agg [.i, .i, .i, .i]], [.g [.rows true .u8, .i]]⟩
abbrev Kh : Sig := ⟨[.p 0 2, .i], [.g [.rows true .u8, .i]], [.i, .o 1], [.g [.rows true .u8, .i], .rows true .ins]⟩
abbrev AO : Sig := ⟨[.r true .u8], [], [.p 0 2], [.g [.rows true .u8, .i]]⟩
abbrev Ki : Sig := ⟨[.r true .u8], [], [.i, .o 0], [.rows true .ins]⟩
abbrev AQ : Sig := ⟨[.i, .r false .ins], [], [.b], []⟩
abbrev gI : Sig := ⟨[.agg [.i, .i, .own 0, .i, .i, .i, .i], .sv false .iop], [.rows true .iop], [.agg [.i, .i, .own 1, .i, .i, .i, .i], .i], [.gone, .rows true .iop]⟩
abbrev sj : Sig := ⟨[.agg [.i, .i, .own 0, .i, .i, .i, .i], .i, .i], [.rows true .iop], [.agg [.i, .i, .own 1, .i, .i, .i, .i]], [.gone, .rows true .iop]⟩
abbrev jk : Sig := ⟨[.agg [.i, .i, .own 0, .i, .i, .i, .i], .i], [.rows true .iop], [.agg [.i, .i, .own 1, .i, .i, .i, .i], .i], [.gone, .rows true .iop]⟩
abbrev su : Sig := ⟨[.agg [.i, .i, .own 0, .i, .i, .i, .i], .i, .i, .sv false .iop], [.rows true .iop], [.agg [.i, .i, .own 1, .i, .i, .i, .i], .i], [.gone, .rows true .iop]⟩
abbrev DN : Sig := ⟨[.i], [], [.i], []⟩
abbrev DR : Sig := ⟨[.agg [.i, .i, .own 0, .i, .i, .i, .i], .sv false .ins, .i], [.rows true .iop], [.agg [.i, .i, .own 1, .i, .i, .i, .i]], [.gone, .rows true .iop]⟩
abbrev DT : Sig := ⟨[.agg [.i, .i, .own 0, .i, .i, .i, .i], .sv false .ins], [.rows true .iop], [.agg [.i, .i, .own 1, .i, .i, .i, .i]], [.gone, .rows true .iop]⟩
abbrev DU : Sig := ⟨[.agg [.i, .i, .own 0, .i, .i, .i, .i], .sv false .ins, .i], [.rows true .iop], [.agg [.i, .i, .own 1, .i, .i, .i, .i]], [.gone, .rows true .iop]⟩
abbrev AU : Sig := ⟨[.i, .r false .ins], [], [.agg [.i, .i, .own 0, .i, .i, .i, .i]], [.rows true .iop]⟩
abbrev iP : Sig := ⟨[.i], [], [.b], []⟩
abbrev AV : Sig := ⟨[.r false .i64], [], [.b], []⟩
abbrev Kj : Sig := ⟨[.r false .i64, .r false .i64], [], [.agg [.own 0, .i, .own 1, .i, .bool, .bool, .i, .own 2, .nil, .i]], [.rows true .i64, .rows true .i64, .rows true .i64]⟩
abbrev Kk : Sig := ⟨[.p 0 2, .i], [.g [.rows true .u8, .i]], [.o 1], [.g [.rows true .u8, .i], .rows true .ins]⟩
abbrev Kl : Sig := ⟨[.p 0 2, .i], [.g [.rows true .u8, .i]], [.o 1], [.g [.rows true .u8, .i], .rows true .ins]⟩
abbrev AX : Sig := ⟨[.sv false .ins], [], [.i], []⟩
abbrev Km : Sig := ⟨[.r false .ins], [], [.o 0], [.rows true .i64]⟩
abbrev AY : Sig := ⟨[.p 0 2], [.g [.rows true .u8, .i]], [.i], [.g [.rows true .u8, .i]]⟩
abbrev Kn : Sig := ⟨[.p 0 2], [.g [.rows true .u8, .i]], [.o 1], [.g [.rows true .u8, .i], .rows true .i64]⟩
abbrev Ko : Sig := ⟨[.p 0 2, .i], [.g [.rows true .u8, .i]], [.o 1], [.g [.rows true .u8, .i], .rows true .i64]⟩
abbrev sD : Sig := ⟨[.sv false .aC], [], [.b], []⟩
abbrev sF : Sig := ⟨[.sv false .aC], [], [.agg [.own 0, .i, .own 1, .i, .bool, .bool, .i, .own 2, .own 3, .i]], [.rows true .i64, .rows true .i64, .rows true .i64, .rows true .i64]⟩
abbrev DV : Sig := ⟨[.agg [.own 0, .i, .own 1, .i, .bool, .bool, .i, .rows true .i64, .own 2, .i], .b], [.rows true .i64, .rows true .i64, .rows true .i64], [.agg [.own 0, .i, .own 1, .i, .bool, .bool, .i, .rows true .i64, .own 2, .i]], [.rows true .i64, .rows true .i64, .rows true .i64]⟩
abbrev lT : Sig := ⟨[.agg [.own 0, .i, .own 1, .i, .bool, .bool, .i, .rows true .i64, .own 2, .i], .i], [.rows true .i64, .rows true .i64, .rows true .i64], [.agg [.own 0, .i, .own 1, .i, .bool, .bool, .i, .rows true .i64, .own 2, .i]], [.rows true .i64, .rows true .i64, .rows true .i64]⟩
abbrev Kq : Sig := ⟨[.i], [], [.agg [.i, .i, .i, .i], .b], []⟩
abbrev mU : Sig := ⟨[.i], [], [.i], []⟩
abbrev AZ : Sig := ⟨[.i, .i, .i], [], [.i], []⟩
abbrev gJ : Sig := ⟨[.agg [.own 0, .i, .own 1, .i, .bool, .bool, .i, .rows true .i64, .own 2, .i], .i], [.rows true .i64, .rows true .i64, .rows true .i64], [.agg [.own 0, .i, .own 1, .i, .bool, .bool, .i, .rows true .i64, .own 2, .i]], [.rows true .i64, .rows true .i64, .rows true .i64]⟩
abbrev DW : Sig := ⟨[.agg [.own 0, .i, .own 1, .i, .bool, .bool, .i, .rows true .i64, .own 2, .i], .i], [.rows true .i64, .rows true .i64, .rows true .i64], [.agg [.own 0, .i, .own 1, .i, .bool, .bool, .i, .rows true .i64, .own 2, .i]], [.rows true .i64, .rows true .i64, .rows true .i64]⟩
abbrev lU : Sig := ⟨[.agg [.own 0, .i, .own 1, .i, .bool, .bool, .i, .rows true .i64, .own 2, .i], .i, .i], [.rows true .i64, .rows true .i64, .rows true .i64], [.agg [.own 0, .i, .own 1, .i, .bool, .bool, .i, .rows true .i64, .own 2, .i]], [.rows true .i64, .rows true .i64, .rows true .i64]⟩
abbrev DX : Sig := ⟨[.i, .i], [], [.i], []⟩
abbrev DY : Sig := ⟨[.agg [.own 0, .i, .own 1, .i, .bool, .bool, .i, .rows true .i64, .own 2, .i], .sv false .ins], [.rows true .i64, .rows true .i64, .rows true .i64], [.agg [.own 0, .i, .own 1, .i, .bool, .bool, .i, .rows true .i64, .own 2, .i]], [.rows true .i64, .rows true .i64, .rows true .i64]⟩
abbrev DZ : Sig := ⟨[.agg [.own 0, .i, .own 1, .i, .bool, .bool, .i, .rows true .i64, .own 2, .i], .sv false .ins], [.rows true .i64, .rows true .i64, .rows true .i64], [.agg [.own 0, .i, .own 1, .i, .bool, .bool, .i, .rows true .i64, .own 3, .i]], [.rows true .i64, .rows true .i64, .gone, .rows true .i64]⟩
abbrev D5 : Sig := ⟨[.agg [.own 0, .i, .own 1, .i, .bool, .bool, .i, .rows true .i64, .own 2, .i], .sv false .ins], [.rows true .i64, .rows true .i64, .rows true .i64], [.agg [.own 0, .i, .own 1, .i, .bool, .bool, .i, .rows true .i64, .own 3, .i]], [.rows true .i64, .rows true .i64, .gone, .rows true .i64]⟩
abbrev Kr : Sig := ⟨[.sv false .aC, .b], [], [.agg [.own 0, .i, .own 1, .i, .bool, .bool, .i, .rows true .i64, .own 2, .i]], [.rows true .i64, .rows true .i64, .rows true .i64]⟩
abbrev D6 : Sig := ⟨[.r false .i64, .i], [], [.b], []⟩
abbrev Kt : Sig := ⟨[.sv false .aC, .r false .i64, .i], [], [.agg [.own 0, .i, .own 1, .i, .bool, .bool, .i, .rows true .i64, .own 2, .i]], [.rows true .i64, .rows true .i64, .rows true .i64]⟩
abbrev Ku : Sig := ⟨[.p 0 2], [.g [.rows true .u8, .i]], [.o 1], [.g [.rows true .u8, .i], .rows true .i64]⟩
abbrev A8 : Sig := ⟨[.p 0 2], [.g [.rows true .u8, .i]], [.agg [.own 1, .i, .own 2, .i, .bool, .bool, .i, .rows true .i64, .own 3, .i]], [.g [.rows true .u8, .i], .rows true .i64, .rows true .i64, .rows true .i64]⟩
abbrev A9 : Sig := ⟨[.p 0 2, .sv false .blk], [.g [.rows true .u8, .i]], [.agg [.own 1, .i, .own 2, .i, .bool, .bool, .i, .rows true .i64, .own 3, .i]], [.g [.rows true .u8, .i], .rows true .i64, .rows true .i64, .rows true .i64]⟩
abbrev D7 : Sig := ⟨[.i], [], [.b], []⟩
abbrev sG : Sig := ⟨[.r false .iop, .i, .i], [], [.b], []⟩
abbrev D8 : Sig := ⟨[.r false .iop, .i, .i], [], [.b], []⟩
abbrev D9 : Sig := ⟨[.sv false .blk], [], [.b], []⟩
abbrev j6 : Sig := ⟨[.sv false .blk], [], [.b], []⟩
abbrev Ba : Sig := ⟨[.sv false .iop, .r false .i64], [], [.sv true .iop], []⟩
abbrev Bb : Sig := ⟨[.sv false .blk, .r false .bool], [], [.agg [.i, .i, .own 0, .i, .i, .i, .i]], [.rows true .iop]⟩
abbrev Kv : Sig := ⟨[.sv false .blk], [], [.o 0], [.rows true .bool]⟩
abbrev Kw : Sig := ⟨[.sv false .blk], [], [.agg [.i, .i, .own 0, .i, .i, .i, .i]], [.rows true .iop]⟩
abbrev Ky : Sig := ⟨[.r false .iop, .i], [], [.b], []⟩
abbrev Kz : Sig := ⟨[.sv false .blk], [], [.agg [.i, .i, .own 0, .i, .i, .i, .i]], [.rows true .iop]⟩
abbrev lV : Sig := ⟨[.sv false .blk], [], [.agg [.i, .i, .own 0, .i, .i, .i, .i]], [.rows true .iop]⟩
abbrev Bc : Sig := ⟨[.r false .iop, .i], [], [.i, .b], []⟩
abbrev KA : Sig := ⟨[.sv false .blk, .i], [], [.agg [.i, .i, .rows false .iop, .i, .i, .i, .i]], []⟩
abbrev KC : Sig := ⟨[.sv false .blk], [], [.sv false .blk], []⟩
abbrev KD : Sig := ⟨[.sv false .blk], [], [.sv false .blk], []⟩
abbrev Bd : Sig := ⟨[.sv false .blk], [], [.agg [.i, .i, .own 0, .i, .i, .i, .i]], [.rows true .iop]⟩
abbrev Bf : Sig := ⟨[.sv false .blk], [], [.agg [.i, .i, .own 0, .i, .i, .i, .i]], [.rows true .iop]⟩
abbrev Ea : Sig := ⟨[.p 0 2], [.g [.rows true .u8, .i]], [.agg [.i, .i, .own 1, .i, .i, .i, .i], .agg [.own 2, .i, .own 3, .i, .bool, .bool, .i, .rows true .i64, .own 4, .i]], [.g [.rows true .u8, .i], .rows true .iop, .rows true .i64, .rows true .i64, .rows true .i64]⟩
abbrev KE : Sig := ⟨[.p 0 2], [.g [.rows true .u8, .i]], [.agg [.i, .i, .own 1, .i, .i, .i, .i]], [.g [.rows true .u8, .i], .rows true .iop]⟩
abbrev KF : Sig := ⟨[.p 0 2, .sv false .blk], [.g [.rows true .u8, .i]], [.agg [.i, .i, .own 1, .i, .i, .i, .i]], [.g [.rows true .u8, .i], .rows true .iop]⟩
abbrev KG : Sig := ⟨[.p 0 2, .i], [.g [.rows true .u8, .i]], [.sv true .blk], [.g [.rows true .u8, .i]]⟩
abbrev KH : Sig := ⟨[.p 0 2, .i], [.g [.rows true .u8, .i]], [.agg [.own 1, .i, .rows true .i64, .i, .bool, .bool, .i, .rows true .i64, .own 2, .i]], [.g [.rows true .u8, .i], .rows true .i64, .rows true .i64]⟩
abbrev KJ : Sig := ⟨[.r true .u8], [], [.sv true .blk, .agg [.own 0, .i, .rows true .i64, .i, .bool, .bool, .i, .rows true .i64, .own 1, .i]], [.rows true .i64, .rows true .i64]⟩
abbrev bQ : Sig := ⟨[.i, .i, .i], [], [.b], []⟩
abbrev gK : Sig := ⟨[.i], [], [.b], []⟩
abbrev KL : Sig := ⟨[], [], [.b], []⟩
abbrev Bg : Sig := ⟨[.i], [], [.b], []⟩
abbrev KM : Sig := ⟨[.sv false .iop], [], [.b, .b, .b, .b], []⟩
abbrev KN : Sig := ⟨[.i], [], [.b], []⟩
abbrev KO : Sig := ⟨[.sv false .iop], [], [.b], []⟩
abbrev Bh : Sig := ⟨[.sv false .blk, .i, .i], [], [.b], []⟩
abbrev KQ : Sig := ⟨[.sv false .blk, .i], [], [.b], []⟩
abbrev Vx : Sig := ⟨[.sv false .blk], [], [.b, .b, .b], []⟩
abbrev Vy : Sig := ⟨[.sv false .blk], [], [.b], []⟩
abbrev KR : Sig := ⟨[.sv false .blk], [], [.b], []⟩
abbrev KS : Sig := ⟨[.r false .i64], [], [.b], []⟩
abbrev KT : Sig := ⟨[.sv false .aC], [], [.b], []⟩
abbrev KU : Sig := ⟨[.r false .i64], [], [.o 0], [.rows true .i64]⟩
abbrev KV : Sig := ⟨[.sv false .aC], [], [.agg [.own 0, .i, .own 1, .i, .bool, .bool, .i, .own 2, .own 3, .i]], [.rows true .i64, .rows true .i64, .rows true .i64, .rows true .i64]⟩
abbrev KW : Sig := ⟨[.i], [], [.i], []⟩
abbrev KY : Sig := ⟨[.i, .i, .i], [], [.i], []⟩
abbrev KZ : Sig := ⟨[.p 0 10], [.g [.own 1, .i, .own 2, .i, .bool, .bool, .i, .rows true .i64, .own 3, .i], .rows true .i64, .rows true .i64, .rows true .i64], [.i], [.g [.own 1, .i, .own 2, .i, .bool, .bool, .i, .rows true .i64, .own 3, .i], .rows true .i64, .rows true .i64, .rows true .i64]⟩
abbrev K4 : Sig := ⟨[.i, .i, .i], [], [.b], []⟩
abbrev K6 : Sig := ⟨[.sv false .blk, .p 0 10], [.g [.own 1, .i, .own 2, .i, .bool, .bool, .i, .rows true .i64, .own 3, .i], .rows true .i64, .rows true .i64, .rows true .i64], [], [.g [.own 1, .i, .own 2, .i, .bool, .bool, .i, .rows true .i64, .own 4, .i], .rows true .i64, .rows true .i64, .gone, .rows true .i64]⟩
abbrev K7 : Sig := ⟨[.sv false .blk, .sv false .aC], [], [.agg [.own 0, .i, .own 1, .i, .bool, .bool, .i, .own 2, .own 3, .i], .b], [.rows true .i64, .rows true .i64, .rows true .i64, .rows true .i64]⟩
abbrev Vz : Sig := ⟨[.sv false .ins], [], [.b], []⟩
abbrev VA : Sig := ⟨[.i], [], [.b], []⟩
abbrev VB : Sig := ⟨[.i, .r false .ins], [], [.b], []⟩
abbrev K8 : Sig := ⟨[.sv false .iop], [], [.b], []⟩
abbrev kg : Sig := ⟨[.p 0 8, .i, .i, .i, .i], [.g [.i, .i, .own 1, .i, .i, .i, .i, .i], .rows true .iop], [.i], [.g [.i, .i, .own 2, .i, .i, .i, .i, .i], .gone, .rows true .iop]⟩
abbrev K9 : Sig := ⟨[.i, .p 0 1, .p 1 4], [.box (.p 2 8), .s false .ins, .g [.i, .i, .own 3, .i, .i, .i, .i, .i], .rows true .iop], [], [.box (.p 2 8), .s false .ins, .g [.i, .i, .own 4, .i, .i, .i, .i, .i], .gone, .rows true .iop]⟩
abbrev La : Sig := ⟨[.p 0 8, .i], [.g [.i, .i, .own 1, .i, .i, .i, .i, .i], .rows true .iop], [.i], [.g [.i, .i, .own 2, .i, .i, .i, .i, .i], .gone, .rows true .iop]⟩
abbrev Lb : Sig := ⟨[.p 0 8, .i], [.g [.i, .i, .own 1, .i, .i, .i, .i, .i], .rows true .iop], [.i], [.g [.i, .i, .own 2, .i, .i, .i, .i, .i], .gone, .rows true .iop]⟩
abbrev Lc : Sig := ⟨[.p 0 8, .i, .i, .i], [.g [.i, .i, .own 1, .i, .i, .i, .i, .i], .rows true .iop], [.i], [.g [.i, .i, .own 2, .i, .i, .i, .i, .i], .gone, .rows true .iop]⟩
abbrev Ld : Sig := ⟨[.p 0 8, .sv false .ins], [.g [.i, .i, .own 1, .i, .i, .i, .i, .i], .rows true .iop], [], [.g [.i, .i, .own 2, .i, .i, .i, .i, .i], .gone, .rows true .iop]⟩
abbrev VD : Sig := ⟨[.sv false .blk], [], [.agg [.i, .i, .own 0, .i, .i, .i, .i]], [.rows true .iop]⟩
abbrev VE : Sig := ⟨[.i, .r false .ins], [], [.agg [.i, .i, .own 0, .i, .i, .i, .i]], [.rows true .iop]⟩
abbrev Le : Sig := ⟨[.r false .i64, .r false .i64], [], [.b], []⟩
abbrev Lf : Sig := ⟨[.sv false .aC, .sv false .aC], [], [.b], []⟩
abbrev abC : Sig := ⟨[.r true .u8, .r true .u8], [], [.b], []⟩
variable {A:Alg} (B:Al A)
def VF (x:Tup A.ah [.i,.l .u8,.i]):Ot A bA:=
 B.i B.z λx0=>
 B.i (B.p x.2.2.1 B.u) λx1=>
 B.c (B.a (B.l x.1 B.u) B.T (B.e (B.y .u8 x.2.1) B.z)) (B.i B.z λx2=>
 B.r (x2.1,x.2.1,x1.1,()))<|
 B.i (B.q x1.1 B.u) λx2=>
 B.c (B.l x2.1 (B.y .u8 x.2.1)) (B.w .u8 x.2.1 x2.1<|
 B.C (B.d x.1 B.z)<|
 B.i (A.arith .rem .i64 (A.conv .i64 (B.f .u8 0 (B.o .u8 x.2.1 x2.1))) x.1) λx3=>
 B.r (x3.1,x.2.1,x1.1,()))<|
 B.C (B.d (B.y .u8 x.2.1) B.z)<|
 B.w .u8 x.2.1 (A.arith .rem .i64 x2.1 (B.y .u8 x.2.1))<|
 B.C (B.d (B.y .u8 x.2.1) B.z)<|
 B.w .u8 x.2.1 (A.arith .rem .i64 (B.p (B.t x2.1 (B.n 7)) (B.n 3)) (B.y .u8 x.2.1))<|
 B.C (B.d (B.y .u8 x.2.1) B.z)<|
 B.i (B.p (B.p (B.p (B.t (A.conv .i64 (B.f .u8 0 (B.o .u8 x.2.1 (A.arith .rem .i64 x2.1 (B.y .u8 x.2.1))))) (B.n 131)) (B.t (A.conv .i64 (B.f .u8 0 (B.o .u8 x.2.1 (A.arith .rem .i64 (B.p (B.t x2.1 (B.n 7)) (B.n 3)) (B.y .u8 x.2.1))))) (B.n 1117))) (B.t x2.1 (B.n 29))) (B.t (A.arith .quo .i64 x2.1 (B.y .u8 x.2.1)) (B.n 53))) λx3=>
 B.C (B.d (B.n 64) B.z)<|
 B.i (A.arith .xor .i64 x3.1 (A.arith .quo .i64 x3.1 (B.n 64))) λx4=>
 B.C (B.d x.1 B.z)<|
 B.i (A.arith .rem .i64 x4.1 x.1) λx5=>
 B.r (x5.1,x.2.1,x1.1,())
def VG (aD:Pt A bA) (aF:Ft A bA) (x:Tup A.ah [.i,.l .u8,.i]):Ot A gH:=
 B.b B.F λx0=>
 B.j aD aF (x.1,x.2.1,x.2.2.1,()) λx1=>
 B.b (B.e x1.1 (B.q x.1 B.u)) λx2=>
 B.r (x2.1,x1.2.1,x1.2.2.1,())
def VH (x:Tup A.ah [.i,.i,.i]):Ot A fD:=
 B.b B.F λx0=>
 B.v (B.a (B.h x.1 x.2.1) (B.m x.1 x.2.2.1) B.F)
def OM (x:Tup A.ah [.x .ins]):Ot A DL:=
 B.b B.F λx0=>
 B.b (B.e (B.f .ins 0 x.1) B.z) λx1=>
 B.c x1.1 (B.v (B.a (B.a (B.e (B.f .ins 1 x.1) B.z) (B.e (B.f .ins 2 x.1) B.z) B.F) (B.m (B.f .ins 3 x.1) (B.n 3)) B.F))<|
 B.b (B.e (B.f .ins 0 x.1) B.u) λx2=>
 B.c x2.1 (B.v (B.e (B.f .ins 2 x.1) B.z))<|
 B.b (B.e (B.f .ins 0 x.1) (B.n 2)) λx3=>
 B.c x3.1 (B.v (B.e (B.f .ins 3 x.1) B.z))<|
 B.b (B.e (B.f .ins 0 x.1) (B.n 3)) λx4=>
 A.bind [.i,.b,.x .ins] (B.c x4.1 (B.r (B.f .ins 0 x.1,x4.1,x.1,()))<|
 B.b (B.e (B.f .ins 0 x.1) (B.n 4)) λx5=>
 A.bind [.i,.b,.x .ins] (B.c x5.1 (B.r (B.f .ins 0 x.1,x5.1,x.1,()))<|
 B.b (B.e (B.f .ins 0 x.1) (B.n 5)) λx6=>
 A.bind [.i,.b,.x .ins] (B.c x6.1 (B.r (B.f .ins 0 x.1,x6.1,x.1,()))<|
 B.b (B.e (B.f .ins 0 x.1) (B.n 6)) λx7=>
 A.bind [.i,.b,.x .ins] (B.c x7.1 (B.r (B.f .ins 0 x.1,x7.1,x.1,()))<|
 B.b (B.e (B.f .ins 0 x.1) (B.n 7)) λx8=>
 B.r (B.f .ins 0 x.1,x8.1,x.1,())) λx8=>
 B.r (x8.1,x8.2.1,x8.2.2.1,())) λx7=>
 B.r (x7.1,x7.2.1,x7.2.2.1,())) λx6=>
 B.r (x6.1,x6.2.1,x6.2.2.1,())) λx5=>
 B.c x5.2.1 (B.v (B.l (B.f .ins 3 x5.2.2.1) (B.n 4)))<|
 B.b (B.e x5.1 (B.n 8)) λx6=>
 B.c x6.1 (B.v (B.l (B.f .ins 3 x5.2.2.1) (B.n 16)))<|
 B.b (B.e x5.1 (B.n 13)) λx7=>
 B.c x7.1 (B.v (B.a (B.e (B.f .ins 1 x5.2.2.1) B.z) (B.e (B.f .ins 3 x5.2.2.1) B.z) B.F))<|
 B.b (B.e x5.1 (B.n 14)) λx8=>
 A.bind [.b,.x .ins] (B.c x8.1 (B.r (x8.1,x5.2.2.1,()))<|
 B.b (B.e x5.1 (B.n 15)) λx9=>
 B.r (x9.1,x5.2.2.1,())) λx9=>
 B.c x9.1 (B.v (B.a (B.e (B.f .ins 2 x9.2.1) B.z) (B.e (B.f .ins 3 x9.2.1) B.z) B.F))<|
 B.v B.T
def VI (fE:Pt A fD) (fF:Ft A fD) (adx:Pt A DL) (ady:Ft A DL) (x:Tup A.ah [.x .ins]):Ot A mP:=
 B.b B.F λx0=>
 B.j fE fF (B.f .ins 0 x.1,B.z,B.n 15,()) λx1=>
 B.k x1.1 fE fF (B.f .ins 1 x.1,B.z,B.n 3,()) λx2=>
 B.k (B.a x1.1 x2.1 B.F) fE fF (B.f .ins 2 x.1,B.z,B.n 3,()) λx3=>
 B.k (B.a (B.a x1.1 x2.1 B.F) x3.1 B.F) fE fF (B.f .ins 3 x.1,B.z,B.n 255,()) λx4=>
 B.k (B.a (B.a (B.a x1.1 x2.1 B.F) x3.1 B.F) x4.1 B.F) adx ady (x.1,()) λx5=>
 B.v (B.a (B.a (B.a (B.a x1.1 x2.1 B.F) x3.1 B.F) x4.1 B.F) x5.1 B.F)
def VJ (x:Tup A.ah [.i]):Ot A AL:=
 B.b B.F λx0=>
 B.v (B.a (B.a (B.e x.1 (B.n 11)) B.T (B.e x.1 (B.n 12))) B.T (B.e x.1 (B.n 13)))
def OO (VK:Pt A AL) (VL:Ft A AL) (Eb:Pt A mP) (Ec:Ft A mP) (x:Tup A.ah [.x .ins]):Ot A lS:=
 B.b B.F λx0=>
 B.j Eb Ec (x.1,()) λx1=>
 B.k (B.a x1.1 (B.d (B.f .ins 0 x.1) B.z) B.F) VK VL (B.f .ins 0 x.1,()) λx2=>
 B.v (B.a (B.a x1.1 (B.d (B.f .ins 0 x.1) B.z) B.F) (B.N x2.1) B.F)
def VN (aD:Pt A bA) (aF:Ft A bA) (x:Tup A.ah [.l .u8,.i]):Ot A rY:=
 B.j aD aF (B.n 4,x.1,x.2.1,()) λx0=>
 B.i x0.1 λx1=>
 B.j aD aF (B.n 4,x0.2.1,x0.2.2.1,()) λx2=>
 B.i x2.1 λx3=>
 B.j aD aF (B.n 14,x2.2.1,x2.2.2.1,()) λx4=>
 B.b (B.e x4.1 B.z) λx5=>
 A.bind [.i,.i,.i,.b,.l .u8,.i,.i,.i,.i,.i] (B.c x5.1 (B.r (x1.1,x3.1,x4.1,x5.1,x4.2.1,x4.2.2.1,B.z,B.z,B.z,B.z,()))<|
 B.b (B.e x4.1 B.u) λx6=>
 B.r (x1.1,x3.1,x4.1,x6.1,x4.2.1,x4.2.2.1,B.z,B.z,B.z,B.z,())) λx6=>
 B.c x6.2.2.2.1 (B.j aD aF (B.n 64,x6.q.1,x6.q.2.1,()) λx7=>
 B.j aD aF (B.n 256,x7.2.1,x7.2.2.1,()) λx8=>
 B.s (.l .i64) (A.lst .i64 [B.x .i64 (B.z,()),B.x .i64 (B.u,()),B.x .i64 (B.n 2,()),B.x .i64 (x7.1,()),B.x .i64 (x8.1,()),B.x .i64 (B.n 255,())]) λx9=>
 B.j aD aF (B.n 6,x8.2.1,x8.2.2.1,()) λx10=>
 B.w .i64 x9.1 x10.1<|
 B.w .i64 x9.1 x10.1<|
 B.r (B.u,x6.1,B.z,B.f .i64 0 (B.o .i64 x9.1 x10.1),x10.2.1,x10.2.2.1,()))<|
 B.b (B.e x6.2.2.1 (B.n 2)) λx7=>
 B.c x7.1 (B.r (B.n 2,x6.1,x6.2.1,B.z,x6.q.1,x6.q.2.1,()))<|
 B.b (B.e x6.2.2.1 (B.n 3)) λx8=>
 A.bind [.i,.i,.i,.b,.l .u8,.i,.i,.i,.i,.i] (B.c x8.1 (B.r (x6.1,x6.2.1,x6.2.2.1,x8.1,x6.q.1,x6.q.2.1,x6.q.2.2.1,x6.q.2.2.2.1,x6.o.1,x6.o.2.1,()))<|
 B.b (B.e x6.2.2.1 (B.n 4)) λx9=>
 A.bind [.i,.i,.i,.b,.l .u8,.i,.i,.i,.i,.i] (B.c x9.1 (B.r (x6.1,x6.2.1,x6.2.2.1,x9.1,x6.q.1,x6.q.2.1,x6.q.2.2.1,x6.q.2.2.2.1,x6.o.1,x6.o.2.1,()))<|
 B.b (B.e x6.2.2.1 (B.n 5)) λx10=>
 B.r (x6.1,x6.2.1,x6.2.2.1,x10.1,x6.q.1,x6.q.2.1,x6.q.2.2.1,x6.q.2.2.2.1,x6.o.1,x6.o.2.1,())) λx10=>
 B.r (x10.1,x10.2.1,x10.2.2.1,x10.2.2.2.1,x10.q.1,x10.q.2.1,x10.q.2.2.1,x10.q.2.2.2.1,x10.o.1,x10.o.2.1,())) λx9=>
 B.c x9.2.2.2.1 (B.j aD aF (B.n 5,x9.q.1,x9.q.2.1,()) λx10=>
 B.j aD aF (B.n 4,x10.2.1,x10.2.2.1,()) λx11=>
 B.r (B.p (B.n 3) x10.1,x9.1,x9.2.1,x11.1,x11.2.1,x11.2.2.1,()))<|
 B.b (B.e x9.2.2.1 (B.n 6)) λx10=>
 B.c x10.1 (B.j aD aF (B.n 16,x9.q.1,x9.q.2.1,()) λx11=>
 B.s (.l .i64) (A.lst .i64 [B.x .i64 (B.z,()),B.x .i64 (B.u,()),B.x .i64 (B.n 8,()),B.x .i64 (B.n 15,()),B.x .i64 (x11.1,())]) λx12=>
 B.j aD aF (B.n 5,x11.2.1,x11.2.2.1,()) λx13=>
 B.w .i64 x12.1 x13.1<|
 B.w .i64 x12.1 x13.1<|
 B.r (B.n 8,x9.1,x9.2.1,B.f .i64 0 (B.o .i64 x12.1 x13.1),x13.2.1,x13.2.2.1,()))<|
 B.b (B.e x9.2.2.1 (B.n 7)) λx11=>
 A.bind [.i,.i,.i,.b,.l .u8,.i,.i,.i,.i,.i] (B.c x11.1 (B.r (x9.1,x9.2.1,x9.2.2.1,x11.1,x9.q.1,x9.q.2.1,x9.q.2.2.1,x9.q.2.2.2.1,x9.o.1,x9.o.2.1,()))<|
 B.b (B.e x9.2.2.1 (B.n 8)) λx12=>
 B.r (x9.1,x9.2.1,x9.2.2.1,x12.1,x9.q.1,x9.q.2.1,x9.q.2.2.1,x9.q.2.2.2.1,x9.o.1,x9.o.2.1,())) λx12=>
 B.c x12.2.2.2.1 (B.j aD aF (B.n 2,x12.q.1,x12.q.2.1,()) λx13=>
 B.j aD aF (B.n 64,x13.2.1,x13.2.2.1,()) λx14=>
 B.s (.l .i64) (A.lst .i64 [B.x .i64 (B.z,()),B.x .i64 (B.u,()),B.x .i64 (x14.1,()),B.x .i64 (B.n 63,()),B.x .i64 (B.n 64,()),B.x .i64 (B.n 255,())]) λx15=>
 B.j aD aF (B.n 6,x14.2.1,x14.2.2.1,()) λx16=>
 B.w .i64 x15.1 x16.1<|
 B.w .i64 x15.1 x16.1<|
 B.r (B.p (B.n 9) x13.1,x12.1,x12.2.1,B.f .i64 0 (B.o .i64 x15.1 x16.1),x16.2.1,x16.2.2.1,()))<|
 B.b (B.e x12.2.2.1 (B.n 9)) λx13=>
 B.c x13.1 (B.j aD aF (B.n 2,x12.q.1,x12.q.2.1,()) λx14=>
 B.j aD aF (B.n 20,x14.2.1,x14.2.2.1,()) λx15=>
 B.j aD aF (B.n 64,x15.2.1,x15.2.2.1,()) λx16=>
 B.s (.l .i64) (A.lst .i64 [B.x .i64 (x15.1,()),B.x .i64 (x16.1,()),B.x .i64 (B.n 200,())]) λx17=>
 B.j aD aF (B.n 3,x16.2.1,x16.2.2.1,()) λx18=>
 B.w .i64 x17.1 x18.1<|
 B.w .i64 x17.1 x18.1<|
 B.r (B.p (B.n 11) x14.1,x12.1,x12.2.1,B.f .i64 0 (B.o .i64 x17.1 x18.1),x18.2.1,x18.2.2.1,()))<|
 B.b (B.e x12.2.2.1 (B.n 10)) λx14=>
 B.c x14.1 (B.j aD aF (B.n 2,x12.q.1,x12.q.2.1,()) λx15=>
 B.r (B.p (B.n 14) x15.1,x12.1,B.z,B.z,x15.2.1,x15.2.2.1,()))<|
 B.b (B.e x12.2.2.1 (B.n 11)) λx15=>
 B.c x15.1 (B.j aD aF (B.n 4,x12.q.1,x12.q.2.1,()) λx16=>
 B.r (B.z,B.z,B.z,x16.1,x16.2.1,x16.2.2.1,()))<|
 B.b (B.e x12.2.2.1 (B.n 12)) λx16=>
 B.c x16.1 (B.r (B.n 13,B.z,x12.2.1,B.z,x12.q.1,x12.q.2.1,()))<|
 B.r (B.n 14,x12.1,B.z,B.z,x12.q.1,x12.q.2.1,())
def VO (Gg:Pt A rY) (Gh:Ft A rY) (aD:Pt A bA) (aF:Ft A bA) (Ed:Pt A lS) (Ee:Ft A lS) (x:Tup A.ah [.l .u8,.i]):Ot A mQ:=
 B.j Gg Gh (x.1,x.2.1,()) λx0=>
 B.j Ed Ee (B.x .ins (x0.1,x0.2.1,x0.2.2.1,x0.2.2.2.1,()),()) λx1=>
 B.c (B.N x1.1) (B.j aD aF (B.n 4,x0.q.1,x0.q.2.1,()) λx2=>
 B.r (B.n 3,x0.2.1,x0.2.2.1,x2.1,x2.2.1,x2.2.2.1,()))<|
 B.r (x0.1,x0.2.1,x0.2.2.1,x0.2.2.2.1,x0.q.1,x0.q.2.1,())
def VP (Bj:Pt A mQ) (Bl:Ft A mQ) (aD:Pt A bA) (aF:Ft A bA) (x:Tup A.ah [.l .u8,.i]):Ot A rZ:=
 B.s (.l .ins) (A.lst .ins []) λx0=>
 B.j aD aF (B.n 8,x.1,x.2.1,()) λx1=>
 B.i x1.1 λx2=>
 B.I [.i,.l .u8,.i,.l .ins] (λx3=>
 B.c (B.g x3.1 B.z) (B.j Bj Bl (x3.2.1,x3.2.2.1,()) λx4=>
 B.s (.l .ins) (A.lst .ins [B.x .ins (x4.1,x4.2.1,x4.2.2.1,x4.2.2.2.1,())]) λx5=>
 B.C (B.m (A.addN (B.y .ins x3.2.2.2.1) (B.y .ins x5.1)) (B.n 1073741824))<|
 B.s (.l .ins) (A.app .ins x3.2.2.2.1 x5.1) λx6=>
 B.i (B.q x3.1 B.u) λx7=>
 B.L (x7.1,x4.q.1,x4.q.2.1,x6.1,()))<|
 B.R<|B.j aD aF (B.n 3,x3.2.1,x3.2.2.1,()) λx4=>
 B.b (B.e x4.1 B.z) λx5=>
 B.c x5.1 (B.j aD aF (B.n 2,x4.2.1,x4.2.2.1,()) λx6=>
 B.j aD aF (B.n 4,x6.2.1,x6.2.2.1,()) λx7=>
 B.j aD aF (B.n 4,x7.2.1,x7.2.2.1,()) λx8=>
 B.j aD aF (B.n 64,x8.2.1,x8.2.2.1,()) λx9=>
 B.s (.l .ins) (A.lst .ins [B.x .ins (B.p (B.n 11) x6.1,x7.1,x8.1,x9.1,())]) λx10=>
 B.C (B.m (A.addN (B.y .ins x3.2.2.2.1) (B.y .ins x10.1)) (B.n 1073741824))<|
 B.s (.l .ins) (A.app .ins x3.2.2.2.1 x10.1) λx11=>
 B.r (x9.2.1,x9.2.2.1,x11.1,()))<|
 B.b (B.e x4.1 B.u) λx6=>
 B.c x6.1 (B.j aD aF (B.n 4,x4.2.1,x4.2.2.1,()) λx7=>
 B.s (.l .ins) (A.lst .ins [B.x .ins (B.n 13,B.z,x7.1,B.z,())]) λx8=>
 B.C (B.m (A.addN (B.y .ins x3.2.2.2.1) (B.y .ins x8.1)) (B.n 1073741824))<|
 B.s (.l .ins) (A.app .ins x3.2.2.2.1 x8.1) λx9=>
 B.r (x7.2.1,x7.2.2.1,x9.1,()))<|
 B.j Bj Bl (x4.2.1,x4.2.2.1,()) λx7=>
 B.s (.l .ins) (A.lst .ins [B.x .ins (x7.1,x7.2.1,x7.2.2.1,x7.2.2.2.1,())]) λx8=>
 B.C (B.m (A.addN (B.y .ins x3.2.2.2.1) (B.y .ins x8.1)) (B.n 1073741824))<|
 B.s (.l .ins) (A.app .ins x3.2.2.2.1 x8.1) λx9=>
 B.r (x7.q.1,x7.q.2.1,x9.1,())) (x2.1,x1.2.1,x1.2.2.1,x0.1,())
def VQ (Gg:Pt A rY) (Gh:Ft A rY) (mW:Pt A gH) (mX:Ft A gH) (aD:Pt A bA) (aF:Ft A bA) (x:Tup A.ah [.i,.l .u8,.i]):Ot A Kg:=
 B.j Gg Gh (x.2.1,x.2.2.1,()) λx0=>
 B.j mW mX (x.1,x0.q.1,x0.q.2.1,()) λx1=>
 A.eY [.l .u8,.i,.i,.i,.i,.i,.i,.i,.i,.i] (B.c x1.1 (B.j aD aF (B.n 4,x1.2.1,x1.2.2.1,()) λx2=>
 B.b (B.e x2.1 B.z) λx3=>
 A.bind [.l .u8,.i,.i,.i,.i,.i,.i,.i,.i,.i] (B.c x3.1 (B.j aD aF (B.n 16,x2.2.1,x2.2.2.1,()) λx4=>
 B.s (.l .i64) (A.lst .i64 [B.x .i64 (B.n (-1),()),B.x .i64 (B.n 16,()),B.x .i64 (x4.1,())]) λx5=>
 B.j aD aF (B.n 3,x4.2.1,x4.2.2.1,()) λx6=>
 B.w .i64 x5.1 x6.1<|
 B.w .i64 x5.1 x6.1<|
 B.i (B.f .i64 0 (B.o .i64 x5.1 x6.1)) λx7=>
 B.r (x6.2.1,x6.2.2.1,B.z,B.z,B.z,B.z,x7.1,x0.2.1,x0.2.2.1,x0.2.2.2.1,()))<|
 B.b (B.e x2.1 B.u) λx4=>
 A.bind [.l .u8,.i,.i,.i,.i,.i,.i,.i,.i,.i] (B.c x4.1 (B.s (.l .i64) (A.lst .i64 [B.x .i64 (B.n (-1),()),B.x .i64 (B.n 4,()),B.x .i64 (B.u,())]) λx5=>
 B.j aD aF (B.n 3,x2.2.1,x2.2.2.1,()) λx6=>
 B.w .i64 x5.1 x6.1<|
 B.w .i64 x5.1 x6.1<|
 B.i (B.f .i64 0 (B.o .i64 x5.1 x6.1)) λx7=>
 B.r (x6.2.1,x6.2.2.1,B.z,B.z,B.z,B.z,x0.1,x7.1,x0.2.2.1,x0.2.2.2.1,()))<|
 B.b (B.e x2.1 (B.n 2)) λx5=>
 A.bind [.l .u8,.i,.i,.i,.i,.i,.i,.i,.i,.i] (B.c x5.1 (B.s (.l .i64) (A.lst .i64 [B.x .i64 (B.n (-1),()),B.x .i64 (B.n 4,()),B.x .i64 (B.u,())]) λx6=>
 B.j aD aF (B.n 3,x2.2.1,x2.2.2.1,()) λx7=>
 B.w .i64 x6.1 x7.1<|
 B.w .i64 x6.1 x7.1<|
 B.i (B.f .i64 0 (B.o .i64 x6.1 x7.1)) λx8=>
 B.r (x7.2.1,x7.2.2.1,B.z,B.z,B.z,B.z,x0.1,x0.2.1,x8.1,x0.2.2.2.1,()))<|
 B.s (.l .i64) (A.lst .i64 [B.x .i64 (B.n (-1),()),B.x .i64 (B.n 256,()),B.x .i64 (B.n 5,()),B.x .i64 (B.n 16,())]) λx6=>
 B.j aD aF (B.n 4,x2.2.1,x2.2.2.1,()) λx7=>
 B.w .i64 x6.1 x7.1<|
 B.w .i64 x6.1 x7.1<|
 B.i (B.f .i64 0 (B.o .i64 x6.1 x7.1)) λx8=>
 B.r (x7.2.1,x7.2.2.1,B.z,B.z,B.z,B.z,x0.1,x0.2.1,x0.2.2.1,x8.1,())) λx6=>
 B.r (x6.1,x6.2.1,x6.2.2.1,x6.2.2.2.1,x6.q.1,x6.q.2.1,x6.q.2.2.1,x6.q.2.2.2.1,x6.o.1,x6.o.2.1,())) λx5=>
 B.r (x5.1,x5.2.1,x5.2.2.1,x5.2.2.2.1,x5.q.1,x5.q.2.1,x5.q.2.2.1,x5.q.2.2.2.1,x5.o.1,x5.o.2.1,())) λx4=>
 B.L (x4.1,x4.2.1,x4.2.2.1,x4.2.2.2.1,x4.q.1,x4.q.2.1,x4.q.2.2.1,x4.q.2.2.2.1,x4.o.1,x4.o.2.1,()))<|
 B.L (x1.2.1,x1.2.2.1,B.z,B.z,B.z,B.z,x0.1,x0.2.1,x0.2.2.1,x0.2.2.2.1,())) λx2=>
 B.r (x2.q.2.2.1,x2.q.2.2.2.1,x2.o.1,x2.o.2.1,x2.1,x2.2.1,())
def VR (Bj:Pt A mQ) (Bl:Ft A mQ) (agQ:Pt A Kg) (agR:Ft A Kg) (mW:Pt A gH) (mX:Ft A gH) (aD:Pt A bA) (aF:Ft A bA) (Lg:Pt A rZ) (Lh:Ft A rZ) (x:Tup A.ah [.i,.l .u8,.i]):Ot A Kh:=
 B.i B.z λx0=>
 B.j Lg Lh (x.2.1,x.2.2.1,()) λx1=>
 B.j aD aF (B.p (B.q (B.n 64) (B.y .ins x1.2.2.1)) B.u,x1.1,x1.2.1,()) λx2=>
 B.i x2.1 λx3=>
 B.j mW mX (x.1,x2.2.1,x2.2.2.1,()) λx4=>
 A.eY [.i,.l .u8,.i,.l .ins] (B.c x4.1 (B.j aD aF (B.y .ins x1.2.2.1,x4.2.1,x4.2.2.1,()) λx5=>
 B.i x5.1 λx6=>
 B.j aD aF (B.n 6,x5.2.1,x5.2.2.1,()) λx7=>
 B.b (B.e x7.1 B.z) λx8=>
 A.eY [.i,.l .u8,.i,.l .ins] (B.c x8.1 (B.s (.l .i64) (A.lst .i64 [B.x .i64 (B.n (-1),()),B.x .i64 (B.p (B.q (B.n 64) (B.y .ins x1.2.2.1)) B.u,())]) λx9=>
 B.j aD aF (B.n 2,x7.2.1,x7.2.2.1,()) λx10=>
 B.w .i64 x9.1 x10.1<|
 B.w .i64 x9.1 x10.1<|
 B.i (B.f .i64 0 (B.o .i64 x9.1 x10.1)) λx11=>
 B.L (x11.1,x10.2.1,x10.2.2.1,x1.2.2.1,()))<|
 B.b (B.e x7.1 B.u) λx9=>
 A.eY [.i,.l .u8,.i,.l .ins] (B.c x9.1 (B.s (.l .ins) (A.lst .ins []) λx10=>
 B.L (x3.1,x7.2.1,x7.2.2.1,x10.1,()))<|
 B.b (B.e x7.1 (B.n 2)) λx10=>
 A.eY [.i,.l .u8,.i,.l .ins] (B.c x10.1 (B.j agQ agR (B.u,x7.2.1,x7.2.2.1,()) λx11=>
 B.w .ins x1.2.2.1 x6.1<|
 B.w .ins x1.2.2.1 x6.1<|
 B.L (x3.1,x11.q.1,x11.q.2.1,A.set .ins x1.2.2.1 x6.1 (B.x .ins (x11.1,x11.2.1,x11.2.2.1,x11.2.2.2.1,())),()))<|
 B.b (B.e x7.1 (B.n 3)) λx11=>
 A.eY [.i,.l .u8,.i,.l .ins] (B.c x11.1 (B.w .ins x1.2.2.1 x6.1<|
 B.w .ins x1.2.2.1 x6.1<|
 B.L (x3.1,x7.2.1,x7.2.2.1,A.set .ins x1.2.2.1 x6.1 (B.x .ins (B.n 13,B.z,B.z,B.z,())),()))<|
 B.b (B.e x7.1 (B.n 4)) λx12=>
 A.eY [.i,.l .u8,.i,.l .ins] (B.c x12.1 (B.I [.i,.l .u8,.i,.l .ins] (λx13=>
 B.c (B.m (B.y .ins x13.2.2.2.1) (B.n 8)) (B.j Bj Bl (x13.2.1,x13.2.2.1,()) λx14=>
 B.s (.l .ins) (A.lst .ins [B.x .ins (x14.1,x14.2.1,x14.2.2.1,x14.2.2.2.1,())]) λx15=>
 B.C (B.m (A.addN (B.y .ins x13.2.2.2.1) (B.y .ins x15.1)) (B.n 1073741824))<|
 B.s (.l .ins) (A.app .ins x13.2.2.2.1 x15.1) λx16=>
 B.L (x13.1,x14.q.1,x14.q.2.1,x16.1,()))<|
 B.R<|B.L (x13.1,x13.2.1,x13.2.2.1,x13.2.2.2.1,())) (x3.1,x7.2.1,x7.2.2.1,x1.2.2.1,()))<|
 B.w .ins x1.2.2.1 x6.1<|
 B.w .ins x1.2.2.1 x6.1<|
 B.L (x3.1,x7.2.1,x7.2.2.1,A.set .ins x1.2.2.1 x6.1 (B.x .ins (B.z,B.z,B.z,B.z,())),())) λx13=>
 B.L (x13.1,x13.2.1,x13.2.2.1,x13.2.2.2.1,())) λx12=>
 B.L (x12.1,x12.2.1,x12.2.2.1,x12.2.2.2.1,())) λx11=>
 B.L (x11.1,x11.2.1,x11.2.2.1,x11.2.2.2.1,())) λx10=>
 B.L (x10.1,x10.2.1,x10.2.2.1,x10.2.2.2.1,())) λx9=>
 B.L (x9.1,x9.2.1,x9.2.2.1,x9.2.2.2.1,()))<|
 B.L (x3.1,x4.2.1,x4.2.2.1,x1.2.2.1,())) λx5=>
 B.i x5.1 λx6=>
 B.r (x6.1,x5.2.1,x5.2.2.1,x5.2.2.2.1,())
def VT (x:Tup A.ah [.l .u8]):Ot A AO:=
 A.bind [.l .u8] (B.c (B.g (B.y .u8 x.1) (B.n 2000)) (B.C (B.m B.z B.z)<|
 B.C (B.m B.z (B.n 2000))<|
 B.C (B.m (B.n 2000) (B.y .u8 x.1))<|
 B.s (.l .u8) (A.sub .u8 x.1 B.z (B.n 2000)) λx0=>
 B.r (x0.1,()))<|
 B.r (x.1,())) λx0=>
 B.r (x0.1,B.z,())
def VU (VW:Pt A AO) (VX:Ft A AO) (agS:Pt A Kh) (agT:Ft A Kh) (x:Tup A.ah [.l .u8]):Ot A Ki:=
 B.i B.z λx0=>
 B.j VW VX (x.1,()) λx1=>
 B.j agS agT (B.n 9,x1.1,x1.2.1,()) λx2=>
 B.i x2.1 λx3=>
 B.r (x3.1,x2.2.2.2.1,())
def VY (VK:Pt A AL) (VL:Ft A AL) (Eb:Pt A mP) (Ec:Ft A mP) (fE:Pt A fD) (fF:Ft A fD) (Ed:Pt A lS) (Ee:Ft A lS) (x:Tup A.ah [.i,.l .ins]):Ot A AQ:=
 B.b B.F λx0=>
 B.j fE fF (B.y .ins x.2.1,B.u,B.n 8,()) λx1=>
 B.k (B.N (B.N x1.1)) fE fF (x.1,B.z,B.q (B.n 64) (B.y .ins x.2.1),()) λx2=>
 B.c (B.a (B.N x1.1) B.T (B.N x2.1)) (B.v B.F)<|
 B.i B.z λx3=>
 B.I [.l .ins,.i] (λx4=>
 B.c (B.l x4.2.1 (B.y .ins x4.1)) (B.w .ins x4.1 x4.2.1<|
 B.j Ed Ee (B.o .ins x4.1 x4.2.1,()) λx5=>
 B.C (B.O (B.N (A.qN (B.N x5.1) (B.N (B.l x4.2.1 (B.q (B.y .ins x4.1) B.u))))) (B.m B.z x4.2.1))<|
 B.C (B.O (B.N (A.qN (B.N x5.1) (B.N (B.l x4.2.1 (B.q (B.y .ins x4.1) B.u))))) (B.l x4.2.1 (B.y .ins x4.1)))<|
 B.k (A.qN (B.N x5.1) (B.N (B.l x4.2.1 (B.q (B.y .ins x4.1) B.u)))) Eb Ec (B.o .ins x4.1 x4.2.1,()) λx6=>
 B.C (B.O (B.N (A.qN (B.N x5.1) (B.N (B.a (B.l x4.2.1 (B.q (B.y .ins x4.1) B.u)) B.T (B.N x6.1))))) (B.m B.z x4.2.1))<|
 B.C (B.O (B.N (A.qN (B.N x5.1) (B.N (B.a (B.l x4.2.1 (B.q (B.y .ins x4.1) B.u)) B.T (B.N x6.1))))) (B.l x4.2.1 (B.y .ins x4.1)))<|
 B.k (A.qN (B.N x5.1) (B.N (B.a (B.l x4.2.1 (B.q (B.y .ins x4.1) B.u)) B.T (B.N x6.1)))) VK VL (B.f .ins 0 (B.o .ins x4.1 x4.2.1),()) λx7=>
 B.c (B.a (B.N x5.1) (B.a (B.a (B.l x4.2.1 (B.q (B.y .ins x4.1) B.u)) B.T (B.N x6.1)) B.T (B.N x7.1)) B.F) (B.b B.F λx8=>
 B.R<|B.r (x8.1,()))<|
 B.i (B.p x4.2.1 B.u) λx8=>
 B.L (x4.1,x8.1,()))<|
 B.R<|B.v B.T) (x.2.1,x3.1,())
def OQ (x:Tup A.ah [.i,.i,.i,.i,.i,.i,.x .iop,.l .iop]):Ot A gI:=
 B.i B.z λx0=>
 B.s (.l .iop) (A.lst .iop [x.q.2.2.1]) λx1=>
 B.C (B.m (A.addN (B.y .iop x.q.2.2.2.1) (B.y .iop x1.1)) (B.n 1073741824))<|
 B.s (.l .iop) (A.app .iop x.q.2.2.2.1 x1.1) λx2=>
 B.i (B.q (B.y .iop x2.1) B.u) λx3=>
 B.r (x.1,x.2.1,x.2.2.1,x.2.2.2.1,x.q.1,x.q.2.1,x3.1,x2.1,())
def OT (jN:Pt A gI) (jO:Ft A gI) (x:Tup A.ah [.i,.i,.i,.i,.i,.i,.i,.i,.l .iop]):Ot A sj:=
 B.j jN jO (x.1,x.2.1,x.2.2.1,x.2.2.2.1,x.q.1,x.q.2.1,B.x .iop (B.n 8,x.q.2.2.2.1,B.z,x.q.2.2.1,B.z,()),x.o.1,()) λx0=>
 B.i x0.q.2.2.1 λx1=>
 B.r (x0.1,x0.2.1,x0.2.2.1,x0.2.2.2.1,x0.q.1,x0.q.2.1,x0.q.2.2.2.1,())
def OU (jN:Pt A gI) (jO:Ft A gI) (x:Tup A.ah [.i,.i,.i,.i,.i,.i,.i,.l .iop]):Ot A jk:=
 B.i B.z λx0=>
 B.j jN jO (x.1,x.2.1,x.2.2.1,x.2.2.2.1,x.q.1,x.q.2.1,B.x .iop (B.n 2,B.z,B.z,x.q.2.2.1,B.z,()),x.q.2.2.2.1,()) λx1=>
 B.i x1.q.2.2.1 λx2=>
 B.r (x1.1,x1.2.1,x1.2.2.1,x1.2.2.2.1,x1.q.1,x1.q.2.1,x2.1,x1.q.2.2.2.1,())
def OV (nK:Pt A jk) (nL:Ft A jk) (jN:Pt A gI) (jO:Ft A gI) (x:Tup A.ah [.i,.i,.i,.i,.i,.i,.i,.i,.x .iop,.l .iop]):Ot A su:=
 B.i B.z λx0=>
 B.j nK nL (x.1,x.2.1,x.2.2.1,x.2.2.2.1,x.q.1,x.q.2.1,x.q.2.2.2.1,x.o.2.1,()) λx1=>
 B.i x1.q.2.2.1 λx2=>
 B.j jN jO (x1.1,x1.2.1,x1.2.2.1,x1.2.2.2.1,x1.q.1,x1.q.2.1,x.o.1,x1.q.2.2.2.1,()) λx3=>
 B.i x3.q.2.2.1 λx4=>
 B.j jN jO (x3.1,x3.2.1,x3.2.2.1,x3.2.2.2.1,x3.q.1,x3.q.2.1,B.x .iop (B.n 3,x2.1,x4.1,x.q.2.2.1,B.z,()),x3.q.2.2.2.1,()) λx5=>
 B.i x5.q.2.2.1 λx6=>
 B.r (x5.1,x5.2.1,x5.2.2.1,x5.2.2.2.1,x5.q.1,x5.q.2.1,x6.1,x5.q.2.2.2.1,())
def OX (x:Tup A.ah [.i]):Ot A DN:=
 B.i B.z λx0=>
 B.i B.u λx1=>
 B.i B.z λx2=>
 B.I [.i,.i,.i] (λx3=>
 B.c (B.l x3.2.2.1 x3.1) (B.i (B.p x3.2.1 x3.2.1) λx4=>
 B.i (B.p x3.2.2.1 B.u) λx5=>
 B.L (x3.1,x4.1,x5.1,()))<|
 B.R<|B.i x3.2.1 λx4=>
 B.r (x4.1,())) (x.1,x1.1,x2.1,())
def OY (nK:Pt A jk) (nL:Ft A jk) (jN:Pt A gI) (jO:Ft A gI) (Ip:Pt A su) (Iq:Ft A su) (wX:Pt A sj) (wY:Ft A sj) (x:Tup A.ah [.i,.i,.i,.i,.i,.i,.x .ins,.i,.l .iop]):Ot A DR:=
 B.j Ip Iq (x.1,x.2.1,x.2.2.1,x.2.2.2.1,x.q.1,x.q.2.1,B.u,B.f .ins 2 x.q.2.2.1,B.x .iop (B.u,B.z,B.z,B.f .ins 3 x.q.2.2.1,B.z,()),x.o.1,()) λx0=>
 B.i x0.q.2.2.1 λx1=>
 B.c (B.e (B.f .ins 0 x.q.2.2.1) (B.n 9)) (B.j jN jO (x0.1,x0.2.1,x0.2.2.1,x0.2.2.2.1,x0.q.1,x0.q.2.1,B.x .iop (B.n 4,x1.1,B.z,B.z,x.q.2.2.2.1,()),x0.q.2.2.2.1,()) λx2=>
 B.i x2.q.2.2.1 λx3=>
 B.j wX wY (x2.1,x2.2.1,x2.2.2.1,x2.2.2.2.1,x2.q.1,x2.q.2.1,B.f .ins 1 x.q.2.2.1,x3.1,x2.q.2.2.2.1,()) λx4=>
 B.r (x4.1,x4.2.1,x4.2.2.1,x4.2.2.2.1,x4.q.1,x4.q.2.1,x4.q.2.2.1,()))<|
 B.j nK nL (x0.1,x0.2.1,x0.2.2.1,x0.2.2.2.1,x0.q.1,x0.q.2.1,B.f .ins 1 x.q.2.2.1,x0.q.2.2.2.1,()) λx2=>
 B.i x2.q.2.2.1 λx3=>
 B.j jN jO (x2.1,x2.2.1,x2.2.2.1,x2.2.2.2.1,x2.q.1,x2.q.2.1,B.x .iop (B.n 5,x1.1,x3.1,B.z,x.q.2.2.2.1,()),x2.q.2.2.2.1,()) λx4=>
 B.i x4.q.2.2.1 λx5=>
 B.r (x4.1,x4.2.1,x4.2.2.1,x4.2.2.2.1,x4.q.1,x4.q.2.1,x4.q.2.2.2.1,())
def OZ (nK:Pt A jk) (nL:Ft A jk) (x:Tup A.ah [.i,.i,.i,.i,.i,.i,.x .ins,.l .iop]):Ot A DT:=
 B.c (B.e (B.f .ins 0 x.q.2.2.1) (B.n 13)) (B.j nK nL (x.1,x.2.1,x.2.2.1,x.2.2.2.1,x.q.1,x.q.2.1,B.f .ins 2 x.q.2.2.1,x.q.2.2.2.1,()) λx0=>
 B.i x0.q.2.2.1 λx1=>
 B.i (B.n 2) λx2=>
 B.i x1.1 λx3=>
 B.i B.z λx4=>
 B.r (x0.1,x0.2.1,x2.1,x3.1,x0.q.1,x4.1,x0.q.2.2.2.1,()))<|
 B.j nK nL (x.1,x.2.1,x.2.2.1,x.2.2.2.1,x.q.1,x.q.2.1,B.f .ins 1 x.q.2.2.1,x.q.2.2.2.1,()) λx0=>
 B.i x0.q.2.2.1 λx1=>
 B.j nK nL (x0.1,x0.2.1,x0.2.2.1,x0.2.2.2.1,x0.q.1,x0.q.2.1,B.f .ins 2 x.q.2.2.1,x0.q.2.2.2.1,()) λx2=>
 B.i x2.q.2.2.1 λx3=>
 B.i (B.n 3) λx4=>
 A.bind [.i,.i,.x .ins,.i,.i,.i,.i,.i,.i,.i,.i,.i,.i,.i,.i,.l .iop] (B.c (B.e (B.f .ins 0 x.q.2.2.1) (B.n 12)) (B.i (B.n 4) λx5=>
 B.r (x1.1,x3.1,x.q.2.2.1,B.z,B.z,B.z,B.z,B.z,B.z,x2.1,x2.2.1,x5.1,x2.2.2.2.1,x2.q.1,x2.q.2.1,x2.q.2.2.2.1,()))<|
 B.r (x1.1,x3.1,x.q.2.2.1,B.z,B.z,B.z,B.z,B.z,B.z,x2.1,x2.2.1,x4.1,x2.2.2.2.1,x2.q.1,x2.q.2.1,x2.q.2.2.2.1,())) λx5=>
 B.i x5.1 λx6=>
 B.i x5.2.1 λx7=>
 B.i (B.f .ins 3 x5.2.2.1) λx8=>
 B.r (x5.o.2.1,x5.o.2.2.1,x5.o.2.2.2.1,x6.1,x7.1,x8.1,x5.o.q.2.2.2.1,())
def O5 (nK:Pt A jk) (nL:Ft A jk) (adz:Pt A DT) (adA:Ft A DT) (jN:Pt A gI) (jO:Ft A gI) (adB:Pt A DR) (adC:Ft A DR) (Ip:Pt A su) (Iq:Ft A su) (wX:Pt A sj) (wY:Ft A sj) (adD:Pt A DN) (adE:Ft A DN) (x:Tup A.ah [.i,.i,.i,.i,.i,.i,.x .ins,.i,.l .iop]):Ot A DU:=
 B.b (B.e (B.f .ins 0 x.q.2.2.1) B.u) λx0=>
 B.c x0.1 (B.j jN jO (x.1,x.2.1,x.2.2.1,x.2.2.2.1,x.q.1,x.q.2.1,B.x .iop (B.u,B.z,B.z,B.f .ins 3 x.q.2.2.1,B.z,()),x.o.1,()) λx1=>
 B.i x1.q.2.2.1 λx2=>
 B.j wX wY (x1.1,x1.2.1,x1.2.2.1,x1.2.2.2.1,x1.q.1,x1.q.2.1,B.f .ins 1 x.q.2.2.1,x2.1,x1.q.2.2.2.1,()) λx3=>
 B.r (x3.1,x3.2.1,x3.2.2.1,x3.2.2.2.1,x3.q.1,x3.q.2.1,x3.q.2.2.1,()))<|
 B.b (B.e (B.f .ins 0 x.q.2.2.1) (B.n 2)) λx1=>
 B.c x1.1 (B.j nK nL (x.1,x.2.1,x.2.2.1,x.2.2.2.1,x.q.1,x.q.2.1,B.f .ins 2 x.q.2.2.1,x.o.1,()) λx2=>
 B.i x2.q.2.2.1 λx3=>
 B.j wX wY (x2.1,x2.2.1,x2.2.2.1,x2.2.2.2.1,x2.q.1,x2.q.2.1,B.f .ins 1 x.q.2.2.1,x3.1,x2.q.2.2.2.1,()) λx4=>
 B.r (x4.1,x4.2.1,x4.2.2.1,x4.2.2.2.1,x4.q.1,x4.q.2.1,x4.q.2.2.1,()))<|
 B.b (B.e (B.f .ins 0 x.q.2.2.1) (B.n 8)) λx2=>
 B.c x2.1 (B.j adD adE (B.f .ins 3 x.q.2.2.1,()) λx3=>
 B.j Ip Iq (x.1,x.2.1,x.2.2.1,x.2.2.2.1,x.q.1,x.q.2.1,B.n 3,B.f .ins 2 x.q.2.2.1,B.x .iop (B.u,B.z,B.z,x3.1,B.z,()),x.o.1,()) λx4=>
 B.i x4.q.2.2.1 λx5=>
 B.j wX wY (x4.1,x4.2.1,x4.2.2.1,x4.2.2.2.1,x4.q.1,x4.q.2.1,B.f .ins 1 x.q.2.2.1,x5.1,x4.q.2.2.2.1,()) λx6=>
 B.r (x6.1,x6.2.1,x6.2.2.1,x6.2.2.2.1,x6.q.1,x6.q.2.1,x6.q.2.2.1,()))<|
 B.b (B.e (B.f .ins 0 x.q.2.2.1) (B.n 9)) λx3=>
 A.bind [.i,.i,.b,.l .iop,.i,.i,.i,.i,.i,.i,.x .ins,.i,.i,.i,.i,.i,.i] (B.c x3.1 (B.r (x.q.2.2.2.1,B.f .ins 0 x.q.2.2.1,x3.1,x.o.1,x.1,x.2.1,x.2.2.1,x.2.2.2.1,x.q.1,x.q.2.1,x.q.2.2.1,B.z,B.z,B.z,B.z,B.z,B.z,()))<|
 B.b (B.e (B.f .ins 0 x.q.2.2.1) (B.n 10)) λx4=>
 B.r (x.q.2.2.2.1,B.f .ins 0 x.q.2.2.1,x4.1,x.o.1,x.1,x.2.1,x.2.2.1,x.2.2.2.1,x.q.1,x.q.2.1,x.q.2.2.1,B.z,B.z,B.z,B.z,B.z,B.z,())) λx4=>
 B.c x4.2.2.1 (B.j adB adC (x4.q.1,x4.q.2.1,x4.q.2.2.1,x4.q.2.2.2.1,x4.o.1,x4.o.2.1,x4.o.2.2.1,x4.1,x4.2.2.2.1,()) λx5=>
 B.r (x5.1,x5.2.1,x5.2.2.1,x5.2.2.2.1,x5.q.1,x5.q.2.1,x5.q.2.2.1,()))<|
 B.b (B.e x4.2.1 (B.n 14)) λx5=>
 B.c x5.1 (B.j nK nL (x4.q.1,x4.q.2.1,x4.q.2.2.1,x4.q.2.2.2.1,x4.o.1,x4.o.2.1,B.f .ins 1 x4.o.2.2.1,x4.2.2.2.1,()) λx6=>
 B.i x6.q.2.2.1 λx7=>
 B.j jN jO (x6.1,x6.2.1,x6.2.2.1,x6.2.2.2.1,x6.q.1,x6.q.2.1,B.x .iop (B.n 7,x7.1,B.z,B.z,x4.1,()),x6.q.2.2.2.1,()) λx8=>
 B.i x8.q.2.2.1 λx9=>
 B.r (x8.1,x8.2.1,x8.2.2.1,x8.2.2.2.1,x8.q.1,x8.q.2.1,x8.q.2.2.2.1,()))<|
 B.b (B.e x4.2.1 (B.n 15)) λx6=>
 B.c x6.1 (B.j jN jO (x4.q.1,x4.q.2.1,x4.q.2.2.1,x4.q.2.2.2.1,x4.o.1,x4.o.2.1,B.x .iop (B.n 6,B.z,B.z,B.z,x4.1,()),x4.2.2.2.1,()) λx7=>
 B.i x7.q.2.2.1 λx8=>
 B.j wX wY (x7.1,x7.2.1,x7.2.2.1,x7.2.2.2.1,x7.q.1,x7.q.2.1,B.f .ins 1 x4.o.2.2.1,x8.1,x7.q.2.2.2.1,()) λx9=>
 B.r (x9.1,x9.2.1,x9.2.2.1,x9.2.2.2.1,x9.q.1,x9.q.2.1,x9.q.2.2.1,()))<|
 B.b (B.e x4.2.1 (B.n 11)) λx7=>
 A.bind [.b,.l .iop,.i,.i,.i,.i,.i,.i,.x .ins,.i,.i,.i,.i,.i,.i] (B.c x7.1 (B.r (x7.1,x4.2.2.2.1,x4.q.1,x4.q.2.1,x4.q.2.2.1,x4.q.2.2.2.1,x4.o.1,x4.o.2.1,x4.o.2.2.1,x4.o.2.2.2.1,x4.o.q.1,x4.o.q.2.1,x4.o.q.2.2.1,x4.o.q.2.2.2.1,x4.o.o.1,()))<|
 B.b (B.e x4.2.1 (B.n 12)) λx8=>
 A.bind [.b,.l .iop,.i,.i,.i,.i,.i,.i,.x .ins,.i,.i,.i,.i,.i,.i] (B.c x8.1 (B.r (x8.1,x4.2.2.2.1,x4.q.1,x4.q.2.1,x4.q.2.2.1,x4.q.2.2.2.1,x4.o.1,x4.o.2.1,x4.o.2.2.1,x4.o.2.2.2.1,x4.o.q.1,x4.o.q.2.1,x4.o.q.2.2.1,x4.o.q.2.2.2.1,x4.o.o.1,()))<|
 B.b (B.e x4.2.1 (B.n 13)) λx9=>
 B.r (x9.1,x4.2.2.2.1,x4.q.1,x4.q.2.1,x4.q.2.2.1,x4.q.2.2.2.1,x4.o.1,x4.o.2.1,x4.o.2.2.1,x4.o.2.2.2.1,x4.o.q.1,x4.o.q.2.1,x4.o.q.2.2.1,x4.o.q.2.2.2.1,x4.o.o.1,())) λx9=>
 B.r (x9.1,x9.2.1,x9.2.2.1,x9.2.2.2.1,x9.q.1,x9.q.2.1,x9.q.2.2.1,x9.q.2.2.2.1,x9.o.1,x9.o.2.1,x9.o.2.2.1,x9.o.2.2.2.1,x9.o.q.1,x9.o.q.2.1,x9.o.q.2.2.1,())) λx8=>
 B.c x8.1 (B.j adz adA (x8.2.2.1,x8.2.2.2.1,x8.q.1,x8.q.2.1,x8.q.2.2.1,x8.q.2.2.2.1,x8.o.1,x8.2.1,()) λx9=>
 B.r (x9.1,x9.2.1,x9.2.2.1,x9.2.2.2.1,x9.q.1,x9.q.2.1,x9.q.2.2.1,()))<|
 B.j Ip Iq (x8.2.2.1,x8.2.2.2.1,x8.q.1,x8.q.2.1,x8.q.2.2.1,x8.q.2.2.2.1,B.p (B.q (B.f .ins 0 x8.o.1) (B.n 3)) B.u,B.f .ins 2 x8.o.1,B.x .iop (B.n 2,B.z,B.z,B.f .ins 3 x8.o.1,B.z,()),x8.2.1,()) λx9=>
 B.i x9.q.2.2.1 λx10=>
 B.j wX wY (x9.1,x9.2.1,x9.2.2.1,x9.2.2.2.1,x9.q.1,x9.q.2.1,B.f .ins 1 x8.o.1,x10.1,x9.q.2.2.2.1,()) λx11=>
 B.r (x11.1,x11.2.1,x11.2.2.1,x11.2.2.2.1,x11.q.1,x11.q.2.1,x11.q.2.2.1,())
def VZ (V3:Pt A AQ) (V4:Ft A AQ) (adF:Pt A DU) (adG:Ft A DU) (x:Tup A.ah [.i,.l .ins]):Ot A AU:=
 B.j V3 V4 (x.1,x.2.1,()) λx0=>
 B.c (B.N x0.1) (B.r (B.z,B.z,B.z,B.z,B.z,B.z,A.je .iop,()))<|
 B.i B.z λx1=>
 B.I [.l .ins,.i,.i,.i,.i,.i,.i,.i,.i,.i,.i,.i,.i,.i,.l .iop] (λx2=>
 B.c (B.l x2.2.1 (B.y .ins x2.1)) (B.w .ins x2.1 x2.2.1<|
 B.j adF adG (x2.o.1,x2.o.2.1,x2.o.2.2.1,x2.o.2.2.2.1,x2.o.q.1,x2.o.q.2.1,B.o .ins x2.1 x2.2.1,x2.2.1,x2.o.q.2.2.1,()) λx3=>
 B.i (B.p x2.2.1 B.u) λx4=>
 B.L (x2.1,x4.1,x2.2.2.1,x2.2.2.2.1,x2.q.1,x2.q.2.1,x2.q.2.2.1,x2.q.2.2.2.1,x3.1,x3.2.1,x3.2.2.1,x3.2.2.2.1,x3.q.1,x3.q.2.1,x3.q.2.2.1,()))<|
 B.R<|B.r (x2.o.1,x2.o.2.1,x2.o.2.2.1,x2.o.2.2.2.1,x2.o.q.1,x2.o.q.2.1,x2.o.q.2.2.1,())) (x.2.1,x1.1,B.z,B.z,B.z,B.z,B.z,B.z,x.1,B.y .ins x.2.1,B.u,B.z,B.z,B.p x.1 (B.y .ins x.2.1),A.je .iop,())
def V5 (x:Tup A.ah [.i]):Ot A iP:=
 B.b B.F λx0=>
 B.v (B.a (B.h x.1 B.z) (B.l x.1 (B.n 65536)) B.F)
def V6 (mY:Pt A iP) (mZ:Ft A iP) (x:Tup A.ah [.l .i64]):Ot A AV:=
 B.b B.F λx0=>
 B.i B.z λx1=>
 B.I [.l .i64,.i] (λx2=>
 B.c (B.l x2.2.1 (B.y .i64 x2.1)) (B.w .i64 x2.1 x2.2.1<|
 B.j mY mZ (B.f .i64 0 (B.o .i64 x2.1 x2.2.1),()) λx3=>
 B.c (B.N x3.1) (B.b B.F λx4=>
 B.R<|B.r (x4.1,()))<|
 B.i (B.p x2.2.1 B.u) λx4=>
 B.L (x2.1,x4.1,()))<|
 B.R<|B.v B.T) (x.1,x1.1,())
def V7 (Ef:Pt A AV) (Eh:Ft A AV) (x:Tup A.ah [.l .i64,.l .i64]):Ot A Kj:=
 B.k (B.N (B.g (B.y .i64 x.1) (B.n 64))) Ef Eh (x.1,()) λx0=>
 B.k (B.N (B.a (B.g (B.y .i64 x.1) (B.n 64)) B.T (B.N x0.1))) Ef Eh (x.2.1,()) λx1=>
 B.c (B.a (B.a (B.g (B.y .i64 x.1) (B.n 64)) B.T (B.N x0.1)) B.T (B.N x1.1)) (B.r (B.z,B.z,B.F,B.F,B.z,B.z,A.je .i64,A.je .i64,A.je .i64,()))<|
 B.s (.l .i64) (A.lst .i64 [B.x .i64 (B.z,()),B.x .i64 (B.z,()),B.x .i64 (B.z,()),B.x .i64 (B.z,())]) λx2=>
 B.s (.l .i64) (A.lst .i64 []) λx3=>
 B.C (B.m (A.addN (B.y .i64 x3.1) (B.y .i64 x.2.1)) (B.n 1073741824))<|
 B.s (.l .i64) (A.app .i64 x3.1 x.2.1) λx4=>
 B.i B.z λx5=>
 B.I [.l .i64,.i,.i,.i,.b,.b,.i,.i,.i,.i,.b,.b,.i,.i,.l .i64,.l .i64,.l .i64] (λx6=>
 B.c (B.l x6.2.1 (B.n 64)) (B.i B.z λx7=>
 A.bind [.l .i64,.i,.i,.i,.i,.b,.b,.i,.i,.i,.i,.b,.b,.i,.i,.l .i64,.l .i64,.l .i64] (B.c (B.l x6.2.1 (B.y .i64 x6.1)) (B.w .i64 x6.1 x6.2.1<|
 B.i (B.f .i64 0 (B.o .i64 x6.1 x6.2.1)) λx8=>
 B.r (x6.1,x6.2.1,x8.1,x6.2.2.1,x6.2.2.2.1,x6.q.1,x6.q.2.1,x6.q.2.2.1,x6.q.2.2.2.1,x6.o.1,x6.o.2.1,x6.o.2.2.1,x6.o.2.2.2.1,x6.o.q.1,x6.o.q.2.1,x6.o.q.2.2.1,x6.o.q.2.2.2.1,x6.o.o.1,()))<|
 B.r (x6.1,x6.2.1,x7.1,x6.2.2.1,x6.2.2.2.1,x6.q.1,x6.q.2.1,x6.q.2.2.1,x6.q.2.2.2.1,x6.o.1,x6.o.2.1,x6.o.2.2.1,x6.o.2.2.2.1,x6.o.q.1,x6.o.q.2.1,x6.o.q.2.2.1,x6.o.q.2.2.2.1,x6.o.o.1,())) λx8=>
 B.s (.l .i64) (A.lst .i64 [B.x .i64 (x8.2.2.1,())]) λx9=>
 B.C (B.m (A.addN (B.y .i64 x8.o.o.1) (B.y .i64 x9.1)) (B.n 1073741824))<|
 B.s (.l .i64) (A.app .i64 x8.o.o.1 x9.1) λx10=>
 B.i (B.p x8.2.1 B.u) λx11=>
 B.L (x8.1,x11.1,x8.2.2.2.1,x8.q.1,x8.q.2.1,x8.q.2.2.1,x8.q.2.2.2.1,x8.o.1,x8.o.2.1,x8.o.2.2.1,x8.o.2.2.2.1,x8.o.q.1,x8.o.q.2.1,x8.o.q.2.2.1,x8.o.q.2.2.2.1,x10.1,x8.o.o.2.1,()))<|
 B.R<|B.r (x6.o.1,x6.o.2.1,x6.o.2.2.1,x6.o.2.2.2.1,x6.o.q.1,x6.o.q.2.1,x6.o.q.2.2.1,x6.o.q.2.2.2.1,x6.o.o.1,())) (x.1,x5.1,B.z,B.z,B.F,B.F,B.z,B.z,B.z,B.z,B.F,B.F,B.z,B.z,x2.1,A.je .i64,x4.1,())
def V8 (Bj:Pt A mQ) (Bl:Ft A mQ) (aD:Pt A bA) (aF:Ft A bA) (x:Tup A.ah [.i,.l .u8,.i]):Ot A Kk:=
 B.j aD aF (B.n 6,x.2.1,x.2.2.1,()) λx0=>
 B.i (B.p B.u x0.1) λx1=>
 B.j aD aF (B.n 3,x0.2.1,x0.2.2.1,()) λx2=>
 B.s (.l .ins) (A.lst .ins [B.x .ins (B.u,B.z,B.z,x1.1,()),B.x .ins (B.u,B.u,B.z,B.u,()),B.x .ins (B.u,B.n 2,B.z,x2.1,())]) λx3=>
 B.j aD aF (B.n 4,x2.2.1,x2.2.2.1,()) λx4=>
 B.i x4.1 λx5=>
 B.I [.i,.i,.l .u8,.i,.l .ins] (λx6=>
 B.c (B.g x6.2.1 B.z) (B.j Bj Bl (x6.2.2.1,x6.2.2.2.1,()) λx7=>
 A.bind [.i,.i,.l .u8,.i,.l .ins,.i,.i,.i,.i] (B.c (B.a (B.a (B.l x7.2.1 (B.n 2)) (B.d x7.1 (B.n 10)) B.F) (B.d x7.1 (B.n 14)) B.F) (B.i (B.n 3) λx8=>
 B.r (x6.1,x6.2.1,x7.q.1,x7.q.2.1,x6.q.1,x7.1,x8.1,x7.2.2.1,x7.2.2.2.1,()))<|
 B.r (x6.1,x6.2.1,x7.q.1,x7.q.2.1,x6.q.1,x7.1,x7.2.1,x7.2.2.1,x7.2.2.2.1,())) λx8=>
 B.s (.l .ins) (A.lst .ins [B.x .ins (x8.q.2.1,x8.q.2.2.1,x8.q.2.2.2.1,x8.o.1,())]) λx9=>
 B.C (B.m (A.addN (B.y .ins x8.q.1) (B.y .ins x9.1)) (B.n 1073741824))<|
 B.s (.l .ins) (A.app .ins x8.q.1 x9.1) λx10=>
 B.i (B.q x8.2.1 B.u) λx11=>
 B.L (x8.1,x11.1,x8.2.2.1,x8.2.2.2.1,x10.1,()))<|
 B.R<|B.s (.l .ins) (A.lst .ins [B.x .ins (B.n 4,B.z,B.z,B.u,()),B.x .ins (B.n 7,B.n 2,B.n 2,B.n 2,()),B.x .ins (B.n 12,B.n 2,B.z,B.p x6.1 (B.n 3),())]) λx7=>
 B.C (B.m (A.addN (B.y .ins x6.q.1) (B.y .ins x7.1)) (B.n 1073741824))<|
 B.s (.l .ins) (A.app .ins x6.q.1 x7.1) λx8=>
 B.r (x6.2.2.1,x6.2.2.2.1,x8.1,())) (x.1,x5.1,x4.2.1,x4.2.2.1,x3.1,())
def V9 (aD:Pt A bA) (aF:Ft A bA) (x:Tup A.ah [.i,.l .u8,.i]):Ot A Kl:=
 B.j aD aF (B.n 40,x.2.1,x.2.2.1,()) λx0=>
 B.i x0.1 λx1=>
 B.j aD aF (B.n 5,x0.2.1,x0.2.2.1,()) λx2=>
 B.i (B.p (B.p x.1 (B.n 3)) x2.1) λx3=>
 B.j aD aF (B.n 2,x2.2.1,x2.2.2.1,()) λx4=>
 B.s (.l .ins) (A.lst .ins [B.x .ins (B.u,B.u,B.z,x1.1,()),B.x .ins (B.n 9,B.z,B.u,B.z,()),B.x .ins (B.u,B.u,B.z,A.Fw x3.1 (B.n 60),()),B.x .ins (B.n 10,B.z,B.u,x4.1,())]) λx5=>
 B.r (x4.2.1,x4.2.2.1,x5.1,())
def Wh (Eb:Pt A mP) (Ec:Ft A mP) (x:Tup A.ah [.x .ins]):Ot A AX:=
 B.i B.z λx0=>
 B.j Eb Ec (x.1,()) λx1=>
 B.c (B.N x1.1) (B.i B.z λx2=>
 B.r (x2.1,()))<|
 B.i (B.p (B.p (B.p (B.t (B.f .ins 0 x.1) (B.n 4096)) (B.t (B.f .ins 1 x.1) (B.n 1024))) (B.t (B.f .ins 2 x.1) (B.n 256))) (B.f .ins 3 x.1)) λx2=>
 B.r (x2.1,())
def Wi (Gi:Pt A AX) (Gj:Ft A AX) (x:Tup A.ah [.l .ins]):Ot A Km:=
 B.s (.l .i64) (A.lst .i64 []) λx0=>
 B.i B.z λx1=>
 B.I [.l .ins,.i,.l .i64] (λx2=>
 B.c (B.l x2.2.1 (B.y .ins x2.1)) (B.w .ins x2.1 x2.2.1<|
 B.j Gi Gj (B.o .ins x2.1 x2.2.1,()) λx3=>
 B.s (.l .i64) (A.lst .i64 [B.x .i64 (x3.1,())]) λx4=>
 B.C (B.m (A.addN (B.y .i64 x2.2.2.1) (B.y .i64 x4.1)) (B.n 1073741824))<|
 B.s (.l .i64) (A.app .i64 x2.2.2.1 x4.1) λx5=>
 B.i (B.p x2.2.1 B.u) λx6=>
 B.L (x2.1,x6.1,x5.1,()))<|
 B.R<|B.r (x2.2.2.1,())) (x.1,x1.1,x0.1,())
def Wj (aD:Pt A bA) (aF:Ft A bA) (x:Tup A.ah [.l .u8,.i]):Ot A AY:=
 B.i B.z λx0=>
 B.j aD aF (B.n 4,x.1,x.2.1,()) λx1=>
 B.b (B.e x1.1 B.z) λx2=>
 B.c x2.1 (B.s (.l .i64) (A.lst .i64 [B.x .i64 (B.z,()),B.x .i64 (B.u,()),B.x .i64 (B.n 2,()),B.x .i64 (B.n 3,()),B.x .i64 (B.n 65535,()),B.x .i64 (B.n 32768,()),B.x .i64 (B.n 255,()),B.x .i64 (B.n 256,()),B.x .i64 (B.n 65534,())]) λx3=>
 B.j aD aF (B.n 9,x1.2.1,x1.2.2.1,()) λx4=>
 B.w .i64 x3.1 x4.1<|
 B.w .i64 x3.1 x4.1<|
 B.i (B.f .i64 0 (B.o .i64 x3.1 x4.1)) λx5=>
 B.r (x5.1,x4.2.1,x4.2.2.1,()))<|
 B.b (B.e x1.1 B.u) λx3=>
 B.c x3.1 (B.j aD aF (B.n 70,x1.2.1,x1.2.2.1,()) λx4=>
 B.i x4.1 λx5=>
 B.r (x5.1,x4.2.1,x4.2.2.1,()))<|
 B.j aD aF (B.n 256,x1.2.1,x1.2.2.1,()) λx4=>
 B.j aD aF (B.n 256,x4.2.1,x4.2.2.1,()) λx5=>
 B.i (B.p (B.t x4.1 (B.n 256)) x5.1) λx6=>
 B.r (x6.1,x5.2.1,x5.2.2.1,())
def Wm (agU:Pt A Km) (agV:Ft A Km) (Gi:Pt A AX) (Gj:Ft A AX) (agW:Pt A Kk) (agX:Ft A Kk) (Bj:Pt A mQ) (Bl:Ft A mQ) (Gg:Pt A rY) (Gh:Ft A rY) (agY:Pt A Kl) (agZ:Ft A Kl) (mW:Pt A gH) (mX:Ft A gH) (aD:Pt A bA) (aF:Ft A bA) (Rn:Pt A AY) (Ro:Ft A AY) (x:Tup A.ah [.l .u8,.i]):Ot A Kn:=
 B.s (.l .ins) (A.lst .ins []) λx0=>
 B.j aD aF (B.n 2,x.1,x.2.1,()) λx1=>
 A.bind [.l .u8,.i,.l .ins] (B.c (B.e x1.1 B.z) (B.s (.l .ins) (A.lst .ins [B.x .ins (B.z,B.z,B.z,B.n 2,())]) λx2=>
 B.C (B.m (A.addN (B.y .ins x0.1) (B.y .ins x2.1)) (B.n 1073741824))<|
 B.s (.l .ins) (A.app .ins x0.1 x2.1) λx3=>
 B.r (x1.2.1,x1.2.2.1,x3.1,()))<|
 B.r (x1.2.1,x1.2.2.1,x0.1,())) λx2=>
 B.j aD aF (B.n 5,x2.1,x2.2.1,()) λx3=>
 B.i (B.p B.u x3.1) λx4=>
 B.I [.i,.l .u8,.i,.l .ins] (λx5=>
 B.c (B.a (B.g x5.1 B.z) (B.l (B.y .ins x5.2.2.2.1) (B.n 34)) B.F) (B.j aD aF (B.n 4,x5.2.1,x5.2.2.1,()) λx6=>
 B.b (B.e x6.1 B.z) λx7=>
 A.eY [.i,.l .u8,.i,.l .ins] (B.c x7.1 (B.j agW agX (B.y .ins x5.2.2.2.1,x6.2.1,x6.2.2.1,()) λx8=>
 B.C (B.m (A.addN (B.y .ins x5.2.2.2.1) (B.y .ins x8.2.2.1)) (B.n 1073741824))<|
 B.s (.l .ins) (A.app .ins x5.2.2.2.1 x8.2.2.1) λx9=>
 B.L (x5.1,x8.1,x8.2.1,x9.1,()))<|
 B.b (B.e x6.1 B.u) λx8=>
 A.eY [.i,.l .u8,.i,.l .ins] (B.c x8.1 (B.j agY agZ (B.y .ins x5.2.2.2.1,x6.2.1,x6.2.2.1,()) λx9=>
 B.C (B.m (A.addN (B.y .ins x5.2.2.2.1) (B.y .ins x9.2.2.1)) (B.n 1073741824))<|
 B.s (.l .ins) (A.app .ins x5.2.2.2.1 x9.2.2.1) λx10=>
 B.L (x5.1,x9.1,x9.2.1,x10.1,()))<|
 B.j aD aF (B.n 8,x6.2.1,x6.2.2.1,()) λx9=>
 B.i (B.p B.u x9.1) λx10=>
 B.I [.i,.i,.l .u8,.i,.l .ins] (λx11=>
 B.c (B.g x11.2.1 B.z) (B.j Gg Gh (x11.2.2.1,x11.2.2.2.1,()) λx12=>
 B.s (.l .ins) (A.lst .ins [B.x .ins (x12.1,x12.2.1,x12.2.2.1,x12.2.2.2.1,())]) λx13=>
 B.C (B.m (A.addN (B.y .ins x11.q.1) (B.y .ins x13.1)) (B.n 1073741824))<|
 B.s (.l .ins) (A.app .ins x11.q.1 x13.1) λx14=>
 B.i (B.q x11.2.1 B.u) λx15=>
 B.L (x11.1,x15.1,x12.q.1,x12.q.2.1,x14.1,()))<|
 B.R<|B.L (x11.1,x11.2.2.1,x11.2.2.2.1,x11.q.1,())) (x5.1,x10.1,x9.2.1,x9.2.2.1,x5.2.2.2.1,())) λx9=>
 B.L (x9.1,x9.2.1,x9.2.2.1,x9.2.2.2.1,())) λx8=>
 B.i (B.q x8.1 B.u) λx9=>
 B.L (x9.1,x8.2.1,x8.2.2.1,x8.2.2.2.1,()))<|
 B.R<|B.s (.l .ins) (A.lst .ins [B.x .ins (B.z,B.z,B.z,B.z,())]) λx6=>
 B.C (B.m (A.addN (B.y .ins x5.2.2.2.1) (B.y .ins x6.1)) (B.n 1073741824))<|
 B.s (.l .ins) (A.app .ins x5.2.2.2.1 x6.1) λx7=>
 B.j agU agV (x7.1,()) λx8=>
 B.I [.l .u8,.i,.l .i64] (λx9=>
 B.c (B.l (B.y .i64 x9.2.2.1) (B.n 48)) (B.j Rn Ro (x9.1,x9.2.1,()) λx10=>
 B.j Gg Gh (x10.2.1,x10.2.2.1,()) λx11=>
 B.j Gi Gj (B.x .ins (x11.1,x11.2.1,x11.2.2.1,x11.2.2.2.1,()),()) λx12=>
 B.s (.l .i64) (A.lst .i64 [B.x .i64 (B.z,()),B.x .i64 (x10.1,()),B.x .i64 (x12.1,())]) λx13=>
 B.j aD aF (B.n 3,x11.q.1,x11.q.2.1,()) λx14=>
 B.w .i64 x13.1 x14.1<|
 B.w .i64 x13.1 x14.1<|
 B.s (.l .i64) (A.lst .i64 [B.x .i64 (B.f .i64 0 (B.o .i64 x13.1 x14.1),())]) λx15=>
 B.C (B.m (A.addN (B.y .i64 x9.2.2.1) (B.y .i64 x15.1)) (B.n 1073741824))<|
 B.s (.l .i64) (A.app .i64 x9.2.2.1 x15.1) λx16=>
 B.L (x14.2.1,x14.2.2.1,x16.1,()))<|
 B.R<|B.C (B.m B.z B.z)<|
 B.C (B.m B.z (B.n 48))<|
 B.C (B.m (B.n 48) (B.y .i64 x9.2.2.1))<|
 B.j aD aF (B.n 4,x9.1,x9.2.1,()) λx10=>
 B.i x10.1 λx11=>
 B.C (B.e B.z B.z)<|
 B.C (B.m B.z (A.lJ (B.n 48) B.z))<|
 B.C (B.m (A.lJ (B.n 48) B.z) (B.y .i64 x9.2.2.1))<|
 B.I [.i,.l .u8,.i,.l .i64] (λx12=>
 B.c (B.g x12.1 B.z) (B.j Bj Bl (x12.2.1,x12.2.2.1,()) λx13=>
 B.j Gi Gj (B.x .ins (x13.1,x13.2.1,x13.2.2.1,x13.2.2.2.1,()),()) λx14=>
 B.s (.l .i64) (A.lst .i64 [B.x .i64 (x14.1,())]) λx15=>
 B.C (B.m (A.addN (B.y .i64 x12.2.2.2.1) (B.y .i64 x15.1)) (B.n 1073741824))<|
 B.s (.l .i64) (A.app .i64 x12.2.2.2.1 x15.1) λx16=>
 B.i (B.q x12.1 B.u) λx17=>
 B.L (x17.1,x13.q.1,x13.q.2.1,x16.1,()))<|
 B.R<|B.j Gi Gj (B.x .ins (B.n 14,B.n 3,B.z,B.z,()),()) λx13=>
 B.j Gi Gj (B.x .ins (B.z,B.z,B.z,B.u,()),()) λx14=>
 B.s (.l .i64) (A.lst .i64 [B.x .i64 (x13.1,()),B.x .i64 (x14.1,())]) λx15=>
 B.C (B.m (A.addN (B.y .i64 x12.2.2.2.1) (B.y .i64 x15.1)) (B.n 1073741824))<|
 B.s (.l .i64) (A.app .i64 x12.2.2.2.1 x15.1) λx16=>
 B.j mW mX (B.n 9,x12.2.1,x12.2.2.1,()) λx17=>
 A.bind [.l .u8,.i,.l .i64] (B.c x17.1 (B.j aD aF (B.y .i64 x16.1,x17.2.1,x17.2.2.1,()) λx18=>
 B.j Rn Ro (x18.2.1,x18.2.2.1,()) λx19=>
 B.w .i64 x16.1 x18.1<|
 B.w .i64 x16.1 x18.1<|
 B.i x19.1 λx20=>
 B.r (x19.2.1,x19.2.2.1,A.set .i64 x16.1 x18.1 (B.x .i64 (x20.1,())),()))<|
 B.r (x17.2.1,x17.2.2.1,x16.1,())) λx18=>
 B.r (x18.1,x18.2.1,x18.2.2.1,())) (x11.1,x10.2.1,x10.2.2.1,A.sub .i64 x9.2.2.1 B.z (A.lJ (B.n 48) B.z),())) (x5.2.1,x5.2.2.1,x8.1,())) (x4.1,x3.2.1,x3.2.2.1,x2.2.2.1,())
def Wn (Rn:Pt A AY) (Ro:Ft A AY) (x:Tup A.ah [.i,.l .u8,.i]):Ot A Ko:=
 B.s (.l .i64) (A.lst .i64 []) λx0=>
 B.i B.z λx1=>
 B.I [.i,.i,.l .u8,.i,.l .i64] (λx2=>
 B.c (B.l x2.2.1 x2.1) (B.j Rn Ro (x2.2.2.1,x2.2.2.2.1,()) λx3=>
 B.s (.l .i64) (A.lst .i64 [B.x .i64 (x3.1,())]) λx4=>
 B.C (B.m (A.addN (B.y .i64 x2.q.1) (B.y .i64 x4.1)) (B.n 1073741824))<|
 B.s (.l .i64) (A.app .i64 x2.q.1 x4.1) λx5=>
 B.i (B.p x2.2.1 B.u) λx6=>
 B.L (x2.1,x6.1,x3.2.1,x3.2.2.1,x5.1,()))<|
 B.R<|B.r (x2.2.2.1,x2.2.2.2.1,x2.q.1,())) (x.1,x1.1,x.2.1,x.2.2.1,x0.1,())
def Wp (mY:Pt A iP) (mZ:Ft A iP) (fE:Pt A fD) (fF:Ft A fD) (Ef:Pt A AV) (Eh:Ft A AV) (x:Tup A.ah [.x .aC]):Ot A sD:=
 B.b B.F λx0=>
 B.k (B.e (B.y .i64 (B.D .aC 0 .i64 x.1)) (B.n 4)) Ef Eh (B.D .aC 0 .i64 x.1,()) λx1=>
 B.k (B.a (B.e (B.y .i64 (B.D .aC 0 .i64 x.1)) (B.n 4)) x1.1 B.F) mY mZ (B.f .aC 1 x.1,()) λx2=>
 B.k (B.a (B.a (B.a (B.e (B.y .i64 (B.D .aC 0 .i64 x.1)) (B.n 4)) x1.1 B.F) x2.1 B.F) (B.e (B.y .i64 (B.D .aC 2 .i64 x.1)) (B.n 64)) B.F) Ef Eh (B.D .aC 2 .i64 x.1,()) λx3=>
 B.k (B.a (B.a (B.a (B.a (B.e (B.y .i64 (B.D .aC 0 .i64 x.1)) (B.n 4)) x1.1 B.F) x2.1 B.F) (B.e (B.y .i64 (B.D .aC 2 .i64 x.1)) (B.n 64)) B.F) x3.1 B.F) mY mZ (B.f .aC 3 x.1,()) λx4=>
 B.k (B.a (B.a (B.a (B.a (B.a (B.e (B.y .i64 (B.D .aC 0 .i64 x.1)) (B.n 4)) x1.1 B.F) x2.1 B.F) (B.e (B.y .i64 (B.D .aC 2 .i64 x.1)) (B.n 64)) B.F) x3.1 B.F) x4.1 B.F) fE fF (B.f .aC 6 x.1,B.z,B.n 4,()) λx5=>
 B.k (B.a (B.a (B.a (B.a (B.a (B.a (B.e (B.y .i64 (B.D .aC 0 .i64 x.1)) (B.n 4)) x1.1 B.F) x2.1 B.F) (B.e (B.y .i64 (B.D .aC 2 .i64 x.1)) (B.n 64)) B.F) x3.1 B.F) x4.1 B.F) x5.1 B.F) Ef Eh (B.D .aC 7 .i64 x.1,()) λx6=>
 B.k (B.a (B.a (B.a (B.a (B.a (B.a (B.a (B.e (B.y .i64 (B.D .aC 0 .i64 x.1)) (B.n 4)) x1.1 B.F) x2.1 B.F) (B.e (B.y .i64 (B.D .aC 2 .i64 x.1)) (B.n 64)) B.F) x3.1 B.F) x4.1 B.F) x5.1 B.F) x6.1 B.F) Ef Eh (B.D .aC 8 .i64 x.1,()) λx7=>
 B.k (B.a (B.a (B.a (B.a (B.a (B.a (B.a (B.a (B.e (B.y .i64 (B.D .aC 0 .i64 x.1)) (B.n 4)) x1.1 B.F) x2.1 B.F) (B.e (B.y .i64 (B.D .aC 2 .i64 x.1)) (B.n 64)) B.F) x3.1 B.F) x4.1 B.F) x5.1 B.F) x6.1 B.F) x7.1 B.F) fE fF (B.f .aC 9 x.1,B.z,B.n 1000000,()) λx8=>
 B.v (B.a (B.a (B.a (B.a (B.a (B.a (B.a (B.a (B.a (B.e (B.y .i64 (B.D .aC 0 .i64 x.1)) (B.n 4)) x1.1 B.F) x2.1 B.F) (B.e (B.y .i64 (B.D .aC 2 .i64 x.1)) (B.n 64)) B.F) x3.1 B.F) x4.1 B.F) x5.1 B.F) x6.1 B.F) x7.1 B.F) x8.1 B.F)
def O6 (x:Tup A.ah [.x .aC]):Ot A sF:=
 B.s (.x .aC) x.1 λx0=>
 B.s (.l .i64) (A.lst .i64 []) λx1=>
 B.C (B.m (A.addN (B.y .i64 x1.1) (B.y .i64 (B.D .aC 0 .i64 x.1))) (B.n 1073741824))<|
 B.s (.l .i64) (A.app .i64 x1.1 (B.D .aC 0 .i64 x.1)) λx2=>
 B.s (.l .i64) (A.lst .i64 []) λx3=>
 B.C (B.m (A.addN (B.y .i64 x3.1) (B.y .i64 (B.D .aC 2 .i64 x.1))) (B.n 1073741824))<|
 B.s (.l .i64) (A.app .i64 x3.1 (B.D .aC 2 .i64 x.1)) λx4=>
 B.s (.l .i64) (A.lst .i64 []) λx5=>
 B.C (B.m (A.addN (B.y .i64 x5.1) (B.y .i64 (B.D .aC 7 .i64 x.1))) (B.n 1073741824))<|
 B.s (.l .i64) (A.app .i64 x5.1 (B.D .aC 7 .i64 x.1)) λx6=>
 B.s (.l .i64) (A.lst .i64 []) λx7=>
 B.C (B.m (A.addN (B.y .i64 x7.1) (B.y .i64 (B.D .aC 8 .i64 x.1))) (B.n 1073741824))<|
 B.s (.l .i64) (A.app .i64 x7.1 (B.D .aC 8 .i64 x.1)) λx8=>
 B.r (B.f .aC 1 x0.1,B.f .aC 3 x0.1,A.fB .aC 4 x0.1,A.fB .aC 5 x0.1,B.f .aC 6 x0.1,B.f .aC 9 x0.1,x2.1,x4.1,x6.1,x8.1,())
def O7 (x:Tup A.ah [.i,.i,.b,.b,.i,.l .i64,.i,.b,.l .i64,.l .i64,.l .i64]):Ot A DV:=
 B.b (B.a x.2.2.2.1 B.T x.q.2.2.2.1) λx0=>
 A.bind [.l .i64,.l .i64,.l .i64,.i,.i,.b,.b,.i,.l .i64,.i,.i,.i,.b,.b,.i,.i] (B.c (B.a x0.1 x.2.2.1 B.F) (B.b B.F λx1=>
 B.b B.F λx2=>
 B.i x.1 λx3=>
 B.i (B.n 48) λx4=>
 B.r (x.o.1,x.o.2.1,x.o.2.2.1,x4.1,x3.1,x2.1,x1.1,x.q.1,x.q.2.1,x.q.2.2.1,B.z,B.z,B.F,B.F,B.z,B.z,()))<|
 B.r (x.o.1,x.o.2.1,x.o.2.2.1,x.1,x.2.1,x.2.2.1,x0.1,x.q.1,x.q.2.1,x.q.2.2.1,B.z,B.z,B.F,B.F,B.z,B.z,())) λx1=>
 B.r (x1.2.2.2.1,x1.q.1,x1.q.2.1,x1.q.2.2.1,x1.q.2.2.2.1,x1.o.1,x1.o.2.1,x1.1,x1.2.1,x1.2.2.1,())
def O8 (x:Tup A.ah [.i,.i,.b,.b,.i,.l .i64,.i,.i,.l .i64,.l .i64,.l .i64]):Ot A lT:=
 B.i x.q.2.2.2.1 λx0=>
 B.r (x.1,x.2.1,x.2.2.1,x.2.2.2.1,x0.1,x.q.2.1,x.q.2.2.1,x.o.1,x.o.2.1,x.o.2.2.1,())
def Wq (Eb:Pt A mP) (Ec:Ft A mP) (mY:Pt A iP) (mZ:Ft A iP) (x:Tup A.ah [.i]):Ot A Kq:=
 B.b B.F λx0=>
 B.j mY mZ (x.1,()) λx1=>
 B.c (B.N x1.1) (B.b B.F λx2=>
 B.r (B.z,B.z,B.z,B.z,x2.1,()))<|
 B.C (B.d (B.n 4096) B.z)<|
 B.C (B.d (B.n 1024) B.z)<|
 B.C (B.d (B.n 4) B.z)<|
 B.C (B.d (B.n 256) B.z)<|
 B.C (B.d (B.n 4) B.z)<|
 B.C (B.d (B.n 256) B.z)<|
 B.j Eb Ec (B.x .ins (A.arith .quo .i64 x.1 (B.n 4096),A.arith .rem .i64 (A.arith .quo .i64 x.1 (B.n 1024)) (B.n 4),A.arith .rem .i64 (A.arith .quo .i64 x.1 (B.n 256)) (B.n 4),A.arith .rem .i64 x.1 (B.n 256),()),()) λx2=>
 B.c (B.N x2.1) (B.b B.F λx3=>
 B.r (B.z,B.z,B.z,B.z,x3.1,()))<|
 B.b B.T λx3=>
 B.r (A.arith .quo .i64 x.1 (B.n 4096),A.arith .rem .i64 (A.arith .quo .i64 x.1 (B.n 1024)) (B.n 4),A.arith .rem .i64 (A.arith .quo .i64 x.1 (B.n 256)) (B.n 4),A.arith .rem .i64 x.1 (B.n 256),x3.1,())
def Ws (x:Tup A.ah [.i]):Ot A mU:=
 B.i B.z λx0=>
 B.C (B.d (B.n 65536) B.z)<|
 B.i (A.arith .rem .i64 x.1 (B.n 65536)) λx1=>
 A.bind [.i] (B.c (B.l x1.1 B.z) (B.i (B.p x1.1 (B.n 65536)) λx2=>
 B.r (x2.1,()))<|
 B.r (x1.1,())) λx2=>
 B.i x2.1 λx3=>
 B.r (x3.1,())
def Wt (yD:Pt A mU) (yE:Ft A mU) (mY:Pt A iP) (mZ:Ft A iP) (x:Tup A.ah [.i,.i,.i]):Ot A AZ:=
 B.i B.z λx0=>
 B.j mY mZ (x.2.1,()) λx1=>
 B.k (B.N (B.N x1.1)) mY mZ (x.2.2.1,()) λx2=>
 B.c (B.a (B.N x1.1) B.T (B.N x2.1)) (B.i B.z λx3=>
 B.r (x3.1,()))<|
 B.b (B.e x.1 B.u) λx3=>
 B.c x3.1 (B.j yD yE (B.p x.2.1 x.2.2.1,()) λx4=>
 B.i x4.1 λx5=>
 B.r (x5.1,()))<|
 B.b (B.e x.1 (B.n 2)) λx4=>
 B.c x4.1 (B.j yD yE (B.q x.2.1 x.2.2.1,()) λx5=>
 B.i x5.1 λx6=>
 B.r (x6.1,()))<|
 B.b (B.e x.1 (B.n 3)) λx5=>
 B.c x5.1 (B.j yD yE (B.t x.2.1 x.2.2.1,()) λx6=>
 B.i x6.1 λx7=>
 B.r (x7.1,()))<|
 B.b (B.e x.1 (B.n 4)) λx6=>
 B.c x6.1 (B.i (A.arith .and .i64 x.2.1 x.2.2.1) λx7=>
 B.r (x7.1,()))<|
 B.b (B.e x.1 (B.n 5)) λx7=>
 B.c x7.1 (B.i (A.arith .xor .i64 x.2.1 x.2.2.1) λx8=>
 B.r (x8.1,()))<|
 B.i B.z λx8=>
 B.r (x8.1,())
def O9 (yD:Pt A mU) (yE:Ft A mU) (x:Tup A.ah [.i,.i,.b,.b,.i,.l .i64,.i,.i,.l .i64,.l .i64,.l .i64]):Ot A gJ:=
 B.j yD yE (x.q.2.2.2.1,()) λx0=>
 B.i x0.1 λx1=>
 B.i (B.p x.q.2.2.1 B.u) λx2=>
 B.r (x1.1,x.2.1,x.2.2.1,x.2.2.2.1,x.q.1,x.q.2.1,x2.1,x.o.1,x.o.2.1,x.o.2.2.1,())
def Pb (zV:Pt A lT) (zW:Ft A lT) (jl:Pt A gJ) (jm:Ft A gJ) (x:Tup A.ah [.i,.i,.b,.b,.i,.l .i64,.i,.i,.l .i64,.l .i64,.l .i64]):Ot A DW:=
 B.b (B.e x.q.2.2.2.1 B.u) λx0=>
 B.c x0.1 (B.b B.T λx1=>
 B.j jl jm (x.1,x.2.1,x1.1,x.2.2.2.1,x.q.1,x.q.2.1,x.q.2.2.1,x.2.1,x.o.1,x.o.2.1,x.o.2.2.1,()) λx2=>
 B.r (x2.1,x2.2.1,x2.2.2.1,x2.2.2.2.1,x2.q.1,x2.q.2.1,x2.q.2.2.1,x2.q.2.2.2.1,x2.o.1,x2.o.2.1,()))<|
 B.b (B.e x.q.2.2.2.1 (B.n 2)) λx1=>
 A.bind [.l .i64,.l .i64,.l .i64,.i,.i,.b,.b,.i,.l .i64,.i,.i,.i,.b,.b,.i,.i] (B.c x1.1 (B.b B.T λx2=>
 B.r (x.o.1,x.o.2.1,x.o.2.2.1,x.1,x.2.1,x2.1,x.2.2.2.1,x.q.1,x.q.2.1,x.q.2.2.1,B.z,B.z,B.F,B.F,B.z,B.z,()))<|
 B.b (B.e x.q.2.2.2.1 (B.n 3)) λx2=>
 A.bind [.l .i64,.l .i64,.l .i64,.i,.i,.b,.b,.i,.l .i64,.i,.i,.i,.b,.b,.i,.i] (B.c x2.1 (B.b B.F λx3=>
 B.r (x.o.1,x.o.2.1,x.o.2.2.1,x.1,x.2.1,x3.1,x.2.2.2.1,x.q.1,x.q.2.1,x.q.2.2.1,B.z,B.z,B.F,B.F,B.z,B.z,()))<|
 B.j zV zW (x.1,x.2.1,x.2.2.1,x.2.2.2.1,x.q.1,x.q.2.1,x.q.2.2.1,B.u,x.o.1,x.o.2.1,x.o.2.2.1,()) λx3=>
 B.r (x3.q.2.2.2.1,x3.o.1,x3.o.2.1,x3.1,x3.2.1,x3.2.2.1,x3.2.2.2.1,x3.q.1,x3.q.2.1,x3.q.2.2.1,B.z,B.z,B.F,B.F,B.z,B.z,())) λx3=>
 B.r (x3.1,x3.2.1,x3.2.2.1,x3.2.2.2.1,x3.q.1,x3.q.2.1,x3.q.2.2.1,x3.q.2.2.2.1,x3.o.1,x3.o.2.1,x3.o.2.2.1,x3.o.2.2.2.1,x3.o.q.1,x3.o.q.2.1,x3.o.q.2.2.1,x3.o.q.2.2.2.1,())) λx2=>
 B.j jl jm (x2.2.2.2.1,x2.q.1,x2.q.2.1,x2.q.2.2.1,x2.q.2.2.2.1,x2.o.1,x2.o.2.1,B.p x2.2.2.2.1 B.u,x2.1,x2.2.1,x2.2.2.1,()) λx3=>
 B.r (x3.1,x3.2.1,x3.2.2.1,x3.2.2.2.1,x3.q.1,x3.q.2.1,x3.q.2.2.1,x3.q.2.2.2.1,x3.o.1,x3.o.2.1,())
def Pf (jl:Pt A gJ) (jm:Ft A gJ) (x:Tup A.ah [.i,.i,.b,.b,.i,.l .i64,.i,.i,.i,.l .i64,.l .i64,.l .i64]):Ot A lU:=
 B.w .i64 x.o.2.1 x.q.2.2.2.1<|
 B.w .i64 x.o.2.1 x.q.2.2.2.1<|
 B.i x.o.1 λx0=>
 B.j jl jm (x.1,x.2.1,x.2.2.1,x.2.2.2.1,x.q.1,x.q.2.1,x.q.2.2.1,B.p x.1 B.u,A.set .i64 x.o.2.1 x.q.2.2.2.1 (B.x .i64 (x0.1,())),x.o.2.2.1,x.o.2.2.2.1,()) λx1=>
 B.r (x1.1,x1.2.1,x1.2.2.1,x1.2.2.2.1,x1.q.1,x1.q.2.1,x1.q.2.2.1,x1.q.2.2.2.1,x1.o.1,x1.o.2.1,())
def Pg (yD:Pt A mU) (yE:Ft A mU) (x:Tup A.ah [.i,.i]):Ot A DX:=
 B.i B.z λx0=>
 B.i x.1 λx1=>
 B.i B.z λx2=>
 B.I [.i,.i,.i] (λx3=>
 B.c (B.l x3.2.2.1 x3.1) (B.j yD yE (B.p x3.2.1 x3.2.1,()) λx4=>
 B.i x4.1 λx5=>
 B.i (B.p x3.2.2.1 B.u) λx6=>
 B.L (x3.1,x5.1,x6.1,()))<|
 B.R<|B.i x3.2.1 λx4=>
 B.r (x4.1,())) (x.2.1,x1.1,x2.1,())
def Ph (yD:Pt A mU) (yE:Ft A mU) (zV:Pt A lT) (zW:Ft A lT) (jl:Pt A gJ) (jm:Ft A gJ) (sH:Pt A lU) (sI:Ft A lU) (x:Tup A.ah [.i,.i,.b,.b,.i,.l .i64,.i,.x .ins,.l .i64,.l .i64,.l .i64]):Ot A DY:=
 B.w .i64 x.o.1 (B.f .ins 2 x.q.2.2.2.1)<|
 B.w .i64 x.o.1 (B.f .ins 2 x.q.2.2.2.1)<|
 B.j yD yE (B.p (B.f .i64 0 (B.o .i64 x.o.1 (B.f .ins 2 x.q.2.2.2.1))) (B.f .ins 3 x.q.2.2.2.1),()) λx0=>
 B.i x0.1 λx1=>
 B.c (B.h x1.1 (B.n 64)) (B.j zV zW (x.1,x.2.1,x.2.2.1,x.2.2.2.1,x.q.1,x.q.2.1,x.q.2.2.1,B.n 3,x.o.1,x.o.2.1,x.o.2.2.1,()) λx2=>
 B.r (x2.1,x2.2.1,x2.2.2.1,x2.2.2.2.1,x2.q.1,x2.q.2.1,x2.q.2.2.1,x2.q.2.2.2.1,x2.o.1,x2.o.2.1,()))<|
 B.c (B.e (B.f .ins 0 x.q.2.2.2.1) (B.n 9)) (B.w .i64 x.o.2.1 x1.1<|
 B.w .i64 x.o.2.1 x1.1<|
 B.j sH sI (x.1,x.2.1,x.2.2.1,x.2.2.2.1,x.q.1,x.q.2.1,x.q.2.2.1,B.f .ins 1 x.q.2.2.2.1,B.f .i64 0 (B.o .i64 x.o.2.1 x1.1),x.o.1,x.o.2.1,x.o.2.2.1,()) λx2=>
 B.r (x2.1,x2.2.1,x2.2.2.1,x2.2.2.2.1,x2.q.1,x2.q.2.1,x2.q.2.2.1,x2.q.2.2.2.1,x2.o.1,x2.o.2.1,()))<|
 B.w .i64 x.o.1 (B.f .ins 1 x.q.2.2.2.1)<|
 B.w .i64 x.o.1 (B.f .ins 1 x.q.2.2.2.1)<|
 B.w .i64 x.o.2.1 x1.1<|
 B.w .i64 x.o.2.1 x1.1<|
 B.i (B.f .i64 0 (B.o .i64 x.o.1 (B.f .ins 1 x.q.2.2.2.1))) λx2=>
 B.j jl jm (x.1,x.2.1,x.2.2.1,x.2.2.2.1,x.q.1,x.q.2.1,x.q.2.2.1,B.p x.1 B.u,x.o.1,A.set .i64 x.o.2.1 x1.1 (B.x .i64 (x2.1,())),x.o.2.2.1,()) λx3=>
 B.r (x3.1,x3.2.1,x3.2.2.1,x3.2.2.2.1,x3.q.1,x3.q.2.1,x3.q.2.2.1,x3.q.2.2.2.1,x3.o.1,x3.o.2.1,())
def Pj (jl:Pt A gJ) (jm:Ft A gJ) (sH:Pt A lU) (sI:Ft A lU) (x:Tup A.ah [.i,.i,.b,.b,.i,.l .i64,.i,.x .ins,.l .i64,.l .i64,.l .i64]):Ot A DZ:=
 B.c (B.e (B.f .ins 0 x.q.2.2.2.1) (B.n 14)) (B.w .i64 x.o.1 (B.f .ins 1 x.q.2.2.2.1)<|
 B.w .i64 x.o.1 (B.f .ins 1 x.q.2.2.2.1)<|
 B.C (B.m (A.addN (B.y .i64 x.o.2.2.1) (B.y .i64 (A.lst .i64 [B.x .i64 (B.f .i64 0 (B.o .i64 x.o.1 (B.f .ins 1 x.q.2.2.2.1)),())]))) (B.n 1073741824))<|
 B.s (.l .i64) (A.app .i64 x.o.2.2.1 (A.lst .i64 [B.x .i64 (B.f .i64 0 (B.o .i64 x.o.1 (B.f .ins 1 x.q.2.2.2.1)),())])) λx0=>
 B.j jl jm (x.1,x.2.1,x.2.2.1,x.2.2.2.1,x.q.1,x.q.2.1,x.q.2.2.1,B.p x.1 B.u,x.o.1,x.o.2.1,x0.1,()) λx1=>
 B.r (x1.1,x1.2.1,x1.2.2.1,x1.2.2.2.1,x1.q.1,x1.q.2.1,x1.q.2.2.1,x1.q.2.2.2.1,x1.o.1,x1.o.2.1,()))<|
 B.i B.z λx0=>
 A.bind [.i,.l .i64,.l .i64,.l .i64,.i,.i,.b,.b,.i,.l .i64,.i,.x .ins,.i,.i,.b,.b,.i,.i] (B.c (B.g (B.y .i64 x.q.2.1) B.z) (B.w .i64 x.q.2.1 B.z<|
 B.i (B.f .i64 0 (B.o .i64 x.q.2.1 B.z)) λx1=>
 B.C (B.m B.z B.u)<|
 B.C (B.m B.u (B.y .i64 x.q.2.1))<|
 B.C (B.m (B.y .i64 x.q.2.1) (B.y .i64 x.q.2.1))<|
 B.s (.l .i64) (A.sub .i64 x.q.2.1 B.u (B.y .i64 x.q.2.1)) λx2=>
 B.r (x1.1,x.o.1,x.o.2.1,x.o.2.2.1,x.1,x.2.1,x.2.2.1,x.2.2.2.1,x.q.1,x2.1,x.q.2.2.1,x.q.2.2.2.1,B.z,B.z,B.F,B.F,B.z,B.z,()))<|
 B.r (x0.1,x.o.1,x.o.2.1,x.o.2.2.1,x.1,x.2.1,x.2.2.1,x.2.2.2.1,x.q.1,x.q.2.1,x.q.2.2.1,x.q.2.2.2.1,B.z,B.z,B.F,B.F,B.z,B.z,())) λx1=>
 B.j sH sI (x1.q.1,x1.q.2.1,x1.q.2.2.1,x1.q.2.2.2.1,x1.o.1,x1.o.2.1,x1.o.2.2.1,B.f .ins 1 x1.o.2.2.2.1,x1.1,x1.2.1,x1.2.2.1,x1.2.2.2.1,()) λx2=>
 B.r (x2.1,x2.2.1,x2.2.2.1,x2.2.2.2.1,x2.q.1,x2.q.2.1,x2.q.2.2.1,x2.q.2.2.2.1,x2.o.1,x2.o.2.1,())
def Pm (Wu:Pt A AZ) (Wv:Ft A AZ) (jl:Pt A gJ) (jm:Ft A gJ) (adH:Pt A DZ) (adI:Ft A DZ) (adJ:Pt A DY) (adK:Ft A DY) (sH:Pt A lU) (sI:Ft A lU) (adL:Pt A DX) (adM:Ft A DX) (adN:Pt A DW) (adO:Ft A DW) (x:Tup A.ah [.i,.i,.b,.b,.i,.l .i64,.i,.x .ins,.l .i64,.l .i64,.l .i64]):Ot A D5:=
 B.w .i64 x.o.1 (B.f .ins 2 x.q.2.2.2.1)<|
 B.w .i64 x.o.1 (B.f .ins 2 x.q.2.2.2.1)<|
 B.i (B.f .i64 0 (B.o .i64 x.o.1 (B.f .ins 2 x.q.2.2.2.1))) λx0=>
 B.b (B.e (B.f .ins 0 x.q.2.2.2.1) B.z) λx1=>
 B.c x1.1 (B.j adN adO (x.1,x.2.1,x.2.2.1,x.2.2.2.1,x.q.1,x.q.2.1,x.q.2.2.1,B.f .ins 3 x.q.2.2.2.1,x.o.1,x.o.2.1,x.o.2.2.1,()) λx2=>
 B.r (x2.1,x2.2.1,x2.2.2.1,x2.2.2.2.1,x2.q.1,x2.q.2.1,x2.q.2.2.1,x2.q.2.2.2.1,x2.o.1,x2.o.2.1,()))<|
 B.b (B.e (B.f .ins 0 x.q.2.2.2.1) B.u) λx2=>
 B.c x2.1 (B.j sH sI (x.1,x.2.1,x.2.2.1,x.2.2.2.1,x.q.1,x.q.2.1,x.q.2.2.1,B.f .ins 1 x.q.2.2.2.1,B.f .ins 3 x.q.2.2.2.1,x.o.1,x.o.2.1,x.o.2.2.1,()) λx3=>
 B.r (x3.1,x3.2.1,x3.2.2.1,x3.2.2.2.1,x3.q.1,x3.q.2.1,x3.q.2.2.1,x3.q.2.2.2.1,x3.o.1,x3.o.2.1,()))<|
 B.b (B.e (B.f .ins 0 x.q.2.2.2.1) (B.n 2)) λx3=>
 B.c x3.1 (B.j sH sI (x.1,x.2.1,x.2.2.1,x.2.2.2.1,x.q.1,x.q.2.1,x.q.2.2.1,B.f .ins 1 x.q.2.2.2.1,x0.1,x.o.1,x.o.2.1,x.o.2.2.1,()) λx4=>
 B.r (x4.1,x4.2.1,x4.2.2.1,x4.2.2.2.1,x4.q.1,x4.q.2.1,x4.q.2.2.1,x4.q.2.2.2.1,x4.o.1,x4.o.2.1,()))<|
 B.b (B.e (B.f .ins 0 x.q.2.2.2.1) (B.n 8)) λx4=>
 B.c x4.1 (B.j adL adM (x0.1,B.f .ins 3 x.q.2.2.2.1,()) λx5=>
 B.j sH sI (x.1,x.2.1,x.2.2.1,x.2.2.2.1,x.q.1,x.q.2.1,x.q.2.2.1,B.f .ins 1 x.q.2.2.2.1,x5.1,x.o.1,x.o.2.1,x.o.2.2.1,()) λx6=>
 B.r (x6.1,x6.2.1,x6.2.2.1,x6.2.2.2.1,x6.q.1,x6.q.2.1,x6.q.2.2.1,x6.q.2.2.2.1,x6.o.1,x6.o.2.1,()))<|
 B.b (B.e (B.f .ins 0 x.q.2.2.2.1) (B.n 9)) λx5=>
 A.bind [.i,.i,.b,.l .i64,.l .i64,.l .i64,.i,.i,.b,.b,.i,.l .i64,.i,.x .ins,.i,.i,.b,.b,.i,.i] (B.c x5.1 (B.r (x0.1,B.f .ins 0 x.q.2.2.2.1,x5.1,x.o.1,x.o.2.1,x.o.2.2.1,x.1,x.2.1,x.2.2.1,x.2.2.2.1,x.q.1,x.q.2.1,x.q.2.2.1,x.q.2.2.2.1,B.z,B.z,B.F,B.F,B.z,B.z,()))<|
 B.b (B.e (B.f .ins 0 x.q.2.2.2.1) (B.n 10)) λx6=>
 B.r (x0.1,B.f .ins 0 x.q.2.2.2.1,x6.1,x.o.1,x.o.2.1,x.o.2.2.1,x.1,x.2.1,x.2.2.1,x.2.2.2.1,x.q.1,x.q.2.1,x.q.2.2.1,x.q.2.2.2.1,B.z,B.z,B.F,B.F,B.z,B.z,())) λx6=>
 B.c x6.2.2.1 (B.j adJ adK (x6.q.2.2.1,x6.q.2.2.2.1,x6.o.1,x6.o.2.1,x6.o.2.2.1,x6.o.2.2.2.1,x6.o.q.1,x6.o.q.2.1,x6.2.2.2.1,x6.q.1,x6.q.2.1,()) λx7=>
 B.r (x7.1,x7.2.1,x7.2.2.1,x7.2.2.2.1,x7.q.1,x7.q.2.1,x7.q.2.2.1,x7.q.2.2.2.1,x7.o.1,x7.o.2.1,()))<|
 B.b (B.e x6.2.1 (B.n 11)) λx7=>
 B.c x7.1 (B.w .i64 x6.2.2.2.1 (B.f .ins 1 x6.o.q.2.1)<|
 B.w .i64 x6.2.2.2.1 (B.f .ins 1 x6.o.q.2.1)<|
 B.c (B.e (B.f .i64 0 (B.o .i64 x6.2.2.2.1 (B.f .ins 1 x6.o.q.2.1))) x6.1) (B.j jl jm (x6.q.2.2.1,x6.q.2.2.2.1,x6.o.1,x6.o.2.1,x6.o.2.2.1,x6.o.2.2.2.1,x6.o.q.1,B.f .ins 3 x6.o.q.2.1,x6.2.2.2.1,x6.q.1,x6.q.2.1,()) λx8=>
 B.r (x8.1,x8.2.1,x8.2.2.1,x8.2.2.2.1,x8.q.1,x8.q.2.1,x8.q.2.2.1,x8.q.2.2.2.1,x8.o.1,x8.o.2.1,()))<|
 B.j jl jm (x6.q.2.2.1,x6.q.2.2.2.1,x6.o.1,x6.o.2.1,x6.o.2.2.1,x6.o.2.2.2.1,x6.o.q.1,B.p x6.q.2.2.1 B.u,x6.2.2.2.1,x6.q.1,x6.q.2.1,()) λx8=>
 B.r (x8.1,x8.2.1,x8.2.2.1,x8.2.2.2.1,x8.q.1,x8.q.2.1,x8.q.2.2.1,x8.q.2.2.2.1,x8.o.1,x8.o.2.1,()))<|
 B.b (B.e x6.2.1 (B.n 12)) λx8=>
 B.c x8.1 (B.w .i64 x6.2.2.2.1 (B.f .ins 1 x6.o.q.2.1)<|
 B.w .i64 x6.2.2.2.1 (B.f .ins 1 x6.o.q.2.1)<|
 B.c (B.l (B.f .i64 0 (B.o .i64 x6.2.2.2.1 (B.f .ins 1 x6.o.q.2.1))) x6.1) (B.j jl jm (x6.q.2.2.1,x6.q.2.2.2.1,x6.o.1,x6.o.2.1,x6.o.2.2.1,x6.o.2.2.2.1,x6.o.q.1,B.f .ins 3 x6.o.q.2.1,x6.2.2.2.1,x6.q.1,x6.q.2.1,()) λx9=>
 B.r (x9.1,x9.2.1,x9.2.2.1,x9.2.2.2.1,x9.q.1,x9.q.2.1,x9.q.2.2.1,x9.q.2.2.2.1,x9.o.1,x9.o.2.1,()))<|
 B.j jl jm (x6.q.2.2.1,x6.q.2.2.2.1,x6.o.1,x6.o.2.1,x6.o.2.2.1,x6.o.2.2.2.1,x6.o.q.1,B.p x6.q.2.2.1 B.u,x6.2.2.2.1,x6.q.1,x6.q.2.1,()) λx9=>
 B.r (x9.1,x9.2.1,x9.2.2.1,x9.2.2.2.1,x9.q.1,x9.q.2.1,x9.q.2.2.1,x9.q.2.2.2.1,x9.o.1,x9.o.2.1,()))<|
 B.b (B.e x6.2.1 (B.n 13)) λx9=>
 B.c x9.1 (B.j jl jm (x6.q.2.2.1,x6.q.2.2.2.1,x6.o.1,x6.o.2.1,x6.o.2.2.1,x6.o.2.2.2.1,x6.o.q.1,x6.1,x6.2.2.2.1,x6.q.1,x6.q.2.1,()) λx10=>
 B.r (x10.1,x10.2.1,x10.2.2.1,x10.2.2.2.1,x10.q.1,x10.q.2.1,x10.q.2.2.1,x10.q.2.2.2.1,x10.o.1,x10.o.2.1,()))<|
 B.b (B.e x6.2.1 (B.n 14)) λx10=>
 A.bind [.i,.b,.l .i64,.l .i64,.l .i64,.i,.i,.b,.b,.i,.l .i64,.i,.x .ins,.i,.i,.b,.b,.i,.i] (B.c x10.1 (B.r (x6.1,x10.1,x6.2.2.2.1,x6.q.1,x6.q.2.1,x6.q.2.2.1,x6.q.2.2.2.1,x6.o.1,x6.o.2.1,x6.o.2.2.1,x6.o.2.2.2.1,x6.o.q.1,x6.o.q.2.1,x6.o.q.2.2.1,x6.o.q.2.2.2.1,x6.o.o.1,x6.o.o.2.1,x6.o.o.2.2.1,x6.o.o.2.2.2.1,()))<|
 B.b (B.e x6.2.1 (B.n 15)) λx11=>
 B.r (x6.1,x11.1,x6.2.2.2.1,x6.q.1,x6.q.2.1,x6.q.2.2.1,x6.q.2.2.2.1,x6.o.1,x6.o.2.1,x6.o.2.2.1,x6.o.2.2.2.1,x6.o.q.1,x6.o.q.2.1,x6.o.q.2.2.1,x6.o.q.2.2.2.1,x6.o.o.1,x6.o.o.2.1,x6.o.o.2.2.1,x6.o.o.2.2.2.1,())) λx11=>
 B.c x11.2.1 (B.j adH adI (x11.q.2.1,x11.q.2.2.1,x11.q.2.2.2.1,x11.o.1,x11.o.2.1,x11.o.2.2.1,x11.o.2.2.2.1,x11.o.q.1,x11.2.2.1,x11.2.2.2.1,x11.q.1,()) λx12=>
 B.r (x12.1,x12.2.1,x12.2.2.1,x12.2.2.2.1,x12.q.1,x12.q.2.1,x12.q.2.2.1,x12.q.2.2.2.1,x12.o.1,x12.o.2.1,()))<|
 B.w .i64 x11.2.2.1 (B.f .ins 3 x11.o.q.1)<|
 B.w .i64 x11.2.2.1 (B.f .ins 3 x11.o.q.1)<|
 B.j Wu Wv (B.p (B.q (B.f .ins 0 x11.o.q.1) (B.n 3)) B.u,x11.1,B.f .i64 0 (B.o .i64 x11.2.2.1 (B.f .ins 3 x11.o.q.1)),()) λx12=>
 B.j sH sI (x11.q.2.1,x11.q.2.2.1,x11.q.2.2.2.1,x11.o.1,x11.o.2.1,x11.o.2.2.1,x11.o.2.2.2.1,B.f .ins 1 x11.o.q.1,x12.1,x11.2.2.1,x11.2.2.2.1,x11.q.1,()) λx13=>
 B.r (x13.1,x13.2.1,x13.2.2.1,x13.2.2.2.1,x13.q.1,x13.q.2.1,x13.q.2.2.1,x13.q.2.2.2.1,x13.o.1,x13.o.2.1,())
def Ww (ag0:Pt A Kq) (ag1:Ft A Kq) (Li:Pt A sD) (Lj:Ft A sD) (Pn:Pt A sF) (Po:Ft A sF) (adP:Pt A D5) (adQ:Ft A D5) (zV:Pt A lT) (zW:Ft A lT) (adR:Pt A DV) (adS:Ft A DV) (x:Tup A.ah [.x .aC,.b]):Ot A Kr:=
 B.j Li Lj (x.1,()) λx0=>
 B.c (B.N x0.1) (B.r (B.z,B.z,B.F,B.F,B.z,A.je .i64,B.z,A.je .i64,A.je .i64,A.je .i64,()))<|
 B.j Pn Po (x.1,()) λx1=>
 B.c (B.a (B.d (B.f .aC 6 x.1) B.z) B.T (B.e (B.f .aC 9 x.1) (B.n 1000000))) (B.r (x1.1,x1.2.1,x1.2.2.1,x1.2.2.2.1,x1.q.1,x1.o.1,x1.q.2.1,x1.q.2.2.1,x1.q.2.2.2.1,x1.o.2.1,()))<|
 B.j adR adS (x1.1,x1.2.1,x1.2.2.1,x1.2.2.2.1,x1.q.1,x1.o.1,x1.q.2.1,x.2.1,x1.q.2.2.1,x1.q.2.2.2.1,x1.o.2.1,()) λx2=>
 B.c (B.h x2.1 (B.n 64)) (B.j zV zW (x2.1,x2.2.1,x2.2.2.1,x2.2.2.2.1,x2.q.1,x2.q.2.1,x2.q.2.2.1,B.n 4,x2.q.2.2.2.1,x2.o.1,x2.o.2.1,()) λx3=>
 B.r (x3.1,x3.2.1,x3.2.2.1,x3.2.2.2.1,x3.q.1,x3.q.2.1,x3.q.2.2.1,x3.q.2.2.2.1,x3.o.1,x3.o.2.1,()))<|
 B.w .i64 x2.o.1 x2.1<|
 B.w .i64 x2.o.1 x2.1<|
 B.j ag0 ag1 (B.f .i64 0 (B.o .i64 x2.o.1 x2.1),()) λx3=>
 B.b x3.q.1 λx4=>
 B.c (B.N x4.1) (B.j zV zW (x2.1,x2.2.1,x2.2.2.1,x2.2.2.2.1,x2.q.1,x2.q.2.1,x2.q.2.2.1,B.n 2,x2.q.2.2.2.1,x2.o.1,x2.o.2.1,()) λx5=>
 B.r (x5.1,x5.2.1,x5.2.2.1,x5.2.2.2.1,x5.q.1,x5.q.2.1,x5.q.2.2.1,x5.q.2.2.2.1,x5.o.1,x5.o.2.1,()))<|
 B.j adP adQ (x2.1,x2.2.1,x2.2.2.1,x2.2.2.2.1,x2.q.1,x2.q.2.1,x2.q.2.2.1,B.x .ins (x3.1,x3.2.1,x3.2.2.1,x3.2.2.2.1,()),x2.q.2.2.2.1,x2.o.1,x2.o.2.1,()) λx5=>
 B.r (x5.1,x5.2.1,x5.2.2.1,x5.2.2.2.1,x5.q.1,x5.q.2.1,x5.q.2.2.1,x5.q.2.2.2.1,x5.o.1,x5.o.2.1,())
def Pp (x:Tup A.ah [.l .i64,.i]):Ot A D6:=
 B.b B.F λx0=>
 B.i B.z λx1=>
 B.I [.l .i64,.i,.i] (λx2=>
 B.c (B.l x2.2.2.1 (B.y .i64 x2.1)) (B.w .i64 x2.1 x2.2.2.1<|
 B.c (B.e (B.f .i64 0 (B.o .i64 x2.1 x2.2.2.1)) x2.2.1) (B.b B.T λx3=>
 B.R<|B.r (x3.1,()))<|
 B.i (B.p x2.2.2.1 B.u) λx3=>
 B.L (x2.1,x2.2.1,x3.1,()))<|
 B.R<|B.v B.F) (x.1,x.2.1,x1.1,())
def Wx (Li:Pt A sD) (Lj:Ft A sD) (ag2:Pt A Kr) (ag3:Ft A Kr) (Pn:Pt A sF) (Po:Ft A sF) (adT:Pt A D6) (adU:Ft A D6) (x:Tup A.ah [.x .aC,.l .i64,.i]):Ot A Kt:=
 B.j Li Lj (x.1,()) λx0=>
 B.c (B.a (B.N x0.1) B.T (B.g x.2.2.1 (B.n 400))) (B.r (B.z,B.z,B.F,B.F,B.z,A.je .i64,B.z,A.je .i64,A.je .i64,A.je .i64,()))<|
 B.j Pn Po (x.1,()) λx1=>
 B.i B.z λx2=>
 B.I [.l .i64,.i,.i,.i,.i,.b,.b,.i,.i,.i,.i,.b,.b,.i,.l .i64,.i,.l .i64,.l .i64,.l .i64] (λx3=>
 B.c (B.a (B.a (B.l x3.2.2.1 x3.2.1) (B.e x3.o.q.2.1 B.z) B.F) (B.l x3.o.q.2.2.2.1 (B.n 1000000)) B.F) (B.j adT adU (x3.1,x3.o.q.2.2.2.1,()) λx4=>
 B.j ag2 ag3 (B.x .aC (x3.o.o.1,x3.o.2.1,x3.o.o.2.1,x3.o.2.2.1,x3.o.2.2.2.1,x3.o.q.1,x3.o.q.2.1,x3.o.q.2.2.1,x3.o.o.2.2.1,x3.o.q.2.2.2.1,()),x4.1,()) λx5=>
 B.i (B.p x3.2.2.1 B.u) λx6=>
 B.L (x3.1,x3.2.1,x6.1,x3.2.2.2.1,x3.q.1,x3.q.2.1,x3.q.2.2.1,x3.q.2.2.2.1,x3.o.1,x5.1,x5.2.1,x5.2.2.1,x5.2.2.2.1,x5.q.1,x5.q.2.1,x5.q.2.2.1,x5.q.2.2.2.1,x5.o.1,x5.o.2.1,()))<|
 B.R<|B.r (x3.o.2.1,x3.o.2.2.1,x3.o.2.2.2.1,x3.o.q.1,x3.o.q.2.1,x3.o.q.2.2.1,x3.o.q.2.2.2.1,x3.o.o.1,x3.o.o.2.1,x3.o.o.2.2.1,())) (x.2.1,x.2.2.1,x2.1,B.z,B.z,B.F,B.F,B.z,B.z,x1.1,x1.2.1,x1.2.2.1,x1.2.2.2.1,x1.q.1,x1.o.1,x1.q.2.1,x1.q.2.2.1,x1.q.2.2.2.1,x1.o.2.1,())
def Wy (aD:Pt A bA) (aF:Ft A bA) (x:Tup A.ah [.l .u8,.i]):Ot A Ku:=
 B.s (.l .i64) (A.lst .i64 []) λx0=>
 B.j aD aF (B.n 5,x.1,x.2.1,()) λx1=>
 B.i x1.1 λx2=>
 B.I [.i,.l .u8,.i,.l .i64] (λx3=>
 B.c (B.g x3.1 B.z) (B.j aD aF (B.n 50,x3.2.1,x3.2.2.1,()) λx4=>
 B.s (.l .i64) (A.lst .i64 [B.x .i64 (x4.1,())]) λx5=>
 B.C (B.m (A.addN (B.y .i64 x3.2.2.2.1) (B.y .i64 x5.1)) (B.n 1073741824))<|
 B.s (.l .i64) (A.app .i64 x3.2.2.2.1 x5.1) λx6=>
 B.i (B.q x3.1 B.u) λx7=>
 B.L (x7.1,x4.2.1,x4.2.2.1,x6.1,()))<|
 B.R<|B.r (x3.2.1,x3.2.2.1,x3.2.2.2.1,())) (x2.1,x1.2.1,x1.2.2.1,x0.1,())
def Wz (ag4:Pt A Kj) (ag5:Ft A Kj) (ag6:Pt A Kt) (ag7:Ft A Kt) (ag8:Pt A Kn) (ag9:Ft A Kn) (aha:Pt A Ku) (ahb:Ft A Ku) (mW:Pt A gH) (mX:Ft A gH) (aD:Pt A bA) (aF:Ft A bA) (abD:Pt A Ko) (abE:Ft A Ko) (x:Tup A.ah [.l .u8,.i]):Ot A A8:=
 B.j ag8 ag9 (x.1,x.2.1,()) λx0=>
 B.j aD aF (B.n 5,x0.1,x0.2.1,()) λx1=>
 B.j abD abE (x1.1,x1.2.1,x1.2.2.1,()) λx2=>
 B.j ag4 ag5 (x0.2.2.1,x2.2.2.1,()) λx3=>
 B.j aha ahb (x2.1,x2.2.1,()) λx4=>
 B.j aD aF (B.n 40,x4.1,x4.2.1,()) λx5=>
 B.j ag6 ag7 (B.x .aC (x3.q.2.2.1,x3.1,x3.q.2.2.2.1,x3.2.1,x3.2.2.1,x3.2.2.2.1,x3.q.1,x3.o.1,A.je .i64,x3.q.2.1,()),x4.2.2.1,x5.1,()) λx6=>
 B.j aD aF (B.n 4,x5.2.1,x5.2.2.1,()) λx7=>
 A.bind [.l .u8,.i,.i,.i,.b,.b,.i,.i,.i,.i,.b,.b,.i,.l .i64,.i,.l .i64,.l .i64,.l .i64] (B.c (B.e x7.1 B.z) (B.j abD abE (B.n 4,x7.2.1,x7.2.2.1,()) λx8=>
 B.r (x8.1,x8.2.1,B.z,B.z,B.F,B.F,B.z,B.z,x6.1,x6.2.1,x6.2.2.1,x6.2.2.2.1,x6.q.1,x6.q.2.1,x6.q.2.2.1,x8.2.2.1,x6.o.1,x6.o.2.1,()))<|
 B.r (x7.2.1,x7.2.2.1,B.z,B.z,B.F,B.F,B.z,B.z,x6.1,x6.2.1,x6.2.2.1,x6.2.2.2.1,x6.q.1,x6.q.2.1,x6.q.2.2.1,x6.q.2.2.2.1,x6.o.1,x6.o.2.1,())) λx8=>
 B.j aD aF (B.n 6,x8.1,x8.2.1,()) λx9=>
 A.bind [.l .u8,.i,.i,.i,.b,.b,.i,.i,.i,.i,.b,.b,.i,.l .i64,.i,.l .i64,.l .i64,.l .i64] (B.c (B.e x9.1 B.z) (B.i B.z λx10=>
 B.j aD aF (B.n 66,x9.2.1,x9.2.2.1,()) λx11=>
 B.i x11.1 λx12=>
 B.r (x11.2.1,x11.2.2.1,x8.2.2.1,x8.2.2.2.1,x8.q.1,x8.q.2.1,x8.q.2.2.1,x8.q.2.2.2.1,x12.1,x8.o.2.1,x8.o.2.2.1,x8.o.2.2.2.1,x10.1,x8.o.q.2.1,x8.o.q.2.2.1,x8.o.q.2.2.2.1,x8.o.o.1,x8.o.o.2.1,()))<|
 B.r (x9.2.1,x9.2.2.1,x8.2.2.1,x8.2.2.2.1,x8.q.1,x8.q.2.1,x8.q.2.2.1,x8.q.2.2.2.1,x8.o.1,x8.o.2.1,x8.o.2.2.1,x8.o.2.2.2.1,x8.o.q.1,x8.o.q.2.1,x8.o.q.2.2.1,x8.o.q.2.2.2.1,x8.o.o.1,x8.o.o.2.1,())) λx10=>
 B.j mW mX (B.n 9,x10.1,x10.2.1,()) λx11=>
 A.bind [.l .u8,.i,.i,.i,.b,.b,.i,.i,.i,.i,.b,.b,.i,.l .i64,.i,.l .i64,.l .i64,.l .i64] (B.c x11.1 (B.b B.T λx12=>
 B.r (x11.2.1,x11.2.2.1,x10.2.2.1,x10.2.2.2.1,x10.q.1,x10.q.2.1,x10.q.2.2.1,x10.q.2.2.2.1,x10.o.1,x10.o.2.1,x10.o.2.2.1,x12.1,x10.o.q.1,x10.o.q.2.1,x10.o.q.2.2.1,x10.o.q.2.2.2.1,x10.o.o.1,x10.o.o.2.1,()))<|
 B.r (x11.2.1,x11.2.2.1,x10.2.2.1,x10.2.2.2.1,x10.q.1,x10.q.2.1,x10.q.2.2.1,x10.q.2.2.2.1,x10.o.1,x10.o.2.1,x10.o.2.2.1,x10.o.2.2.2.1,x10.o.q.1,x10.o.q.2.1,x10.o.q.2.2.1,x10.o.q.2.2.2.1,x10.o.o.1,x10.o.o.2.1,())) λx12=>
 B.j mW mX (B.n 9,x12.1,x12.2.1,()) λx13=>
 A.bind [.l .u8,.i,.i,.i,.b,.b,.i,.i,.i,.i,.b,.b,.i,.l .i64,.i,.l .i64,.l .i64,.l .i64] (B.c x13.1 (B.b (B.N x12.o.2.2.1) λx14=>
 B.r (x13.2.1,x13.2.2.1,x12.2.2.1,x12.2.2.2.1,x12.q.1,x12.q.2.1,x12.q.2.2.1,x12.q.2.2.2.1,x12.o.1,x12.o.2.1,x14.1,x12.o.2.2.2.1,x12.o.q.1,x12.o.q.2.1,x12.o.q.2.2.1,x12.o.q.2.2.2.1,x12.o.o.1,x12.o.o.2.1,()))<|
 B.r (x13.2.1,x13.2.2.1,x12.2.2.1,x12.2.2.2.1,x12.q.1,x12.q.2.1,x12.q.2.2.1,x12.q.2.2.2.1,x12.o.1,x12.o.2.1,x12.o.2.2.1,x12.o.2.2.2.1,x12.o.q.1,x12.o.q.2.1,x12.o.q.2.2.1,x12.o.q.2.2.2.1,x12.o.o.1,x12.o.o.2.1,())) λx14=>
 B.r (x14.o.1,x14.o.2.1,x14.o.2.2.1,x14.o.2.2.2.1,x14.o.q.1,x14.o.q.2.1,x14.o.q.2.2.1,x14.1,x14.2.1,x14.o.q.2.2.2.1,x14.o.o.1,x14.o.o.2.1,())
def WA (WB:Pt A A8) (WE:Ft A A8) (aD:Pt A bA) (aF:Ft A bA) (x:Tup A.ah [.x .blk,.l .u8,.i]):Ot A A9:=
 B.j WB WE (x.2.1,x.2.2.1,()) λx0=>
 B.i B.z λx1=>
 B.i (B.f .blk 0 x.1) λx2=>
 B.i B.z λx3=>
 B.I [.i,.l .u8,.i,.x .blk,.i,.i,.b,.b,.i,.i,.i,.i,.b,.b,.i,.l .i64,.i,.l .i64,.l .i64,.l .i64] (λx4=>
 B.c (B.l x4.1 (B.n 4)) (B.j aD aF (B.n 3,x4.2.1,x4.2.2.1,()) λx5=>
 A.bind [.i,.l .u8,.i,.x .blk,.i,.i,.b,.b,.i,.i,.i,.i,.b,.b,.i,.l .i64,.i,.l .i64,.l .i64,.l .i64] (B.c (B.e x5.1 B.z) (B.j aD aF (B.n 64,x5.2.1,x5.2.2.1,()) λx6=>
 B.j aD aF (B.n 5,x6.2.1,x6.2.2.1,()) λx7=>
 B.w .i64 (A.lst .i64 [B.x .i64 (B.p (B.f .blk 0 x4.2.2.2.1) B.u,()),B.x .i64 (B.q (B.p (B.f .blk 0 x4.2.2.2.1) (B.f .blk 1 x4.2.2.2.1)) B.u,()),B.x .i64 (x6.1,()),B.x .i64 (B.n 63,()),B.x .i64 (B.n 64,())]) x7.1<|
 B.w .i64 x4.o.o.2.1 x4.1<|
 B.w .i64 x4.o.o.2.1 x4.1<|
 B.i (B.f .i64 0 (B.o .i64 (A.lst .i64 [B.x .i64 (B.p (B.f .blk 0 x4.2.2.2.1) B.u,()),B.x .i64 (B.q (B.p (B.f .blk 0 x4.2.2.2.1) (B.f .blk 1 x4.2.2.2.1)) B.u,()),B.x .i64 (x6.1,()),B.x .i64 (B.n 63,()),B.x .i64 (B.n 64,())]) x7.1)) λx8=>
 B.r (x4.1,x7.2.1,x7.2.2.1,x4.2.2.2.1,x4.q.1,x4.q.2.1,x4.q.2.2.1,x4.q.2.2.2.1,x4.o.1,x4.o.2.1,x4.o.2.2.1,x4.o.2.2.2.1,x4.o.q.1,x4.o.q.2.1,x4.o.q.2.2.1,x4.o.q.2.2.2.1,x4.o.o.1,A.set .i64 x4.o.o.2.1 x4.1 (B.x .i64 (x8.1,())),x4.o.o.2.2.1,x4.o.o.2.2.2.1,()))<|
 B.r (x4.1,x5.2.1,x5.2.2.1,x4.2.2.2.1,x4.q.1,x4.q.2.1,x4.q.2.2.1,x4.q.2.2.2.1,x4.o.1,x4.o.2.1,x4.o.2.2.1,x4.o.2.2.2.1,x4.o.q.1,x4.o.q.2.1,x4.o.q.2.2.1,x4.o.q.2.2.2.1,x4.o.o.1,x4.o.o.2.1,x4.o.o.2.2.1,x4.o.o.2.2.2.1,())) λx6=>
 B.i (B.p x6.1 B.u) λx7=>
 B.L (x7.1,x6.2.1,x6.2.2.1,x6.2.2.2.1,x6.q.1,x6.q.2.1,x6.q.2.2.1,x6.q.2.2.2.1,x6.o.1,x6.o.2.1,x6.o.2.2.1,x6.o.2.2.2.1,x6.o.q.1,x6.o.q.2.1,x6.o.q.2.2.1,x6.o.q.2.2.2.1,x6.o.o.1,x6.o.o.2.1,x6.o.o.2.2.1,x6.o.o.2.2.2.1,()))<|
 B.R<|B.r (x4.o.2.2.1,x4.o.2.2.2.1,x4.o.q.1,x4.o.q.2.1,x4.o.q.2.2.1,x4.o.q.2.2.2.1,x4.o.o.1,x4.2.1,x4.2.2.1,x4.o.o.2.1,x4.o.o.2.2.1,x4.o.o.2.2.2.1,())) (x3.1,x0.q.2.2.2.1,x0.o.1,x.1,B.z,B.z,B.F,B.F,B.z,B.z,x2.1,x0.2.1,x0.2.2.1,x0.2.2.2.1,x1.1,x0.q.2.1,x0.q.2.2.1,x0.o.2.1,x0.o.2.2.1,x0.o.2.2.2.1,())
def Pq (fE:Pt A fD) (fF:Ft A fD) (x:Tup A.ah [.i]):Ot A D7:=
 B.b B.F λx0=>
 B.j fE fF (x.1,B.u,B.n 4,()) λx1=>
 B.v (B.a x1.1 B.T (B.e x.1 (B.n 6)))
def Pv (adV:Pt A D7) (adW:Ft A D7) (x:Tup A.ah [.l .iop,.i,.i]):Ot A sG:=
 B.b B.F λx0=>
 B.C (B.O (B.N (B.a (B.h x.2.1 B.z) (B.l x.2.1 x.2.2.1) B.F)) (B.m B.z x.2.1))<|
 B.C (B.O (B.N (B.a (B.h x.2.1 B.z) (B.l x.2.1 x.2.2.1) B.F)) (B.l x.2.1 (B.y .iop x.1)))<|
 B.k (B.a (B.h x.2.1 B.z) (B.l x.2.1 x.2.2.1) B.F) adV adW (B.f .iop 0 (B.o .iop x.1 x.2.1),()) λx1=>
 B.v (B.a (B.a (B.h x.2.1 B.z) (B.l x.2.1 x.2.2.1) B.F) x1.1 B.F)
def Pw (mY:Pt A iP) (mZ:Ft A iP) (fE:Pt A fD) (fF:Ft A fD) (nM:Pt A sG) (nN:Ft A sG) (x:Tup A.ah [.l .iop,.i,.i]):Ot A D8:=
 B.b B.F λx0=>
 B.w .iop x.1 x.2.1<|
 B.s (.x .iop) (B.o .iop x.1 x.2.1) λx1=>
 B.b (B.e (B.f .iop 0 x1.1) B.u) λx2=>
 B.c x2.1 (B.k (B.a (B.e (B.f .iop 1 x1.1) B.z) (B.e (B.f .iop 2 x1.1) B.z) B.F) mY mZ (B.f .iop 3 x1.1,()) λx3=>
 B.v (B.a (B.a (B.a (B.e (B.f .iop 1 x1.1) B.z) (B.e (B.f .iop 2 x1.1) B.z) B.F) x3.1 B.F) (B.e (B.f .iop 4 x1.1) B.z) B.F))<|
 B.b (B.e (B.f .iop 0 x1.1) (B.n 2)) λx3=>
 B.c x3.1 (B.k (B.a (B.e (B.f .iop 1 x1.1) B.z) (B.e (B.f .iop 2 x1.1) B.z) B.F) fE fF (B.f .iop 3 x1.1,B.z,B.n 3,()) λx4=>
 B.v (B.a (B.a (B.a (B.e (B.f .iop 1 x1.1) B.z) (B.e (B.f .iop 2 x1.1) B.z) B.F) x4.1 B.F) (B.e (B.f .iop 4 x1.1) B.z) B.F))<|
 B.b (B.e (B.f .iop 0 x1.1) (B.n 3)) λx4=>
 B.c x4.1 (B.j nM nN (x.1,B.f .iop 1 x1.1,x.2.1,()) λx5=>
 B.k x5.1 nM nN (x.1,B.f .iop 2 x1.1,x.2.1,()) λx6=>
 B.k (B.a x5.1 x6.1 B.F) fE fF (B.f .iop 3 x1.1,B.u,B.n 5,()) λx7=>
 B.v (B.a (B.a (B.a x5.1 x6.1 B.F) x7.1 B.F) (B.e (B.f .iop 4 x1.1) B.z) B.F))<|
 B.b (B.e (B.f .iop 0 x1.1) (B.n 4)) λx5=>
 A.bind [.l .iop,.i,.i,.i,.b,.x .iop] (B.c x5.1 (B.r (x.1,x.2.1,x.2.2.1,B.f .iop 0 x1.1,x5.1,x1.1,()))<|
 B.b (B.e (B.f .iop 0 x1.1) (B.n 7)) λx6=>
 B.r (x.1,x.2.1,x.2.2.1,B.f .iop 0 x1.1,x6.1,x1.1,())) λx6=>
 B.c x6.q.1 (B.j nM nN (x6.1,B.f .iop 1 x6.q.2.1,x6.2.1,()) λx7=>
 B.k (B.a (B.a x7.1 (B.e (B.f .iop 2 x6.q.2.1) B.z) B.F) (B.e (B.f .iop 3 x6.q.2.1) B.z) B.F) fE fF (B.f .iop 4 x6.q.2.1,B.z,B.q x6.2.2.1 B.u,()) λx8=>
 B.v (B.a (B.a (B.a x7.1 (B.e (B.f .iop 2 x6.q.2.1) B.z) B.F) (B.e (B.f .iop 3 x6.q.2.1) B.z) B.F) x8.1 B.F))<|
 B.b (B.e x6.2.2.2.1 (B.n 5)) λx7=>
 B.c x7.1 (B.j nM nN (x6.1,B.f .iop 1 x6.q.2.1,x6.2.1,()) λx8=>
 B.k x8.1 nM nN (x6.1,B.f .iop 2 x6.q.2.1,x6.2.1,()) λx9=>
 B.k (B.a (B.a x8.1 x9.1 B.F) (B.e (B.f .iop 3 x6.q.2.1) B.z) B.F) fE fF (B.f .iop 4 x6.q.2.1,B.z,B.q x6.2.2.1 B.u,()) λx10=>
 B.v (B.a (B.a (B.a x8.1 x9.1 B.F) (B.e (B.f .iop 3 x6.q.2.1) B.z) B.F) x10.1 B.F))<|
 B.b (B.e x6.2.2.2.1 (B.n 6)) λx8=>
 B.c x8.1 (B.k (B.a (B.a (B.e (B.f .iop 1 x6.q.2.1) B.z) (B.e (B.f .iop 2 x6.q.2.1) B.z) B.F) (B.e (B.f .iop 3 x6.q.2.1) B.z) B.F) fE fF (B.f .iop 4 x6.q.2.1,B.z,B.q x6.2.2.1 B.u,()) λx9=>
 B.v (B.a (B.a (B.a (B.e (B.f .iop 1 x6.q.2.1) B.z) (B.e (B.f .iop 2 x6.q.2.1) B.z) B.F) (B.e (B.f .iop 3 x6.q.2.1) B.z) B.F) x9.1 B.F))<|
 B.b (B.e x6.2.2.2.1 (B.n 8)) λx9=>
 B.c x9.1 (B.j nM nN (x6.1,B.f .iop 1 x6.q.2.1,x6.2.1,()) λx10=>
 B.k (B.a x10.1 (B.e (B.f .iop 2 x6.q.2.1) B.z) B.F) fE fF (B.f .iop 3 x6.q.2.1,B.z,B.n 3,()) λx11=>
 B.v (B.a (B.a (B.a x10.1 (B.e (B.f .iop 2 x6.q.2.1) B.z) B.F) x11.1 B.F) (B.e (B.f .iop 4 x6.q.2.1) B.z) B.F))<|
 B.v B.F
def Px (mY:Pt A iP) (mZ:Ft A iP) (nM:Pt A sG) (nN:Ft A sG) (x:Tup A.ah [.x .blk]):Ot A D9:=
 B.b B.F λx0=>
 B.i (B.y .iop (B.D .blk 2 .iop x.1)) λx1=>
 B.b (B.e (B.f .blk 3 x.1) B.u) λx2=>
 B.c x2.1 (B.k (B.a (B.e (B.f .blk 4 x.1) B.z) (B.e (B.f .blk 5 x.1) B.z) B.F) mY mZ (B.f .blk 6 x.1,()) λx3=>
 B.v (B.a (B.a (B.e (B.f .blk 4 x.1) B.z) (B.e (B.f .blk 5 x.1) B.z) B.F) x3.1 B.F))<|
 B.b (B.e (B.f .blk 3 x.1) (B.n 2)) λx3=>
 B.c x3.1 (B.j nM nN (B.D .blk 2 .iop x.1,B.f .blk 4 x.1,x1.1,()) λx4=>
 B.v (B.a (B.a x4.1 (B.e (B.f .blk 5 x.1) B.z) B.F) (B.e (B.f .blk 6 x.1) B.z) B.F))<|
 B.b (B.e (B.f .blk 3 x.1) (B.n 3)) λx4=>
 A.bind [.i,.b,.x .blk] (B.c x4.1 (B.r (x1.1,x4.1,x.1,()))<|
 B.b (B.e (B.f .blk 3 x.1) (B.n 4)) λx5=>
 B.r (x1.1,x5.1,x.1,())) λx5=>
 B.c x5.2.1 (B.j nM nN (B.D .blk 2 .iop x5.2.2.1,B.f .blk 4 x5.2.2.1,x5.1,()) λx6=>
 B.k x6.1 nM nN (B.D .blk 2 .iop x5.2.2.1,B.f .blk 5 x5.2.2.1,x5.1,()) λx7=>
 B.k (B.a x6.1 x7.1 B.F) mY mZ (B.f .blk 6 x5.2.2.1,()) λx8=>
 B.v (B.a (B.a x6.1 x7.1 B.F) x8.1 B.F))<|
 B.v B.F
def WG (fE:Pt A fD) (fF:Ft A fD) (adX:Pt A D9) (adY:Ft A D9) (adZ:Pt A D8) (ad1:Ft A D8) (x:Tup A.ah [.x .blk]):Ot A j6:=
 B.b B.F λx0=>
 B.j fE fF (B.f .blk 1 x.1,B.u,B.n 8,()) λx1=>
 B.k (B.N (B.N x1.1)) fE fF (B.f .blk 0 x.1,B.z,B.q (B.n 64) (B.f .blk 1 x.1),()) λx2=>
 B.c (B.a (B.a (B.N x1.1) B.T (B.N x2.1)) B.T (B.g (B.y .iop (B.D .blk 2 .iop x.1)) (B.n 48))) (B.v B.F)<|
 B.i B.z λx3=>
 B.I [.i,.x .blk] (λx4=>
 B.c (B.l x4.1 (B.y .iop (B.D .blk 2 .iop x4.2.1))) (B.j adZ ad1 (B.D .blk 2 .iop x4.2.1,x4.1,B.f .blk 1 x4.2.1,()) λx5=>
 B.c (B.N x5.1) (B.b B.F λx6=>
 B.R<|B.r (x6.1,()))<|
 B.i (B.p x4.1 B.u) λx6=>
 B.L (x6.1,x4.2.1,()))<|
 B.R<|B.j adX adY (x4.2.1,()) λx5=>
 B.v x5.1) (x3.1,x.1,())
def WH (fE:Pt A fD) (fF:Ft A fD) (x:Tup A.ah [.x .iop,.l .i64]):Ot A Ba:=
 B.s (.x .iop) x.1 λx0=>
 B.j fE fF (B.f .iop 0 x.1,B.n 3,B.n 5,()) λx1=>
 A.bind [.l .i64,.x .iop,.i,.i,.i,.i,.i,.x .iop] (B.c (B.a (B.a x1.1 B.T (B.e (B.f .iop 0 x.1) (B.n 7))) B.T (B.e (B.f .iop 0 x.1) (B.n 8))) (B.w .i64 x.2.1 (B.f .iop 1 x.1)<|
 B.i (B.f .i64 0 (B.o .i64 x.2.1 (B.f .iop 1 x.1))) λx2=>
 B.r (x.2.1,x.1,B.z,B.z,B.z,B.z,B.z,B.x .iop (B.f .iop 0 x0.1,x2.1,B.f .iop 2 x0.1,B.f .iop 3 x0.1,B.f .iop 4 x0.1,()),()))<|
 B.r (x.2.1,x.1,B.z,B.z,B.z,B.z,B.z,x0.1,())) λx2=>
 A.bind [.i,.i,.i,.i,.i,.x .iop] (B.c (B.a (B.e (B.f .iop 0 x2.2.1) (B.n 3)) B.T (B.e (B.f .iop 0 x2.2.1) (B.n 5))) (B.w .i64 x2.1 (B.f .iop 2 x2.2.1)<|
 B.i (B.f .i64 0 (B.o .i64 x2.1 (B.f .iop 2 x2.2.1))) λx3=>
 B.r (x2.2.2.1,x2.2.2.2.1,x2.q.1,x2.q.2.1,x2.q.2.2.1,B.x .iop (B.f .iop 0 x2.q.2.2.2.1,B.f .iop 1 x2.q.2.2.2.1,x3.1,B.f .iop 3 x2.q.2.2.2.1,B.f .iop 4 x2.q.2.2.2.1,()),()))<|
 B.r (x2.2.2.1,x2.2.2.2.1,x2.q.1,x2.q.2.1,x2.q.2.2.1,x2.q.2.2.2.1,())) λx3=>
 B.s (.x .iop) x3.q.2.1 λx4=>
 B.r (x4.1,())
def WI (WJ:Pt A Ba) (WK:Ft A Ba) (x:Tup A.ah [.x .blk,.l .bool]):Ot A Bb:=
 B.s (.l .iop) (A.lst .iop []) λx0=>
 B.s (.l .i64) (A.lst .i64 []) λx1=>
 B.i B.z λx2=>
 B.I [.l .bool,.i,.x .blk,.i,.i,.i,.i,.i,.i,.l .iop,.l .i64] (λx3=>
 B.c (B.l x3.2.1 (B.y .iop (B.D .blk 2 .iop x3.2.2.1))) (B.s (.l .i64) (A.lst .i64 [B.x .i64 (B.y .iop x3.o.2.1,())]) λx4=>
 B.C (B.m (A.addN (B.y .i64 x3.o.2.2.1) (B.y .i64 x4.1)) (B.n 1073741824))<|
 B.s (.l .i64) (A.app .i64 x3.o.2.2.1 x4.1) λx5=>
 B.w .bool x3.1 x3.2.1<|
 A.bind [.l .bool,.i,.x .blk,.i,.i,.i,.i,.i,.i,.l .iop,.l .i64] (B.c (A.fB .bool 0 (B.o .bool x3.1 x3.2.1)) (B.w .iop (B.D .blk 2 .iop x3.2.2.1) x3.2.1<|
 B.j WJ WK (B.o .iop (B.D .blk 2 .iop x3.2.2.1) x3.2.1,x5.1,()) λx6=>
 B.s (.l .iop) (A.lst .iop [x6.1]) λx7=>
 B.C (B.m (A.addN (B.y .iop x3.o.2.1) (B.y .iop x7.1)) (B.n 1073741824))<|
 B.s (.l .iop) (A.app .iop x3.o.2.1 x7.1) λx8=>
 B.r (x3.1,x3.2.1,x3.2.2.1,x3.2.2.2.1,x3.q.1,x3.q.2.1,x3.q.2.2.1,x3.q.2.2.2.1,x3.o.1,x8.1,x5.1,()))<|
 B.r (x3.1,x3.2.1,x3.2.2.1,x3.2.2.2.1,x3.q.1,x3.q.2.1,x3.q.2.2.1,x3.q.2.2.2.1,x3.o.1,x3.o.2.1,x5.1,())) λx6=>
 B.i (B.p x6.2.1 B.u) λx7=>
 B.L (x6.1,x7.1,x6.2.2.1,x6.2.2.2.1,x6.q.1,x6.q.2.1,x6.q.2.2.1,x6.q.2.2.2.1,x6.o.1,x6.o.2.1,x6.o.2.2.1,()))<|
 B.R<|B.s (.x .blk) x3.2.2.1 λx4=>
 A.bind [.x .blk,.i,.i,.i,.i,.i,.i,.l .i64,.i,.i,.i,.i,.i,.i,.l .iop] (B.c (B.d (B.f .blk 3 x3.2.2.1) B.u) (B.w .i64 x3.o.2.2.1 (B.f .blk 4 x3.2.2.1)<|
 B.w .i64 x3.o.2.2.1 (B.f .blk 4 x3.2.2.1)<|
 B.i (B.f .i64 0 (B.o .i64 x3.o.2.2.1 (B.f .blk 4 x3.2.2.1))) λx5=>
 B.r (x3.2.2.1,x3.2.2.2.1,x3.q.1,x3.q.2.1,x3.q.2.2.1,x3.q.2.2.2.1,x3.o.1,x3.o.2.2.1,B.f .blk 0 x4.1,B.f .blk 1 x4.1,B.f .blk 3 x4.1,x5.1,B.f .blk 5 x4.1,B.f .blk 6 x4.1,x3.o.2.1,()))<|
 B.r (x3.2.2.1,x3.2.2.2.1,x3.q.1,x3.q.2.1,x3.q.2.2.1,x3.q.2.2.2.1,x3.o.1,x3.o.2.2.1,B.f .blk 0 x4.1,B.f .blk 1 x4.1,B.f .blk 3 x4.1,B.f .blk 4 x4.1,B.f .blk 5 x4.1,B.f .blk 6 x4.1,x3.o.2.1,())) λx5=>
 A.bind [.i,.i,.i,.i,.i,.i,.i,.i,.i,.i,.i,.i,.l .iop] (B.c (B.a (B.e (B.f .blk 3 x5.1) (B.n 3)) B.T (B.e (B.f .blk 3 x5.1) (B.n 4))) (B.w .i64 x5.q.2.2.2.1 (B.f .blk 5 x5.1)<|
 B.w .i64 x5.q.2.2.2.1 (B.f .blk 5 x5.1)<|
 B.i (B.f .i64 0 (B.o .i64 x5.q.2.2.2.1 (B.f .blk 5 x5.1))) λx6=>
 B.r (x5.2.1,x5.2.2.1,x5.2.2.2.1,x5.q.1,x5.q.2.1,x5.q.2.2.1,x5.o.1,x5.o.2.1,x5.o.2.2.1,x5.o.2.2.2.1,x6.1,x5.o.q.2.1,x5.o.q.2.2.1,()))<|
 B.r (x5.2.1,x5.2.2.1,x5.2.2.2.1,x5.q.1,x5.q.2.1,x5.q.2.2.1,x5.o.1,x5.o.2.1,x5.o.2.2.1,x5.o.2.2.2.1,x5.o.q.1,x5.o.q.2.1,x5.o.q.2.2.1,())) λx6=>
 B.r (x6.q.2.2.1,x6.q.2.2.2.1,x6.o.1,x6.o.2.1,x6.o.2.2.1,x6.o.2.2.2.1,x6.o.q.1,())) (x.2.1,x2.1,x.1,B.z,B.z,B.z,B.z,B.z,B.z,x0.1,x1.1,())
def WL (yF:Pt A j6) (yG:Ft A j6) (fE:Pt A fD) (fF:Ft A fD) (x:Tup A.ah [.x .blk]):Ot A Kv:=
 B.s (.l .bool) (A.lst .bool []) λx0=>
 B.j yF yG (x.1,()) λx1=>
 B.c (B.N x1.1) (B.r (x0.1,()))<|
 B.i B.z λx2=>
 B.I [.i,.x .blk,.l .bool] (λx3=>
 B.c (B.l x3.1 (B.y .iop (B.D .blk 2 .iop x3.2.1))) (B.w .iop (B.D .blk 2 .iop x3.2.1) x3.1<|
 B.s (.l .bool) (A.lst .bool [B.x .bool (B.h (B.f .iop 0 (B.o .iop (B.D .blk 2 .iop x3.2.1) x3.1)) (B.n 4),())]) λx4=>
 B.C (B.m (A.addN (B.y .bool x3.2.2.1) (B.y .bool x4.1)) (B.n 1073741824))<|
 B.s (.l .bool) (A.app .bool x3.2.2.1 x4.1) λx5=>
 B.i (B.p x3.1 B.u) λx6=>
 B.L (x6.1,x3.2.1,x5.1,()))<|
 B.R<|A.bind [.x .blk,.l .bool] (B.c (B.d (B.f .blk 3 x3.2.1) B.u) (B.w .bool x3.2.2.1 (B.f .blk 4 x3.2.1)<|
 B.w .bool x3.2.2.1 (B.f .blk 4 x3.2.1)<|
 B.b B.T λx4=>
 B.r (x3.2.1,A.set .bool x3.2.2.1 (B.f .blk 4 x3.2.1) (B.x .bool (x4.1,())),()))<|
 B.r (x3.2.1,x3.2.2.1,())) λx4=>
 A.bind [.x .blk,.l .bool] (B.c (B.a (B.e (B.f .blk 3 x4.1) (B.n 3)) B.T (B.e (B.f .blk 3 x4.1) (B.n 4))) (B.w .bool x4.2.1 (B.f .blk 5 x4.1)<|
 B.w .bool x4.2.1 (B.f .blk 5 x4.1)<|
 B.b B.T λx5=>
 B.r (x4.1,A.set .bool x4.2.1 (B.f .blk 5 x4.1) (B.x .bool (x5.1,())),()))<|
 B.r (x4.1,x4.2.1,())) λx5=>
 B.i (B.q (B.y .iop (B.D .blk 2 .iop x5.1)) B.u) λx6=>
 B.I [.i,.x .blk,.l .bool] (λx7=>
 B.c (B.h x7.1 B.z) (A.eY [.i,.x .blk,.l .bool] (B.w .iop (B.D .blk 2 .iop x7.2.1) x7.1<|
 B.s (.x .iop) (B.o .iop (B.D .blk 2 .iop x7.2.1) x7.1) λx8=>
 B.w .bool x7.2.2.1 x7.1<|
 B.w .bool x7.2.2.1 x7.1<|
 B.c (B.N (A.fB .bool 0 (B.o .bool x7.2.2.1 x7.1))) (B.L (x7.1,x7.2.1,x7.2.2.1,()))<|
 B.j fE fF (B.f .iop 0 x8.1,B.n 3,B.n 5,()) λx9=>
 A.bind [.i,.x .blk,.l .bool,.x .iop] (B.c (B.a (B.a x9.1 B.T (B.e (B.f .iop 0 x8.1) (B.n 7))) B.T (B.e (B.f .iop 0 x8.1) (B.n 8))) (B.w .bool x7.2.2.1 (B.f .iop 1 x8.1)<|
 B.w .bool x7.2.2.1 (B.f .iop 1 x8.1)<|
 B.b B.T λx10=>
 B.r (x7.1,x7.2.1,A.set .bool x7.2.2.1 (B.f .iop 1 x8.1) (B.x .bool (x10.1,())),x8.1,()))<|
 B.r (x7.1,x7.2.1,x7.2.2.1,x8.1,())) λx10=>
 A.bind [.i,.x .blk,.l .bool] (B.c (B.a (B.e (B.f .iop 0 x10.2.2.2.1) (B.n 3)) B.T (B.e (B.f .iop 0 x10.2.2.2.1) (B.n 5))) (B.w .bool x10.2.2.1 (B.f .iop 2 x10.2.2.2.1)<|
 B.w .bool x10.2.2.1 (B.f .iop 2 x10.2.2.2.1)<|
 B.b B.T λx11=>
 B.r (x10.1,x10.2.1,A.set .bool x10.2.2.1 (B.f .iop 2 x10.2.2.2.1) (B.x .bool (x11.1,())),()))<|
 B.r (x10.1,x10.2.1,x10.2.2.1,())) λx11=>
 B.L (x11.1,x11.2.1,x11.2.2.1,())) λx8=>
 B.i (B.q x8.1 B.u) λx9=>
 B.L (x9.1,x8.2.1,x8.2.2.1,()))<|
 B.R<|B.r (x7.2.2.1,())) (x6.1,x5.1,x5.2.1,())) (x2.1,x.1,x0.1,())
def WM (yF:Pt A j6) (yG:Ft A j6) (ahc:Pt A Kv) (ahd:Ft A Kv) (WO:Pt A Bb) (WQ:Ft A Bb) (x:Tup A.ah [.x .blk]):Ot A Kw:=
 B.j yF yG (x.1,()) λx0=>
 B.c (B.N x0.1) (B.r (B.z,B.z,B.z,B.z,B.z,B.z,A.je .iop,()))<|
 B.j ahc ahd (x.1,()) λx1=>
 B.j WO WQ (x.1,x1.1,()) λx2=>
 B.r (x2.1,x2.2.1,x2.2.2.1,x2.2.2.2.1,x2.q.1,x2.q.2.1,x2.q.2.2.1,())
def WR (x:Tup A.ah [.l .iop,.i]):Ot A Ky:=
 B.b B.F λx0=>
 B.i (B.p x.2.1 B.u) λx1=>
 B.I [.l .iop,.i,.i] (λx2=>
 B.c (B.l x2.2.2.1 (B.y .iop x2.1)) (B.w .iop x2.1 x2.2.2.1<|
 B.C (B.O (B.N (B.N (B.e (B.f .iop 0 (B.o .iop x2.1 x2.2.2.1)) (B.n 4)))) (B.m B.z x2.2.2.1))<|
 B.C (B.O (B.N (B.N (B.e (B.f .iop 0 (B.o .iop x2.1 x2.2.2.1)) (B.n 4)))) (B.l x2.2.2.1 (B.y .iop x2.1)))<|
 B.C (B.O (B.N (B.N (B.a (B.e (B.f .iop 0 (B.o .iop x2.1 x2.2.2.1)) (B.n 4)) B.T (B.e (B.f .iop 0 (B.o .iop x2.1 x2.2.2.1)) (B.n 5))))) (B.m B.z x2.2.2.1))<|
 B.C (B.O (B.N (B.N (B.a (B.e (B.f .iop 0 (B.o .iop x2.1 x2.2.2.1)) (B.n 4)) B.T (B.e (B.f .iop 0 (B.o .iop x2.1 x2.2.2.1)) (B.n 5))))) (B.l x2.2.2.1 (B.y .iop x2.1)))<|
 B.C (B.O (B.N (A.qN (B.N (B.a (B.e (B.f .iop 0 (B.o .iop x2.1 x2.2.2.1)) (B.n 4)) B.T (B.e (B.f .iop 0 (B.o .iop x2.1 x2.2.2.1)) (B.n 5)))) (B.e (B.f .iop 0 (B.o .iop x2.1 x2.2.2.1)) (B.n 2)))) (B.m B.z x2.2.2.1))<|
 B.C (B.O (B.N (A.qN (B.N (B.a (B.e (B.f .iop 0 (B.o .iop x2.1 x2.2.2.1)) (B.n 4)) B.T (B.e (B.f .iop 0 (B.o .iop x2.1 x2.2.2.1)) (B.n 5)))) (B.e (B.f .iop 0 (B.o .iop x2.1 x2.2.2.1)) (B.n 2)))) (B.l x2.2.2.1 (B.y .iop x2.1)))<|
 B.C (B.O (B.N (A.qN (B.N (B.a (B.e (B.f .iop 0 (B.o .iop x2.1 x2.2.2.1)) (B.n 4)) B.T (B.e (B.f .iop 0 (B.o .iop x2.1 x2.2.2.1)) (B.n 5)))) (B.e (B.f .iop 0 (B.o .iop x2.1 x2.2.2.1)) (B.n 2)))) (B.m B.z x2.2.1))<|
 B.C (B.O (B.N (A.qN (B.N (B.a (B.e (B.f .iop 0 (B.o .iop x2.1 x2.2.2.1)) (B.n 4)) B.T (B.e (B.f .iop 0 (B.o .iop x2.1 x2.2.2.1)) (B.n 5)))) (B.e (B.f .iop 0 (B.o .iop x2.1 x2.2.2.1)) (B.n 2)))) (B.l x2.2.1 (B.y .iop x2.1)))<|
 B.c (B.a (B.a (B.e (B.f .iop 0 (B.o .iop x2.1 x2.2.2.1)) (B.n 4)) B.T (B.e (B.f .iop 0 (B.o .iop x2.1 x2.2.2.1)) (B.n 5))) B.T (B.a (B.e (B.f .iop 0 (B.o .iop x2.1 x2.2.2.1)) (B.n 2)) (B.e (B.f .iop 3 (B.o .iop x2.1 x2.2.2.1)) (B.f .iop 3 (B.o .iop x2.1 x2.2.1))) B.F)) (B.b B.F λx3=>
 B.R<|B.r (x3.1,()))<|
 B.w .iop x2.1 x2.2.2.1<|
 B.C (B.O (B.N (B.e (B.f .iop 0 (B.o .iop x2.1 x2.2.2.1)) (B.n 8))) (B.m B.z x2.2.2.1))<|
 B.C (B.O (B.N (B.e (B.f .iop 0 (B.o .iop x2.1 x2.2.2.1)) (B.n 8))) (B.l x2.2.2.1 (B.y .iop x2.1)))<|
 B.C (B.O (B.N (B.e (B.f .iop 0 (B.o .iop x2.1 x2.2.2.1)) (B.n 8))) (B.m B.z x2.2.1))<|
 B.C (B.O (B.N (B.e (B.f .iop 0 (B.o .iop x2.1 x2.2.2.1)) (B.n 8))) (B.l x2.2.1 (B.y .iop x2.1)))<|
 B.c (B.a (B.e (B.f .iop 0 (B.o .iop x2.1 x2.2.2.1)) (B.n 8)) (B.e (B.f .iop 3 (B.o .iop x2.1 x2.2.2.1)) (B.f .iop 3 (B.o .iop x2.1 x2.2.1))) B.F) (B.b B.T λx3=>
 B.R<|B.r (x3.1,()))<|
 B.i (B.p x2.2.2.1 B.u) λx3=>
 B.L (x2.1,x2.2.1,x3.1,()))<|
 B.R<|B.v B.F) (x.1,x.2.1,x1.1,())
def WS (yF:Pt A j6) (yG:Ft A j6) (WO:Pt A Bb) (WQ:Ft A Bb) (ahe:Pt A Ky) (ahf:Ft A Ky) (x:Tup A.ah [.x .blk]):Ot A Kz:=
 B.j yF yG (x.1,()) λx0=>
 B.c (B.N x0.1) (B.r (B.z,B.z,B.z,B.z,B.z,B.z,A.je .iop,()))<|
 B.s (.l .bool) (A.lst .bool []) λx1=>
 B.i B.z λx2=>
 B.I [.i,.x .blk,.i,.i,.i,.i,.i,.i,.l .bool] (λx3=>
 B.c (B.l x3.1 (B.y .iop (B.D .blk 2 .iop x3.2.1))) (B.w .iop (B.D .blk 2 .iop x3.2.1) x3.1<|
 B.k (B.N (B.d (B.f .iop 0 (B.o .iop (B.D .blk 2 .iop x3.2.1) x3.1)) (B.n 8))) ahe ahf (B.D .blk 2 .iop x3.2.1,x3.1,()) λx4=>
 B.s (.l .bool) (A.lst .bool [B.x .bool (B.a (B.d (B.f .iop 0 (B.o .iop (B.D .blk 2 .iop x3.2.1) x3.1)) (B.n 8)) B.T (B.N x4.1),())]) λx5=>
 B.C (B.m (A.addN (B.y .bool x3.o.1) (B.y .bool x5.1)) (B.n 1073741824))<|
 B.s (.l .bool) (A.app .bool x3.o.1 x5.1) λx6=>
 B.i (B.p x3.1 B.u) λx7=>
 B.L (x7.1,x3.2.1,x3.2.2.1,x3.2.2.2.1,x3.q.1,x3.q.2.1,x3.q.2.2.1,x3.q.2.2.2.1,x6.1,()))<|
 B.R<|B.j WO WQ (x3.2.1,x3.o.1,()) λx4=>
 B.r (x4.1,x4.2.1,x4.2.2.1,x4.2.2.2.1,x4.q.1,x4.q.2.1,x4.q.2.2.1,())) (x2.1,x.1,B.z,B.z,B.z,B.z,B.z,B.z,x1.1,())
def Py (x:Tup A.ah [.x .blk]):Ot A lV:=
 B.s (.x .blk) x.1 λx0=>
 B.s (.l .iop) (A.lst .iop []) λx1=>
 B.C (B.m (A.addN (B.y .iop x1.1) (B.y .iop (B.D .blk 2 .iop x.1))) (B.n 1073741824))<|
 B.s (.l .iop) (A.app .iop x1.1 (B.D .blk 2 .iop x.1)) λx2=>
 B.r (B.f .blk 0 x0.1,B.f .blk 1 x0.1,B.f .blk 3 x0.1,B.f .blk 4 x0.1,B.f .blk 5 x0.1,B.f .blk 6 x0.1,x2.1,())
def WT (x:Tup A.ah [.l .iop,.i]):Ot A Bc:=
 B.i B.z λx0=>
 B.b B.F λx1=>
 B.C (B.O (B.N (B.N (B.a (B.l x.2.1 B.z) B.T (B.h x.2.1 (B.y .iop x.1))))) (B.m B.z x.2.1))<|
 B.C (B.O (B.N (B.N (B.a (B.l x.2.1 B.z) B.T (B.h x.2.1 (B.y .iop x.1))))) (B.l x.2.1 (B.y .iop x.1)))<|
 B.c (B.a (B.a (B.l x.2.1 B.z) B.T (B.h x.2.1 (B.y .iop x.1))) B.T (B.d (B.f .iop 0 (B.o .iop x.1 x.2.1)) B.u)) (B.i B.z λx2=>
 B.b B.F λx3=>
 B.r (x2.1,x3.1,()))<|
 B.w .iop x.1 x.2.1<|
 B.i (B.f .iop 3 (B.o .iop x.1 x.2.1)) λx2=>
 B.b B.T λx3=>
 B.r (x2.1,x3.1,())
def WU (x:Tup A.ah [.x .blk,.i]):Ot A KA:=
 B.i B.u λx0=>
 B.i B.z λx1=>
 B.i B.z λx2=>
 B.i x.2.1 λx3=>
 B.r (B.f .blk 0 x.1,B.f .blk 1 x.1,B.D .blk 2 .iop x.1,x0.1,x1.1,x2.1,x3.1,())
def WW (WX:Pt A KA) (WY:Ft A KA) (Ll:Pt A Bc) (Lm:Ft A Bc) (x:Tup A.ah [.x .blk]):Ot A KC:=
 B.j Ll Lm (B.D .blk 2 .iop x.1,B.f .blk 4 x.1,()) λx0=>
 B.i x0.1 λx1=>
 B.b x0.2.1 λx2=>
 B.j Ll Lm (B.D .blk 2 .iop x.1,B.f .blk 5 x.1,()) λx3=>
 B.i x3.1 λx4=>
 B.b x3.2.1 λx5=>
 B.b (B.a (B.e (B.f .blk 3 x.1) (B.n 2)) x2.1 B.F) λx6=>
 B.c x6.1 (B.j WX WY (x.1,x1.1,()) λx7=>
 B.r (B.x .blk (x7.1,x7.2.1,x7.2.2.1,x7.2.2.2.1,x7.q.1,x7.q.2.1,x7.q.2.2.1,()),()))<|
 B.b (B.a (B.a (B.a (B.e (B.f .blk 3 x.1) (B.n 3)) x2.1 B.F) x5.1 B.F) (B.e x1.1 x4.1) B.F) λx7=>
 A.bind [.b,.b,.b,.x .blk,.i,.i,.i,.i,.i,.i] (B.c x7.1 (B.r (x2.1,x5.1,x7.1,x.1,B.z,B.z,B.z,B.z,B.z,B.z,()))<|
 B.b (B.a (B.a (B.a (B.e (B.f .blk 3 x.1) (B.n 4)) x2.1 B.F) x5.1 B.F) (B.l x1.1 x4.1) B.F) λx8=>
 B.r (x2.1,x5.1,x8.1,x.1,B.z,B.z,B.z,B.z,B.z,B.z,())) λx8=>
 B.c x8.2.2.1 (B.j WX WY (x8.2.2.2.1,B.f .blk 6 x8.2.2.2.1,()) λx9=>
 B.r (B.x .blk (x9.1,x9.2.1,x9.2.2.1,x9.2.2.2.1,x9.q.1,x9.q.2.1,x9.q.2.2.1,()),()))<|
 B.b (B.a (B.a (B.a (B.e (B.f .blk 3 x8.2.2.2.1) (B.n 3)) B.T (B.e (B.f .blk 3 x8.2.2.2.1) (B.n 4))) x8.1 B.F) x8.2.1 B.F) λx9=>
 B.c x9.1 (B.j WX WY (x8.2.2.2.1,B.p (B.f .blk 0 x8.2.2.2.1) (B.f .blk 1 x8.2.2.2.1),()) λx10=>
 B.r (B.x .blk (x10.1,x10.2.1,x10.2.2.1,x10.2.2.2.1,x10.q.1,x10.q.2.1,x10.q.2.2.1,()),()))<|
 B.s (.x .blk) x8.2.2.2.1 λx10=>
 B.r (x10.1,())
def WZ (yF:Pt A j6) (yG:Ft A j6) (Wu:Pt A AZ) (Wv:Ft A AZ) (ahg:Pt A KC) (ahh:Ft A KC) (Ll:Pt A Bc) (Lm:Ft A Bc) (Ei:Pt A lV) (Ej:Ft A lV) (x:Tup A.ah [.x .blk]):Ot A KD:=
 B.j yF yG (x.1,()) λx0=>
 B.c (B.N x0.1) (B.r (B.x .blk (B.z,B.z,A.je .iop,B.z,B.z,B.z,B.z,()),()))<|
 B.j Ei Ej (x.1,()) λx1=>
 B.i B.z λx2=>
 B.I [.i,.i,.i,.i,.i,.i,.i,.i,.i,.i,.i,.i,.i,.l .iop] (λx3=>
 B.c (B.l x3.1 (B.y .iop x3.o.q.2.1)) (B.w .iop x3.o.q.2.1 x3.1<|
 B.w .iop x3.o.q.2.1 x3.1<|
 B.s (.x .iop) (B.o .iop x3.o.q.2.1 x3.1) λx4=>
 B.j Ll Lm (x3.o.q.2.1,B.f .iop 1 x4.1,()) λx5=>
 B.i x5.1 λx6=>
 B.b x5.2.1 λx7=>
 B.j Ll Lm (x3.o.q.2.1,B.f .iop 2 x4.1,()) λx8=>
 B.i x8.1 λx9=>
 B.b x8.2.1 λx10=>
 A.bind [.i,.i,.i,.i,.i,.i,.i,.i,.i,.i,.i,.i,.i,.l .iop] (B.c (B.a (B.a (B.e (B.f .iop 0 x4.1) (B.n 3)) x7.1 B.F) x10.1 B.F) (B.j Wu Wv (B.f .iop 3 x4.1,x6.1,x9.1,()) λx11=>
 B.w .iop x3.o.q.2.1 x3.1<|
 B.w .iop x3.o.q.2.1 x3.1<|
 B.r (x3.1,x3.2.1,x3.2.2.1,x3.2.2.2.1,x3.q.1,x3.q.2.1,x3.q.2.2.1,x3.q.2.2.2.1,x3.o.1,x3.o.2.1,x3.o.2.2.1,x3.o.2.2.2.1,x3.o.q.1,A.set .iop x3.o.q.2.1 x3.1 (B.x .iop (B.u,B.z,B.z,x11.1,B.z,())),()))<|
 B.r (x3.1,x3.2.1,x3.2.2.1,x3.2.2.2.1,x3.q.1,x3.q.2.1,x3.q.2.2.1,x3.q.2.2.2.1,x3.o.1,x3.o.2.1,x3.o.2.2.1,x3.o.2.2.2.1,x3.o.q.1,x3.o.q.2.1,())) λx11=>
 B.i (B.p x11.1 B.u) λx12=>
 B.L (x12.1,x11.2.1,x11.2.2.1,x11.2.2.2.1,x11.q.1,x11.q.2.1,x11.q.2.2.1,x11.q.2.2.2.1,x11.o.1,x11.o.2.1,x11.o.2.2.1,x11.o.2.2.2.1,x11.o.q.1,x11.o.q.2.1,()))<|
 B.R<|B.j ahg ahh (B.x .blk (x3.q.2.2.2.1,x3.o.1,x3.o.q.2.1,x3.o.2.1,x3.o.2.2.1,x3.o.2.2.2.1,x3.o.q.1,()),()) λx4=>
 B.s (.x .blk) x4.1 λx5=>
 B.r (x5.1,())) (x2.1,B.z,B.z,B.z,B.z,B.z,B.z,x1.1,x1.2.1,x1.2.2.1,x1.2.2.2.1,x1.q.1,x1.q.2.1,x1.q.2.2.1,())
def Xa (yF:Pt A j6) (yG:Ft A j6) (WJ:Pt A Ba) (WK:Ft A Ba) (Ei:Pt A lV) (Ej:Ft A lV) (x:Tup A.ah [.x .blk]):Ot A Bd:=
 B.j yF yG (x.1,()) λx0=>
 B.c (B.N x0.1) (B.r (B.z,B.z,B.z,B.z,B.z,B.z,A.je .iop,()))<|
 B.j Ei Ej (x.1,()) λx1=>
 B.s (.l .i64) (A.lst .i64 []) λx2=>
 B.s (.l .i64) (A.lst .i64 [B.x .i64 (B.n (-1),()),B.x .i64 (B.n (-1),()),B.x .i64 (B.n (-1),()),B.x .i64 (B.n (-1),())]) λx3=>
 B.i B.z λx4=>
 B.I [.i,.i,.i,.i,.i,.i,.i,.i,.i,.i,.i,.i,.i,.l .i64,.l .i64,.l .iop] (λx5=>
 B.c (B.l x5.1 (B.y .iop x5.o.q.2.2.2.1)) (B.w .iop x5.o.q.2.2.2.1 x5.1<|
 B.w .iop x5.o.q.2.2.2.1 x5.1<|
 B.j WJ WK (B.o .iop x5.o.q.2.2.2.1 x5.1,x5.o.q.2.1,()) λx6=>
 B.s (.x .iop) x6.1 λx7=>
 B.w .iop x5.o.q.2.2.2.1 x5.1<|
 B.w .iop x5.o.q.2.2.2.1 x5.1<|
 B.s (.x .iop) x7.1 λx8=>
 B.i x5.1 λx9=>
 B.C (B.O (B.N (B.e (B.f .iop 0 x7.1) (B.n 2))) (B.m B.z (B.f .iop 3 x7.1)))<|
 B.C (B.O (B.N (B.e (B.f .iop 0 x7.1) (B.n 2))) (B.l (B.f .iop 3 x7.1) (B.y .i64 x5.o.q.2.2.1)))<|
 B.C (B.O (B.N (B.e (B.f .iop 0 x7.1) (B.n 2))) (B.m B.z (B.f .iop 3 x7.1)))<|
 B.C (B.O (B.N (B.e (B.f .iop 0 x7.1) (B.n 2))) (B.l (B.f .iop 3 x7.1) (B.y .i64 x5.o.q.2.2.1)))<|
 A.bind [.i,.i,.i,.i,.i,.i,.i,.i,.i,.i,.i,.i,.i,.i,.l .i64,.l .i64,.x .iop,.l .iop] (B.c (B.a (B.e (B.f .iop 0 x7.1) (B.n 2)) (B.h (B.f .i64 0 (B.o .i64 x5.o.q.2.2.1 (B.f .iop 3 x7.1))) B.z) B.F) (B.w .i64 x5.o.q.2.2.1 (B.f .iop 3 x7.1)<|
 B.w .i64 x5.o.q.2.2.1 (B.f .iop 3 x7.1)<|
 B.i (B.f .i64 0 (B.o .i64 x5.o.q.2.2.1 (B.f .iop 3 x7.1))) λx10=>
 B.r (x5.1,x10.1,x5.2.1,x5.2.2.1,x5.2.2.2.1,x5.q.1,x5.q.2.1,x5.q.2.2.1,x5.q.2.2.2.1,x5.o.1,x5.o.2.1,x5.o.2.2.1,x5.o.2.2.2.1,x5.o.q.1,x5.o.q.2.1,x5.o.q.2.2.1,x7.1,A.set .iop x5.o.q.2.2.2.1 x5.1 x8.1,()))<|
 B.r (x5.1,x9.1,x5.2.1,x5.2.2.1,x5.2.2.2.1,x5.q.1,x5.q.2.1,x5.q.2.2.1,x5.q.2.2.2.1,x5.o.1,x5.o.2.1,x5.o.2.2.1,x5.o.2.2.2.1,x5.o.q.1,x5.o.q.2.1,x5.o.q.2.2.1,x7.1,A.set .iop x5.o.q.2.2.2.1 x5.1 x8.1,())) λx10=>
 A.bind [.i,.i,.i,.i,.i,.i,.i,.i,.i,.i,.i,.i,.i,.i,.l .i64,.l .i64,.x .iop,.l .iop] (B.c (B.e (B.f .iop 0 x10.o.o.1) (B.n 2)) (B.w .i64 x10.o.q.2.2.2.1 (B.f .iop 3 x10.o.o.1)<|
 B.w .i64 x10.o.q.2.2.2.1 (B.f .iop 3 x10.o.o.1)<|
 B.i x10.2.1 λx11=>
 B.r (x10.1,x10.2.1,x10.2.2.1,x10.2.2.2.1,x10.q.1,x10.q.2.1,x10.q.2.2.1,x10.q.2.2.2.1,x10.o.1,x10.o.2.1,x10.o.2.2.1,x10.o.2.2.2.1,x10.o.q.1,x10.o.q.2.1,x10.o.q.2.2.1,A.set .i64 x10.o.q.2.2.2.1 (B.f .iop 3 x10.o.o.1) (B.x .i64 (x11.1,())),x10.o.o.1,x10.o.o.2.1,()))<|
 B.r (x10.1,x10.2.1,x10.2.2.1,x10.2.2.2.1,x10.q.1,x10.q.2.1,x10.q.2.2.1,x10.q.2.2.2.1,x10.o.1,x10.o.2.1,x10.o.2.2.1,x10.o.2.2.2.1,x10.o.q.1,x10.o.q.2.1,x10.o.q.2.2.1,x10.o.q.2.2.2.1,x10.o.o.1,x10.o.o.2.1,())) λx11=>
 A.bind [.i,.i,.i,.i,.i,.i,.i,.i,.i,.i,.i,.i,.i,.i,.l .i64,.l .i64,.l .iop] (B.c (B.e (B.f .iop 0 x11.o.o.1) (B.n 8)) (B.w .i64 x11.o.q.2.2.2.1 (B.f .iop 3 x11.o.o.1)<|
 B.w .i64 x11.o.q.2.2.2.1 (B.f .iop 3 x11.o.o.1)<|
 B.i (B.f .iop 1 x11.o.o.1) λx12=>
 B.r (x11.1,x11.2.1,x11.2.2.1,x11.2.2.2.1,x11.q.1,x11.q.2.1,x11.q.2.2.1,x11.q.2.2.2.1,x11.o.1,x11.o.2.1,x11.o.2.2.1,x11.o.2.2.2.1,x11.o.q.1,x11.o.q.2.1,x11.o.q.2.2.1,A.set .i64 x11.o.q.2.2.2.1 (B.f .iop 3 x11.o.o.1) (B.x .i64 (x12.1,())),x11.o.o.2.1,()))<|
 B.r (x11.1,x11.2.1,x11.2.2.1,x11.2.2.2.1,x11.q.1,x11.q.2.1,x11.q.2.2.1,x11.q.2.2.2.1,x11.o.1,x11.o.2.1,x11.o.2.2.1,x11.o.2.2.2.1,x11.o.q.1,x11.o.q.2.1,x11.o.q.2.2.1,x11.o.q.2.2.2.1,x11.o.o.2.1,())) λx12=>
 B.s (.l .i64) (A.lst .i64 [B.x .i64 (x12.2.1,())]) λx13=>
 B.C (B.m (A.addN (B.y .i64 x12.o.q.2.2.1) (B.y .i64 x13.1)) (B.n 1073741824))<|
 B.s (.l .i64) (A.app .i64 x12.o.q.2.2.1 x13.1) λx14=>
 B.i (B.p x12.1 B.u) λx15=>
 B.L (x15.1,x12.2.2.1,x12.2.2.2.1,x12.q.1,x12.q.2.1,x12.q.2.2.1,x12.q.2.2.2.1,x12.o.1,x12.o.2.1,x12.o.2.2.1,x12.o.2.2.2.1,x12.o.q.1,x12.o.q.2.1,x14.1,x12.o.q.2.2.2.1,x12.o.o.1,()))<|
 B.R<|A.bind [.i,.i,.i,.i,.i,.i,.i,.i,.i,.i,.i,.i,.l .i64,.l .iop] (B.c (B.d x5.o.2.1 B.u) (B.w .i64 x5.o.q.2.1 x5.o.2.2.1<|
 B.w .i64 x5.o.q.2.1 x5.o.2.2.1<|
 B.i (B.f .i64 0 (B.o .i64 x5.o.q.2.1 x5.o.2.2.1)) λx6=>
 B.r (x5.2.1,x5.2.2.1,x5.2.2.2.1,x5.q.1,x5.q.2.1,x5.q.2.2.1,x5.q.2.2.2.1,x5.o.1,x5.o.2.1,x6.1,x5.o.2.2.2.1,x5.o.q.1,x5.o.q.2.1,x5.o.q.2.2.2.1,()))<|
 B.r (x5.2.1,x5.2.2.1,x5.2.2.2.1,x5.q.1,x5.q.2.1,x5.q.2.2.1,x5.q.2.2.2.1,x5.o.1,x5.o.2.1,x5.o.2.2.1,x5.o.2.2.2.1,x5.o.q.1,x5.o.q.2.1,x5.o.q.2.2.2.1,())) λx6=>
 A.bind [.i,.i,.i,.i,.i,.i,.i,.i,.i,.i,.i,.i,.l .iop] (B.c (B.a (B.e x6.o.1 (B.n 3)) B.T (B.e x6.o.1 (B.n 4))) (B.w .i64 x6.o.q.1 x6.o.2.2.1<|
 B.w .i64 x6.o.q.1 x6.o.2.2.1<|
 B.i (B.f .i64 0 (B.o .i64 x6.o.q.1 x6.o.2.2.1)) λx7=>
 B.r (x6.1,x6.2.1,x6.2.2.1,x6.2.2.2.1,x6.q.1,x6.q.2.1,x6.q.2.2.1,x6.q.2.2.2.1,x6.o.1,x6.o.2.1,x7.1,x6.o.2.2.2.1,x6.o.q.2.1,()))<|
 B.r (x6.1,x6.2.1,x6.2.2.1,x6.2.2.2.1,x6.q.1,x6.q.2.1,x6.q.2.2.1,x6.q.2.2.2.1,x6.o.1,x6.o.2.1,x6.o.2.2.1,x6.o.2.2.2.1,x6.o.q.2.1,())) λx7=>
 B.r (x7.q.2.2.1,x7.q.2.2.2.1,x7.o.1,x7.o.2.1,x7.o.2.2.1,x7.o.2.2.2.1,x7.o.q.1,())) (x4.1,B.z,B.z,B.z,B.z,B.z,B.z,x1.1,x1.2.1,x1.2.2.1,x1.2.2.2.1,x1.q.1,x1.q.2.1,x2.1,x3.1,x1.q.2.2.1,())
def Xb (ahi:Pt A KD) (ahj:Ft A KD) (Xc:Pt A Bd) (Xd:Ft A Bd) (abF:Pt A Kw) (abG:Ft A Kw) (ahk:Pt A Kz) (ahl:Ft A Kz) (x:Tup A.ah [.x .blk]):Ot A Bf:=
 B.j Xc Xd (x.1,()) λx0=>
 B.j ahi ahj (B.x .blk (x0.1,x0.2.1,x0.q.2.2.1,x0.2.2.1,x0.2.2.2.1,x0.q.1,x0.q.2.1,()),()) λx1=>
 B.j abF abG (x1.1,()) λx2=>
 B.j ahk ahl (B.x .blk (x2.1,x2.2.1,x2.q.2.2.1,x2.2.2.1,x2.2.2.2.1,x2.q.1,x2.q.2.1,()),()) λx3=>
 B.j abF abG (B.x .blk (x3.1,x3.2.1,x3.q.2.2.1,x3.2.2.1,x3.2.2.2.1,x3.q.1,x3.q.2.1,()),()) λx4=>
 B.r (x4.1,x4.2.1,x4.2.2.1,x4.2.2.2.1,x4.q.1,x4.q.2.1,x4.q.2.2.1,())
def Pz (Xe:Pt A AU) (Xf:Ft A AU) (Xg:Pt A Bf) (Xh:Ft A Bf) (aD:Pt A bA) (aF:Ft A bA) (Xi:Pt A A9) (Xj:Ft A A9) (Lg:Pt A rZ) (Lh:Ft A rZ) (Ed:Pt A lS) (Ee:Ft A lS) (x:Tup A.ah [.l .u8,.i]):Ot A Ea:=
 B.j Lg Lh (x.1,x.2.1,()) λx0=>
 B.C (B.m B.z B.z)<|
 B.C (B.m B.z (A.Fw (B.y .ins x0.2.2.1) (B.n 7)))<|
 B.C (B.m (A.Fw (B.y .ins x0.2.2.1) (B.n 7)) (B.y .ins x0.2.2.1))<|
 B.j aD aF (B.n 4,x0.1,x0.2.1,()) λx1=>
 B.C (B.m B.z B.z)<|
 B.C (B.m B.z (A.lJ (A.Fw (B.y .ins x0.2.2.1) (B.n 7)) B.z))<|
 B.C (B.m (A.addN B.z (A.lJ (A.Fw (B.y .ins x0.2.2.1) (B.n 7)) B.z)) (B.y .ins x0.2.2.1))<|
 B.C (B.O (B.l B.z (B.y .ins (A.sub .ins x0.2.2.1 B.z (A.addN B.z (A.lJ (A.Fw (B.y .ins x0.2.2.1) (B.n 7)) B.z))))) (B.e (B.y .ins (A.lst .ins [B.x .ins (B.n 10,x1.1,B.n 3,B.z,())])) B.z))<|
 B.C (B.m (A.addN (B.y .ins (A.lst .ins [B.x .ins (B.n 10,x1.1,B.n 3,B.z,())])) (B.y .ins (A.sub .ins x0.2.2.1 B.z (A.addN B.z (A.lJ (A.Fw (B.y .ins x0.2.2.1) (B.n 7)) B.z))))) (B.n 1073741824))<|
 B.s (.l .ins) (A.app .ins (A.lst .ins [B.x .ins (B.n 10,x1.1,B.n 3,B.z,())]) (A.sub .ins x0.2.2.1 B.z (A.addN B.z (A.lJ (A.Fw (B.y .ins x0.2.2.1) (B.n 7)) B.z)))) λx2=>
 B.i B.z λx3=>
 A.bind [.i,.b,.l .u8,.i,.i,.i,.i,.i,.i,.i,.i,.i,.b,.b,.i,.i,.l .ins] (B.c (B.g (B.y .ins x2.1) (B.n 2)) (B.j aD aF (B.n 2,x1.2.1,x1.2.2.1,()) λx4=>
 B.r (x3.1,B.a (B.g (B.y .ins x2.1) (B.n 2)) (B.e x4.1 B.z) B.F,x4.2.1,x4.2.2.1,B.z,B.z,B.z,B.z,B.z,B.z,B.z,B.z,B.F,B.F,B.z,B.z,x2.1,()))<|
 B.C (B.N (B.g (B.y .ins x2.1) (B.n 2)))<|
 B.r (x3.1,B.F,x1.2.1,x1.2.2.1,B.z,B.z,B.z,B.z,B.z,B.z,B.z,B.z,B.F,B.F,B.z,B.z,x2.1,())) λx4=>
 A.bind [.i,.l .u8,.i,.i,.i,.i,.i,.i,.i,.i,.i,.b,.b,.i,.i,.l .ins] (B.c x4.2.1 (B.w .ins x4.o.o.1 B.u<|
 B.w .ins x4.o.o.1 B.u<|
 B.s (.x .ins) (B.o .ins x4.o.o.1 B.u) λx5=>
 B.j Ed Ee (x5.1,()) λx6=>
 A.bind [.i,.l .u8,.i,.i,.i,.i,.i,.i,.i,.i,.i,.b,.b,.i,.i,.l .ins] (B.c (B.a (B.a x6.1 (B.d (B.f .ins 0 x5.1) (B.n 10)) B.F) (B.d (B.f .ins 1 x5.1) (B.n 3)) B.F) (B.w .ins x4.o.o.1 B.z<|
 B.w .ins x4.o.o.1 B.z<|
 B.s (.x .ins) x5.1 λx7=>
 B.j aD aF (B.n 4,x4.2.2.1,x4.2.2.2.1,()) λx8=>
 B.w .ins (A.set .ins x4.o.o.1 B.z x7.1) B.u<|
 B.w .ins (A.set .ins x4.o.o.1 B.z x7.1) B.u<|
 B.i B.u λx9=>
 B.r (x9.1,x8.2.1,x8.2.2.1,x4.q.1,x4.q.2.1,x4.q.2.2.1,x4.q.2.2.2.1,x4.o.1,x4.o.2.1,x4.o.2.2.1,x4.o.2.2.2.1,x4.o.q.1,x4.o.q.2.1,x4.o.q.2.2.1,x4.o.q.2.2.2.1,A.set .ins (A.set .ins x4.o.o.1 B.z x7.1) B.u (B.x .ins (B.n 10,x8.1,B.n 3,B.z,())),()))<|
 B.r (x4.1,x4.2.2.1,x4.2.2.2.1,x4.q.1,x4.q.2.1,x4.q.2.2.1,x4.q.2.2.2.1,x4.o.1,x4.o.2.1,x4.o.2.2.1,x4.o.2.2.2.1,x4.o.q.1,x4.o.q.2.1,x4.o.q.2.2.1,x4.o.q.2.2.2.1,x4.o.o.1,())) λx7=>
 B.r (x7.1,x7.2.1,x7.2.2.1,x7.2.2.2.1,x7.q.1,x7.q.2.1,x7.q.2.2.1,x7.q.2.2.2.1,x7.o.1,x7.o.2.1,x7.o.2.2.1,x7.o.2.2.2.1,x7.o.q.1,x7.o.q.2.1,x7.o.q.2.2.1,x7.o.q.2.2.2.1,()))<|
 B.r (x4.1,x4.2.2.1,x4.2.2.2.1,x4.q.1,x4.q.2.1,x4.q.2.2.1,x4.q.2.2.2.1,x4.o.1,x4.o.2.1,x4.o.2.2.1,x4.o.2.2.2.1,x4.o.q.1,x4.o.q.2.1,x4.o.q.2.2.1,x4.o.q.2.2.2.1,x4.o.o.1,())) λx5=>
 B.j aD aF (B.q (B.n 64) (B.y .ins x5.o.q.2.2.2.1),x5.2.1,x5.2.2.1,()) λx6=>
 B.i x6.1 λx7=>
 B.j Xe Xf (x7.1,x5.o.q.2.2.2.1,()) λx8=>
 B.j aD aF (B.n 3,x6.2.1,x6.2.2.1,()) λx9=>
 A.bind [.i,.i,.l .u8,.i,.i,.i,.i,.i,.i,.i,.i,.i,.b,.b,.i,.i,.l .ins,.i,.i,.i,.i,.i,.i,.l .iop] (B.c (B.e x9.1 B.z) (B.j Xg Xh (B.x .blk (x8.1,x8.2.1,x8.q.2.2.1,x8.2.2.1,x8.2.2.2.1,x8.q.1,x8.q.2.1,()),()) λx10=>
 B.r (x5.1,x7.1,x9.2.1,x9.2.2.1,x5.2.2.2.1,x5.q.1,x5.q.2.1,x5.q.2.2.1,x5.q.2.2.2.1,x5.o.1,x5.o.2.1,x5.o.2.2.1,x5.o.2.2.2.1,x5.o.q.1,x5.o.q.2.1,x5.o.q.2.2.1,x5.o.q.2.2.2.1,x10.1,x10.2.1,x10.2.2.1,x10.2.2.2.1,x10.q.1,x10.q.2.1,x10.q.2.2.1,()))<|
 B.r (x5.1,x7.1,x9.2.1,x9.2.2.1,x5.2.2.2.1,x5.q.1,x5.q.2.1,x5.q.2.2.1,x5.q.2.2.2.1,x5.o.1,x5.o.2.1,x5.o.2.2.1,x5.o.2.2.2.1,x5.o.q.1,x5.o.q.2.1,x5.o.q.2.2.1,x5.o.q.2.2.2.1,x8.1,x8.2.1,x8.2.2.1,x8.2.2.2.1,x8.q.1,x8.q.2.1,x8.q.2.2.1,())) λx10=>
 B.j Xi Xj (B.x .blk (x10.o.o.2.1,x10.o.o.2.2.1,x10.o.o.q.2.2.2.1,x10.o.o.2.2.2.1,x10.o.o.q.1,x10.o.o.q.2.1,x10.o.o.q.2.2.1,()),x10.2.2.1,x10.2.2.2.1,()) λx11=>
 B.j aD aF (B.p (B.q (B.y .ins x10.o.o.1) x10.1) B.u,x11.q.2.2.2.1,x11.o.1,()) λx12=>
 B.w .i64 x11.o.2.1 (B.n 3)<|
 B.w .i64 x11.o.2.1 (B.n 3)<|
 B.i (B.p (B.p x10.2.1 x10.1) x12.1) λx13=>
 B.r (x10.o.o.2.1,x10.o.o.2.2.1,x10.o.o.2.2.2.1,x10.o.o.q.1,x10.o.o.q.2.1,x10.o.o.q.2.2.1,x11.1,x11.2.1,x11.2.2.1,x11.2.2.2.1,x11.q.1,x11.q.2.1,x11.q.2.2.1,x12.2.1,x12.2.2.1,x10.o.o.q.2.2.2.1,A.set .i64 x11.o.2.1 (B.n 3) (B.x .i64 (x13.1,())),x11.o.2.2.1,x11.o.2.2.2.1,())
def Xk (Xe:Pt A AU) (Xf:Ft A AU) (Xg:Pt A Bf) (Xh:Ft A Bf) (Xc:Pt A Bd) (Xd:Ft A Bd) (aD:Pt A bA) (aF:Ft A bA) (Lg:Pt A rZ) (Lh:Ft A rZ) (x:Tup A.ah [.l .u8,.i]):Ot A KE:=
 B.j Lg Lh (x.1,x.2.1,()) λx0=>
 B.j aD aF (B.n 50,x0.1,x0.2.1,()) λx1=>
 B.s (.l .i64) (A.lst .i64 [B.x .i64 (B.z,()),B.x .i64 (B.u,()),B.x .i64 (x1.1,()),B.x .i64 (B.q (B.n 64) (B.y .ins x0.2.2.1),())]) λx2=>
 B.j aD aF (B.n 4,x1.2.1,x1.2.2.1,()) λx3=>
 B.w .i64 x2.1 x3.1<|
 B.w .i64 x2.1 x3.1<|
 B.j Xe Xf (B.f .i64 0 (B.o .i64 x2.1 x3.1),x0.2.2.1,()) λx4=>
 B.j aD aF (B.n 5,x3.2.1,x3.2.2.1,()) λx5=>
 B.b (B.e x5.1 B.z) λx6=>
 B.c x6.1 (B.j Xg Xh (B.x .blk (x4.1,x4.2.1,x4.q.2.2.1,x4.2.2.1,x4.2.2.2.1,x4.q.1,x4.q.2.1,()),()) λx7=>
 B.r (x7.1,x7.2.1,x7.2.2.1,x7.2.2.2.1,x7.q.1,x7.q.2.1,x5.2.1,x5.2.2.1,x7.q.2.2.1,()))<|
 B.b (B.e x5.1 B.u) λx7=>
 B.c x7.1 (B.j Xc Xd (B.x .blk (x4.1,x4.2.1,x4.q.2.2.1,x4.2.2.1,x4.2.2.2.1,x4.q.1,x4.q.2.1,()),()) λx8=>
 B.r (x8.1,x8.2.1,x8.2.2.1,x8.2.2.2.1,x8.q.1,x8.q.2.1,x5.2.1,x5.2.2.1,x8.q.2.2.1,()))<|
 B.r (x4.1,x4.2.1,x4.2.2.1,x4.2.2.2.1,x4.q.1,x4.q.2.1,x5.2.1,x5.2.2.1,x4.q.2.2.1,())
def Rp (aD:Pt A bA) (aF:Ft A bA) (Ei:Pt A lV) (Ej:Ft A lV) (x:Tup A.ah [.x .blk,.l .u8,.i]):Ot A KF:=
 B.j Ei Ej (x.1,()) λx0=>
 B.c (B.e (B.y .iop x0.q.2.2.1) B.z) (B.i (B.p x0.q.2.1 B.u) λx1=>
 B.r (x0.1,x0.2.1,x0.2.2.1,x0.2.2.2.1,x0.q.1,x1.1,x.2.1,x.2.2.1,x0.q.2.2.1,()))<|
 B.j aD aF (B.y .iop x0.q.2.2.1,x.2.1,x.2.2.1,()) λx1=>
 B.i x1.1 λx2=>
 B.j aD aF (B.n 9,x1.2.1,x1.2.2.1,()) λx3=>
 B.b (B.e x3.1 B.z) λx4=>
 A.bind [.l .u8,.i,.i,.i,.i,.i,.i,.i,.i,.i,.i,.i,.i,.i,.l .iop] (B.c x4.1 (B.w .iop x0.q.2.2.1 x2.1<|
 B.w .iop x0.q.2.2.1 x2.1<|
 B.w .iop x0.q.2.2.1 x2.1<|
 B.w .iop x0.q.2.2.1 x2.1<|
 B.i (B.p (B.f .iop 3 (B.o .iop x0.q.2.2.1 x2.1)) B.u) λx5=>
 B.r (x3.2.1,x3.2.2.1,B.z,B.z,B.z,B.z,B.z,B.z,x0.1,x0.2.1,x0.2.2.1,x0.2.2.2.1,x0.q.1,x0.q.2.1,A.set .iop x0.q.2.2.1 x2.1 (B.x .iop (B.f .iop 0 (B.o .iop x0.q.2.2.1 x2.1),B.f .iop 1 (B.o .iop x0.q.2.2.1 x2.1),B.f .iop 2 (B.o .iop x0.q.2.2.1 x2.1),x5.1,B.f .iop 4 (B.o .iop x0.q.2.2.1 x2.1),())),()))<|
 B.b (B.e x3.1 B.u) λx5=>
 A.bind [.l .u8,.i,.i,.i,.i,.i,.i,.i,.i,.i,.i,.i,.i,.i,.l .iop] (B.c x5.1 (B.j aD aF (B.p x2.1 B.u,x3.2.1,x3.2.2.1,()) λx6=>
 B.w .iop x0.q.2.2.1 x2.1<|
 B.w .iop x0.q.2.2.1 x2.1<|
 B.i x6.1 λx7=>
 B.r (x6.2.1,x6.2.2.1,B.z,B.z,B.z,B.z,B.z,B.z,x0.1,x0.2.1,x0.2.2.1,x0.2.2.2.1,x0.q.1,x0.q.2.1,A.set .iop x0.q.2.2.1 x2.1 (B.x .iop (B.f .iop 0 (B.o .iop x0.q.2.2.1 x2.1),x7.1,B.f .iop 2 (B.o .iop x0.q.2.2.1 x2.1),B.f .iop 3 (B.o .iop x0.q.2.2.1 x2.1),B.f .iop 4 (B.o .iop x0.q.2.2.1 x2.1),())),()))<|
 B.b (B.e x3.1 (B.n 2)) λx6=>
 A.bind [.l .u8,.i,.i,.i,.i,.i,.i,.i,.i,.i,.i,.i,.i,.i,.l .iop] (B.c x6.1 (B.j aD aF (B.p x2.1 B.u,x3.2.1,x3.2.2.1,()) λx7=>
 B.w .iop x0.q.2.2.1 x2.1<|
 B.w .iop x0.q.2.2.1 x2.1<|
 B.i x7.1 λx8=>
 B.r (x7.2.1,x7.2.2.1,B.z,B.z,B.z,B.z,B.z,B.z,x0.1,x0.2.1,x0.2.2.1,x0.2.2.2.1,x0.q.1,x0.q.2.1,A.set .iop x0.q.2.2.1 x2.1 (B.x .iop (B.f .iop 0 (B.o .iop x0.q.2.2.1 x2.1),B.f .iop 1 (B.o .iop x0.q.2.2.1 x2.1),x8.1,B.f .iop 3 (B.o .iop x0.q.2.2.1 x2.1),B.f .iop 4 (B.o .iop x0.q.2.2.1 x2.1),())),()))<|
 B.b (B.e x3.1 (B.n 3)) λx7=>
 A.bind [.l .u8,.i,.i,.i,.i,.i,.i,.i,.i,.i,.i,.i,.i,.i,.l .iop] (B.c x7.1 (B.j aD aF (B.p x0.2.1 B.u,x3.2.1,x3.2.2.1,()) λx8=>
 B.w .iop x0.q.2.2.1 x2.1<|
 B.w .iop x0.q.2.2.1 x2.1<|
 B.i x8.1 λx9=>
 B.r (x8.2.1,x8.2.2.1,B.z,B.z,B.z,B.z,B.z,B.z,x0.1,x0.2.1,x0.2.2.1,x0.2.2.2.1,x0.q.1,x0.q.2.1,A.set .iop x0.q.2.2.1 x2.1 (B.x .iop (B.f .iop 0 (B.o .iop x0.q.2.2.1 x2.1),B.f .iop 1 (B.o .iop x0.q.2.2.1 x2.1),B.f .iop 2 (B.o .iop x0.q.2.2.1 x2.1),B.f .iop 3 (B.o .iop x0.q.2.2.1 x2.1),x9.1,())),()))<|
 B.b (B.e x3.1 (B.n 4)) λx8=>
 A.bind [.l .u8,.i,.i,.i,.i,.i,.i,.i,.i,.i,.i,.i,.i,.i,.l .iop] (B.c x8.1 (B.j aD aF (B.n 66,x3.2.1,x3.2.2.1,()) λx9=>
 B.i x9.1 λx10=>
 B.r (x9.2.1,x9.2.2.1,B.z,B.z,B.z,B.z,B.z,B.z,x0.1,x0.2.1,x0.2.2.1,x0.2.2.2.1,x0.q.1,x10.1,x0.q.2.2.1,()))<|
 B.b (B.e x3.1 (B.n 5)) λx9=>
 A.bind [.l .u8,.i,.i,.i,.i,.i,.i,.i,.i,.i,.i,.i,.i,.i,.l .iop] (B.c x9.1 (B.j aD aF (B.n 4,x3.2.1,x3.2.2.1,()) λx10=>
 B.i (B.p B.u x10.1) λx11=>
 B.r (x10.2.1,x10.2.2.1,B.z,B.z,B.z,B.z,B.z,B.z,x0.1,x0.2.1,x11.1,x0.2.2.2.1,x0.q.1,x0.q.2.1,x0.q.2.2.1,()))<|
 B.b (B.e x3.1 (B.n 6)) λx10=>
 A.bind [.l .u8,.i,.i,.i,.i,.i,.i,.i,.i,.i,.i,.i,.i,.i,.l .iop] (B.c x10.1 (A.bind [.l .u8,.i,.i,.i,.i,.i,.i,.i,.i,.i,.i,.i,.i,.i,.l .iop] (B.c (B.g x2.1 B.z) (B.w .iop x0.q.2.2.1 x2.1<|
 B.w .iop x0.q.2.2.1 x2.1<|
 B.s (.x .iop) (B.o .iop x0.q.2.2.1 x2.1) λx11=>
 B.w .iop x0.q.2.2.1 (B.q x2.1 B.u)<|
 B.w .iop x0.q.2.2.1 (B.q x2.1 B.u)<|
 B.w .iop x0.q.2.2.1 x2.1<|
 B.w .iop x0.q.2.2.1 x2.1<|
 B.s (.x .iop) (B.o .iop x0.q.2.2.1 (B.q x2.1 B.u)) λx12=>
 B.w .iop (A.set .iop x0.q.2.2.1 x2.1 x12.1) (B.q x2.1 B.u)<|
 B.w .iop (A.set .iop x0.q.2.2.1 x2.1 x12.1) (B.q x2.1 B.u)<|
 B.s (.x .iop) x11.1 λx13=>
 B.r (x3.2.1,x3.2.2.1,B.z,B.z,B.z,B.z,B.z,B.z,x0.1,x0.2.1,x0.2.2.1,x0.2.2.2.1,x0.q.1,x0.q.2.1,A.set .iop (A.set .iop x0.q.2.2.1 x2.1 x12.1) (B.q x2.1 B.u) x13.1,()))<|
 B.r (x3.2.1,x3.2.2.1,B.z,B.z,B.z,B.z,B.z,B.z,x0.1,x0.2.1,x0.2.2.1,x0.2.2.2.1,x0.q.1,x0.q.2.1,x0.q.2.2.1,())) λx11=>
 B.r (x11.1,x11.2.1,x11.2.2.1,x11.2.2.2.1,x11.q.1,x11.q.2.1,x11.q.2.2.1,x11.q.2.2.2.1,x11.o.1,x11.o.2.1,x11.o.2.2.1,x11.o.2.2.2.1,x11.o.q.1,x11.o.q.2.1,x11.o.q.2.2.1,()))<|
 B.b (B.e x3.1 (B.n 7)) λx11=>
 A.bind [.l .u8,.i,.i,.i,.i,.i,.i,.i,.i,.i,.i,.i,.i,.i,.l .iop] (B.c x11.1 (B.j aD aF (B.n 3,x3.2.1,x3.2.2.1,()) λx12=>
 B.w .iop x0.q.2.2.1 x2.1<|
 B.w .iop x0.q.2.2.1 x2.1<|
 B.r (x12.2.1,x12.2.2.1,B.z,B.z,B.z,B.z,B.z,B.z,x0.1,x0.2.1,x0.2.2.1,x0.2.2.2.1,x0.q.1,x0.q.2.1,A.set .iop x0.q.2.2.1 x2.1 (B.x .iop (B.u,B.z,B.z,x12.1,B.z,())),()))<|
 B.C (B.m B.z B.z)<|
 B.C (B.m B.z x2.1)<|
 B.C (B.m x2.1 (B.y .iop x0.q.2.2.1))<|
 B.C (B.e B.z B.z)<|
 B.C (B.m B.z (A.lJ x2.1 B.z))<|
 B.C (B.m (A.lJ x2.1 B.z) (B.y .iop x0.q.2.2.1))<|
 B.r (x3.2.1,x3.2.2.1,B.z,B.z,B.z,B.z,B.z,B.z,x0.1,x0.2.1,x0.2.2.1,x0.2.2.2.1,x0.q.1,x0.q.2.1,A.sub .iop x0.q.2.2.1 B.z (A.lJ x2.1 B.z),())) λx12=>
 B.r (x12.1,x12.2.1,x12.2.2.1,x12.2.2.2.1,x12.q.1,x12.q.2.1,x12.q.2.2.1,x12.q.2.2.2.1,x12.o.1,x12.o.2.1,x12.o.2.2.1,x12.o.2.2.2.1,x12.o.q.1,x12.o.q.2.1,x12.o.q.2.2.1,())) λx11=>
 B.r (x11.1,x11.2.1,x11.2.2.1,x11.2.2.2.1,x11.q.1,x11.q.2.1,x11.q.2.2.1,x11.q.2.2.2.1,x11.o.1,x11.o.2.1,x11.o.2.2.1,x11.o.2.2.2.1,x11.o.q.1,x11.o.q.2.1,x11.o.q.2.2.1,())) λx10=>
 B.r (x10.1,x10.2.1,x10.2.2.1,x10.2.2.2.1,x10.q.1,x10.q.2.1,x10.q.2.2.1,x10.q.2.2.2.1,x10.o.1,x10.o.2.1,x10.o.2.2.1,x10.o.2.2.2.1,x10.o.q.1,x10.o.q.2.1,x10.o.q.2.2.1,())) λx9=>
 B.r (x9.1,x9.2.1,x9.2.2.1,x9.2.2.2.1,x9.q.1,x9.q.2.1,x9.q.2.2.1,x9.q.2.2.2.1,x9.o.1,x9.o.2.1,x9.o.2.2.1,x9.o.2.2.2.1,x9.o.q.1,x9.o.q.2.1,x9.o.q.2.2.1,())) λx8=>
 B.r (x8.1,x8.2.1,x8.2.2.1,x8.2.2.2.1,x8.q.1,x8.q.2.1,x8.q.2.2.1,x8.q.2.2.2.1,x8.o.1,x8.o.2.1,x8.o.2.2.1,x8.o.2.2.2.1,x8.o.q.1,x8.o.q.2.1,x8.o.q.2.2.1,())) λx7=>
 B.r (x7.1,x7.2.1,x7.2.2.1,x7.2.2.2.1,x7.q.1,x7.q.2.1,x7.q.2.2.1,x7.q.2.2.2.1,x7.o.1,x7.o.2.1,x7.o.2.2.1,x7.o.2.2.2.1,x7.o.q.1,x7.o.q.2.1,x7.o.q.2.2.1,())) λx6=>
 B.r (x6.1,x6.2.1,x6.2.2.1,x6.2.2.2.1,x6.q.1,x6.q.2.1,x6.q.2.2.1,x6.q.2.2.2.1,x6.o.1,x6.o.2.1,x6.o.2.2.1,x6.o.2.2.2.1,x6.o.q.1,x6.o.q.2.1,x6.o.q.2.2.1,())) λx5=>
 B.r (x5.o.1,x5.o.2.1,x5.o.2.2.1,x5.o.2.2.2.1,x5.o.q.1,x5.o.q.2.1,x5.1,x5.2.1,x5.o.q.2.2.1,())
def Xl (mW:Pt A gH) (mX:Ft A gH) (aD:Pt A bA) (aF:Ft A bA) (ahm:Pt A KF) (ahn:Ft A KF) (aho:Pt A KE) (ahp:Ft A KE) (x:Tup A.ah [.i,.l .u8,.i]):Ot A KG:=
 B.j aho ahp (x.2.1,x.2.2.1,()) λx0=>
 B.j mW mX (x.1,x0.q.2.2.1,x0.q.2.2.2.1,()) λx1=>
 A.eY [.l .u8,.i,.i,.i,.i,.i,.i,.i,.i,.i,.i,.i,.i,.i,.l .iop] (B.c x1.1 (B.j aD aF (B.n 6,x1.2.1,x1.2.2.1,()) λx2=>
 B.b (B.e x2.1 B.z) λx3=>
 A.eY [.l .u8,.i,.i,.i,.i,.i,.i,.i,.i,.i,.i,.i,.i,.i,.l .iop] (B.c x3.1 (B.s (.l .i64) (A.lst .i64 [B.x .i64 (B.z,()),B.x .i64 (B.n 9,())]) λx4=>
 B.j aD aF (B.n 2,x2.2.1,x2.2.2.1,()) λx5=>
 B.w .i64 x4.1 x5.1<|
 B.w .i64 x4.1 x5.1<|
 B.i (B.f .i64 0 (B.o .i64 x4.1 x5.1)) λx6=>
 B.L (x5.2.1,x5.2.2.1,B.z,B.z,B.z,B.z,B.z,B.z,x0.1,x6.1,x0.2.2.1,x0.2.2.2.1,x0.q.1,x0.q.2.1,x0.o.1,()))<|
 B.b (B.e x2.1 B.u) λx4=>
 A.eY [.l .u8,.i,.i,.i,.i,.i,.i,.i,.i,.i,.i,.i,.i,.i,.l .iop] (B.c x4.1 (B.s (.l .i64) (A.lst .i64 [B.x .i64 (B.n (-1),()),B.x .i64 (B.n 64,())]) λx5=>
 B.j aD aF (B.n 2,x2.2.1,x2.2.2.1,()) λx6=>
 B.w .i64 x5.1 x6.1<|
 B.w .i64 x5.1 x6.1<|
 B.i (B.f .i64 0 (B.o .i64 x5.1 x6.1)) λx7=>
 B.L (x6.2.1,x6.2.2.1,B.z,B.z,B.z,B.z,B.z,B.z,x7.1,x0.2.1,x0.2.2.1,x0.2.2.2.1,x0.q.1,x0.q.2.1,x0.o.1,()))<|
 B.b (B.e x2.1 (B.n 2)) λx5=>
 A.eY [.l .u8,.i,.i,.i,.i,.i,.i,.i,.i,.i,.i,.i,.i,.i,.l .iop] (B.c x5.1 (B.I [.l .u8,.i,.i,.i,.i,.i,.i,.i,.i,.i,.i,.i,.i,.i,.l .iop] (λx6=>
 B.c (B.m (B.y .iop x6.o.q.2.2.1) (B.n 48)) (B.s (.l .iop) (A.lst .iop [B.x .iop (B.u,B.z,B.z,B.z,B.z,())]) λx7=>
 B.C (B.m (A.addN (B.y .iop x6.o.q.2.2.1) (B.y .iop x7.1)) (B.n 1073741824))<|
 B.s (.l .iop) (A.app .iop x6.o.q.2.2.1 x7.1) λx8=>
 B.L (x6.1,x6.2.1,x6.2.2.1,x6.2.2.2.1,x6.q.1,x6.q.2.1,x6.q.2.2.1,x6.q.2.2.2.1,x6.o.1,x6.o.2.1,x6.o.2.2.1,x6.o.2.2.2.1,x6.o.q.1,x6.o.q.2.1,x8.1,()))<|
 B.R<|B.L (x6.1,x6.2.1,x6.2.2.1,x6.2.2.2.1,x6.q.1,x6.q.2.1,x6.q.2.2.1,x6.q.2.2.2.1,x6.o.1,x6.o.2.1,x6.o.2.2.1,x6.o.2.2.2.1,x6.o.q.1,x6.o.q.2.1,x6.o.q.2.2.1,())) (x2.2.1,x2.2.2.1,B.z,B.z,B.z,B.z,B.z,B.z,x0.1,x0.2.1,x0.2.2.1,x0.2.2.2.1,x0.q.1,x0.q.2.1,x0.o.1,()))<|
 B.b (B.e x2.1 (B.n 3)) λx6=>
 A.eY [.l .u8,.i,.i,.i,.i,.i,.i,.i,.i,.i,.i,.i,.i,.i,.l .iop] (B.c x6.1 (B.s (.l .i64) (A.lst .i64 [B.x .i64 (B.z,()),B.x .i64 (B.n 5,())]) λx7=>
 B.j aD aF (B.n 2,x2.2.1,x2.2.2.1,()) λx8=>
 B.w .i64 x7.1 x8.1<|
 B.w .i64 x7.1 x8.1<|
 B.i (B.f .i64 0 (B.o .i64 x7.1 x8.1)) λx9=>
 B.L (x8.2.1,x8.2.2.1,B.z,B.z,B.z,B.z,B.z,B.z,x0.1,x0.2.1,x9.1,x0.2.2.2.1,x0.q.1,x0.q.2.1,x0.o.1,()))<|
 B.b (B.e x2.1 (B.n 4)) λx7=>
 B.c x7.1 (B.j aD aF (B.n 3,x2.2.1,x2.2.2.1,()) λx8=>
 B.w .i64 (A.lst .i64 [B.x .i64 (B.z,()),B.x .i64 (B.n 9,()),B.x .i64 (B.n 8,())]) x8.1<|
 B.C (B.m (A.addN (B.y .iop x0.o.1) (B.y .iop (A.lst .iop [B.x .iop (B.f .i64 0 (B.o .i64 (A.lst .i64 [B.x .i64 (B.z,()),B.x .i64 (B.n 9,()),B.x .i64 (B.n 8,())]) x8.1),B.y .iop x0.o.1,B.z,B.z,B.z,())]))) (B.n 1073741824))<|
 B.s (.l .iop) (A.app .iop x0.o.1 (A.lst .iop [B.x .iop (B.f .i64 0 (B.o .i64 (A.lst .i64 [B.x .i64 (B.z,()),B.x .i64 (B.n 9,()),B.x .i64 (B.n 8,())]) x8.1),B.y .iop x0.o.1,B.z,B.z,B.z,())])) λx9=>
 B.L (x8.2.1,x8.2.2.1,B.z,B.z,B.z,B.z,B.z,B.z,x0.1,x0.2.1,x0.2.2.1,x0.2.2.2.1,x0.q.1,x0.q.2.1,x9.1,()))<|
 B.j ahm ahn (B.x .blk (x0.1,x0.2.1,x0.o.1,x0.2.2.1,x0.2.2.2.1,x0.q.1,x0.q.2.1,()),x2.2.1,x2.2.2.1,()) λx8=>
 B.R<|B.R<|B.R<|B.R<|B.R<|B.r (B.x .blk (x8.1,x8.2.1,x8.o.1,x8.2.2.1,x8.2.2.2.1,x8.q.1,x8.q.2.1,()),x8.q.2.2.1,x8.q.2.2.2.1,())) λx7=>
 B.L (x7.1,x7.2.1,x7.2.2.1,x7.2.2.2.1,x7.q.1,x7.q.2.1,x7.q.2.2.1,x7.q.2.2.2.1,x7.o.1,x7.o.2.1,x7.o.2.2.1,x7.o.2.2.2.1,x7.o.q.1,x7.o.q.2.1,x7.o.q.2.2.1,())) λx6=>
 B.L (x6.1,x6.2.1,x6.2.2.1,x6.2.2.2.1,x6.q.1,x6.q.2.1,x6.q.2.2.1,x6.q.2.2.2.1,x6.o.1,x6.o.2.1,x6.o.2.2.1,x6.o.2.2.2.1,x6.o.q.1,x6.o.q.2.1,x6.o.q.2.2.1,())) λx5=>
 B.L (x5.1,x5.2.1,x5.2.2.1,x5.2.2.2.1,x5.q.1,x5.q.2.1,x5.q.2.2.1,x5.q.2.2.2.1,x5.o.1,x5.o.2.1,x5.o.2.2.1,x5.o.2.2.2.1,x5.o.q.1,x5.o.q.2.1,x5.o.q.2.2.1,())) λx4=>
 B.L (x4.1,x4.2.1,x4.2.2.1,x4.2.2.2.1,x4.q.1,x4.q.2.1,x4.q.2.2.1,x4.q.2.2.2.1,x4.o.1,x4.o.2.1,x4.o.2.2.1,x4.o.2.2.2.1,x4.o.q.1,x4.o.q.2.1,x4.o.q.2.2.1,()))<|
 B.L (x1.2.1,x1.2.2.1,B.z,B.z,B.z,B.z,B.z,B.z,x0.1,x0.2.1,x0.2.2.1,x0.2.2.2.1,x0.q.1,x0.q.2.1,x0.o.1,())) λx2=>
 B.r (B.x .blk (x2.o.1,x2.o.2.1,x2.o.q.2.2.1,x2.o.2.2.1,x2.o.2.2.2.1,x2.o.q.1,x2.o.q.2.1,()),x2.1,x2.2.1,())
def Xm (WB:Pt A A8) (WE:Ft A A8) (mW:Pt A gH) (mX:Ft A gH) (aD:Pt A bA) (aF:Ft A bA) (x:Tup A.ah [.i,.l .u8,.i]):Ot A KH:=
 B.j WB WE (x.2.1,x.2.2.1,()) λx0=>
 B.j mW mX (x.1,x0.q.2.2.2.1,x0.o.1,()) λx1=>
 A.eY [.l .u8,.i,.i,.i,.b,.b,.i,.i,.i,.l .i64,.i,.b,.b,.i,.l .i64,.i,.l .i64,.l .i64] (B.c x1.1 (B.j aD aF (B.n 8,x1.2.1,x1.2.2.1,()) λx2=>
 B.b (B.e x2.1 B.z) λx3=>
 A.bind [.l .u8,.i,.i,.i,.b,.b,.i,.i,.i,.l .i64,.i,.b,.b,.i,.l .i64,.i,.l .i64,.l .i64] (B.c x3.1 (B.s (.l .i64) (A.lst .i64 [B.x .i64 (B.u,())]) λx4=>
 B.C (B.m (A.addN (B.y .i64 x0.o.2.1) (B.y .i64 x4.1)) (B.n 1073741824))<|
 B.s (.l .i64) (A.app .i64 x0.o.2.1 x4.1) λx5=>
 B.r (x2.2.1,x2.2.2.1,B.z,B.z,B.F,B.F,B.z,B.z,x0.1,x0.o.2.2.1,x0.2.1,x0.2.2.1,x0.2.2.2.1,x0.q.1,x0.q.2.1,x0.q.2.2.1,x5.1,x0.o.2.2.2.1,()))<|
 B.b (B.e x2.1 B.u) λx4=>
 A.bind [.l .u8,.i,.i,.i,.b,.b,.i,.i,.i,.l .i64,.i,.b,.b,.i,.l .i64,.i,.l .i64,.l .i64] (B.c x4.1 (B.s (.l .i64) (A.lst .i64 [B.x .i64 (B.n (-1),()),B.x .i64 (B.n 65536,()),B.x .i64 (B.n 65535,())]) λx5=>
 B.j aD aF (B.n 3,x2.2.1,x2.2.2.1,()) λx6=>
 B.w .i64 x5.1 x6.1<|
 B.w .i64 x5.1 x6.1<|
 B.i (B.f .i64 0 (B.o .i64 x5.1 x6.1)) λx7=>
 B.r (x6.2.1,x6.2.2.1,B.z,B.z,B.F,B.F,B.z,B.z,x7.1,x0.o.2.2.1,x0.2.1,x0.2.2.1,x0.2.2.2.1,x0.q.1,x0.q.2.1,x0.q.2.2.1,x0.o.2.1,x0.o.2.2.2.1,()))<|
 B.b (B.e x2.1 (B.n 2)) λx5=>
 A.bind [.l .u8,.i,.i,.i,.b,.b,.i,.i,.i,.l .i64,.i,.b,.b,.i,.l .i64,.i,.l .i64,.l .i64] (B.c x5.1 (B.C (B.m B.z B.u)<|
 B.C (B.m B.u (B.y .i64 x0.o.2.2.1))<|
 B.C (B.m (B.y .i64 x0.o.2.2.1) (B.y .i64 x0.o.2.2.1))<|
 B.C (B.m B.z B.u)<|
 B.C (B.m B.z (A.lJ (B.y .i64 x0.o.2.2.1) B.u))<|
 B.C (B.m (A.addN B.u (A.lJ (B.y .i64 x0.o.2.2.1) B.u)) (B.y .i64 x0.o.2.2.1))<|
 B.r (x2.2.1,x2.2.2.1,B.z,B.z,B.F,B.F,B.z,B.z,x0.1,A.sub .i64 x0.o.2.2.1 B.u (A.addN B.u (A.lJ (B.y .i64 x0.o.2.2.1) B.u)),x0.2.1,x0.2.2.1,x0.2.2.2.1,x0.q.1,x0.q.2.1,x0.q.2.2.1,x0.o.2.1,x0.o.2.2.2.1,()))<|
 B.b (B.e x2.1 (B.n 3)) λx6=>
 A.bind [.l .u8,.i,.i,.i,.b,.b,.i,.i,.i,.i,.b,.b,.i,.l .i64,.i,.l .i64,.l .i64,.l .i64] (B.c x6.1 (B.j aD aF (B.y .i64 x0.o.2.2.1,x2.2.1,x2.2.2.1,()) λx7=>
 B.w .i64 x0.o.2.2.1 x7.1<|
 B.w .i64 x0.o.2.2.1 x7.1<|
 B.i (B.n 65536) λx8=>
 B.r (x7.2.1,x7.2.2.1,B.z,B.z,B.F,B.F,B.z,B.z,x0.1,x0.2.1,x0.2.2.1,x0.2.2.2.1,x0.q.1,x0.q.2.1,x0.q.2.2.1,x0.o.2.1,A.set .i64 x0.o.2.2.1 x7.1 (B.x .i64 (x8.1,())),x0.o.2.2.2.1,()))<|
 B.b (B.e x2.1 (B.n 4)) λx7=>
 A.bind [.l .u8,.i,.i,.i,.b,.b,.i,.i,.i,.i,.b,.b,.i,.l .i64,.i,.l .i64,.l .i64,.l .i64] (B.c x7.1 (B.s (.l .i64) (A.lst .i64 [B.x .i64 (B.n (-1),()),B.x .i64 (B.n 5,()),B.x .i64 (B.u,())]) λx8=>
 B.j aD aF (B.n 3,x2.2.1,x2.2.2.1,()) λx9=>
 B.w .i64 x8.1 x9.1<|
 B.w .i64 x8.1 x9.1<|
 B.i (B.f .i64 0 (B.o .i64 x8.1 x9.1)) λx10=>
 B.r (x9.2.1,x9.2.2.1,B.z,B.z,B.F,B.F,B.z,B.z,x0.1,x0.2.1,x0.2.2.1,x0.2.2.2.1,x10.1,x0.q.2.1,x0.q.2.2.1,x0.o.2.1,x0.o.2.2.1,x0.o.2.2.2.1,()))<|
 B.b (B.e x2.1 (B.n 5)) λx8=>
 A.bind [.l .u8,.i,.i,.i,.b,.b,.i,.i,.i,.i,.b,.b,.i,.l .i64,.i,.l .i64,.l .i64,.l .i64] (B.c x8.1 (B.s (.l .i64) (A.lst .i64 [B.x .i64 (B.n (-1),())]) λx9=>
 B.C (B.m (A.addN (B.y .i64 x0.o.2.2.2.1) (B.y .i64 x9.1)) (B.n 1073741824))<|
 B.s (.l .i64) (A.app .i64 x0.o.2.2.2.1 x9.1) λx10=>
 B.r (x2.2.1,x2.2.2.1,B.z,B.z,B.F,B.F,B.z,B.z,x0.1,x0.2.1,x0.2.2.1,x0.2.2.2.1,x0.q.1,x0.q.2.1,x0.q.2.2.1,x0.o.2.1,x0.o.2.2.1,x10.1,()))<|
 B.b (B.e x2.1 (B.n 6)) λx9=>
 A.bind [.l .u8,.i,.i,.i,.b,.b,.i,.i,.i,.i,.b,.b,.i,.l .i64,.i,.l .i64,.l .i64,.l .i64] (B.c x9.1 (B.i (B.n (-1)) λx10=>
 B.r (x2.2.1,x2.2.2.1,B.z,B.z,B.F,B.F,B.z,B.z,x0.1,x10.1,x0.2.2.1,x0.2.2.2.1,x0.q.1,x0.q.2.1,x0.q.2.2.1,x0.o.2.1,x0.o.2.2.1,x0.o.2.2.2.1,()))<|
 B.s (.l .i64) (A.lst .i64 [B.x .i64 (B.n (-1),()),B.x .i64 (B.n 1000000,()),B.x .i64 (B.n 1000001,()),B.x .i64 (B.n 999997,())]) λx10=>
 B.j aD aF (B.n 4,x2.2.1,x2.2.2.1,()) λx11=>
 B.w .i64 x10.1 x11.1<|
 B.w .i64 x10.1 x11.1<|
 B.i (B.f .i64 0 (B.o .i64 x10.1 x11.1)) λx12=>
 B.r (x11.2.1,x11.2.2.1,B.z,B.z,B.F,B.F,B.z,B.z,x0.1,x0.2.1,x0.2.2.1,x0.2.2.2.1,x0.q.1,x0.q.2.1,x12.1,x0.o.2.1,x0.o.2.2.1,x0.o.2.2.2.1,())) λx10=>
 B.r (x10.1,x10.2.1,x10.2.2.1,x10.2.2.2.1,x10.q.1,x10.q.2.1,x10.q.2.2.1,x10.q.2.2.2.1,x10.o.1,x10.o.2.1,x10.o.2.2.1,x10.o.2.2.2.1,x10.o.q.1,x10.o.q.2.1,x10.o.q.2.2.1,x10.o.q.2.2.2.1,x10.o.o.1,x10.o.o.2.1,())) λx9=>
 B.r (x9.1,x9.2.1,x9.2.2.1,x9.2.2.2.1,x9.q.1,x9.q.2.1,x9.q.2.2.1,x9.q.2.2.2.1,x9.o.1,x9.o.2.1,x9.o.2.2.1,x9.o.2.2.2.1,x9.o.q.1,x9.o.q.2.1,x9.o.q.2.2.1,x9.o.q.2.2.2.1,x9.o.o.1,x9.o.o.2.1,())) λx8=>
 B.r (x8.1,x8.2.1,x8.2.2.1,x8.2.2.2.1,x8.q.1,x8.q.2.1,x8.q.2.2.1,x8.q.2.2.2.1,x8.o.1,x8.o.2.1,x8.o.2.2.1,x8.o.2.2.2.1,x8.o.q.1,x8.o.q.2.1,x8.o.q.2.2.1,x8.o.q.2.2.2.1,x8.o.o.1,x8.o.o.2.1,())) λx7=>
 B.r (x7.1,x7.2.1,x7.2.2.1,x7.2.2.2.1,x7.q.1,x7.q.2.1,x7.q.2.2.1,x7.q.2.2.2.1,x7.o.1,x7.o.o.1,x7.o.2.1,x7.o.2.2.1,x7.o.2.2.2.1,x7.o.q.1,x7.o.q.2.1,x7.o.q.2.2.1,x7.o.q.2.2.2.1,x7.o.o.2.1,())) λx6=>
 B.r (x6.1,x6.2.1,x6.2.2.1,x6.2.2.2.1,x6.q.1,x6.q.2.1,x6.q.2.2.1,x6.q.2.2.2.1,x6.o.1,x6.o.2.1,x6.o.2.2.1,x6.o.2.2.2.1,x6.o.q.1,x6.o.q.2.1,x6.o.q.2.2.1,x6.o.q.2.2.2.1,x6.o.o.1,x6.o.o.2.1,())) λx5=>
 B.r (x5.1,x5.2.1,x5.2.2.1,x5.2.2.2.1,x5.q.1,x5.q.2.1,x5.q.2.2.1,x5.q.2.2.2.1,x5.o.1,x5.o.2.1,x5.o.2.2.1,x5.o.2.2.2.1,x5.o.q.1,x5.o.q.2.1,x5.o.q.2.2.1,x5.o.q.2.2.2.1,x5.o.o.1,x5.o.o.2.1,())) λx4=>
 B.L (x4.1,x4.2.1,x4.2.2.1,x4.2.2.2.1,x4.q.1,x4.q.2.1,x4.q.2.2.1,x4.q.2.2.2.1,x4.o.1,x4.o.2.1,x4.o.2.2.1,x4.o.2.2.2.1,x4.o.q.1,x4.o.q.2.1,x4.o.q.2.2.1,x4.o.q.2.2.2.1,x4.o.o.1,x4.o.o.2.1,()))<|
 B.L (x1.2.1,x1.2.2.1,B.z,B.z,B.F,B.F,B.z,B.z,x0.1,x0.o.2.2.1,x0.2.1,x0.2.2.1,x0.2.2.2.1,x0.q.1,x0.q.2.1,x0.q.2.2.1,x0.o.2.1,x0.o.2.2.2.1,())) λx2=>
 B.r (x2.o.1,x2.o.2.1,x2.o.2.2.1,x2.o.2.2.2.1,x2.o.q.1,x2.o.q.2.1,x2.o.q.2.2.1,x2.o.q.2.2.2.1,x2.1,x2.2.1,x2.o.o.1,x2.o.o.2.1,())
def Xo (ahq:Pt A KH) (ahr:Ft A KH) (VW:Pt A AO) (VX:Ft A AO) (mW:Pt A gH) (mX:Ft A gH) (aD:Pt A bA) (aF:Ft A bA) (Xi:Pt A A9) (Xj:Ft A A9) (ahs:Pt A KG) (aht:Ft A KG) (ad2:Pt A Ea) (ad3:Ft A Ea) (x:Tup A.ah [.l .u8]):Ot A KJ:=
 B.j VW VX (x.1,()) λx0=>
 B.j aD aF (B.n 4,x0.1,x0.2.1,()) λx1=>
 B.c (B.e x1.1 B.z) (B.j ad2 ad3 (x1.2.1,x1.2.2.1,()) λx2=>
 B.r (B.x .blk (x2.1,x2.2.1,x2.o.q.2.2.2.1,x2.2.2.1,x2.2.2.2.1,x2.q.1,x2.q.2.1,()),x2.q.2.2.1,x2.o.o.2.1,x2.q.2.2.2.1,x2.o.1,x2.o.2.1,x2.o.2.2.1,x2.o.2.2.2.1,x2.o.q.1,x2.o.o.1,x2.o.o.2.2.1,()))<|
 B.j ahs aht (B.n 14,x1.2.1,x1.2.2.1,()) λx2=>
 B.s (.x .blk) x2.1 λx3=>
 B.j Xi Xj (x3.1,x2.2.1,x2.2.2.1,()) λx4=>
 B.j mW mX (B.n 14,x4.q.2.2.2.1,x4.o.1,()) λx5=>
 A.bind [.i,.i,.i,.i,.i,.i,.i,.i,.b,.b,.i,.i,.x .blk,.i,.l .i64,.i,.b,.b,.i,.l .i64,.i,.l .i64,.l .i64] (B.c x5.1 (B.j ahq ahr (B.n 2,x5.2.1,x5.2.2.1,()) λx6=>
 B.r (B.z,B.z,B.z,B.z,B.z,B.z,B.z,B.z,B.F,B.F,B.z,B.z,x3.1,x6.1,x6.2.1,x6.2.2.1,x6.2.2.2.1,x6.q.1,x6.q.2.1,x6.q.2.2.1,x6.q.2.2.2.1,x6.o.2.2.1,x6.o.2.2.2.1,()))<|
 B.r (B.z,B.z,B.z,B.z,B.z,B.z,B.z,B.z,B.F,B.F,B.z,B.z,x3.1,x4.1,x4.o.2.2.1,x4.2.1,x4.2.2.1,x4.2.2.2.1,x4.q.1,x4.q.2.1,x4.q.2.2.1,x4.o.2.1,x4.o.2.2.2.1,())) λx6=>
 B.s (.x .blk) x6.o.q.1 λx7=>
 B.r (x7.1,x6.o.q.2.1,x6.o.q.2.2.1,x6.o.q.2.2.2.1,x6.o.o.1,x6.o.o.2.1,x6.o.o.2.2.1,x6.o.o.2.2.2.1,x6.o.o.q.1,x6.o.o.q.2.1,x6.o.o.q.2.2.1,())
def Xp (x:Tup A.ah [.i,.i,.i]):Ot A bQ:=
 B.b B.F λx0=>
 B.v (B.a (B.m x.2.1 x.1) (B.m x.1 x.2.2.1) B.F)
def Xq (dI:Pt A bQ) (dJ:Ft A bQ) (x:Tup A.ah [.i]):Ot A gK:=
 B.b B.F λx0=>
 B.j dI dJ (x.1,B.z,B.n 65535,()) λx1=>
 B.v x1.1
def Xr (kN:Pt A gK) (kP:Ft A gK) (x:Tup A.ah []):Ot A KL:=
 B.b B.F λx0=>
 B.j kN kP (B.u,()) λx1=>
 B.v x1.1
def Xt (dI:Pt A bQ) (dJ:Ft A bQ) (x:Tup A.ah [.i]):Ot A Bg:=
 B.b B.F λx0=>
 B.j dI dJ (x.1,B.z,B.n 3,()) λx1=>
 B.v x1.1
def Xu (dI:Pt A bQ) (dJ:Ft A bQ) (x:Tup A.ah [.x .iop]):Ot A KM:=
 B.b B.F λx0=>
 B.b B.F λx1=>
 B.b B.F λx2=>
 B.b B.F λx3=>
 B.b (B.a (B.a (B.d (B.f .iop 0 x.1) B.u) (B.d (B.f .iop 0 x.1) (B.n 2)) B.F) (B.d (B.f .iop 0 x.1) (B.n 6)) B.F) λx4=>
 B.b (B.a (B.e (B.f .iop 0 x.1) (B.n 3)) B.T (B.e (B.f .iop 0 x.1) (B.n 5))) λx5=>
 B.b (B.a (B.a (B.a (B.e (B.f .iop 0 x.1) B.u) B.T (B.e (B.f .iop 0 x.1) (B.n 2))) B.T (B.e (B.f .iop 0 x.1) (B.n 3))) B.T (B.e (B.f .iop 0 x.1) (B.n 8))) λx6=>
 B.j dI dJ (B.f .iop 0 x.1,B.n 4,B.n 7,()) λx7=>
 B.b x7.1 λx8=>
 B.b x4.1 λx9=>
 B.b x5.1 λx10=>
 B.b x6.1 λx11=>
 B.b x8.1 λx12=>
 B.r (x9.1,x10.1,x11.1,x12.1,())
def Xv (dI:Pt A bQ) (dJ:Ft A bQ) (x:Tup A.ah [.i]):Ot A KN:=
 B.b B.F λx0=>
 B.j dI dJ (x.1,B.u,B.n 5,()) λx1=>
 B.v x1.1
def Xw (dI:Pt A bQ) (dJ:Ft A bQ) (x:Tup A.ah [.x .iop]):Ot A KO:=
 B.b B.F λx0=>
 B.j dI dJ (B.f .iop 0 x.1,B.u,B.n 4,()) λx1=>
 B.v (B.a x1.1 B.T (B.e (B.f .iop 0 x.1) (B.n 6)))
def Xx (ahu:Pt A KO) (ahv:Ft A KO) (dI:Pt A bQ) (dJ:Ft A bQ) (x:Tup A.ah [.x .blk,.i,.i]):Ot A Bh:=
 B.b B.F λx0=>
 B.j dI dJ (x.2.1,B.z,B.q x.2.2.1 B.u,()) λx1=>
 B.C (B.O (B.N x1.1) (B.m B.z x.2.1))<|
 B.C (B.O (B.N x1.1) (B.l x.2.1 (B.y .iop (B.D .blk 2 .iop x.1))))<|
 B.k x1.1 ahu ahv (B.o .iop (B.D .blk 2 .iop x.1) x.2.1,()) λx2=>
 B.v (B.a x1.1 x2.1 B.F)
def Xy (Lp:Pt A Bh) (Lr:Ft A Bh) (ahw:Pt A KM) (ahx:Ft A KM) (kN:Pt A gK) (kP:Ft A gK) (dI:Pt A bQ) (dJ:Ft A bQ) (ahy:Pt A KN) (ahz:Ft A KN) (Ls:Pt A Bg) (Lu:Ft A Bg) (x:Tup A.ah [.x .blk,.i]):Ot A KQ:=
 B.b B.F λx0=>
 B.w .iop (B.D .blk 2 .iop x.1) x.2.1<|
 B.s (.x .iop) (B.o .iop (B.D .blk 2 .iop x.1) x.2.1) λx1=>
 B.j dI dJ (B.f .iop 0 x1.1,B.u,B.n 8,()) λx2=>
 B.c (B.N x2.1) (B.v B.F)<|
 B.j ahw ahx (x1.1,()) λx3=>
 B.b x3.1 λx4=>
 B.b x3.2.1 λx5=>
 B.b x3.2.2.1 λx6=>
 B.b x3.2.2.2.1 λx7=>
 B.j kN kP (B.f .iop 3 x1.1,()) λx8=>
 B.j Ls Lu (B.f .iop 3 x1.1,()) λx9=>
 B.j ahy ahz (B.f .iop 3 x1.1,()) λx10=>
 B.j Ls Lu (B.f .iop 3 x1.1,()) λx11=>
 B.b (B.a (B.e (B.f .iop 0 x1.1) B.u) x8.1 (B.a (B.e (B.f .iop 0 x1.1) (B.n 2)) x9.1 (B.a (B.e (B.f .iop 0 x1.1) (B.n 3)) x10.1 (B.a (B.e (B.f .iop 0 x1.1) (B.n 8)) x11.1 B.F)))) λx12=>
 B.k x4.1 Lp Lr (x.1,B.f .iop 1 x1.1,x.2.1,()) λx13=>
 B.k (A.qN (B.a (B.a x4.1 x13.1 B.F) B.T (B.a (B.N x4.1) (B.e (B.f .iop 1 x1.1) B.z) B.F)) x5.1) Lp Lr (x.1,B.f .iop 2 x1.1,x.2.1,()) λx14=>
 B.k (A.qN (B.a (B.a (B.a (B.a x4.1 x13.1 B.F) B.T (B.a (B.N x4.1) (B.e (B.f .iop 1 x1.1) B.z) B.F)) (B.a (B.a x5.1 x14.1 B.F) B.T (B.a (B.N x5.1) (B.e (B.f .iop 2 x1.1) B.z) B.F)) B.F) (B.a (B.a x6.1 x12.1 B.F) B.T (B.a (B.N x6.1) (B.e (B.f .iop 3 x1.1) B.z) B.F)) B.F) x7.1) dI dJ (B.f .iop 4 x1.1,B.z,B.q (B.f .blk 1 x.1) B.u,()) λx15=>
 B.v (B.a (B.a (B.a (B.a (B.a x4.1 x13.1 B.F) B.T (B.a (B.N x4.1) (B.e (B.f .iop 1 x1.1) B.z) B.F)) (B.a (B.a x5.1 x14.1 B.F) B.T (B.a (B.N x5.1) (B.e (B.f .iop 2 x1.1) B.z) B.F)) B.F) (B.a (B.a x6.1 x12.1 B.F) B.T (B.a (B.N x6.1) (B.e (B.f .iop 3 x1.1) B.z) B.F)) B.F) (B.a (B.a x7.1 x15.1 B.F) B.T (B.a (B.N x7.1) (B.e (B.f .iop 4 x1.1) B.z) B.F)) B.F)
def ad4 (x:Tup A.ah [.x .blk]):Ot A Vx:=
 B.b B.F λx0=>
 B.b B.F λx1=>
 B.b B.F λx2=>
 B.b (B.d (B.f .blk 3 x.1) B.u) λx3=>
 B.b (B.h (B.f .blk 3 x.1) (B.n 3)) λx4=>
 B.b (B.d (B.f .blk 3 x.1) (B.n 2)) λx5=>
 B.r (x3.1,x4.1,x5.1,())
def ad5 (amP:Pt A Vx) (amQ:Ft A Vx) (Lp:Pt A Bh) (Lr:Ft A Bh) (kN:Pt A gK) (kP:Ft A gK) (dI:Pt A bQ) (dJ:Ft A bQ) (x:Tup A.ah [.x .blk]):Ot A Vy:=
 B.b B.F λx0=>
 B.j amP amQ (x.1,()) λx1=>
 B.b x1.1 λx2=>
 B.b x1.2.1 λx3=>
 B.b x1.2.2.1 λx4=>
 B.j dI dJ (B.f .blk 3 x.1,B.u,B.n 4,()) λx5=>
 B.k (A.qN x5.1 x2.1) Lp Lr (x.1,B.f .blk 4 x.1,B.y .iop (B.D .blk 2 .iop x.1),()) λx6=>
 B.k (A.qN (B.a x5.1 (B.a (B.a x2.1 x6.1 B.F) B.T (B.a (B.N x2.1) (B.e (B.f .blk 4 x.1) B.z) B.F)) B.F) x3.1) Lp Lr (x.1,B.f .blk 5 x.1,B.y .iop (B.D .blk 2 .iop x.1),()) λx7=>
 B.k (A.qN (B.a (B.a x5.1 (B.a (B.a x2.1 x6.1 B.F) B.T (B.a (B.N x2.1) (B.e (B.f .blk 4 x.1) B.z) B.F)) B.F) (B.a (B.a x3.1 x7.1 B.F) B.T (B.a (B.N x3.1) (B.e (B.f .blk 5 x.1) B.z) B.F)) B.F) x4.1) kN kP (B.f .blk 6 x.1,()) λx8=>
 B.v (B.a (B.a (B.a x5.1 (B.a (B.a x2.1 x6.1 B.F) B.T (B.a (B.N x2.1) (B.e (B.f .blk 4 x.1) B.z) B.F)) B.F) (B.a (B.a x3.1 x7.1 B.F) B.T (B.a (B.N x3.1) (B.e (B.f .blk 5 x.1) B.z) B.F)) B.F) (B.a (B.a x4.1 x8.1 B.F) B.T (B.a (B.N x4.1) (B.e (B.f .blk 6 x.1) B.z) B.F)) B.F)
def Xz (amR:Pt A Vy) (amS:Ft A Vy) (ahA:Pt A KQ) (ahB:Ft A KQ) (dI:Pt A bQ) (dJ:Ft A bQ) (x:Tup A.ah [.x .blk]):Ot A KR:=
 B.b B.F λx0=>
 B.j dI dJ (B.f .blk 1 x.1,B.u,B.n 8,()) λx1=>
 B.k (B.N (B.N x1.1)) dI dJ (B.f .blk 0 x.1,B.z,B.q (B.n 64) (B.f .blk 1 x.1),()) λx2=>
 B.c (B.a (B.a (B.N x1.1) B.T (B.N x2.1)) B.T (B.g (B.y .iop (B.D .blk 2 .iop x.1)) (B.n 48))) (B.v B.F)<|
 B.I [.i,.i,.x .blk] (λx3=>
 B.c (B.l x3.2.1 x3.1) (B.i x3.2.1 λx4=>
 B.j ahA ahB (x3.2.2.1,x4.1,()) λx5=>
 B.c (B.N x5.1) (B.b B.F λx6=>
 B.R<|B.r (x6.1,()))<|
 B.L (x3.1,B.p x3.2.1 B.u,x3.2.2.1,()))<|
 B.R<|B.j amR amS (x3.2.2.1,()) λx4=>
 B.v x4.1) (B.y .iop (B.D .blk 2 .iop x.1),B.z,x.1,())
def XA (kN:Pt A gK) (kP:Ft A gK) (x:Tup A.ah [.l .i64]):Ot A KS:=
 B.b B.F λx0=>
 B.I [.l .i64,.i,.i] (λx1=>
 B.c (B.l x1.2.2.1 x1.2.1) (B.w .i64 x1.1 x1.2.2.1<|
 B.i (B.f .i64 0 (B.o .i64 x1.1 x1.2.2.1)) λx2=>
 B.j kN kP (x2.1,()) λx3=>
 B.c (B.N x3.1) (B.b B.F λx4=>
 B.R<|B.r (x4.1,()))<|
 B.L (x1.1,x1.2.1,B.p x1.2.2.1 B.u,()))<|
 B.R<|B.v B.T) (x.1,B.y .i64 x.1,B.z,())
def XB (kN:Pt A gK) (kP:Ft A gK) (dI:Pt A bQ) (dJ:Ft A bQ) (Rq:Pt A KS) (Rs:Ft A KS) (x:Tup A.ah [.x .aC]):Ot A KT:=
 B.b B.F λx0=>
 B.k (B.a (B.e (B.y .i64 (B.D .aC 0 .i64 x.1)) (B.n 4)) (B.e (B.y .i64 (B.D .aC 2 .i64 x.1)) (B.n 64)) B.F) Rq Rs (B.D .aC 0 .i64 x.1,()) λx1=>
 B.k (B.a (B.a (B.e (B.y .i64 (B.D .aC 0 .i64 x.1)) (B.n 4)) (B.e (B.y .i64 (B.D .aC 2 .i64 x.1)) (B.n 64)) B.F) x1.1 B.F) Rq Rs (B.D .aC 2 .i64 x.1,()) λx2=>
 B.k (B.a (B.a (B.a (B.e (B.y .i64 (B.D .aC 0 .i64 x.1)) (B.n 4)) (B.e (B.y .i64 (B.D .aC 2 .i64 x.1)) (B.n 64)) B.F) x1.1 B.F) x2.1 B.F) kN kP (B.f .aC 1 x.1,()) λx3=>
 B.k (B.a (B.a (B.a (B.a (B.e (B.y .i64 (B.D .aC 0 .i64 x.1)) (B.n 4)) (B.e (B.y .i64 (B.D .aC 2 .i64 x.1)) (B.n 64)) B.F) x1.1 B.F) x2.1 B.F) x3.1 B.F) kN kP (B.f .aC 3 x.1,()) λx4=>
 B.k (B.a (B.a (B.a (B.a (B.a (B.e (B.y .i64 (B.D .aC 0 .i64 x.1)) (B.n 4)) (B.e (B.y .i64 (B.D .aC 2 .i64 x.1)) (B.n 64)) B.F) x1.1 B.F) x2.1 B.F) x3.1 B.F) x4.1 B.F) Rq Rs (B.D .aC 7 .i64 x.1,()) λx5=>
 B.k (B.a (B.a (B.a (B.a (B.a (B.a (B.e (B.y .i64 (B.D .aC 0 .i64 x.1)) (B.n 4)) (B.e (B.y .i64 (B.D .aC 2 .i64 x.1)) (B.n 64)) B.F) x1.1 B.F) x2.1 B.F) x3.1 B.F) x4.1 B.F) x5.1 B.F) Rq Rs (B.D .aC 8 .i64 x.1,()) λx6=>
 B.k (B.a (B.a (B.a (B.a (B.a (B.a (B.a (B.e (B.y .i64 (B.D .aC 0 .i64 x.1)) (B.n 4)) (B.e (B.y .i64 (B.D .aC 2 .i64 x.1)) (B.n 64)) B.F) x1.1 B.F) x2.1 B.F) x3.1 B.F) x4.1 B.F) x5.1 B.F) x6.1 B.F) dI dJ (B.f .aC 6 x.1,B.z,B.n 4,()) λx7=>
 B.k (B.a (B.a (B.a (B.a (B.a (B.a (B.a (B.a (B.e (B.y .i64 (B.D .aC 0 .i64 x.1)) (B.n 4)) (B.e (B.y .i64 (B.D .aC 2 .i64 x.1)) (B.n 64)) B.F) x1.1 B.F) x2.1 B.F) x3.1 B.F) x4.1 B.F) x5.1 B.F) x6.1 B.F) x7.1 B.F) dI dJ (B.f .aC 9 x.1,B.z,B.n 1000000,()) λx8=>
 B.v (B.a (B.a (B.a (B.a (B.a (B.a (B.a (B.a (B.a (B.e (B.y .i64 (B.D .aC 0 .i64 x.1)) (B.n 4)) (B.e (B.y .i64 (B.D .aC 2 .i64 x.1)) (B.n 64)) B.F) x1.1 B.F) x2.1 B.F) x3.1 B.F) x4.1 B.F) x5.1 B.F) x6.1 B.F) x7.1 B.F) x8.1 B.F)
def XC (x:Tup A.ah [.l .i64]):Ot A KU:=
 B.C (B.m (B.y .i64 x.1) (B.n 1073741824))<|
 B.s (.l .i64) x.1 λx0=>
 B.r (x0.1,())
def XD (Rt:Pt A KU) (Rv:Ft A KU) (x:Tup A.ah [.x .aC]):Ot A KV:=
 B.j Rt Rv (B.D .aC 0 .i64 x.1,()) λx0=>
 B.j Rt Rv (B.D .aC 2 .i64 x.1,()) λx1=>
 B.j Rt Rv (B.D .aC 7 .i64 x.1,()) λx2=>
 B.j Rt Rv (B.D .aC 8 .i64 x.1,()) λx3=>
 B.r (B.f .aC 1 x.1,B.f .aC 3 x.1,A.fB .aC 4 x.1,A.fB .aC 5 x.1,B.f .aC 6 x.1,B.f .aC 9 x.1,x0.1,x1.1,x2.1,x3.1,())
def XE (x:Tup A.ah [.i]):Ot A KW:=
 B.i B.z λx0=>
 B.i (A.arith .and .i64 x.1 (B.n 65535)) λx1=>
 B.r (x1.1,())
def XF (kN:Pt A gK) (kP:Ft A gK) (XG:Pt A KW) (XH:Ft A KW) (x:Tup A.ah [.i,.i,.i]):Ot A KY:=
 B.i B.z λx0=>
 B.j kN kP (x.2.1,()) λx1=>
 B.k (B.N (B.N x1.1)) kN kP (x.2.2.1,()) λx2=>
 B.c (B.a (B.N x1.1) B.T (B.N x2.1)) (B.i B.z λx3=>
 B.r (x3.1,()))<|
 B.b (B.e x.1 B.u) λx3=>
 B.c x3.1 (B.j XG XH (B.p x.2.1 x.2.2.1,()) λx4=>
 B.i x4.1 λx5=>
 B.r (x5.1,()))<|
 B.b (B.e x.1 (B.n 2)) λx4=>
 B.c x4.1 (B.j XG XH (B.q x.2.1 x.2.2.1,()) λx5=>
 B.i x5.1 λx6=>
 B.r (x6.1,()))<|
 B.b (B.e x.1 (B.n 3)) λx5=>
 B.c x5.1 (B.j XG XH (B.t x.2.1 x.2.2.1,()) λx6=>
 B.i x6.1 λx7=>
 B.r (x7.1,()))<|
 B.b (B.e x.1 (B.n 4)) λx6=>
 B.c x6.1 (B.i (A.arith .and .i64 x.2.1 x.2.2.1) λx7=>
 B.r (x7.1,()))<|
 B.b (B.e x.1 (B.n 5)) λx7=>
 B.c x7.1 (B.i (A.arith .xor .i64 x.2.1 x.2.2.1) λx8=>
 B.r (x8.1,()))<|
 B.i B.z λx8=>
 B.r (x8.1,())
def XI (x:Tup A.ah [.i,.i,.b,.b,.i,.l .i64,.i,.l .i64,.l .i64,.l .i64]):Ot A KZ:=
 B.i B.z λx0=>
 B.c (B.e (B.y .i64 x.q.2.1) B.z) (B.i B.z λx1=>
 B.r (x1.1,x.1,x.2.1,x.2.2.1,x.2.2.2.1,x.q.1,x.q.2.1,x.q.2.2.1,x.q.2.2.2.1,x.o.1,x.o.2.1,()))<|
 B.w .i64 x.q.2.1 B.z<|
 B.i (B.f .i64 0 (B.o .i64 x.q.2.1 B.z)) λx1=>
 B.C (B.m B.z B.u)<|
 B.C (B.m B.u (B.y .i64 x.q.2.1))<|
 B.C (B.m (B.y .i64 x.q.2.1) (B.y .i64 x.q.2.1))<|
 B.s (.l .i64) (A.sub .i64 x.q.2.1 B.u (B.y .i64 x.q.2.1)) λx2=>
 B.i x1.1 λx3=>
 B.r (x3.1,x.1,x.2.1,x.2.2.1,x.2.2.2.1,x.q.1,x2.1,x.q.2.2.1,x.q.2.2.2.1,x.o.1,x.o.2.1,())
def XJ (kN:Pt A gK) (kP:Ft A gK) (x:Tup A.ah [.i,.i,.i]):Ot A K4:=
 B.b B.F λx0=>
 B.j kN kP (x.2.1,()) λx1=>
 B.k x1.1 kN kP (x.2.2.1,()) λx2=>
 B.v (B.a (B.a x1.1 x2.1 B.F) (B.a (B.a (B.e x.1 B.u) (B.e x.2.1 x.2.2.1) B.F) B.T (B.a (B.e x.1 (B.n 2)) (B.l x.2.1 x.2.2.1) B.F)) B.F)
def XK (ahC:Pt A KZ) (ahD:Ft A KZ) (ahE:Pt A KY) (ahF:Ft A KY) (ahG:Pt A K4) (ahH:Ft A K4) (dI:Pt A bQ) (dJ:Ft A bQ) (x:Tup A.ah [.x .blk,.i,.i,.b,.b,.i,.l .i64,.i,.l .i64,.l .i64,.l .i64]):Ot A K6:=
 B.C (B.e (B.y .iop (B.D .blk 2 .iop x.1)) (B.y .iop (B.D .blk 2 .iop x.1)))<|
 B.C (B.m B.z (B.y .iop (B.D .blk 2 .iop x.1)))<|
 B.C (B.m (B.y .iop (B.D .blk 2 .iop x.1)) (B.n 1073741824))<|
 B.s (.l .i64) (A.rep .i64 (B.y .iop (B.D .blk 2 .iop x.1)) (B.x .i64 (B.z,()))) λx0=>
 B.I [.l .iop,.i,.i,.i,.i,.b,.b,.i,.l .i64,.i,.l .i64,.l .i64,.x .blk,.l .i64,.l .i64] (λx1=>
 B.c (B.l x1.2.2.1 x1.2.1) (B.w .iop x1.1 x1.2.2.1<|
 B.i x1.2.2.1 λx2=>
 B.s (.x .iop) (B.o .iop x1.1 x1.2.2.1) λx3=>
 B.i B.z λx4=>
 B.i B.z λx5=>
 A.bind [.i,.i,.i,.l .iop,.i,.i,.i,.i,.b,.b,.i,.l .i64,.i,.l .i64,.l .i64,.x .blk,.l .i64,.x .iop,.l .i64] (B.c (B.g x2.1 B.z) (B.w .i64 x1.o.q.2.1 (B.f .iop 1 x3.1)<|
 B.w .i64 x1.o.q.2.1 (B.f .iop 1 x3.1)<|
 B.w .i64 x1.o.q.2.1 (B.f .iop 2 x3.1)<|
 B.w .i64 x1.o.q.2.1 (B.f .iop 2 x3.1)<|
 B.i (B.f .i64 0 (B.o .i64 x1.o.q.2.1 (B.f .iop 1 x3.1))) λx6=>
 B.i (B.f .i64 0 (B.o .i64 x1.o.q.2.1 (B.f .iop 2 x3.1))) λx7=>
 B.r (x2.1,x6.1,x7.1,x1.1,x1.2.1,x1.2.2.1,x1.2.2.2.1,x1.q.1,x1.q.2.1,x1.q.2.2.1,x1.q.2.2.2.1,x1.o.1,x1.o.2.1,x1.o.2.2.1,x1.o.2.2.2.1,x1.o.q.1,x1.o.q.2.1,x3.1,x1.o.q.2.2.1,()))<|
 B.r (x2.1,x4.1,x5.1,x1.1,x1.2.1,x1.2.2.1,x1.2.2.2.1,x1.q.1,x1.q.2.1,x1.q.2.2.1,x1.q.2.2.2.1,x1.o.1,x1.o.2.1,x1.o.2.2.1,x1.o.2.2.2.1,x1.o.q.1,x1.o.q.2.1,x3.1,x1.o.q.2.2.1,())) λx6=>
 B.c (B.a (B.a (B.e (B.f .iop 0 x6.o.o.2.1) (B.n 4)) B.T (B.e (B.f .iop 0 x6.o.o.2.1) (B.n 5))) (B.h x6.2.1 (B.n 64)) B.F) (B.i (B.n 3) λx7=>
 B.i (B.p x6.q.2.2.1 (B.f .iop 4 x6.o.o.2.1)) λx8=>
 B.i (B.p x6.o.q.1 (B.f .iop 4 x6.o.o.2.1)) λx9=>
 B.R<|B.r (x8.1,x6.q.2.2.2.1,x6.o.1,x6.o.2.1,x7.1,x6.o.2.2.2.1,x9.1,x6.o.q.2.1,x6.o.q.2.2.1,x6.o.o.2.2.1,()))<|
 B.b (B.e (B.f .iop 0 x6.o.o.2.1) B.u) λx7=>
 A.eY [.l .iop,.i,.i,.i,.i,.b,.b,.i,.l .i64,.i,.l .i64,.l .i64,.x .blk,.l .i64,.l .i64] (B.c x7.1 (B.w .i64 x6.o.o.1 x6.1<|
 B.w .i64 x6.o.o.1 x6.1<|
 B.i (B.f .iop 3 x6.o.o.2.1) λx8=>
 B.L (x6.2.2.2.1,x6.q.1,x6.q.2.1,x6.q.2.2.1,x6.q.2.2.2.1,x6.o.1,x6.o.2.1,x6.o.2.2.1,x6.o.2.2.2.1,x6.o.q.1,x6.o.q.2.1,x6.o.q.2.2.1,x6.o.q.2.2.2.1,A.set .i64 x6.o.o.1 x6.1 (B.x .i64 (x8.1,())),x6.o.o.2.2.1,()))<|
 B.b (B.e (B.f .iop 0 x6.o.o.2.1) (B.n 2)) λx8=>
 A.eY [.l .iop,.i,.i,.i,.i,.b,.b,.i,.l .i64,.i,.l .i64,.l .i64,.x .blk,.l .i64,.l .i64] (B.c x8.1 (B.w .i64 x6.o.q.2.1 (B.f .iop 3 x6.o.o.2.1)<|
 B.w .i64 x6.o.q.2.1 (B.f .iop 3 x6.o.o.2.1)<|
 B.w .i64 x6.o.o.1 x6.1<|
 B.w .i64 x6.o.o.1 x6.1<|
 B.i (B.f .i64 0 (B.o .i64 x6.o.q.2.1 (B.f .iop 3 x6.o.o.2.1))) λx9=>
 B.L (x6.2.2.2.1,x6.q.1,x6.q.2.1,x6.q.2.2.1,x6.q.2.2.2.1,x6.o.1,x6.o.2.1,x6.o.2.2.1,x6.o.2.2.2.1,x6.o.q.1,x6.o.q.2.1,x6.o.q.2.2.1,x6.o.q.2.2.2.1,A.set .i64 x6.o.o.1 x6.1 (B.x .i64 (x9.1,())),x6.o.o.2.2.1,()))<|
 B.b (B.e (B.f .iop 0 x6.o.o.2.1) (B.n 3)) λx9=>
 A.eY [.l .iop,.i,.i,.i,.i,.b,.b,.i,.l .i64,.i,.l .i64,.l .i64,.x .blk,.l .i64,.l .i64] (B.c x9.1 (B.j ahE ahF (B.f .iop 3 x6.o.o.2.1,x6.2.1,x6.2.2.1,()) λx10=>
 B.w .i64 x6.o.o.1 x6.1<|
 B.w .i64 x6.o.o.1 x6.1<|
 B.i x10.1 λx11=>
 B.L (x6.2.2.2.1,x6.q.1,x6.q.2.1,x6.q.2.2.1,x6.q.2.2.2.1,x6.o.1,x6.o.2.1,x6.o.2.2.1,x6.o.2.2.2.1,x6.o.q.1,x6.o.q.2.1,x6.o.q.2.2.1,x6.o.q.2.2.2.1,A.set .i64 x6.o.o.1 x6.1 (B.x .i64 (x11.1,())),x6.o.o.2.2.1,()))<|
 B.b (B.e (B.f .iop 0 x6.o.o.2.1) (B.n 4)) λx10=>
 A.eY [.l .iop,.i,.i,.i,.i,.b,.b,.i,.l .i64,.i,.l .i64,.l .i64,.x .blk,.l .i64,.l .i64] (B.c x10.1 (B.w .i64 x6.o.q.2.2.1 x6.2.1<|
 B.w .i64 x6.o.q.2.2.1 x6.2.1<|
 B.w .i64 x6.o.o.1 x6.1<|
 B.w .i64 x6.o.o.1 x6.1<|
 B.i (B.f .i64 0 (B.o .i64 x6.o.q.2.2.1 x6.2.1)) λx11=>
 B.L (x6.2.2.2.1,x6.q.1,x6.q.2.1,x6.q.2.2.1,x6.q.2.2.2.1,x6.o.1,x6.o.2.1,x6.o.2.2.1,x6.o.2.2.2.1,x6.o.q.1,x6.o.q.2.1,x6.o.q.2.2.1,x6.o.q.2.2.2.1,A.set .i64 x6.o.o.1 x6.1 (B.x .i64 (x11.1,())),x6.o.o.2.2.1,()))<|
 B.b (B.e (B.f .iop 0 x6.o.o.2.1) (B.n 5)) λx11=>
 A.eY [.l .iop,.i,.i,.i,.i,.b,.b,.i,.l .i64,.i,.l .i64,.l .i64,.x .blk,.l .i64,.l .i64] (B.c x11.1 (B.w .i64 x6.o.q.2.2.1 x6.2.1<|
 B.w .i64 x6.o.q.2.2.1 x6.2.1<|
 B.i x6.2.2.1 λx12=>
 B.j dI dJ (x6.2.1,B.p (B.p (B.f .blk 0 x6.o.q.2.2.2.1) (B.f .iop 4 x6.o.o.2.1)) B.u,B.q (B.p (B.f .blk 0 x6.o.q.2.2.2.1) (B.f .blk 1 x6.o.q.2.2.2.1)) B.u,()) λx13=>
 B.c x13.1 (B.i (B.p x6.q.2.2.1 (B.p (B.f .iop 4 x6.o.o.2.1) B.u)) λx14=>
 B.i (B.p x6.o.q.1 (B.p (B.f .iop 4 x6.o.o.2.1) B.u)) λx15=>
 B.R<|B.R<|B.R<|B.R<|B.R<|B.R<|B.r (x14.1,x6.q.2.2.2.1,x6.o.1,x6.o.2.1,x6.o.2.2.1,x6.o.2.2.2.1,x15.1,x6.o.q.2.1,A.set .i64 x6.o.q.2.2.1 x6.2.1 (B.x .i64 (x12.1,())),x6.o.o.2.2.1,()))<|
 B.L (x6.2.2.2.1,x6.q.1,x6.q.2.1,x6.q.2.2.1,x6.q.2.2.2.1,x6.o.1,x6.o.2.1,x6.o.2.2.1,x6.o.2.2.2.1,x6.o.q.1,x6.o.q.2.1,A.set .i64 x6.o.q.2.2.1 x6.2.1 (B.x .i64 (x12.1,())),x6.o.q.2.2.2.1,x6.o.o.1,x6.o.o.2.2.1,()))<|
 B.b (B.e (B.f .iop 0 x6.o.o.2.1) (B.n 6)) λx12=>
 A.bind [.l .iop,.i,.i,.i,.i,.b,.b,.i,.l .i64,.i,.l .i64,.l .i64,.x .blk,.l .i64,.l .i64] (B.c x12.1 (B.j ahC ahD (x6.q.2.2.1,x6.q.2.2.2.1,x6.o.1,x6.o.2.1,x6.o.2.2.1,x6.o.2.2.2.1,x6.o.q.1,x6.o.q.2.1,x6.o.q.2.2.1,x6.o.o.2.2.1,()) λx13=>
 B.w .i64 x6.o.o.1 x6.1<|
 B.w .i64 x6.o.o.1 x6.1<|
 B.i x13.1 λx14=>
 B.r (x6.2.2.2.1,x6.q.1,x6.q.2.1,x13.2.1,x13.2.2.1,x13.2.2.2.1,x13.q.1,x13.q.2.1,x13.q.2.2.1,x13.q.2.2.2.1,x13.o.1,x13.o.2.1,x6.o.q.2.2.2.1,A.set .i64 x6.o.o.1 x6.1 (B.x .i64 (x14.1,())),x13.o.2.2.1,()))<|
 B.b (B.e (B.f .iop 0 x6.o.o.2.1) (B.n 7)) λx13=>
 A.bind [.l .iop,.i,.i,.i,.i,.b,.b,.i,.l .i64,.i,.l .i64,.l .i64,.x .blk,.l .i64,.l .i64] (B.c x13.1 (B.s (.l .i64) (A.lst .i64 [B.x .i64 (x6.2.1,())]) λx14=>
 B.C (B.m (A.addN (B.y .i64 x6.o.o.2.2.1) (B.y .i64 x14.1)) (B.n 1073741824))<|
 B.s (.l .i64) (A.app .i64 x6.o.o.2.2.1 x14.1) λx15=>
 B.r (x6.2.2.2.1,x6.q.1,x6.q.2.1,x6.q.2.2.1,x6.q.2.2.2.1,x6.o.1,x6.o.2.1,x6.o.2.2.1,x6.o.2.2.2.1,x6.o.q.1,x6.o.q.2.1,x6.o.q.2.2.1,x6.o.q.2.2.2.1,x6.o.o.1,x15.1,()))<|
 B.b (B.e (B.f .iop 0 x6.o.o.2.1) (B.n 8)) λx14=>
 A.bind [.l .iop,.i,.i,.i,.i,.b,.b,.i,.l .i64,.i,.l .i64,.l .i64,.x .blk,.l .i64,.l .i64] (B.c x14.1 (B.w .i64 x6.o.q.2.1 (B.f .iop 3 x6.o.o.2.1)<|
 B.w .i64 x6.o.q.2.1 (B.f .iop 3 x6.o.o.2.1)<|
 B.i x6.2.1 λx15=>
 B.r (x6.2.2.2.1,x6.q.1,x6.q.2.1,x6.q.2.2.1,x6.q.2.2.2.1,x6.o.1,x6.o.2.1,x6.o.2.2.1,x6.o.2.2.2.1,x6.o.q.1,A.set .i64 x6.o.q.2.1 (B.f .iop 3 x6.o.o.2.1) (B.x .i64 (x15.1,())),x6.o.q.2.2.1,x6.o.q.2.2.2.1,x6.o.o.1,x6.o.o.2.2.1,()))<|
 B.r (x6.2.2.2.1,x6.q.1,x6.q.2.1,x6.q.2.2.1,x6.q.2.2.2.1,x6.o.1,x6.o.2.1,x6.o.2.2.1,x6.o.2.2.2.1,x6.o.q.1,x6.o.q.2.1,x6.o.q.2.2.1,x6.o.q.2.2.2.1,x6.o.o.1,x6.o.o.2.2.1,())) λx15=>
 B.r (x15.1,x15.2.1,x15.2.2.1,x15.2.2.2.1,x15.q.1,x15.q.2.1,x15.q.2.2.1,x15.q.2.2.2.1,x15.o.1,x15.o.2.1,x15.o.2.2.1,x15.o.2.2.2.1,x15.o.q.1,x15.o.q.2.1,x15.o.q.2.2.1,())) λx14=>
 B.r (x14.1,x14.2.1,x14.2.2.1,x14.2.2.2.1,x14.q.1,x14.q.2.1,x14.q.2.2.1,x14.q.2.2.2.1,x14.o.1,x14.o.2.1,x14.o.2.2.1,x14.o.2.2.2.1,x14.o.q.1,x14.o.q.2.1,x14.o.q.2.2.1,())) λx13=>
 B.L (x13.1,x13.2.1,x13.2.2.1,x13.2.2.2.1,x13.q.1,x13.q.2.1,x13.q.2.2.1,x13.q.2.2.2.1,x13.o.1,x13.o.2.1,x13.o.2.2.1,x13.o.2.2.2.1,x13.o.q.1,x13.o.q.2.1,x13.o.q.2.2.1,())) λx12=>
 B.L (x12.1,x12.2.1,x12.2.2.1,x12.2.2.2.1,x12.q.1,x12.q.2.1,x12.q.2.2.1,x12.q.2.2.2.1,x12.o.1,x12.o.2.1,x12.o.2.2.1,x12.o.2.2.2.1,x12.o.q.1,x12.o.q.2.1,x12.o.q.2.2.1,())) λx11=>
 B.L (x11.1,x11.2.1,x11.2.2.1,x11.2.2.2.1,x11.q.1,x11.q.2.1,x11.q.2.2.1,x11.q.2.2.2.1,x11.o.1,x11.o.2.1,x11.o.2.2.1,x11.o.2.2.2.1,x11.o.q.1,x11.o.q.2.1,x11.o.q.2.2.1,())) λx10=>
 B.L (x10.1,x10.2.1,x10.2.2.1,x10.2.2.2.1,x10.q.1,x10.q.2.1,x10.q.2.2.1,x10.q.2.2.2.1,x10.o.1,x10.o.2.1,x10.o.2.2.1,x10.o.2.2.2.1,x10.o.q.1,x10.o.q.2.1,x10.o.q.2.2.1,())) λx9=>
 B.L (x9.1,x9.2.1,x9.2.2.1,x9.2.2.2.1,x9.q.1,x9.q.2.1,x9.q.2.2.1,x9.q.2.2.2.1,x9.o.1,x9.o.2.1,x9.o.2.2.1,x9.o.2.2.2.1,x9.o.q.1,x9.o.q.2.1,x9.o.q.2.2.1,())) λx8=>
 B.L (x8.1,x8.2.1,B.p x8.2.2.1 B.u,x8.2.2.2.1,x8.q.1,x8.q.2.1,x8.q.2.2.1,x8.q.2.2.2.1,x8.o.1,x8.o.2.1,x8.o.2.2.1,x8.o.2.2.2.1,x8.o.q.1,x8.o.q.2.1,x8.o.q.2.2.1,()))<|
 B.R<|B.i (B.p x1.o.2.1 (B.f .blk 1 x1.o.q.1)) λx2=>
 B.b (B.e (B.f .blk 3 x1.o.q.1) B.u) λx3=>
 A.bind [.i,.i,.b,.b,.i,.l .i64,.i,.l .i64,.l .i64,.l .i64] (B.c x3.1 (B.i (B.f .blk 6 x1.o.q.1) λx4=>
 B.r (x4.1,x1.q.1,x1.q.2.1,x1.q.2.2.1,x1.q.2.2.2.1,x1.o.1,x2.1,x1.o.2.2.1,x1.o.2.2.2.1,x1.o.q.2.2.1,()))<|
 B.b (B.e (B.f .blk 3 x1.o.q.1) (B.n 2)) λx4=>
 A.bind [.i,.i,.b,.b,.i,.l .i64,.i,.l .i64,.l .i64,.l .i64] (B.c x4.1 (B.w .i64 x1.o.q.2.1 (B.f .blk 4 x1.o.q.1)<|
 B.w .i64 x1.o.q.2.1 (B.f .blk 4 x1.o.q.1)<|
 B.i (B.f .i64 0 (B.o .i64 x1.o.q.2.1 (B.f .blk 4 x1.o.q.1))) λx5=>
 B.r (x5.1,x1.q.1,x1.q.2.1,x1.q.2.2.1,x1.q.2.2.2.1,x1.o.1,x2.1,x1.o.2.2.1,x1.o.2.2.2.1,x1.o.q.2.2.1,()))<|
 B.i (B.p (B.f .blk 0 x1.o.q.1) (B.f .blk 1 x1.o.q.1)) λx5=>
 B.w .i64 x1.o.q.2.1 (B.f .blk 4 x1.o.q.1)<|
 B.w .i64 x1.o.q.2.1 (B.f .blk 4 x1.o.q.1)<|
 B.w .i64 x1.o.q.2.1 (B.f .blk 5 x1.o.q.1)<|
 B.w .i64 x1.o.q.2.1 (B.f .blk 5 x1.o.q.1)<|
 B.j ahG ahH (B.p (B.q (B.f .blk 3 x1.o.q.1) (B.n 3)) B.u,B.f .i64 0 (B.o .i64 x1.o.q.2.1 (B.f .blk 4 x1.o.q.1)),B.f .i64 0 (B.o .i64 x1.o.q.2.1 (B.f .blk 5 x1.o.q.1)),()) λx6=>
 A.bind [.i,.i,.b,.b,.i,.l .i64,.i,.l .i64,.l .i64,.l .i64] (B.c x6.1 (B.i (B.f .blk 6 x1.o.q.1) λx7=>
 B.r (x7.1,x1.q.1,x1.q.2.1,x1.q.2.2.1,x1.q.2.2.2.1,x1.o.1,x2.1,x1.o.2.2.1,x1.o.2.2.2.1,x1.o.q.2.2.1,()))<|
 B.r (x5.1,x1.q.1,x1.q.2.1,x1.q.2.2.1,x1.q.2.2.2.1,x1.o.1,x2.1,x1.o.2.2.1,x1.o.2.2.2.1,x1.o.q.2.2.1,())) λx7=>
 B.r (x7.1,x7.2.1,x7.2.2.1,x7.2.2.2.1,x7.q.1,x7.q.2.1,x7.q.2.2.1,x7.q.2.2.2.1,x7.o.1,x7.o.2.1,())) λx5=>
 B.r (x5.1,x5.2.1,x5.2.2.1,x5.2.2.2.1,x5.q.1,x5.q.2.1,x5.q.2.2.1,x5.q.2.2.2.1,x5.o.1,x5.o.2.1,())) λx4=>
 B.r (x4.1,x4.2.1,x4.2.2.1,x4.2.2.2.1,x4.q.1,x4.q.2.1,x4.q.2.2.1,x4.q.2.2.2.1,x4.o.1,x4.o.2.1,())) (B.D .blk 2 .iop x.1,B.y .iop (B.D .blk 2 .iop x.1),B.z,x.2.1,x.2.2.1,x.2.2.2.1,x.q.1,x.q.2.1,x.q.2.2.1,x.q.2.2.2.1,x.o.1,x.o.2.1,x.1,x0.1,x.o.2.2.1,())
def XL (ahI:Pt A K6) (ahJ:Ft A K6) (ahK:Pt A KR) (ahL:Ft A KR) (abH:Pt A KV) (abI:Ft A KV) (ahM:Pt A KT) (ahN:Ft A KT) (x:Tup A.ah [.x .blk,.x .aC]):Ot A K7:=
 B.b B.F λx0=>
 B.j ahK ahL (x.1,()) λx1=>
 B.k (B.N (B.N x1.1)) ahM ahN (x.2.1,()) λx2=>
 B.c (B.a (B.N x1.1) B.T (B.N x2.1)) (B.b B.F λx3=>
 B.r (B.z,B.z,B.F,B.F,B.z,B.z,x3.1,A.je .i64,A.je .i64,A.je .i64,A.je .i64,()))<|
 B.j abH abI (x.2.1,()) λx3=>
 B.c (B.a (B.a (B.d (B.f .aC 6 x.2.1) B.z) B.T (B.d (B.f .aC 1 x.2.1) (B.f .blk 0 x.1))) B.T (B.g (B.f .aC 9 x.2.1) (B.q (B.n 1000000) (B.f .blk 1 x.1)))) (B.b B.F λx4=>
 B.r (x3.1,x3.2.1,x3.2.2.1,x3.2.2.2.1,x3.q.1,x3.q.2.1,x4.1,x3.q.2.2.1,x3.q.2.2.2.1,x3.o.1,x3.o.2.1,()))<|
 B.j ahI ahJ (x.1,x3.1,x3.2.1,x3.2.2.1,x3.2.2.2.1,x3.q.1,x3.o.1,x3.q.2.1,x3.q.2.2.1,x3.q.2.2.2.1,x3.o.2.1,()) λx4=>
 B.j abH abI (B.x .aC (x4.q.2.2.2.1,x4.1,x4.o.1,x4.2.1,x4.2.2.1,x4.2.2.2.1,x4.q.1,x4.q.2.1,x4.o.2.1,x4.q.2.2.1,()),()) λx5=>
 B.b B.T λx6=>
 B.r (x5.1,x5.2.1,x5.2.2.1,x5.2.2.2.1,x5.q.1,x5.q.2.1,x6.1,x5.q.2.2.1,x5.q.2.2.2.1,x5.o.1,x5.o.2.1,())
def ad6 (dI:Pt A bQ) (dJ:Ft A bQ) (Ls:Pt A Bg) (Lu:Ft A Bg) (x:Tup A.ah [.x .ins]):Ot A Vz:=
 B.b B.F λx0=>
 B.j dI dJ (B.f .ins 0 x.1,B.z,B.n 15,()) λx1=>
 B.c (B.N x1.1) (B.v B.F)<|
 B.w .form (A.glob 0 .form) (B.f .ins 0 x.1)<|
 B.s (.x .form) (B.o .form (A.glob 0 .form) (B.f .ins 0 x.1)) λx2=>
 B.j Ls Lu (B.f .ins 1 x.1,()) λx3=>
 B.k x3.1 Ls Lu (B.f .ins 2 x.1,()) λx4=>
 B.k (B.a (B.a (B.a x3.1 x4.1 B.F) (B.a (A.fB .form 0 x2.1) B.T (B.e (B.f .ins 1 x.1) B.z)) B.F) (B.a (A.fB .form 1 x2.1) B.T (B.e (B.f .ins 2 x.1) B.z)) B.F) dI dJ (B.f .ins 3 x.1,B.z,B.f .form 2 x2.1,()) λx5=>
 B.v (B.a (B.a (B.a (B.a x3.1 x4.1 B.F) (B.a (A.fB .form 0 x2.1) B.T (B.e (B.f .ins 1 x.1) B.z)) B.F) (B.a (A.fB .form 1 x2.1) B.T (B.e (B.f .ins 2 x.1) B.z)) B.F) x5.1 B.F)
def ad7 (dI:Pt A bQ) (dJ:Ft A bQ) (x:Tup A.ah [.i]):Ot A VA:=
 B.b B.F λx0=>
 B.j dI dJ (x.1,B.n 11,B.n 13,()) λx1=>
 B.v x1.1
def ad8 (amT:Pt A VA) (amU:Ft A VA) (amV:Pt A Vz) (amW:Ft A Vz) (dI:Pt A bQ) (dJ:Ft A bQ) (x:Tup A.ah [.i,.l .ins]):Ot A VB:=
 B.b B.F λx0=>
 B.j dI dJ (B.y .ins x.2.1,B.u,B.n 8,()) λx1=>
 B.k (B.N (B.N x1.1)) dI dJ (x.1,B.z,B.q (B.n 64) (B.y .ins x.2.1),()) λx2=>
 B.c (B.a (B.N x1.1) B.T (B.N x2.1)) (B.v B.F)<|
 B.I [.l .ins,.l .ins,.i,.i] (λx3=>
 B.c (B.l x3.2.2.2.1 x3.2.2.1) (B.w .ins x3.2.1 x3.2.2.2.1<|
 B.i x3.2.2.2.1 λx4=>
 B.s (.x .ins) (B.o .ins x3.2.1 x3.2.2.2.1) λx5=>
 B.j amV amW (x5.1,()) λx6=>
 B.k (B.N (B.a (B.N x6.1) B.T (B.e (B.f .ins 0 x5.1) B.z))) amT amU (B.f .ins 0 x5.1,()) λx7=>
 B.c (B.a (B.a (B.N x6.1) B.T (B.e (B.f .ins 0 x5.1) B.z)) B.T (B.a x7.1 (B.l x4.1 (B.q (B.y .ins x3.1) B.u)) B.F)) (B.b B.F λx8=>
 B.R<|B.r (x8.1,()))<|
 B.L (x3.1,x3.2.1,x3.2.2.1,B.p x3.2.2.2.1 B.u,()))<|
 B.R<|B.v B.T) (x.2.1,x.2.1,B.y .ins x.2.1,B.z,())
def XM (dI:Pt A bQ) (dJ:Ft A bQ) (x:Tup A.ah [.x .iop]):Ot A K8:=
 B.b B.F λx0=>
 B.j dI dJ (B.f .iop 0 x.1,B.n 4,B.n 7,()) λx1=>
 B.v x1.1
def XO (ahO:Pt A K8) (ahP:Ft A K8) (x:Tup A.ah [.i,.i,.i,.i,.i,.i,.i,.i,.i,.i,.i,.l .iop]):Ot A kg:=
 B.i B.z λx0=>
 B.j ahO ahP (B.x .iop (x.1,x.2.1,x.2.2.1,x.2.2.2.1,B.z,()),()) λx1=>
 A.bind [.i,.i,.i,.i,.i,.i,.i,.l .iop,.i,.i,.i,.i,.i] (B.c x1.1 (B.i x.o.2.2.1 λx2=>
 B.r (x.q.1,x.q.2.1,x.q.2.2.1,x.q.2.2.2.1,x.o.1,x.o.2.1,x.o.2.2.1,x.o.2.2.2.1,x.1,x.2.1,x.2.2.1,x.2.2.2.1,x2.1,()))<|
 B.r (x.q.1,x.q.2.1,x.q.2.2.1,x.q.2.2.2.1,x.o.1,x.o.2.1,x.o.2.2.1,x.o.2.2.2.1,x.1,x.2.1,x.2.2.1,x.2.2.2.1,B.z,())) λx2=>
 B.C (B.m (A.addN (B.y .iop x2.q.2.2.2.1) (B.y .iop (A.lst .iop [B.x .iop (x2.o.1,x2.o.2.1,x2.o.2.2.1,x2.o.2.2.2.1,x2.o.q.1,())]))) (B.n 1073741824))<|
 B.s (.l .iop) (A.app .iop x2.q.2.2.2.1 (A.lst .iop [B.x .iop (x2.o.1,x2.o.2.1,x2.o.2.2.1,x2.o.2.2.2.1,x2.o.q.1,())])) λx3=>
 B.i (B.q (B.y .iop x3.1) B.u) λx4=>
 B.r (x4.1,x2.1,x2.2.1,x2.2.2.1,x2.2.2.2.1,x2.q.1,x2.q.2.1,x2.q.2.2.1,x3.1,())
def XP (qA:Pt A kg) (qB:Ft A kg) (x:Tup A.ah [.i,.x .ins,.i,.i,.i,.i,.i,.i,.i,.l .iop]):Ot A K9:=
 B.j qA qB (B.n 8,x.1,B.z,B.f .ins 1 x.2.1,x.2.2.1,x.2.2.2.1,x.q.1,x.q.2.1,x.q.2.2.1,x.q.2.2.2.1,x.o.1,x.o.2.1,()) λx0=>
 B.r (x.2.1,x0.2.1,x0.2.2.1,x0.2.2.2.1,x0.q.1,x0.q.2.1,x0.q.2.2.1,x0.q.2.2.2.1,x0.o.1,())
def XQ (qA:Pt A kg) (qB:Ft A kg) (x:Tup A.ah [.i,.i,.i,.i,.i,.i,.i,.i,.l .iop]):Ot A La:=
 B.i B.z λx0=>
 B.j qA qB (B.u,B.z,B.z,x.1,x.2.1,x.2.2.1,x.2.2.2.1,x.q.1,x.q.2.1,x.q.2.2.1,x.q.2.2.2.1,x.o.1,()) λx1=>
 B.i x1.1 λx2=>
 B.r (x2.1,x1.2.1,x1.2.2.1,x1.2.2.2.1,x1.q.1,x1.q.2.1,x1.q.2.2.1,x1.q.2.2.2.1,x1.o.1,())
def XR (qA:Pt A kg) (qB:Ft A kg) (x:Tup A.ah [.i,.i,.i,.i,.i,.i,.i,.i,.l .iop]):Ot A Lb:=
 B.i B.z λx0=>
 B.j qA qB (B.n 2,B.z,B.z,x.1,x.2.1,x.2.2.1,x.2.2.2.1,x.q.1,x.q.2.1,x.q.2.2.1,x.q.2.2.2.1,x.o.1,()) λx1=>
 B.i x1.1 λx2=>
 B.r (x2.1,x1.2.1,x1.2.2.1,x1.2.2.2.1,x1.q.1,x1.q.2.1,x1.q.2.2.1,x1.q.2.2.2.1,x1.o.1,())
def XU (qA:Pt A kg) (qB:Ft A kg) (x:Tup A.ah [.i,.i,.i,.i,.i,.i,.i,.i,.i,.i,.l .iop]):Ot A Lc:=
 B.i B.z λx0=>
 B.j qA qB (B.n 3,x.2.1,x.2.2.1,x.1,x.2.2.2.1,x.q.1,x.q.2.1,x.q.2.2.1,x.q.2.2.2.1,x.o.1,x.o.2.1,x.o.2.2.1,()) λx1=>
 B.i x1.1 λx2=>
 B.r (x2.1,x1.2.1,x1.2.2.1,x1.2.2.2.1,x1.q.1,x1.q.2.1,x1.q.2.2.1,x1.q.2.2.2.1,x1.o.1,())
def XV (Rw:Pt A Lc) (Rx:Ft A Lc) (sJ:Pt A Lb) (sK:Ft A Lb) (Gm:Pt A K9) (Gn:Ft A K9) (qA:Pt A kg) (qB:Ft A kg) (Ry:Pt A La) (Rz:Ft A La) (x:Tup A.ah [.x .ins,.i,.i,.i,.i,.i,.i,.i,.l .iop]):Ot A Ld:=
 B.b (B.e (B.f .ins 0 x.1) B.u) λx0=>
 A.bind [.i,.i,.i,.i,.i,.i,.i,.l .iop] (B.c x0.1 (B.j Ry Rz (B.f .ins 3 x.1,x.2.1,x.2.2.1,x.2.2.2.1,x.q.1,x.q.2.1,x.q.2.2.1,x.q.2.2.2.1,x.o.1,()) λx1=>
 B.j Gm Gn (x1.1,x.1,x1.2.1,x1.2.2.1,x1.2.2.2.1,x1.q.1,x1.q.2.1,x1.q.2.2.1,x1.q.2.2.2.1,x1.o.1,()) λx2=>
 B.r (x2.2.1,x2.2.2.1,x2.2.2.2.1,x2.q.1,x2.q.2.1,x2.q.2.2.1,x2.q.2.2.2.1,x2.o.1,()))<|
 B.b (B.e (B.f .ins 0 x.1) (B.n 2)) λx1=>
 A.bind [.i,.i,.i,.i,.i,.i,.i,.l .iop] (B.c x1.1 (B.j sJ sK (B.f .ins 2 x.1,x.2.1,x.2.2.1,x.2.2.2.1,x.q.1,x.q.2.1,x.q.2.2.1,x.q.2.2.2.1,x.o.1,()) λx2=>
 B.j Gm Gn (x2.1,x.1,x2.2.1,x2.2.2.1,x2.2.2.2.1,x2.q.1,x2.q.2.1,x2.q.2.2.1,x2.q.2.2.2.1,x2.o.1,()) λx3=>
 B.r (x3.2.1,x3.2.2.1,x3.2.2.2.1,x3.q.1,x3.q.2.1,x3.q.2.2.1,x3.q.2.2.2.1,x3.o.1,()))<|
 B.b (B.e (B.f .ins 0 x.1) (B.n 8)) λx2=>
 A.bind [.i,.i,.i,.i,.i,.i,.i,.l .iop] (B.c x2.1 (B.j sJ sK (B.f .ins 2 x.1,x.2.1,x.2.2.1,x.2.2.2.1,x.q.1,x.q.2.1,x.q.2.2.1,x.q.2.2.2.1,x.o.1,()) λx3=>
 B.i x3.1 λx4=>
 B.C (B.m B.z (B.f .ins 3 x.1))<|
 B.j Ry Rz (A.arith .shl .i64 B.u (B.f .ins 3 x.1),x3.2.1,x3.2.2.1,x3.2.2.2.1,x3.q.1,x3.q.2.1,x3.q.2.2.1,x3.q.2.2.2.1,x3.o.1,()) λx5=>
 B.j Rw Rx (B.n 3,x4.1,x5.1,x5.2.1,x5.2.2.1,x5.2.2.2.1,x5.q.1,x5.q.2.1,x5.q.2.2.1,x5.q.2.2.2.1,x5.o.1,()) λx6=>
 B.j Gm Gn (x6.1,x.1,x6.2.1,x6.2.2.1,x6.2.2.2.1,x6.q.1,x6.q.2.1,x6.q.2.2.1,x6.q.2.2.2.1,x6.o.1,()) λx7=>
 B.r (x7.2.1,x7.2.2.1,x7.2.2.2.1,x7.q.1,x7.q.2.1,x7.q.2.2.1,x7.q.2.2.2.1,x7.o.1,()))<|
 B.b (B.e (B.f .ins 0 x.1) (B.n 9)) λx3=>
 A.bind [.i,.i,.i,.i,.i,.i,.i,.l .iop] (B.c x3.1 (B.j sJ sK (B.f .ins 2 x.1,x.2.1,x.2.2.1,x.2.2.2.1,x.q.1,x.q.2.1,x.q.2.2.1,x.q.2.2.2.1,x.o.1,()) λx4=>
 B.i x4.1 λx5=>
 B.j Ry Rz (B.f .ins 3 x.1,x4.2.1,x4.2.2.1,x4.2.2.2.1,x4.q.1,x4.q.2.1,x4.q.2.2.1,x4.q.2.2.2.1,x4.o.1,()) λx6=>
 B.j Rw Rx (B.u,x5.1,x6.1,x6.2.1,x6.2.2.1,x6.2.2.2.1,x6.q.1,x6.q.2.1,x6.q.2.2.1,x6.q.2.2.2.1,x6.o.1,()) λx7=>
 B.j qA qB (B.n 4,x7.1,B.z,B.z,x7.2.1,x7.2.2.1,x7.2.2.2.1,x7.q.1,x7.q.2.1,x7.q.2.2.1,x7.q.2.2.2.1,x7.o.1,()) λx8=>
 B.j Gm Gn (x8.1,x.1,x8.2.1,x8.2.2.1,x8.2.2.2.1,x8.q.1,x8.q.2.1,x8.q.2.2.1,x8.q.2.2.2.1,x8.o.1,()) λx9=>
 B.r (x9.2.1,x9.2.2.1,x9.2.2.2.1,x9.q.1,x9.q.2.1,x9.q.2.2.1,x9.q.2.2.2.1,x9.o.1,()))<|
 B.b (B.e (B.f .ins 0 x.1) (B.n 10)) λx4=>
 A.bind [.i,.i,.i,.i,.i,.i,.i,.l .iop] (B.c x4.1 (B.j sJ sK (B.f .ins 2 x.1,x.2.1,x.2.2.1,x.2.2.2.1,x.q.1,x.q.2.1,x.q.2.2.1,x.q.2.2.2.1,x.o.1,()) λx5=>
 B.i x5.1 λx6=>
 B.j Ry Rz (B.f .ins 3 x.1,x5.2.1,x5.2.2.1,x5.2.2.2.1,x5.q.1,x5.q.2.1,x5.q.2.2.1,x5.q.2.2.2.1,x5.o.1,()) λx7=>
 B.j Rw Rx (B.u,x6.1,x7.1,x7.2.1,x7.2.2.1,x7.2.2.2.1,x7.q.1,x7.q.2.1,x7.q.2.2.1,x7.q.2.2.2.1,x7.o.1,()) λx8=>
 B.i x8.1 λx9=>
 B.j sJ sK (B.f .ins 1 x.1,x8.2.1,x8.2.2.1,x8.2.2.2.1,x8.q.1,x8.q.2.1,x8.q.2.2.1,x8.q.2.2.2.1,x8.o.1,()) λx10=>
 B.j qA qB (B.n 5,x9.1,x10.1,B.z,x10.2.1,x10.2.2.1,x10.2.2.2.1,x10.q.1,x10.q.2.1,x10.q.2.2.1,x10.q.2.2.2.1,x10.o.1,()) λx11=>
 B.r (x11.2.1,x11.2.2.1,x11.2.2.2.1,x11.q.1,x11.q.2.1,x11.q.2.2.1,x11.q.2.2.2.1,x11.o.1,()))<|
 B.b (B.e (B.f .ins 0 x.1) (B.n 14)) λx5=>
 A.bind [.i,.i,.i,.i,.i,.i,.i,.l .iop] (B.c x5.1 (B.j sJ sK (B.f .ins 1 x.1,x.2.1,x.2.2.1,x.2.2.2.1,x.q.1,x.q.2.1,x.q.2.2.1,x.q.2.2.2.1,x.o.1,()) λx6=>
 B.j qA qB (B.n 7,x6.1,B.z,B.z,x6.2.1,x6.2.2.1,x6.2.2.2.1,x6.q.1,x6.q.2.1,x6.q.2.2.1,x6.q.2.2.2.1,x6.o.1,()) λx7=>
 B.r (x7.2.1,x7.2.2.1,x7.2.2.2.1,x7.q.1,x7.q.2.1,x7.q.2.2.1,x7.q.2.2.2.1,x7.o.1,()))<|
 B.b (B.e (B.f .ins 0 x.1) (B.n 15)) λx6=>
 A.bind [.i,.i,.i,.i,.i,.i,.i,.l .iop] (B.c x6.1 (B.j qA qB (B.n 6,B.z,B.z,B.z,x.2.1,x.2.2.1,x.2.2.2.1,x.q.1,x.q.2.1,x.q.2.2.1,x.q.2.2.2.1,x.o.1,()) λx7=>
 B.j Gm Gn (x7.1,x.1,x7.2.1,x7.2.2.1,x7.2.2.2.1,x7.q.1,x7.q.2.1,x7.q.2.2.1,x7.q.2.2.2.1,x7.o.1,()) λx8=>
 B.r (x8.2.1,x8.2.2.1,x8.2.2.2.1,x8.q.1,x8.q.2.1,x8.q.2.2.1,x8.q.2.2.2.1,x8.o.1,()))<|
 B.b (B.e (B.f .ins 0 x.1) (B.n 11)) λx7=>
 A.bind [.i,.b,.i,.i,.i,.i,.i,.i,.i,.l .iop,.x .ins] (B.c x7.1 (B.r (B.f .ins 0 x.1,x7.1,x.2.1,x.2.2.1,x.2.2.2.1,x.q.1,x.q.2.1,x.q.2.2.1,x.q.2.2.2.1,x.o.1,x.1,()))<|
 B.b (B.e (B.f .ins 0 x.1) (B.n 12)) λx8=>
 B.r (B.f .ins 0 x.1,x8.1,x.2.1,x.2.2.1,x.2.2.2.1,x.q.1,x.q.2.1,x.q.2.2.1,x.q.2.2.2.1,x.o.1,x.1,())) λx8=>
 A.bind [.i,.i,.i,.i,.i,.i,.i,.l .iop] (B.c x8.2.1 (B.i (B.q (B.p (B.n 3) (B.f .ins 0 x8.o.2.2.1)) (B.n 11)) λx9=>
 B.i (B.f .ins 3 x8.o.2.2.1) λx10=>
 B.j sJ sK (B.f .ins 1 x8.o.2.2.1,x8.2.2.1,x8.2.2.2.1,x9.1,x8.q.2.1,x8.q.2.2.1,x10.1,x8.o.1,x8.o.2.1,()) λx11=>
 B.i x11.1 λx12=>
 B.j sJ sK (B.f .ins 2 x8.o.2.2.1,x11.2.1,x11.2.2.1,x11.2.2.2.1,x12.1,x11.q.2.1,x11.q.2.2.1,x11.q.2.2.2.1,x11.o.1,()) λx13=>
 B.i x13.1 λx14=>
 B.r (x13.2.1,x13.2.2.1,x13.2.2.2.1,x13.q.1,x14.1,x13.q.2.2.1,x13.q.2.2.2.1,x13.o.1,()))<|
 B.b (B.e x8.1 (B.n 13)) λx9=>
 A.bind [.i,.i,.i,.i,.i,.i,.i,.l .iop] (B.c x9.1 (B.i (B.n 2) λx10=>
 B.i B.z λx11=>
 B.j sJ sK (B.f .ins 2 x8.o.2.2.1,x8.2.2.1,x8.2.2.2.1,x10.1,x8.q.2.1,x8.q.2.2.1,x11.1,x8.o.1,x8.o.2.1,()) λx12=>
 B.i x12.1 λx13=>
 B.r (x12.2.1,x12.2.2.1,x12.2.2.2.1,x13.1,x12.q.2.1,x12.q.2.2.1,x12.q.2.2.2.1,x12.o.1,()))<|
 B.j sJ sK (B.f .ins 2 x8.o.2.2.1,x8.2.2.1,x8.2.2.2.1,x8.q.1,x8.q.2.1,x8.q.2.2.1,x8.q.2.2.2.1,x8.o.1,x8.o.2.1,()) λx10=>
 B.i x10.1 λx11=>
 B.j sJ sK (B.f .ins 3 x8.o.2.2.1,x10.2.1,x10.2.2.1,x10.2.2.2.1,x10.q.1,x10.q.2.1,x10.q.2.2.1,x10.q.2.2.2.1,x10.o.1,()) λx12=>
 B.j Rw Rx (B.p (B.q (B.f .ins 0 x8.o.2.2.1) (B.n 3)) B.u,x11.1,x12.1,x12.2.1,x12.2.2.1,x12.2.2.2.1,x12.q.1,x12.q.2.1,x12.q.2.2.1,x12.q.2.2.2.1,x12.o.1,()) λx13=>
 B.j Gm Gn (x13.1,x8.o.2.2.1,x13.2.1,x13.2.2.1,x13.2.2.2.1,x13.q.1,x13.q.2.1,x13.q.2.2.1,x13.q.2.2.2.1,x13.o.1,()) λx14=>
 B.r (x14.2.1,x14.2.2.1,x14.2.2.2.1,x14.q.1,x14.q.2.1,x14.q.2.2.1,x14.q.2.2.2.1,x14.o.1,())) λx10=>
 B.r (x10.1,x10.2.1,x10.2.2.1,x10.2.2.2.1,x10.q.1,x10.q.2.1,x10.q.2.2.1,x10.q.2.2.2.1,())) λx9=>
 B.r (x9.1,x9.2.1,x9.2.2.1,x9.2.2.2.1,x9.q.1,x9.q.2.1,x9.q.2.2.1,x9.q.2.2.2.1,())) λx7=>
 B.r (x7.1,x7.2.1,x7.2.2.1,x7.2.2.2.1,x7.q.1,x7.q.2.1,x7.q.2.2.1,x7.q.2.2.2.1,())) λx6=>
 B.r (x6.1,x6.2.1,x6.2.2.1,x6.2.2.2.1,x6.q.1,x6.q.2.1,x6.q.2.2.1,x6.q.2.2.2.1,())) λx5=>
 B.r (x5.1,x5.2.1,x5.2.2.1,x5.2.2.2.1,x5.q.1,x5.q.2.1,x5.q.2.2.1,x5.q.2.2.2.1,())) λx4=>
 B.r (x4.1,x4.2.1,x4.2.2.1,x4.2.2.2.1,x4.q.1,x4.q.2.1,x4.q.2.2.1,x4.q.2.2.2.1,())) λx3=>
 B.r (x3.1,x3.2.1,x3.2.2.1,x3.2.2.2.1,x3.q.1,x3.q.2.1,x3.q.2.2.1,x3.q.2.2.2.1,())) λx2=>
 B.r (x2.1,x2.2.1,x2.2.2.1,x2.2.2.2.1,x2.q.1,x2.q.2.1,x2.q.2.2.1,x2.q.2.2.2.1,())) λx1=>
 B.r (x1.1,x1.2.1,x1.2.2.1,x1.2.2.2.1,x1.q.1,x1.q.2.1,x1.q.2.2.1,x1.q.2.2.2.1,())
def ad9 (x:Tup A.ah [.x .blk]):Ot A VD:=
 B.C (B.m (B.y .iop (B.D .blk 2 .iop x.1)) (B.n 1073741824))<|
 B.s (.l .iop) (B.D .blk 2 .iop x.1) λx0=>
 B.r (B.f .blk 0 x.1,B.f .blk 1 x.1,B.f .blk 3 x.1,B.f .blk 4 x.1,B.f .blk 5 x.1,B.f .blk 6 x.1,x0.1,())
def aea (amX:Pt A VB) (amY:Ft A VB) (amZ:Pt A VD) (am0:Ft A VD) (ahQ:Pt A Ld) (ahR:Ft A Ld) (x:Tup A.ah [.i,.l .ins]):Ot A VE:=
 B.j amX amY (x.1,x.2.1,()) λx0=>
 B.c (B.N x0.1) (B.r (B.z,B.z,B.z,B.z,B.z,B.z,A.je .iop,()))<|
 B.I [.l .ins,.i,.i,.i,.i,.i,.i,.i,.i,.i,.i,.i,.i,.i,.i,.i,.l .iop] (λx1=>
 B.c (B.l x1.2.2.1 x1.2.1) (B.w .ins x1.1 x1.2.2.1<|
 B.i x1.2.2.1 λx2=>
 B.s (.x .ins) (B.o .ins x1.1 x1.2.2.1) λx3=>
 B.i x2.1 λx4=>
 B.j ahQ ahR (x3.1,x1.o.2.1,x1.o.2.2.1,x1.o.2.2.2.1,x1.o.q.1,x1.o.q.2.1,x1.o.q.2.2.1,x4.1,x1.o.o.1,()) λx5=>
 B.L (x1.1,x1.2.1,B.p x1.2.2.1 B.u,x1.2.2.2.1,x1.q.1,x1.q.2.1,x1.q.2.2.1,x1.q.2.2.2.1,x1.o.1,x5.1,x5.2.1,x5.2.2.1,x5.2.2.2.1,x5.q.1,x5.q.2.1,x5.q.2.2.1,x5.q.2.2.2.1,()))<|
 B.R<|B.j amZ am0 (B.x .blk (x1.o.2.1,x1.o.2.2.1,x1.o.o.1,x1.o.2.2.2.1,x1.o.q.1,x1.o.q.2.1,x1.o.q.2.2.1,()),()) λx2=>
 B.r (x2.1,x2.2.1,x2.2.2.1,x2.2.2.2.1,x2.q.1,x2.q.2.1,x2.q.2.2.1,())) (x.2.1,B.y .ins x.2.1,B.z,B.z,B.z,B.z,B.z,B.z,B.z,x.1,B.y .ins x.2.1,B.u,B.z,B.z,B.p x.1 (B.y .ins x.2.1),B.z,A.je .iop,())
def XW (x:Tup A.ah [.l .i64,.l .i64]):Ot A Le:=
 B.b B.F λx0=>
 B.c (B.d (B.y .i64 x.1) (B.y .i64 x.2.1)) (B.v B.F)<|
 B.i B.z λx1=>
 B.I [.l .i64,.l .i64,.i] (λx2=>
 B.c (B.l x2.2.2.1 (B.y .i64 x2.1)) (B.w .i64 x2.1 x2.2.2.1<|
 B.w .i64 x2.2.1 x2.2.2.1<|
 B.c (B.d (B.f .i64 0 (B.o .i64 x2.1 x2.2.2.1)) (B.f .i64 0 (B.o .i64 x2.2.1 x2.2.2.1))) (B.b B.F λx3=>
 B.R<|B.r (x3.1,()))<|
 B.i (B.p x2.2.2.1 B.u) λx3=>
 B.L (x2.1,x2.2.1,x3.1,()))<|
 B.R<|B.v B.T) (x.1,x.2.1,x1.1,())
def XY (RA:Pt A Le) (RD:Ft A Le) (x:Tup A.ah [.x .aC,.x .aC]):Ot A Lf:=
 B.b B.F λx0=>
 B.j RA RD (B.D .aC 0 .i64 x.1,B.D .aC 0 .i64 x.2.1,()) λx1=>
 B.k (B.a x1.1 (B.e (B.f .aC 1 x.1) (B.f .aC 1 x.2.1)) B.F) RA RD (B.D .aC 2 .i64 x.1,B.D .aC 2 .i64 x.2.1,()) λx2=>
 B.k (B.a (B.a (B.a (B.a (B.a (B.a x1.1 (B.e (B.f .aC 1 x.1) (B.f .aC 1 x.2.1)) B.F) x2.1 B.F) (B.e (B.f .aC 3 x.1) (B.f .aC 3 x.2.1)) B.F) (A.eqB (A.fB .aC 4 x.1) (A.fB .aC 4 x.2.1)) B.F) (A.eqB (A.fB .aC 5 x.1) (A.fB .aC 5 x.2.1)) B.F) (B.e (B.f .aC 6 x.1) (B.f .aC 6 x.2.1)) B.F) RA RD (B.D .aC 7 .i64 x.1,B.D .aC 7 .i64 x.2.1,()) λx3=>
 B.k (B.a (B.a (B.a (B.a (B.a (B.a (B.a x1.1 (B.e (B.f .aC 1 x.1) (B.f .aC 1 x.2.1)) B.F) x2.1 B.F) (B.e (B.f .aC 3 x.1) (B.f .aC 3 x.2.1)) B.F) (A.eqB (A.fB .aC 4 x.1) (A.fB .aC 4 x.2.1)) B.F) (A.eqB (A.fB .aC 5 x.1) (A.fB .aC 5 x.2.1)) B.F) (B.e (B.f .aC 6 x.1) (B.f .aC 6 x.2.1)) B.F) x3.1 B.F) RA RD (B.D .aC 8 .i64 x.1,B.D .aC 8 .i64 x.2.1,()) λx4=>
 B.v (B.a (B.a (B.a (B.a (B.a (B.a (B.a (B.a (B.a x1.1 (B.e (B.f .aC 1 x.1) (B.f .aC 1 x.2.1)) B.F) x2.1 B.F) (B.e (B.f .aC 3 x.1) (B.f .aC 3 x.2.1)) B.F) (A.eqB (A.fB .aC 4 x.1) (A.fB .aC 4 x.2.1)) B.F) (A.eqB (A.fB .aC 5 x.1) (A.fB .aC 5 x.2.1)) B.F) (B.e (B.f .aC 6 x.1) (B.f .aC 6 x.2.1)) B.F) x3.1 B.F) x4.1 B.F) (B.e (B.f .aC 9 x.1) (B.f .aC 9 x.2.1)) B.F)
def XZ (aeb:Pt A VE) (aec:Ft A VE) (X0:Pt A K7) (X3:Ft A K7) (ahS:Pt A Lf) (ahT:Ft A Lf) (X4:Pt A KL) (X5:Ft A KL) (V3:Pt A AQ) (V4:Ft A AQ) (ahU:Pt A Ki) (ahV:Ft A Ki) (ahW:Pt A KJ) (ahX:Ft A KJ) (Li:Pt A sD) (Lj:Ft A sD) (x:Tup A.ah [.l .u8,.l .u8]):Ot A abC:=
 B.b B.F λx0=>
 B.c (B.a (B.g (B.y .u8 x.1) (B.n 1048576)) B.T (B.g (B.y .u8 x.2.1) (B.n 1048576))) (B.v B.T)<|
 B.j ahU ahV (x.1,()) λx1=>
 B.i x1.1 λx2=>
 B.j ahW ahX (x.2.1,()) λx3=>
 B.s (.x .blk) x3.1 λx4=>
 B.j V3 V4 (x2.1,x1.2.1,()) λx5=>
 B.k (B.N (B.N x5.1)) Li Lj (B.x .aC (x3.o.2.1,x3.2.1,x3.2.2.1,x3.2.2.2.1,x3.q.1,x3.q.2.1,x3.q.2.2.1,x3.q.2.2.2.1,x3.o.2.2.1,x3.o.1,()),()) λx6=>
 B.c (B.a (B.a (B.N x5.1) B.T (B.N x6.1)) B.T (B.l (B.y .ins x1.2.1) (B.n 2))) (B.j X4 X5 () λx7=>
 B.v x7.1)<|
 B.i x2.1 λx7=>
 B.i B.z λx8=>
 B.j aeb aec (x2.1,x1.2.1,()) λx9=>
 B.j X0 X3 (B.x .blk (x9.1,x9.2.1,x9.q.2.2.1,x9.2.2.1,x9.2.2.2.1,x9.q.1,x9.q.2.1,()),B.x .aC (x3.o.2.1,x7.1,x3.2.2.1,x3.2.2.2.1,x3.q.1,x3.q.2.1,x8.1,x3.q.2.2.2.1,x3.o.2.2.1,x3.o.1,()),()) λx10=>
 B.b x10.q.2.2.1 λx11=>
 B.c (B.a (B.N x11.1) B.T (B.l x10.q.2.1 (B.p x3.o.1 (B.y .ins x1.2.1)))) (B.j X4 X5 () λx12=>
 B.v x12.1)<|
 B.i B.u λx12=>
 B.I [.i,.i,.l .ins,.i,.l .i64,.i,.b,.b,.i,.l .i64,.i,.i,.i,.b,.b,.i,.i,.l .i64,.l .i64,.l .i64,.l .i64,.l .i64,.l .i64] (λx13=>
 B.c (B.l x13.2.1 (B.y .ins x13.2.2.1)) (B.C (B.m B.z B.z)<|
 B.C (B.m B.z x13.2.1)<|
 B.C (B.m x13.2.1 (B.y .ins x13.2.2.1))<|
 B.C (B.m B.z B.z)<|
 B.C (B.m B.z (A.lJ x13.2.1 B.z))<|
 B.C (B.m (A.addN B.z (A.lJ x13.2.1 B.z)) (B.y .ins x13.2.2.1))<|
 B.j aeb aec (x13.1,A.sub .ins x13.2.2.1 B.z (A.addN B.z (A.lJ x13.2.1 B.z)),()) λx14=>
 B.j X0 X3 (B.x .blk (x14.1,x14.2.1,x14.q.2.2.1,x14.2.2.1,x14.2.2.2.1,x14.q.1,x14.q.2.1,()),B.x .aC (x13.o.o.2.1,x13.2.2.2.1,x13.q.1,x13.q.2.1,x13.q.2.2.1,x13.q.2.2.2.1,x13.o.1,x13.o.2.1,x13.o.o.2.2.1,x13.o.2.2.1,()),()) λx15=>
 B.b x15.q.2.2.1 λx16=>
 B.C (B.m B.z x13.2.1)<|
 B.C (B.m x13.2.1 (B.y .ins x13.2.2.1))<|
 B.C (B.m (B.y .ins x13.2.2.1) (B.y .ins x13.2.2.1))<|
 B.C (B.m B.z x13.2.1)<|
 B.C (B.m B.z (A.lJ (B.y .ins x13.2.2.1) x13.2.1))<|
 B.C (B.m (A.addN x13.2.1 (A.lJ (B.y .ins x13.2.2.1) x13.2.1)) (B.y .ins x13.2.2.1))<|
 B.j aeb aec (B.p x13.1 x13.2.1,A.sub .ins x13.2.2.1 x13.2.1 (A.addN x13.2.1 (A.lJ (B.y .ins x13.2.2.1) x13.2.1)),()) λx17=>
 B.j X0 X3 (B.x .blk (x17.1,x17.2.1,x17.q.2.2.1,x17.2.2.1,x17.2.2.2.1,x17.q.1,x17.q.2.1,()),B.x .aC (x15.q.2.2.2.1,x15.1,x15.o.1,x15.2.1,x15.2.2.1,x15.2.2.2.1,x15.q.1,x15.o.2.1,x15.o.2.2.1,x15.q.2.1,()),()) λx18=>
 B.b x18.q.2.2.1 λx19=>
 B.k (B.N (B.a (B.N x16.1) B.T (B.N x19.1))) ahS ahT (B.x .aC (x13.o.o.2.2.2.1,x13.o.2.2.2.1,x13.o.o.q.1,x13.o.q.1,x13.o.q.2.1,x13.o.q.2.2.1,x13.o.q.2.2.2.1,x13.o.o.q.2.1,x13.o.o.q.2.2.1,x13.o.o.1,()),B.x .aC (x18.q.2.2.2.1,x18.1,x18.o.1,x18.2.1,x18.2.2.1,x18.2.2.2.1,x18.q.1,x18.o.2.1,x18.o.2.2.1,x18.q.2.1,()),()) λx20=>
 B.c (B.a (B.a (B.N x16.1) B.T (B.N x19.1)) B.T (B.N x20.1)) (B.b B.F λx21=>
 B.R<|B.r (x21.1,()))<|
 B.i (B.p x13.2.1 B.u) λx21=>
 B.L (x13.1,x21.1,x13.2.2.1,x13.2.2.2.1,x13.q.1,x13.q.2.1,x13.q.2.2.1,x13.q.2.2.2.1,x13.o.1,x13.o.2.1,x13.o.2.2.1,x13.o.2.2.2.1,x13.o.q.1,x13.o.q.2.1,x13.o.q.2.2.1,x13.o.q.2.2.2.1,x13.o.o.1,x13.o.o.2.1,x13.o.o.2.2.1,x13.o.o.2.2.2.1,x13.o.o.q.1,x13.o.o.q.2.1,x13.o.o.q.2.2.1,()))<|
 B.R<|B.j X4 X5 () λx14=>
 B.v x14.1) (x2.1,x12.1,x1.2.1,x7.1,x3.2.2.1,x3.2.2.2.1,x3.q.1,x3.q.2.1,x8.1,x3.q.2.2.2.1,x3.o.1,x10.1,x10.2.1,x10.2.2.1,x10.2.2.2.1,x10.q.1,x10.q.2.1,x3.o.2.1,x3.o.2.2.1,x10.q.2.2.2.1,x10.o.1,x10.o.2.1,x10.o.2.2.1,())
end Go.TX.F
namespace Go.TX.Seat
open Go Go.AE Go.TX Go.Proofs
set_option maxRecDepth 100000
def ty:TypeId->Option TY
 | 2=>some ⟨(.int .i64),1,8,[.d true (.int .i64 0)]⟩
 | 3=>some ⟨(.int .i64),1,8,[.d true (.int .i64 0)]⟩
 | 4=>some ⟨.bool,1,1,[.d true (.bool false)]⟩
 | 5=>some ⟨(.int .u8),1,1,[.d true (.int .u8 0)]⟩
 | 6=>some ⟨(.int .u8),1,1,[.d true (.int .u8 0)]⟩
 | 7=>some ⟨(.struct [(0,2),(1,3),(2,4),(3,6)]),4,24,[.d true (.int .i64 0),.d true (.int .i64 0),.d true (.bool false),.d true (.int .u8 0)]⟩
 | 8=>some ⟨(.struct [(0,2),(1,3),(2,4),(3,6)]),4,24,[.d true (.int .i64 0),.d true (.int .i64 0),.d true (.bool false),.d true (.int .u8 0)]⟩
 | 9=>some ⟨.str,1,16,[.d true (.str ⟨#[]⟩)]⟩
 | 10=>some ⟨.str,1,16,[.d true (.str ⟨#[]⟩)]⟩
 | 11=>some ⟨.str,1,16,[.d true (.str ⟨#[]⟩)]⟩
 | 12=>some ⟨(.int .u64),1,8,[.d true (.int .u64 0)]⟩
 | 13=>some ⟨(.struct [(0,9),(1,12)]),2,24,[.d true (.str ⟨#[]⟩),.d true (.int .u64 0)]⟩
 | 14=>some ⟨(.struct [(0,9),(1,12)]),2,24,[.d true (.str ⟨#[]⟩),.d true (.int .u64 0)]⟩
 | 15=>some ⟨.scalar,1,8,[.np]⟩
 | 16=>some ⟨.scalar,1,8,[.np]⟩
 | 17=>some ⟨.scalar,1,8,[.np]⟩
 | 18=>some ⟨(.struct [(0,17)]),1,8,[.np]⟩
 | 19=>some ⟨(.struct [(0,17)]),1,8,[.np]⟩
 | 21=>some ⟨(.int .i32),1,4,[.d true (.int .i32 0)]⟩
 | 22=>some ⟨(.slice 5),1,24,[.nil]⟩
 | 23=>some ⟨(.slice 58),1,24,[.nil]⟩
 | 26=>some ⟨(.slice 70),1,24,[.nil]⟩
 | 27=>some ⟨(.struct [(0,3),(1,3),(2,26),(3,3),(4,3),(5,3),(6,3)]),7,72,[.d true (.int .i64 0),.d true (.int .i64 0),.nil,.d true (.int .i64 0),.d true (.int .i64 0),.d true (.int .i64 0),.d true (.int .i64 0)]⟩
 | 28=>some ⟨(.struct [(0,3),(1,3),(2,26),(3,3),(4,3),(5,3),(6,3)]),7,72,[.d true (.int .i64 0),.d true (.int .i64 0),.nil,.d true (.int .i64 0),.d true (.int .i64 0),.d true (.int .i64 0),.d true (.int .i64 0)]⟩
 | 29=>some ⟨(.slice 3),1,24,[.nil]⟩
 | 30=>some ⟨(.struct [(0,29),(1,3),(2,29),(3,3),(4,4),(5,4),(6,3),(7,29),(8,29),(9,3)]),10,136,[.nil,.d true (.int .i64 0),.nil,.d true (.int .i64 0),.d true (.bool false),.d true (.bool false),.d true (.int .i64 0),.nil,.nil,.d true (.int .i64 0)]⟩
 | 31=>some ⟨(.struct [(0,29),(1,3),(2,29),(3,3),(4,4),(5,4),(6,3),(7,29),(8,29),(9,3)]),10,136,[.nil,.d true (.int .i64 0),.nil,.d true (.int .i64 0),.d true (.bool false),.d true (.bool false),.d true (.int .i64 0),.nil,.nil,.d true (.int .i64 0)]⟩
 | 47=>some ⟨.scalar,1,8,[.np]⟩
 | 57=>some ⟨(.struct [(0,3),(1,3),(2,3),(3,3)]),4,32,[.d true (.int .i64 0),.d true (.int .i64 0),.d true (.int .i64 0),.d true (.int .i64 0)]⟩
 | 58=>some ⟨(.struct [(0,3),(1,3),(2,3),(3,3)]),4,32,[.d true (.int .i64 0),.d true (.int .i64 0),.d true (.int .i64 0),.d true (.int .i64 0)]⟩
 | 62=>some ⟨.scalar,1,8,[.np]⟩
 | 63=>some ⟨.scalar,1,8,[.np]⟩
 | 64=>some ⟨(.struct [(0,28),(7,3)]),8,80,[.d true (.int .i64 0),.d true (.int .i64 0),.nil,.d true (.int .i64 0),.d true (.int .i64 0),.d true (.int .i64 0),.d true (.int .i64 0),.d true (.int .i64 0)]⟩
 | 65=>some ⟨(.struct [(0,28),(7,3)]),8,80,[.d true (.int .i64 0),.d true (.int .i64 0),.nil,.d true (.int .i64 0),.d true (.int .i64 0),.d true (.int .i64 0),.d true (.int .i64 0),.d true (.int .i64 0)]⟩
 | 69=>some ⟨(.struct [(0,3),(1,3),(2,3),(3,3),(4,3)]),5,40,[.d true (.int .i64 0),.d true (.int .i64 0),.d true (.int .i64 0),.d true (.int .i64 0),.d true (.int .i64 0)]⟩
 | 70=>some ⟨(.struct [(0,3),(1,3),(2,3),(3,3),(4,3)]),5,40,[.d true (.int .i64 0),.d true (.int .i64 0),.d true (.int .i64 0),.d true (.int .i64 0),.d true (.int .i64 0)]⟩
 | 77=>some ⟨(.struct [(0,22),(1,3)]),2,32,[.nil,.d true (.int .i64 0)]⟩
 | 78=>some ⟨(.struct [(0,22),(1,3)]),2,32,[.nil,.d true (.int .i64 0)]⟩
 | 94=>some ⟨(.slice 9),1,24,[.nil]⟩
 | 95=>some ⟨(.struct [(0,4),(1,4),(2,3),(3,94)]),4,40,[.d true (.bool false),.d true (.bool false),.d true (.int .i64 0),.nil]⟩
 | 96=>some ⟨(.struct [(0,4),(1,4),(2,3),(3,94)]),4,40,[.d true (.bool false),.d true (.bool false),.d true (.int .i64 0),.nil]⟩
 | 97=>some ⟨(.slice 96),1,24,[.nil]⟩
 | 113=>some ⟨(.slice 4),1,24,[.nil]⟩
 | 123=>some ⟨(.int .u64),1,8,[.d true (.int .u64 0)]⟩
 | 124=>some ⟨.scalar,1,8,[.np]⟩
 | 132=>some ⟨(.struct [(0,17),(1,17),(2,17),(3,9)]),4,40,[.np,.np,.np,.d true (.str ⟨#[]⟩)]⟩
 | 133=>some ⟨(.struct [(0,17),(1,17),(2,17),(3,9)]),4,40,[.np,.np,.np,.d true (.str ⟨#[]⟩)]⟩
 | 137=>some ⟨(.int .u32),1,4,[.d true (.int .u32 0)]⟩
 | 138=>some ⟨(.int .u8),1,1,[.d true (.int .u8 0)]⟩
 | 139=>some ⟨(.int .u8),1,1,[.d true (.int .u8 0)]⟩
 | 141=>some ⟨.scalar,1,8,[.np]⟩
 | 142=>some ⟨(.int .i32),1,4,[.d true (.int .i32 0)]⟩
 | 143=>some ⟨(.int .i32),1,4,[.d true (.int .i32 0)]⟩
 | _=>none
theorem yA {P:Program} {t:TypeId} {y:TY} (i:TypeInfo) (d:GV P t y.desc) (h:P.info? t=some i:=by kernel_rfl) (s:i.size=y.size:=by rfl) (b:i.bytes=y.bytes:=by rfl)
 (z:∃z,i.zero=some z/\zcs z.cells.toList=some y.zero:=by exact⟨_,rfl,rfl⟩) (l:y.zero.length=y.size:=by rfl):Uv P t y:=⟨⟨i,h,s,b,z.elim λx h=>⟨x,h.1,λ_ _=>QJ h.2⟩⟩,d,l⟩
theorem yS {P:Program} {t:TypeId} {y:TY} {F:Array Field} (i:TypeInfo) (u:P.underlying t=some (.struct F)) (e:y.desc= .struct (F.toList.map λf=>(f.offset,f.type)):=by rfl) (h:P.info? t=some i:=by kernel_rfl) (s:i.size=y.size:=by rfl) (b:i.bytes=y.bytes:=by rfl)
 (z:∃z,i.zero=some z/\zcs z.cells.toList=some y.zero:=by exact⟨_,rfl,rfl⟩) (l:y.zero.length=y.size:=by rfl):Uv P t y:=yA i (by rw [e];exact⟨F,u,rfl⟩) h s b z l
theorem yP {P:Program} {t:TypeId} {y:TY} {e:TypeId} (i:TypeInfo) (u:P.underlying t=some (.pointer e)) (e:y.desc= .scalar:=by rfl) (h:P.info? t=some i:=by kernel_rfl) (s:i.size=y.size:=by rfl) (b:i.bytes=y.bytes:=by rfl)
 (z:∃z,i.zero=some z/\zcs z.cells.toList=some y.zero:=by exact⟨_,rfl,rfl⟩) (l:y.zero.length=y.size:=by rfl):Uv P t y:=yA i (by rw [e];exact⟨_,u,(λ_ h=>by cases h),(λ_ _ h=>by cases h)⟩) h s b z l
theorem am1:∀t y,ty t=some y->Uv Tryz.prog t y:=by
 intro t y h
 unfold ty at h
 split at h<;>first | (cases h;done) | skip
 ·cases h;exact yA Tryz.t2 Tryz.underlying2
 ·cases h;exact yA Tryz.t3 Tryz.underlying3
 ·cases h;exact yA Tryz.t4 Tryz.underlying4
 ·cases h;exact yA Tryz.t5 Tryz.underlying5
 ·cases h;exact yA Tryz.t6 Tryz.underlying6
 ·cases h;exact yS Tryz.t7 Tryz.underlying7
 ·cases h;exact yS Tryz.t8 Tryz.underlying8
 ·cases h;exact yA Tryz.t9 Tryz.underlying9
 ·cases h;exact yA Tryz.t10 Tryz.underlying10
 ·cases h;exact yA Tryz.t11 Tryz.underlying11
 ·cases h;exact yA Tryz.t12 Tryz.underlying12
 ·cases h;exact yS Tryz.t13 Tryz.underlying13
 ·cases h;exact yS Tryz.t14 Tryz.underlying14
 ·cases h;exact yP Tryz.t15 Tryz.underlying15
 ·cases h;exact yP Tryz.t16 Tryz.underlying16
 ·cases h;exact yP Tryz.t17 Tryz.underlying17
 ·cases h;exact yS Tryz.t18 Tryz.underlying18
 ·cases h;exact yS Tryz.t19 Tryz.underlying19
 ·cases h;exact yA Tryz.t21 Tryz.underlying21
 ·cases h;exact yA Tryz.t22 Tryz.underlying22
 ·cases h;exact yA Tryz.t23 Tryz.underlying23
 ·cases h;exact yA Tryz.t26 Tryz.underlying26
 ·cases h;exact yS Tryz.t27 Tryz.underlying27
 ·cases h;exact yS Tryz.t28 Tryz.underlying28
 ·cases h;exact yA Tryz.t29 Tryz.underlying29
 ·cases h;exact yS Tryz.t30 Tryz.underlying30
 ·cases h;exact yS Tryz.t31 Tryz.underlying31
 ·cases h;exact yP Tryz.t47 Tryz.underlying47
 ·cases h;exact yS Tryz.t57 Tryz.underlying57
 ·cases h;exact yS Tryz.t58 Tryz.underlying58
 ·cases h;exact yP Tryz.t62 Tryz.underlying62
 ·cases h;exact yP Tryz.t63 Tryz.underlying63
 ·cases h;exact yS Tryz.t64 Tryz.underlying64
 ·cases h;exact yS Tryz.t65 Tryz.underlying65
 ·cases h;exact yS Tryz.t69 Tryz.underlying69
 ·cases h;exact yS Tryz.t70 Tryz.underlying70
 ·cases h;exact yS Tryz.t77 Tryz.underlying77
 ·cases h;exact yS Tryz.t78 Tryz.underlying78
 ·cases h;exact yA Tryz.t94 Tryz.underlying94
 ·cases h;exact yS Tryz.t95 Tryz.underlying95
 ·cases h;exact yS Tryz.t96 Tryz.underlying96
 ·cases h;exact yA Tryz.t97 Tryz.underlying97
 ·cases h;exact yA Tryz.t113 Tryz.underlying113
 ·cases h;exact yA Tryz.t123 Tryz.underlying123
 ·cases h;exact yP Tryz.t124 Tryz.underlying124
 ·cases h;exact yS Tryz.t132 Tryz.underlying132
 ·cases h;exact yS Tryz.t133 Tryz.underlying133
 ·cases h;exact yA Tryz.t137 Tryz.underlying137
 ·cases h;exact yA Tryz.t138 Tryz.underlying138
 ·cases h;exact yA Tryz.t139 Tryz.underlying139
 ·cases h;exact yP Tryz.t141 Tryz.underlying141
 ·cases h;exact yA Tryz.t142 Tryz.underlying142
 ·cases h;exact yA Tryz.t143 Tryz.underlying143
def co:TypeId->Option Co
 | 3=>some .i64
 | 4=>some .bool
 | 5=>some .u8
 | 9=>some .str
 | 28=>some .blk
 | 29=>some .ints
 | 31=>some .aC
 | 58=>some .ins
 | 70=>some .iop
 | 96=>some .form
 | _=>none
def ieq:TypeId->Option Co
 | 58=>some .ins
 | 70=>some .iop
 | _=>none
def X:XT:={ty:=ty,co:=co,glob:=λg=>if g==0 then some .form else none,ieq:=ieq}
noncomputable def E:Tab:={P:=Tryz.prog,ty:=ty,glob:=λg=>if g==0 then some (.rows 4 (aH .form rR))else none,ieq:=λt=>(ieq t).map λc=>c.size}
end Go.TX.Seat
