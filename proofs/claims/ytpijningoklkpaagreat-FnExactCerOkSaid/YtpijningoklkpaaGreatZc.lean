/- Part 3 of a proof: what the last part needs. No condition. -/
import Derived.Test.YtpijningoklkpaaGreatZb
set_option linter.all false
set_option linter.unusedSectionVars false
set_option linter.unusedVariables false
set_option linter.unusedSimpArgs false
namespace Go.TX
open Go Go.AE
variable [aG]
section
variable {n:Nat}
theorem Xz {t:Slots} {r:Nat}:∀ {rs:List Nat},r∈rs→aQ (cut t rs) r=aQ t r
 | [],h=>by simp at h
 | x::rs,h=>by
  simp only [cut,aQ]
  split
  ·rename_i e;rw [e]
  ·rename_i e
   cases h with
   | head=>exact absurd rfl e
   | tail _ h=>exact Xz h
theorem aeY {h:List aK} {x:Cell} {y:SC} (hr:RC (nmh h) x y) {s:Sh} {f:Bool} {v:LV aB} (hk:eH (std n) h s y=some (f,v,[])):∃g,(f=true→g=true)∧ZC x g (lvD s v):=by
 unfold eH at hk
 split at hk
 ·rename_i f0 lf
  split at hk
  ·rename_i e;subst e;cases hk
   cases hr with | d hx hf=>
   rename_i g0 x0
   subst hx
   rw [DT]
   refine⟨g0 || (mM lf).l5,fun h=> ?_,.d _ _⟩
   rw [jc]
   cases lf with
   | rows c xs=>simp only [Leaf.flag]at h;rcases hf h with h | h<;>simp_all [Leaf.scalar]
   | _=>simp [Leaf.scalar]
  ·cases hk
 ·cases hr
  split at hk
  ·cases hk;exact⟨true,fun _=>rfl,.nil _⟩
  ·cases hk
 ·rename_i f0 c xs
  cases hr with | clip hf=>
  split at hk
  ·rename_i e;subst e;cases hk;exact⟨_,hf,.clip _ _ _⟩
  ·cases hk
 ·split at hk
  ·split at hk
   ·cases hk
   ·cases hk
  ·cases hk
 ·cases hk
theorem Mf {h:List aK}:∀ {ss:List Sh} {ys:List SC} {xs:List Cell} (_:F2 (RC (nmh h)) xs ys) {f:Bool} {vs:List (LV aB)},aN (std n) h ss ys=some (f,vs,[])→∃g,(f=true→g=true)∧ZCs xs g (List.zipWith lvD ss vs)
 | [],[],xs,hF,f,vs,hk=>by simp [aN]at hk;obtain⟨rfl,rfl⟩:=hk;cases hF;exact⟨true,fun _=>rfl,.nil⟩
 | [],_::_,_,_,_,_,hk=>by simp [aN]at hk
 | _::_,[],_,_,_,_,hk=>by simp [aN]at hk
 | s::ss,y::ys,xs,hF,f,vs,hk=>by
  cases hF with | cons h1 h2=>
  unfold aN at hk
  split at hk
  ·rename_i f1 v1 l1 hv1
   split at hk
   ·rename_i g2 vs2 ls2 hv2
    split at hk
    ·simp only [Option.some.injEq,Prod.mk.injEq,List.append_eq_nil_iff]at hk
     obtain⟨rfl,rfl,rfl,rfl⟩:=hk
     obtain⟨ga,a1,a2⟩:=aeY h1 hv1
     obtain⟨gb,b1,b2⟩:=Mf h2 hv2
     exact⟨ga&&gb,fun h=>by simp at h;simp [a1 h.1,b1 h.2],.cons a2 b2⟩
    ·cases hk
   ·cases hk
  ·cases hk
theorem IE {N:NM}:∀ {ys:List (Leaf aB)} {xs:List Cell} {f:Bool},F2 (RC N) xs (ys.map (.d f))→∃g,(f=true∨(∀y∈ys,y.scalar=true)→g=true)∧ZCs xs g (ys.map mM)
 | [],_,_,h=>by cases h;exact⟨true,fun _=>rfl,.nil⟩
 | y::ys,_,f,.cons h1 h2=>by
  obtain⟨g,q1,q2⟩:=IE h2
  cases h1 with | d hx hf=>
  rename_i g0 x0
  subst hx
  refine⟨(g0 || (mM y).l5)&&g,fun h=> ?_,.cons (.d _ _) q2⟩
  rw [jc]
  rcases h with h | h
  ·rcases hf h with h' | h'<;>simp [h',q1 (.inl h)]
  ·simp [h y (by simp),q1 (.inr fun y hy=>h y (List.mem_cons_of_mem _ hy))]
theorem als {h:List aK} {p:PV} {q:SVal} (hp:PVR (nmh h) p q) {c:Co} {f:Bool} {x:c.den} (hk:toX (std n) h c q=some (f,x,[])):∃g,(f=true→g=true)∧ZCs (aM p) g (c.row x):=by
 unfold toX at hk
 split at hk
 ·rename_i f' c' x'
  split at hk
  ·rename_i e;subst e;cases hk
   have hF:=hp.cells
   have hx:cellsS (.sv f' c' x')=(fJ (std 0) c' x' 0 c'.fields).map (.d f'):=rfl
   rw [hx]at hF
   obtain⟨g,q1,q2⟩:=IE hF
   rw [kG]at q2
   refine⟨g,fun h=>q1 ?_,q2⟩
   rcases Bool.or_eq_true _ _▸h with h | h
   ·exact .inl h
   ·exact .inr (jK c' h x')
  ·cases hk
 ·cases hk
 ·split at hk
  ·rename_i f1 ys ls1 h1
   split at hk
   ·rename_i t ht
    simp only [Option.some.injEq,Prod.mk.injEq]at hk
    obtain⟨rfl,rfl,rfl⟩:=hk
    rw [dB]at h1
    obtain⟨g,q1,q2⟩:=Mf hp.cells h1
    rw [y9 c t ht]at q2
    exact⟨g,q1,q2⟩
   ·cases hk
  ·cases hk
theorem Uw {X:XT} {E:Tab} (hX:XOK X E) {t:Slots} {e:Nat→Option SVal} {c:Co} {h:List aK} (he:EvR X E n (nmh h) t e):∀ {parts:List (Nat×Operand)} {f:Bool} {xs:List c.den} {k:List aK},qQ (std n) X e c h parts=some (f,xs,k,[])→
  ∃g,(f=true→g=true)∧xs.length=parts.length∧ZPs E t c.size parts g (aJ c xs)
 | [],f,xs,k,hk=>by
  simp only [qQ,Option.some.injEq,Prod.mk.injEq]at hk
  obtain⟨rfl,rfl,_⟩:=hk
  exact⟨true,fun _=>rfl,rfl,.nil⟩
 | (i,x)::r,f,xs,k,hk=>by
  simp only [qQ]at hk
  split at hk
  ·rename_i v hv
   split at hk
   ·rename_i f1 y l1 hy
    split at hk
    ·rename_i g1 ys k1 l2 hys
     simp only [Option.some.injEq,Prod.mk.injEq,List.append_eq_nil_iff]at hk
     obtain⟨rfl,rfl,_,rfl,rfl⟩:=hk
     obtain⟨pv,p1,p2⟩:=dK hX he hv
     obtain⟨ga,a1,a2⟩:=als p2 hy
     obtain⟨gb,b1,b2,b3⟩:=Uw hX he (h:=h) hys
     have hl:(aM pv).length=c.size:=by
      have:∀ {cs:List Cell} {g:Bool} {ds:List D},ZCs cs g ds→cs.length=ds.length:=by
       intro cs g ds hz
       induction hz with
       | nil=>rfl
       | cons _ _ ih=>simp [ih]
      rw [this a2,nS]
     exact⟨ga&&gb,fun h=>by simp at h;simp [a1 h.1,b1 h.2],by simp [b2],.cons p1 hl a2 b3⟩
    ·cases hk
   ·cases hk
  ·cases hk
theorem asC {X:XT} {E:Tab} (hX:XOK X E) {t:Slots} {e:Nat→Option SVal} {h:List aK} (he:EvR X E n (nmh h) t e) {op:Op} {ps:List Bool} {v:SVal} (hk:zX (std n) X e h op=some (ps,v)):Gv (zA E op t) (nmh h) v:=by
 unfold zX at hk
 split at hk
 ·rename_i ty len parts
  rw [hX.ty]at hk
  split at hk
  ·rename_i y hy
   split at hk
   ·rename_i el hd
    split at hk
    ·rename_i z c hz hco
     split at hk
     ·rename_i hcond
      simp only [Bool.and_eq_true,Bool.not_eq_true',beq_iff_eq,beq_eq_false_iff_ne,ne_eq]at hcond
      obtain⟨⟨⟨hsz,hne⟩,hrange⟩,hbig⟩:=hcond
      have hbig:=Nat.le_of_ble_eq_true hbig
      obtain⟨z',hz',hzs⟩:=gF hX hsz
      rw [hz]at hz';cases hz'
      split at hk
      ·rename_i f xs k hps;cases hk
       obtain⟨g,q1,q2,q3⟩:=Uw hX he hps
       have hlen:xs.length=len:=by
        have:=congrArg List.length hrange
        simp at this;rw [q2];simpa using this
       refine⟨.c (.clip g c.size (aJ c xs)),.ofC (.clip q1),fun K hK=> ?_⟩
       unfold zA;simp only;rw [hy];simp only [aC];rw [hd];simp only;rw [hz]
       exact⟨hne,hrange,hbig,g,aJ c xs,by rw [hzs];exact q3,by rw [aP];exact hlen,by rw [hzs];exact hK⟩
      ·cases hk
     ·cases hk
    ·cases hk
   ·cases hk
  ·cases hk
 ·cases hk
theorem Mg {E:Tab} {N:NM} {h' h'':Heap} {ty:TypeId} {pv:PV} {q:SVal} (hp:PVR N pv q) (hl:∀l∈tQ (std n) q,AE.look h'' l=AE.look h' l) (K:PV→Prop):kr E h'' ty pv K=kr E h' ty pv K:=by
 have key:∀l sz i j,pv= .c (.ptr l sz i j)→AE.look h'' l=AE.look h' l:=by
  intro l sz i j e
  subst e
  cases hp with | one hp=>cases hp with | c hc=>
  cases hc with
  | pb=>exact hl _ (by simp [tQ])
  | pr _=>exact hl _ (by simp [tQ])
 unfold kr
 cases E.ty ty with
 | none=>rfl
 | some y=>
  simp only [aC]
  split
  ·rename_i l sz i j;rw [key l sz i j rfl]
  ·rfl
  ·rfl
theorem stable {X:XT} {E:Tab} (hX:XOK X E) {N:NM} {h' h'':Heap} {t:Slots} {e:Nat→Option SVal} (he:EvR X E n N t e) {op:Op} (hl:∀l∈gV (std n) X e op,AE.look h'' l=AE.look h' l) (hev:isLoad op=true→∃ty x q,op= .load ty x∧evX (std n) X e x=some q) (K:PV→Prop):
  gG E op t h'' K=gG E op t h' K:=by
 cases hL:isLoad op with
 | false=>rw [xX hL]
 | true=>
  obtain⟨ty,x,q,rfl,hq⟩:=hev hL
  obtain⟨pv,p1,p2⟩:=dK hX he hq
  simp only [gV,hq]at hl
  unfold gG;simp only
  rw [p1];simp only [aO]
  exact Mg p2 hl K
def HI (E:Tab) (ops:List Oper) (h':Heap) (h:List aK) (hs':List Held) (hs:List (Nat×List Nat)):Prop:=∀p∈hs,(∀l∈p.2,l<h.length)∧∃o t v,nP hs' p.1=some (o,t,v)∧
 ∀h'',(∀l∈p.2,AE.look h'' l=AE.look h' l)→iE E ops o t h'' (fun v'=>v'=v)
theorem HI.turn {E:Tab} {ops:List Oper} {h' h'':Heap} {h k:List aK} {hs':List Held} {hs:List (Nat×List Nat)} (H:HI E ops h' h hs' hs) {td:List Nat} (x:iG h' h h'' k td):HI E ops h'' k hs' (mJ hs td):=by
 intro p hp
 simp only [mJ,List.mem_filter]at hp
 obtain⟨hp,hn⟩:=hp
 obtain⟨h1,o,t,v,h2,h3⟩:=H p hp
 refine⟨fun l hl=>Nat.lt_of_lt_of_le (h1 l hl) x.len,o,t,v,h2,fun h3' hh=>h3 h3' fun l hl=> ?_⟩
 have:=List.all_eq_true.1 hn l hl
 rw [hh l hl,(x.keep l (h1 l hl) (by simpa using this)).2]
theorem zi (hs:List (Nat×List Nat)):mJ hs []=hs:=by
 unfold mJ;rw [List.filter_eq_self];intro p _;simp
theorem Cy {E:Tab} {ops:List Oper} {h' h'':Heap} {h k:List aK} {hs':List Held} {hs:List (Nat×List Nat)} (H:HI E ops h' h hs' hs) {td:List Nat} (x:iG h' h h'' k td):∀ {cs:List Nat},cs.all (JC hs td)=true→P8 E ops h'' hs' cs
 | [],_=>trivial
 | j::r,hc=>by
  simp only [List.all_cons,Bool.and_eq_true]at hc
  refine⟨?_,Cy H x hc.2⟩
  have hj:=hc.1
  simp only [JC,List.any_eq_true,Bool.and_eq_true,beq_iff_eq]at hj
  obtain⟨p,hp,hpj,hall⟩:=hj
  obtain⟨h1,o,t,v,h2,h3⟩:=H p hp
  rw [←hpj,h2]
  refine h3 h'' fun l hl=>(x.keep l (h1 l hl) ?_).2
  have:=List.all_eq_true.1 hall l hl
  simpa using this
theorem HI.push {E:Tab} {ops:List Oper} {h':Heap} {h:List aK} {hs':List Held} {hs:List (Nat×List Nat)} (H:HI E ops h' h hs' hs) {i:Nat} (hi:¬(hs.any fun p=>p.1==i)=true) {ns:List Nat} {o:Oper} {t:Slots} {v:Option PV}
  (hns:∀l∈ns,l<h.length) (hst:∀h'',(∀l∈ns,AE.look h'' l=AE.look h' l)→iE E ops o t h'' (fun v'=>v'=v)):HI E ops h' h ((i,o,t,v)::hs') ((i,ns)::hs):=by
 intro p hp
 cases hp with
 | head=>exact⟨hns,o,t,v,by simp [nP],hst⟩
 | tail _ hp=>
  obtain⟨h1,o',t',v',h2,h3⟩:=H p hp
  have hne:i≠p.1:=fun e=>hi (by rw [List.any_eq_true];exact⟨p,hp,by simp [e]⟩)
  exact⟨h1,o',t',v',by rw [Lv hne];exact h2,h3⟩
theorem IG {E:Tab} {X:XT} {N:NM} {t:Slots} {e:Nat→Option SVal} (he:EvR X E n N t e) {k:Int}:∀ {l:List (Int×Nat)} {b:Bool},Cw (std n) e k l=some b→∀K:Bool→Prop,K b→Dj t k l K
 | [],b,h,K,hb=>by cases h;exact hb
 | (k',r)::rest,b,h,K,hb=>by
  unfold Cw at h
  split at h
  ·rename_i f b1 hr
   split at h
   ·rename_i q hq
    cases h
    obtain⟨pv,h1,h2⟩:=he r _ hr
    obtain⟨g,rfl⟩:=h2.bool
    refine⟨g,b1,h1,?_⟩
    have hb:K (bif decide (k=k')then b1 else q):=hb
    by_cases c:k=k'
    ·rw [if_pos c];rw [decide_eq_true c]at hb;exact hb
    ·rw [if_neg c];rw [decide_eq_false c]at hb;exact IG he hq K hb
   ·cases h
  ·cases h
theorem Qp {X:XT} {ops:List Oper} {e:Nat→Option SVal} {h:List aK} {op:Op} (hp:Dl op=true):Qi (std n) X ops e h op=match zX (std n) X e h op with | some r=>some (some r) | none=>none:=by
 cases op
 case makeMap=>cases hp
 case insert=>cases hp
 case move=>cases hp
 case lookup a b q d=>cases q<;>first | rfl | cases hp
 all_goals first | rfl | (simp only [Qi];generalize zX (std n) X e h _=z;cases z<;>rfl)
theorem map_ok {X:XT} {E:Tab} (hX:XOK X E) {ops:List Oper} {t:Slots} {e:Nat→Option SVal} {h:List aK} (he:EvR X E n (nmh h) t e) {op:Op} {r:Option (List Bool×SVal)} (hk:Qi (std n) X ops e h op=some r):
  match r with | none=>∀K:Option PV→Prop,K none→zM E ops op t K | some (_,v)=>∃pv,PVR (nmh h) pv v∧∀K:Option PV→Prop,K (some pv)→zM E ops op t K:=by
 by_cases hp:Dl op=true
 ·rw [Qp hp]at hk
  split at hk
  ·rename_i q hq
   cases hk
   obtain⟨ps,v⟩:=q
   obtain⟨pv,p1,p2⟩:=asC hX he hq
   exact⟨pv,p1,fun K hK=>by rw [yP hp];exact p2 _ hK⟩
  ·cases hk
 ·cases op
  case makeMap=>cases hk;exact fun K h=>h
  case insert a b c v=>
   cases v with
   | tmp r=>
    simp only [Qi]at hk
    cases hq:e r with
    | some q=>
     rw [hq]at hk
     cases hk
     obtain⟨pv,p1,_⟩:=he _ _ hq
     exact fun K h=>⟨⟨pv,p1⟩,h⟩
    | none=>rw [hq]at hk;cases hk
   | _=>cases hk
  case move x=>
   simp only [Qi]at hk
   split at hk
   ·rename_i hs
    cases hk
    exact fun K h=>⟨hs,h⟩
   ·cases hk
  case lookup a b q d=>
   cases q with
   | tmp q=>
    simp only [Qi]at hk
    split at hk
    ·rename_i f m hq
     split at hk
     ·rename_i bb hb
      cases hk
      obtain⟨pv,p1,p2⟩:=he _ _ hq
      obtain⟨g,rfl⟩:=p2.int
      exact⟨_,.ofC (.d rfl fun _=> .inl rfl),fun K hK=>⟨g,m,p1,IG he hb _ hK⟩⟩
     ·cases hk
    ·cases hk
   | _=>exact absurd rfl hp
  all_goals exact absurd rfl hp
theorem yh {X:XT} {gs:List (GE (std n))} {lk:Nat→Option (SV (std n))} {h:List aK} {cur:Option Nat} {op:Op} {ps:List Bool} {v:SVal} (hk:tN (std n) X lk gs h cur op=some (ps,v)) (hl:isLoad op=true):
  (∃ty x q,op= .load ty x∧evX (std n) X (gK (std n) lk (eO (std n) gs cur)) x=some q)∧∀l∈gV (std n) X (gK (std n) lk (eO (std n) gs cur)) op,l<h.length:=by
 cases op<;>simp only [isLoad,Bool.false_eq_true]at hl
 rename_i ty x
 simp only [tN,Uf]at hk
 obtain⟨q,hq,hk⟩:=dW hk
 refine⟨⟨ty,x,q,rfl,hq⟩,fun l hl=> ?_⟩
 simp only [gV,hq]at hl
 unfold LB at hk
 split at hk
 ·cases hk
 ·unfold tQ at hl
  split at hl
  ·simp at hl;subst hl
   simp only at hk
   split at hk
   ·rename_i hh;exact(List.getElem?_eq_some_iff.1 hh).1
   ·cases hk
  ·simp at hl;subst hl
   simp only at hk
   split at hk
   ·rename_i hh;exact(List.getElem?_eq_some_iff.1 hh).1
   ·cases hk
  ·simp at hl
end
end Go.TX
namespace Go.TX
open Go Go.AE
variable [aG]
section
variable {n:Nat}
theorem Al (gs:List (GE (std n))):eO (std n) gs none=[]:=by unfold eO;rw [Qh];simp
theorem D6 {E:Tab} {ops:List Oper} {o:Oper} (hg:o.guard=none) (t:Slots) (h:Heap) (K:Option PV→Prop):iE E ops o t h K=gG E o.op t h fun v=>K (some v):=by unfold iE;rw [hg]
theorem ru {E:Tab} {ops:List Oper} {o:Oper} {j d:Nat} {w:Bool} (hg:o.guard=some (j,w)) (hd:gslot ops j=some d) (t:Slots) (h:Heap) (K:Option PV→Prop):
 iE E ops o t h K=kE (aQ t d) w (gG E o.op t h fun v=>K (some v)) (K (some nJ)):=by unfold iE;rw [hg];simp only;rw [hd];rfl
theorem JI {X:XT} {E:Tab} (hX:XOK X E) {C:Calls aB} {ops:List Oper} {ρ:Type} {K:RSt (std n)→(ρ→Prop)→Prop} {r:ρ→Prop} {h0:List aK} {m0:Nat}:∀ {rest:List fP} {hs:List (Nat×List Nat)} {hs':List Held} {s':St} {s:RSt (std n)},SR s' s→(∀k,Keep k h0 s.h)→s.m=m0→
    HI E ops s'.h s.h hs' hs→iL (std n) X C ops rest hs K s r→
    fC E (jW C) ops rest hs' (fun s1'=>∃s1,SR s1' s1∧(∀k,Keep k h0 s1.h)∧s1.m=m0∧K s1 r) s'
  | [],hs,hs',s',s,S,hK0,hm0,HH,hk=>⟨s,S,hK0,hm0,hk⟩
  | (i,rs,cs)::rest,hs,hs',s',s,S,hK0,hm0,HH,hk=>by
    generalize hM:iL (std n) X C ops ((i,rs,cs)::rest) hs K s=M at hk
    unfold iL at hM
    unfold fC
    split at hM
    · (subst hM;exact hk.elim)
    · rename_i o ho
      rw [ho]
      simp only [ac7]
      split at hM
      · rename_i hdst
        have hd:dOK s'.m o.dst:=by rw [S.m];exact Xx hdst
        refine⟨hd,?_⟩
        simp only at hM
        have hlk:∀i sv,(if rs.contains i then dJ (std n) s.t i else none)=some sv→dJ (std n) s.t i=some sv:=fun i sv h=>by
          split at h
          · exact h
          · cases h
        have XA:∀d,(if rs.contains d then dJ (std n) s.t d else none).isSome→aQ (cut s'.t rs) d=aQ s'.t d:=fun d h=>by
          split at h
          · rename_i hc;exact Xz (by simpa using hc)
          · cases h
        have hev:∀ {gs:List (GE (std n))},SR s' {s with gs:=gs}→∀ {al:List Nat},(∀t∈al,∃e,gs[t]? =some e∧e.g=true)→EvR X E n (nmh s.h) (cut s'.t rs) (gK (std n) (fun i=>if rs.contains i then dJ (std n) s.t i else none) al):=
          fun S1 _ hal=>qp (t':=s'.t) XA (fun i sv h=>S1.val i sv (hlk i sv h)) hal
        have go:∀ {s2':St} {s2:RSt (std n)} {tag:Option Nat} {v:SVal} {hs2:List (Nat×List Nat)} {aeZ:List Held},SR s2' (s2.put (std n) o.dst tag v)→(∀k,Keep k s.h s2.h)→s2.m=s.m→HI E ops s2'.h s2.h aeZ hs2→iL (std n) X C ops rest hs2 K (s2.put (std n) o.dst tag v) r→
            fC E (jW C) ops rest aeZ (fun s1'=>∃s1,SR s1' s1∧(∀k,Keep k h0 s1.h)∧s1.m=m0∧K s1 r) s2':=by
          intro s2' s2 tag v hs2 aeZ S2 hkeep hm2 HI2 hk2
          have e1:=adh (n:=n) (s:=s2) (d:=o.dst) (tag:=tag) (v:=v)
          exact JI hX (rest:=rest) S2 (fun k=>by rw [e1.1];exact(hK0 k).trans (hkeep k)) (by rw [e1.2,hm2,hm0]) (by rw [e1.1];exact HI2) hk2
        have JJ:∀(d:Option Nat) (v:Option PV),(s'.put d v).h=s'.h:=fun d v=>by cases d<;>rfl
        split at hM
        ·
          rename_i hkind
          split at hM
          · (subst hM;exact hk.elim)
          rename_i hnew
          split at hM
          · rename_i hguard
            rw [hkind]
            split at hM
            · rename_i ps v hv
              subst hM
              obtain⟨hps,hk⟩:=fZ hk
              rw [Cx]at hk
              have qw:∀i sv,(if rs.contains i then dJ (std n) s.t i else none)=some sv→zf s.gs s'.t (nmh s.h) i sv:=fun i sv h=>S.val i sv (hlk i sv h)
              obtain⟨pv,p1,p2⟩:=vJ hX S.heap S.gs XA qw (cur:=none) (fun t h=>by cases h) hv hps
              simp only
              rw [D6 hguard]
              have hE0:=hev S (al:=eO (std n) s.gs none) (fun t h=>by rw [Al]at h;simp at h)
              rw [Al]at hE0
              have hln:=fun hL=>yh hv hL
              rw [Al]at hln
              have hst:∀h'',(∀l∈gV (std n) X (gK (std n) (fun i=>if rs.contains i then dJ (std n) s.t i else none) []) o.op,AE.look h'' l=AE.look s'.h l)→iE E ops o (cut s'.t rs) h'' (fun v'=>v'=some pv):=fun h'' hh=>by
                rw [D6 hguard,stable hX hE0 hh (fun hL=>(hln hL).1)]
                exact p2 _ rfl
              have hns:∀l∈gV (std n) X (gK (std n) (fun i=>if rs.contains i then dJ (std n) s.t i else none) []) o.op,l<s.h.length:=fun l hl=>by
                cases hL:isLoad o.op with
                | true=>exact(hln hL).2 l hl
                | false => unfold gV at hl; split at hl
                           · rename_i hop;rw [hop]at hL;simp [isLoad]at hL
                           · simp at hl
              exact p2 _ (go (s2:=s) (S.put (tag:=none) ⟨pv,rfl,p1⟩) (fun _=> .refl _ _) rfl (by rw [JJ];exact HH.push hnew hns hst) hk)
            · (subst hM;exact hk.elim)
          · rename_i j want hguard
            rw [hkind]
            split at hM
            · rename_i d hgs
              have hgm:=fun hb=>DZ S (lk:=fun i=>if rs.contains i then dJ (std n) s.t i else none) hlk (tt:=cut s'.t rs) (d:=d) (want:=want) (XA d) rfl hb
              simp only
              rw [ru hguard hgs]
              split at hM
              · rename_i hr
                rw [hr]at hgm
                subst hM
                cases hgm (by simp)with | skip h=>
                refine h _ _ (go (s2:=s) (S.put (tag:=none) ⟨nJ,rfl,Xy⟩) (fun _=> .refl _ _) rfl (by rw [JJ];exact HH.push hnew (fun l hl=>by simp at hl) (fun h'' _=>by rw [ru hguard hgs];exact h _ _ rfl)) hk)
              · rename_i gs t g hr
                rw [hr]at hgm
                cases hgm (by simp)with | run S1 hget hg qw hT hF=>
                rename_i e
                subst hg
                split at hM
                · rename_i ps v hv
                  subst hM
                  obtain⟨hps,hk⟩:=fZ hk
                  have hns:∀l∈gV (std n) X (gK (std n) (fun i=>if rs.contains i then dJ (std n) s.t i else none) (eO (std n) gs (some t))) o.op,l<s.h.length:=fun l hl=>by
                    cases hL:isLoad o.op with
                    | true=>exact(yh hv hL).2 l hl
                    | false => unfold gV at hl; split at hl
                               · rename_i hop;rw [hop]at hL;simp [isLoad]at hL
                               · simp at hl
                  cases hg:e.g with
                  | true=>
                    have hcur:∀t0,some t=some t0→∃e,gs[t0]? =some e∧e.g=true:=fun t0 ht=>by cases ht;exact⟨e,hget,hg⟩
                    obtain⟨pv,p1,p2⟩:=vJ hX S1.heap S1.gs XA (fun i sv h=>qw i sv (hlk i sv h)) hcur hv (zh hps hg)
                    have hE0:EvR X E n (nmh s.h) (cut s'.t rs) (gK (std n) (fun i=>if rs.contains i then dJ (std n) s.t i else none) (eO (std n) gs (some t))):=hev S1 (nX S1.gs hcur (f:=gs.length+1))
                    refine hT hg _ _ (p2 _ (go (s2:={s with gs:=gs}) (S1.put (tag:=some t) ⟨e,hget,fun _=>⟨pv,rfl,p1⟩,fun h=>by rw [hg]at h;cases h⟩) (fun _=> .refl _ _) rfl (by
                      rw [JJ]
                      refine HH.push hnew hns (fun h'' hh=> ?_)
                      rw [ru hguard hgs,stable hX hE0 hh (fun hL=>(yh hv hL).1)]
                      exact hT hg _ _ (p2 _ rfl)) hk))
                  | false=>
                    exact hF hg _ _ (go (s2:={s with gs:=gs}) (S1.put (tag:=some t) ⟨e,hget,fun h=>(by rw [hg]at h;cases h),fun _=>rfl⟩) (fun _=> .refl _ _) rfl (by
                      rw [JJ]
                      refine HH.push hnew hns (fun h'' hh=> ?_)
                      rw [ru hguard hgs]
                      exact hF hg _ _ rfl) hk)
                · (subst hM;exact hk.elim)
              · (subst hM;exact hk.elim)
            · (subst hM;exact hk.elim)
        · rename_i hkind
          rw [hkind]
          split at hM
          · rename_i ps v hv
            subst hM
            obtain⟨hps,hk⟩:=fZ hk
            obtain⟨pv,p1,p2⟩:=map_ok hX (ops:=ops) (hev S (al:=[]) (fun t h=>by simp at h)) hv
            simp only
            exact p2 _ (go (s2:=s) (S.put (tag:=none) ⟨pv,rfl,p1⟩) (fun _=> .refl _ _) rfl (by rw [JJ];exact HH) hk)
          · rename_i hv
            subst hM
            have p2:=map_ok hX (ops:=ops) (hev S (al:=[]) (fun t h=>by simp at h)) hv
            simp only
            refine p2 _ ?_
            have e1:=alq (n:=n) (s:=s) (d:=o.dst)
            exact JI hX (rest:=rest) S.del (fun k=>by rw [e1.1];exact hK0 k) (by rw [e1.2,hm0]) (by rw [e1.1,JJ];exact HH) hk
          · (subst hM;exact hk.elim)
        · rename_i hkind
          rw [hkind]
          split at hM
          · rename_i hr hv
            subst hM
            obtain⟨hps,hk⟩:=fZ hk
            have he0:EvR X E n (nmh s.h) [] (fun _=>none):=fun i v h=>by cases h
            obtain⟨pv,h'',j,q1,q2,q3,q4,q5⟩:=JG hX S.heap S.len he0 hv hps
            simp only
            have S2:=S.yg q3.same q2 q4
            have htd:hr.touched=[]:=by
              unfold kindOf at hkind
              split at hkind
              · rename_i ty hop
                rw [hop]at hv
                simp only [Dz]at hv
                split at hv
                · split at hv
                  · split at hv<;>(cases hv;rfl)
                  · cases hv;rfl
                  · cases hv
                · cases hv
              all_goals first | cases hkind | (split at hkind<;>cases hkind)
            have HI2:=HH.turn q3
            rw [htd,zi]at HI2
            exact q5 _ (go (s2:={s with h:=hr.h}) (S2.put (tag:=none) ⟨pv,rfl,q1⟩) q3.Md rfl (by cases o.dst<;>exact HI2) hk)
          · (subst hM;exact hk.elim)
        · rename_i hk0 hk1 hk2
          split at hM
          · rename_i hguard
            split at hM
            · rename_i cr hcr
              split at hM
              · rename_i hcs
                subst hM
                obtain⟨hps,hk⟩:=fZ hk
                obtain⟨v,k,hvk,hk⟩:=Ak hk
                obtain⟨v',k',e1,_,e3⟩:=Aj hX S.heap S.len (hev S (al:=[]) (fun t h=>by simp at h)) hcr hps ⟨v,k,hvk⟩
                rw [hvk]at e1;cases e1
                split
                · rename_i h;exact absurd h hk0
                · rename_i h;exact absurd h hk1
                · rename_i h;exact absurd h hk2
                · rw [hguard]
                  refine e3 _ fun pv h'' j a1 a2 a3 a4=>⟨Cy HH a3 hcs,?_⟩
                  have S2:=S.yg a3.same a2 a4
                  exact go (s2:={s with h:=k}) (S2.put (tag:=none) ⟨pv,rfl,a1⟩) a3.Md rfl (by cases o.dst<;>exact HH.turn a3) hk
              · (subst hM;exact hk.elim)
            · (subst hM;exact hk.elim)
          · rename_i j want hguard
            split at hM
            · rename_i d hgs
              have hgm:=fun hb=>DZ S (lk:=fun i=>if rs.contains i then dJ (std n) s.t i else none) hlk (tt:=cut s'.t rs) (d:=d) (want:=want) (XA d) rfl hb
              have goal:kE (aQ (cut s'.t rs) d) want
                  (VP E (jW C) o (cut s'.t rs) s' fun v h k=>P8 E ops h hs' cs∧fC E (jW C) ops rest hs' (fun s1'=>∃s1,SR s1' s1∧(∀k,Keep k h0 s1.h)∧s1.m=m0∧K s1 r) (St.put {s' with h:=h,k:=k} o.dst (some v)))
                  (fC E (jW C) ops rest hs' (fun s1'=>∃s1,SR s1' s1∧(∀k,Keep k h0 s1.h)∧s1.m=m0∧K s1 r) (s'.put o.dst (some nJ))):=by
                split at hM
                · rename_i hr
                  rw [hr]at hgm
                  subst hM
                  cases hgm (by simp)with | skip h=>
                  exact h _ _ (go (s2:=s) (S.put (tag:=none) ⟨nJ,rfl,Xy⟩) (fun _=> .refl _ _) rfl (by rw [JJ];exact HH) hk)
                · rename_i gs t g hr
                  rw [hr]at hgm
                  cases hgm (by simp)with | run S1 hget hg qw hT hF=>
                  rename_i e
                  subst hg
                  have hcur:e.g=true→∀t0,some t=some t0→∃e,gs[t0]? =some e∧e.g=true:=fun h t0 ht=>by cases ht;exact⟨e,hget,h⟩
                  split at hM
                  · rename_i cr hcr
                    split at hM
                    · rename_i hcs
                      split at hM
                      · rename_i hpure
                        subst hM
                        obtain⟨hps,hk⟩:=fZ hk
                        obtain⟨v,k,hvk,hk⟩:=Ak hk
                        cases hg:e.g with
                        | true=>
                          obtain⟨v',k',e1,e2,e3⟩:=Aj hX S1.heap S1.len (hev S1 (nX S1.gs (hcur hg) (f:=gs.length+1))) hcr (zh hps hg) ⟨v,k,hvk⟩
                          rw [hvk]at e1;cases e1
                          obtain⟨rfl,htd⟩:=e2 hpure
                          refine hT hg _ _ (e3 _ fun pv h'' j a1 a2 a3 a4=>⟨Cy HH a3 hcs,?_⟩)
                          have S2:=S1.yg (Same.refl _) a2 a4
                          have HI2:=HH.turn a3
                          rw [htd,zi]at HI2
                          exact go (s2:={s with gs:=gs}) (S2.put (tag:=some t) ⟨e,hget,fun _=>⟨pv,rfl,a1⟩,fun h=>by rw [hg]at h;cases h⟩) (fun _=> .refl _ _) rfl (by cases o.dst<;>exact HI2) hk
                        | false=>
                          exact hF hg _ _ (go (s2:={s with gs:=gs}) (S1.put (tag:=some t) ⟨e,hget,fun h=>(by rw [hg]at h;cases h),fun _=>rfl⟩) (fun _=> .refl _ _) rfl (by rw [JJ];exact HH) hk)
                      · subst hM
                        obtain⟨hkT,hkF⟩:(e.g=true→gL (std n) cr.ck (rX (std n) cr fun v h=>iL (std n) X C ops rest (mJ hs cr.touched) K (RSt.put (std n) {s with h:=h,gs:=gs} o.dst none v)) r)∧(e.g=false→iL (std n) X C ops rest hs K (RSt.put (std n) {s with gs:=yY (std n) gs t} o.dst none (.tup [])) r):=hk
                        cases hg:e.g with
                        | true=>
                          obtain⟨hps,hk⟩:=fZ (hkT hg)
                          obtain⟨v,k,hvk,hk⟩:=Ak hk
                          obtain⟨v',k',e1,e2,e3⟩:=Aj hX S1.heap S1.len (hev S1 (nX S1.gs (hcur hg) (f:=gs.length+1))) hcr hps ⟨v,k,hvk⟩
                          rw [hvk]at e1;cases e1
                          refine hT hg _ _ (e3 _ fun pv h'' j a1 a2 a3 a4=>⟨Cy HH a3 hcs,?_⟩)
                          have S2:=S1.yg a3.same a2 a4
                          exact go (s2:={s with h:=k,gs:=gs}) (S2.put (tag:=none) ⟨pv,rfl,a1⟩) a3.Md rfl (by cases o.dst<;>exact HH.turn a3) hk
                        | false=>
                          have hk:=hkF hg
                          have S2:=S1.kill hget hg
                          exact hF hg _ _ (go (s2:={s with gs:=yY (std n) gs t}) (S2.put (tag:=none) ⟨nJ,rfl,Xy⟩) (fun _=> .refl _ _) rfl (by rw [JJ];exact HH) hk)
                    · (subst hM;exact hk.elim)
                  · (subst hM;exact hk.elim)
                · (subst hM;exact hk.elim)
              split
              · rename_i h;exact absurd h hk0
              · rename_i h;exact absurd h hk1
              · rename_i h;exact absurd h hk2
              · rw [hguard];simp only;rw [hgs];exact goal
            · (subst hM;exact hk.elim)
      · (subst hM;exact hk.elim)
end
end Go.TX
namespace Go.TX
open Go Go.AE
variable [aG]
section
variable {n:Nat}
theorem II {s:RSt (std n)}:∀ {l:List (Nat×SkV)} {e0 e:ES (std n)},tT (std n) s.t s.h l e0=some e→
  ∃vs,F2 (fun i v=>dJ (std n) s.t i=some ⟨none,v⟩) (l.map (·.1)) vs∧nQ (std n) s.h (l.map (·.2)) vs e0=some e
 | [],e0,e,h=>by simp only [tT,Option.some.injEq]at h;subst h;exact⟨[],.nil,rfl⟩
 | p::l,e0,e,h=>by
  simp only [tT]at h
  split at h
  ·rename_i v hl
   split at h
   ·rename_i e1 h1
    obtain⟨vs,q1,q2⟩:=II (l:=l) h
    exact⟨v::vs,.cons hl q1,by simp only [List.map_cons,nQ];rw [h1];exact q2⟩
   ·cases h
  ·cases h
theorem JK {k:Nat} {os:List SkO} {i:Nat} (hi:i<k) (hik:i<os.length):(es0 (std n) k os).ren[i]? =some (if qV os[i]? then none else some (some i)):=by
 have hb:Nat.blt i k=true:=by simpa using hi
 simp only [es0,List.getElem?_map,List.getElem?_range hik,Option.map_some,hb,Bool.true_and]
 cases qV os[i]? <;>rfl
theorem JL (k:Nat) (os:List SkO):(es0 (std n) k os).ren.length=os.length:=by simp [es0]
theorem JM {c:Ctx} {w:World} {N:NM} {us:List Value} {vs:List SVal} (h:F2 (WV c w N) us vs):∃pvs,F2 (bF c w) us pvs∧F2 (PVR N) pvs vs:=by
 induction h with
 | nil=>exact⟨[],.nil,.nil⟩
 | cons h1 _ ih=>
  obtain⟨p,a,b⟩:=h1
  obtain⟨pvs,q1,q2⟩:=ih
  exact⟨p::pvs,.cons a q1,.cons b q2⟩
theorem D7 {N:NM}:∀ {ids:List Nat} {vs:List SVal} {pvs:List PV},F2 (PVR N) pvs vs→∀i sv,dJ (std n) (ids.zip (vs.map fun v=>(⟨none,v⟩:SV (std n)))) i=some sv→sv.tag=none∧∃pv,aQ (ids.zip (pvs.map some)) i=some pv∧PVR N pv sv.v
 | [],vs,pvs,_,i,sv,h=>by simp [dJ]at h
 | j::ids,[],pvs,hF,i,sv,h=>by simp [dJ]at h
 | j::ids,v::vs,pvs,hF,i,sv,h=>by
  cases hF with | cons h1 h2=>
  simp only [List.map_cons,List.zip_cons_cons,mP]at h ⊢
  simp only [aQ]
  split at h
  ·rename_i e;cases h;rw [if_pos e];exact⟨rfl,_,rfl,h1⟩
  ·rename_i e;rw [if_neg e];exact D7 h2 i sv h
theorem D8 {c:Ctx} {w:World} {a:Act}:∀ {ids:List Nat} {us:List Value} {pvs:List PV},F2 (bF c w) us pvs→F2 (fun i u=>a.tmps[i]? =some u) ids us→∀i v,aQ (ids.zip (pvs.map some)) i=some v→∃u,a.tmps[i]? =some u∧bF c w u v
 | [],us,pvs,_,_,i,v,h=>by simp [aQ]at h
 | j::ids,us,pvs,hF,hI,i,v,h=>by
  cases hI with | cons h3 h4=>
  cases hF with | cons h1 h2=>
  simp only [List.map_cons,List.zip_cons_cons,aQ]at h
  split at h
  ·rename_i e;subst e;cases h;exact⟨_,h3,h1⟩
  ·exact D8 h2 h4 i v h
theorem D9 {E:Tab} {s':St} {s:RSt (std n)} (S:SR s' s) {c:Ctx} {w:World} {a:Act} (A:jq E s' c w a):∀ {ids:List Nat} {vs:List SVal},F2 (fun i v=>dJ (std n) s.t i=some ⟨none,v⟩) ids vs→∃us,F2 (fun i u=>a.tmps[i]? =some u) ids us∧F2 (WV c w (nmh s.h)) us vs
 | [],_,h=>by cases h;exact⟨[],.nil,.nil⟩
 | i::ids,_,.cons h1 h2=>by
  obtain⟨us,q1,q2⟩:=D9 S A h2
  obtain⟨pv,p1,p2⟩:=S.val i _ h1
  obtain⟨u,hu,hr⟩:=A.abs.slot i pv p1
  exact⟨u::us,.cons hu q1,.cons ⟨pv,hr,p2⟩ q2⟩
def μX (e:ES (std n)) (c:Ctx) (i:Nat):Option Nat:=match e.ren[i]? with | some (some (some l))=>c.μ l | some (some none)=>none | _=>c.μ i
theorem Mh (w:World) (K:Bool→Nat→Prop) (μ:Nat→Option Nat) (k:Nat) (hlow:∀f b,K f b→b<w.heap.size) (hsub:∀b,K true b→K false b):bG {K:=K,μ:=μ,n:=k} w []:=
 ⟨fun l o h=>by simp [AE.look]at h,fun l o l' o' b h=>by simp [AE.look]at h,fun f b ⟨l,o,hl,_⟩=>by simp [AE.look]at hl,hlow,hsub⟩
theorem JN {E:Tab} {k:Nat} {sk:H6} {s:RSt (std n)} {ck:List Bool} {x:iC sk.tys} (hx:DJ (std n) k sk s=some (ck,x)) (hck:∀b∈ck,b=true) {s':St} (S:SR s' s) {c:Ctx} {w:World} {a:Act} (A:jq E s' c w a)
  {c0:Ctx} {w0:World} {h0:Heap} (hc0:c0.n=k) (g:Grow c0 w0 h0 c w s'.h) {m:Nat} (hm:s.m=m):
  ∃c2 s2',Grow c0 w0 h0 c2 w s2'.h∧jq E s2' c2 w a∧SR s2' (rY (std n) sk m x)∧Keep k s.h (rY (std n) sk m x).h∧(rY (std n) sk m x).m=m:=by
 unfold DJ at hx
 split at hx
 ·cases hx
 rename_i hkl
 have hkl:k≤sk.objs.length:=by
  have:Nat.ble k sk.objs.length=true:=by simpa using hkl
  exact Nat.le_of_ble_eq_true this
 split at hx
 ·rename_i e1 he1
  split at hx
  ·rename_i e he
   split at hx
   ·rename_i jg
    split at hx
    ·rename_i x' hx';cases hx
     have jg:=JH jg
     obtain⟨vs,v1,v2⟩:=II he1
     obtain⟨us,u1,u2⟩:=D9 S A v1
     obtain⟨new1,vs2,a1,a2,a3,a4⟩:=tY (fun i=>i) v2
     obtain⟨new2,os2,b1,b2,b3,b4,b5⟩:=qm (fun i=>i) (fun _=>(.gone .i64 0:aK)) (fun _=>⟨.i64,0,rfl⟩) he
     have hlv:e.lv.reverse=new1++new2:=by rw [b1,a1];simp [es0]
     have hun:=unpack_pack hx'
     rw [hlv]at hun
     have hrl:e.ren.length=sk.objs.length:=by rw [b2.len,a2.len,JL]
     have hof:∀(j:Nat) (kk:SkO),sk.objs[j]? =some kk→∃o2,os2[j]? =some o2∧OF e s.h (fun i=>i) j kk (.gone .i64 0) o2:=fun j kk hj=>by
      obtain⟨o2,q1,q2⟩:=b5 e (.refl _) j kk hj
      exact⟨o2,q1,by simpa using q2⟩
     have Bb:rY (std n) sk m x={t:=(sk.slots.map (·.1)).zip (vs2.map fun v=>(⟨none,v⟩:SV (std n))),gs:=[],h:=os2,m:=m}:=by
      unfold rY
      rw [hun,a3]
      simp only
      have:=b3 []
      rw [List.append_nil]at this
      rw [show qX aB (fun i=>i) (fun _=>dR.gone Co.i64 ((std n).lit 0)) 0 sk.objs new2=some (os2,[])from this]
     have H:=A.abs.heap
     obtain⟨o',m1,m2,m3,m4,m5,_⟩:=yc (ks:=sk.objs) (nm:=fun i=>i) (old:=fun _=>(.gone .i64 0:aK)) H S.heap hck jg hrl b4 hof (cb:={K:=fun _ _=>False,μ:=μX e c,n:=k}) (hb':=[])
      (Mh w _ _ _ (fun _ _ h=>h.elim) (fun _ h=>h)) false (fun h=>by cases h) (μ2:=μX e c) (n2:=sk.objs.length) hkl (fun _ _=>rfl) (fun i hi=>hi) (fun i j _ _ h=>h)
      (fun i l hi=>by simp only [μX];rw [hi]) (fun i hi=>by simp only [μX];rw [hi]) (h2:=os2) (fun i _=>rfl)
      (fun l o hl ho=>by
       have:sk.objs.length≤l:=by
        rcases Nat.lt_or_ge l sk.objs.length with h | h
        ·exact absurd rfl (hl l h)
        ·exact h
       rw [List.getElem?_eq_none (by omega)]at ho;cases ho) (fun _ _=>rfl)
      (fun b ⟨l,o,hl,_⟩ _=>by simp [AE.look]at hl) (fun f b h _=>h) (fun f b ⟨l,o,hl,_⟩ _=>by simp [AE.look]at hl)
     have hmu:∀l,l<k→μX e c l=c.μ l:=fun l hl=>by
      have h0:=JK (n:=n) hl (Nat.lt_of_lt_of_le hl hkl) (os:=sk.objs)
      unfold μX
      by_cases hg:qV sk.objs[l]? =true
      ·have hgo:sk.objs[l]? =some .gone:=by
        unfold qV at hg;split at hg
        ·assumption
        ·cases hg
       cases hr:e.ren[l]? with
       | none=>rfl
       | some q=>
        cases q with
        | none=>rfl
        | some v=>exact absurd hgo (jg.gone hr)
      ·rw [if_neg hg]at h0
       have:=b2.ren l _ (a2.ren l _ h0)
       rw [this]
     have hgr:Grow c0 w0 h0 {K:=fun f b=>False∨KX e c false f b,μ:=μX e c,n:=sk.objs.length} w (sj (fun i=>i) o' (List.range sk.objs.length) []):=by
      refine⟨⟨fun f b hb=> .inr (.inl (by simpa using g.le.K f b hb)),by rw [hc0];exact hkl,fun l hl=> ?_⟩,g.size,g.stays,g.kept,fun f b hb=> ?_,fun b hb=> ?_,g.os,g.tape,g.output⟩
      ·show μX e c l=c0.μ l
       rw [hmu l (by rw [←hc0];exact hl)];exact g.le.μ l hl
      ·rcases hb with hb | hb | ⟨l,f',q1,q2,q3⟩
       ·exact hb.elim
       ·exact g.vR f b (by simpa using hb)
       ·obtain⟨_,g',cc,xs,hl⟩:=jg.fro l f' q1
        obtain⟨o2,ho2,hO⟩:=S.heap.old l _ hl
        cases hO with | rows _=>
        exact .inr ((g.oJ b ⟨l,_,ho2,trivial,q2⟩).elim .inr .inl)
      ·rcases m4 b hb with⟨l,o,hl,_⟩ | ⟨i,lq,q,_,q1,q2,q3⟩
       ·simp [AE.look]at hl
       ·exact g.oJ b ⟨lq,q,q1,q2,q3⟩
     obtain⟨pvs,p1,p2⟩:=JM (a4 H S.heap (b2) hck m3 (fun h=>by cases h) u2)
     refine⟨_,{t:=(sk.slots.map (·.1)).zip (pvs.map some),h:=sj (fun i=>i) o' (List.range sk.objs.length) [],n:=sk.objs.length,k:=0,m:=m},hgr,⟨⟨fun i v hv=>D8 p1 u1 i v hv,m1,?_⟩,rfl,A.defers,by rw [A.size,S.m,hm]⟩,?_,?_,by rw [Bb]⟩
     ·intro gg d hd
      obtain⟨q1,u,q2,q3⟩:=A.abs.glob gg d hd
      exact⟨.inr (.inl (by simpa using q1)),u,q2,q3.mono' fun b hb=> .inr (.inl (by simpa using hb))⟩
     ·rw [Bb]
      refine⟨m2,by simp [nm,b4],rfl,fun i sv hi=> ?_,fun t e he=>by simp at he⟩
      obtain⟨q1,q2⟩:=D7 p2 i sv hi
      unfold zf
      rw [q1];exact q2
     ·rw [Bb]
      intro i hi
      have hik:i<sk.objs.length:=Nat.lt_of_lt_of_le hi hkl
      have hsk:sk.objs[i]? =some sk.objs[i]:=List.getElem?_eq_getElem hik
      obtain⟨o2,q1,q2⟩:=hof i _ hsk
      have h0:=JK (n:=n) hi hik
      by_cases hg:sk.objs[i]= .gone
      ·have:Gone os2 i:=⟨.i64,0,by rw [q1,q2.gone hg]⟩
       exact⟨fun _=>this,fun _ _=> .inl this⟩
      ·have hig:qV sk.objs[i]? =false:=by
        rw [hsk];unfold qV;split
        ·rename_i hh;exact absurd (Option.some.inj hh) hg
        ·rfl
       rw [hig]at h0
       have h0:(es0 (std n) k sk.objs).ren[i]? =some (some (some i)):=by simpa using h0
       have hre:=b2.ren i _ (a2.ren i _ h0)
       have htr:qU (std n) e i=none:=by rw [b2.tr i _ (a2.ren i _ h0),a2.tr i _ h0];rfl
       refine⟨fun⟨cc,nn,hgo⟩=> ?_,fun x hx=> .inr ?_⟩
       ·obtain⟨oo,r1,r2,r3,r4⟩:=q2.rel H S.heap hck m3 (fun h=>by cases h)
        obtain⟨o3,h3,h4⟩:=r4 i hg hre
        obtain⟨o4,h5,h6⟩:=S.heap.old i _ hgo
        rw [h3]at h5;cases h5
        cases h6;exact h4.elim
       ·have:=q2.s1 i x.1 x.2 hg hre (by rw [hx])
        rw [htr]at this
        simp only [nmh,q1]
        simpa [nmh]using this
    ·cases hx
   ·cases hx
  ·cases hx
 ·cases hx
end
end Go.TX
namespace Go.TX
open Go Go.AE
variable [aG]
section
variable {n:Nat}
def LX (E:Tab) (c0:Ctx) (w0:World) (h0:Heap) (k:Nat) (H0:List aK) (m0:Nat) {ρ:Type} (K:Exit→RSt (std n)→(ρ→Prop)→Prop) (r:ρ→Prop):Exit→Act→World→Prop
 | .outgrown,_,_=>False
 | .panic _,_,_=>False
 | .goto _,_,_=>False
 | e,a,w=>∃c s' s,Grow c0 w0 h0 c w s'.h∧jq E s' c w a∧SR s' s∧Keep k H0 s.h∧s.m=m0∧K e s r
theorem Qq {E:Tab} {c0:Ctx} {w0:World} {h0:Heap} {k:Nat} {H0:List aK} {m0:Nat} (hc0:c0.n=k) {code:Code} {a:Act} {w:World} {sk:H6} {pl:Bool} {s:RSt (std n)} (hs:s.m=m0) {ρ:Type} {K:Exit→RSt (std n)→(ρ→Prop)→Prop} {r:ρ→Prop}
  {W: {σ:Type}→(Exit→RSt (std n)→(σ→Prop)→Prop)→(σ→Prop)→Prop} (hW:∀ {σ:Type} {K':Exit→RSt (std n)→(σ→Prop)→Prop} {r':σ→Prop},W K' r'→code.wp E.P (LX E c0 w0 h0 k H0 m0 K' r') a w)
  (h:Qj (std n) k sk pl s K W r):code.wp E.P (LX E c0 w0 h0 k H0 m0 K r) a w:=by
 have step:∀ {t:iC sk.tys} {s1:RSt (std n)} {ck:List Bool},DJ (std n) k sk s1=some (ck,t)→(∀b∈ck,b=true)→K .normal (rY (std n) sk s.m t) r→∀ {c s' a w},Grow c0 w0 h0 c w s'.h→jq E s' c w a→SR s' s1→Keep k H0 s1.h→s1.m=m0→LX E c0 w0 h0 k H0 m0 K r .normal a w:=by
  intro t s1 ck h1 h2 h3 c s' a w g A S hK hm
  obtain⟨c2,s2',g2,A2,S2,K2,hm2⟩:=JN h1 h2 S A hc0 g hm
  rw [hs]at h3
  exact⟨c2,s2',_,g2,A2,S2,hK.trans K2,hm2,h3⟩
 unfold Qj at h
 split at h
 ·refine wp_mono (hW h) ?_
  intro e a' w' he
  cases e with
  | outgrown=>exact he.elim
  | panic _=>exact he
  | goto _=>exact he
  | normal=>
   obtain⟨c,s',s1,a1,a2,a3,a4,a5,a6⟩:=he
   simp only at a6
   rcases hx:DJ (std n) k sk s1 with _ | ⟨ck,t'⟩
   ·rw [hx]at a6;exact a6.elim
   ·rw [hx]at a6
    obtain⟨q1,q2⟩:=fZ a6
    exact step hx q1 q2 a1 a2 a3 a4 a5
  | ret=>obtain⟨c,s',s1,a1,a2,a3,a4,a5,a6⟩:=he;exact a6.elim
  | exit i=>obtain⟨c,s',s1,a1,a2,a3,a4,a5,a6⟩:=he;exact a6.elim
 ·refine wp_mono (hW h) ?_
  intro e a' w' he
  cases e with
  | outgrown=>exact he.elim
  | panic _=>exact he
  | goto _=>exact he
  | normal=>
   obtain⟨c,s',s1,a1,a2,a3,a4,a5,a6⟩:=he
   simp only at a6
   rcases hx:DJ (std n) k sk s1 with _ | ⟨ck,t'⟩
   ·rw [hx]at a6;exact a6.elim
   ·rw [hx]at a6
    obtain⟨q1,q2⟩:=fZ a6
    exact step hx q1 q2 a1 a2 a3 a4 a5
  | ret=>obtain⟨c,s',s1,a1,a2,a3,a4,a5,a6⟩:=he;exact⟨c,s',s1,a1,a2,a3,a4,a5,a6⟩
  | exit i=>obtain⟨c,s',s1,a1,a2,a3,a4,a5,a6⟩:=he;exact⟨c,s',s1,a1,a2,a3,a4,a5,a6⟩
section
variable {X:XT} {E:Tab} (hE:aF E) (hX:XOK X E) {C:Calls aB} (hG:oL E (jW C)) (hm:E.P.follows .mixedOrders=true) {ord:Nat→List fP} {chk:Nat→Array Oper→Nat→Bool} (Mi:∀id ops m,chk id ops m=true→Static E ord id ops m)
 {c0:Ctx} {w0:World} {h0:Heap} {k:Nat} {H0:List aK} {m0:Nat} (hc0:c0.n=k)
include hE hX hG hm Mi
theorem ae0 {id:Nat} {ops:Array Oper} {draw:Bool} {s:RSt (std n)} {ρ:Type} {K:Exit→RSt (std n)→(ρ→Prop)→Prop} {r:ρ→Prop}
  (h:(if draw then(if chk id ops s.m then iL (std n) X C ops.toList (ord id) [] (fun s=>K .normal s) s else(std n).fail)else fD (std n) X C ops.toList ops.toList (fun s=>K .normal s) s:(std n).M ρ) r)
  {s':St} {c:Ctx} {w:World} {a:Act} (A:jq E s' c w a) (g:Grow c0 w0 h0 c w s'.h) (S:SR s' s) (hK:Keep k H0 s.h) (hs:s.m=m0):(Code.region id ops draw).wp E.P (LX E c0 w0 h0 k H0 m0 K r) a w:=by
 have fin:∀ {e:Exit} {a:Act} {w:World},vX E c0 w0 h0 (fun e s1'=>e= .normal∧∃s1,SR s1' s1∧(∀k,Keep k s.h s1.h)∧s1.m=m0∧K .normal s1 r) e a w→LX E c0 w0 h0 k H0 m0 K r e a w:=by
  intro e a w he
  cases e with
  | outgrown=>exact he.elim
  | panic _=>exact he
  | goto _=>exact he
  | normal=>obtain⟨c,s1',a1,a2,_,s1,a3,a4,a5,a6⟩:=he;exact⟨c,s1',s1,a1,a2,a3,hK.trans (a4 k),a5,a6⟩
  | ret=>obtain⟨c,s1',a1,a2,q,_⟩:=he;cases q
  | exit i=>obtain⟨c,s1',a1,a2,q,_⟩:=he;cases q
 split at h
 ·rename_i hd;subst hd
  split at h
  ·rename_i hc
   have hst:=Mi _ _ _ hc
   have hr:=JI hX (h0:=s.h) (m0:=m0) (hs':=[]) S (fun _=> .refl _ _) hs (fun p hp=>by simp at hp) h
   refine wp_mono (aeJ hE hG hm ord id ops (fun e s1'=>e= .normal∧∃s1,SR s1' s1∧(∀k,Keep k s.h s1.h)∧s1.m=m0∧K .normal s1 r) s' c0 w0 h0 c w a A g ⟨by rw [S.m];exact hst,?_⟩) fun e a w=>fin
   simpa using hr
  ·exact h.elim
 ·rename_i hd
  have:draw=false:=by simpa using hd
  subst this
  have hr:=IC hX (h0:=s.h) (m0:=m0) S (fun _=> .refl _ _) hs h
  refine wp_mono (wp_region_list (yO hE hG (Q:=fun e s1'=>e= .normal∧∃s1,SR s1' s1∧(∀k,Keep k s.h s1.h)∧s1.m=m0∧K .normal s1 r) ops ops.toList A g ?_)) fun e a w=>fin
  simpa using hr
end
end
end Go.TX
namespace Go.TX
open Go Go.AE
variable [aG]
section
variable {n:Nat}
variable {X:XT} {E:Tab} (hE:aF E) (hX:XOK X E) {C:Calls aB} (hG:oL E (jW C)) (hm:E.P.follows .mixedOrders=true) {ord:Nat→List fP} {chk:Nat→Array Oper→Nat→Bool} (Mi:∀id ops m,chk id ops m=true→Static E ord id ops m)
 {c0:Ctx} {w0:World} {h0:Heap} {k:Nat} {H0:List aK} {m0:Nat} (hc0:c0.n=k)
include hE hX hG hm Mi hc0
theorem rz:∀(code:Code) {ρ:Type} {an:Ann} {s:RSt (std n)} {K:Exit→RSt (std n)→(ρ→Prop)→Prop} {r:ρ→Prop},bI (std n) X C ord chk k an code s K r→∀ {s':St} {c:Ctx} {w:World} {a:Act},jq E s' c w a→Grow c0 w0 h0 c w s'.h→SR s' s→Keep k H0 s.h→s.m=m0→
  code.wp E.P (LX E c0 w0 h0 k H0 m0 K r) a w
 | .skip,ρ,an,s,K,r,h,s',c,w,a,A,g,S,hK,hs=>by
  have h:K .normal s r:=by cases an<;>exact h
  exact wp_skip ⟨c,s',s,g,A,S,hK,hs,h⟩
 | .region id ops draw,ρ,an,s,K,r,h,s',c,w,a,A,g,S,hK,hs=>by
  have base:∀ {σ:Type} {K':Exit→RSt (std n)→(σ→Prop)→Prop} {r':σ→Prop},(if draw then(if chk id ops s.m then iL (std n) X C ops.toList (ord id) [] (fun s=>K' .normal s) s else(std n).fail)else fD (std n) X C ops.toList ops.toList (fun s=>K' .normal s) s:(std n).M σ) r'→
    (Code.region id ops draw).wp E.P (LX E c0 w0 h0 k H0 m0 K' r') a w:=fun h=>ae0 hE hX hG hm Mi h A g S hK hs
  generalize hM:bI (std n) X C ord chk k an (.region id ops draw) s K=M at h
  simp only [bI]at hM
  split at hM
  ·subst hM;exact Qq hc0 hs base h
  ·subst hM;exact base h
 | .seq x y,ρ,an,s,K,r,h,s',c,w,a,A,g,S,hK,hs=>by
  have main:∀(a1 a2:Ann) (K1:Exit→RSt (std n)→(ρ→Prop)→Prop),(∀s',K1 .normal s'=bI (std n) X C ord chk k a2 y s' K)→(∀s',K1 .ret s'=K .ret s')→(∀i s',K1 (.exit i) s'=K (.exit i) s')→bI (std n) X C ord chk k a1 x s K1 r→
    (Code.seq x y).wp E.P (LX E c0 w0 h0 k H0 m0 K r) a w:=by
   intro a1 a2 K1 e1 e2 e3 h
   refine wp_seq (wp_mono (rz x h A g S hK hs) ?_)
   intro e a' w' he
   cases e with
   | outgrown=>exact he.elim
   | panic _=>exact he
   | goto _=>exact he
   | normal=>obtain⟨c,s',s1,b1,b2,b3,b4,b5,b6⟩:=he;rw [e1]at b6;exact rz y b6 b2 b1 b3 b4 b5
   | ret=>obtain⟨c,s',s1,b1,b2,b3,b4,b5,b6⟩:=he;rw [e2]at b6;exact⟨c,s',s1,b1,b2,b3,b4,b5,b6⟩
   | exit i=>obtain⟨c,s',s1,b1,b2,b3,b4,b5,b6⟩:=he;rw [e3]at b6;exact⟨c,s',s1,b1,b2,b3,b4,b5,b6⟩
  cases an with
  | seq a1 a2=>rw [bI]at h;refine main a1 a2 _ ?_ ?_ ?_ h<;>intros<;>rfl
  | u=>rw [bI]at h;refine main .u .u _ ?_ ?_ ?_ h<;>intros<;>rfl
  | _=>simp [bI]at h
 | .cond cd x y,ρ,an,s,K,r,h,s',c,w,a,A,g,S,hK,hs=>by
  have he:EvR X E n (nmh s.h) s'.t (gK (std n) (dJ (std n) s.t) []):=qp (fun _ _=>rfl) S.val (fun t h=>by simp at h)
  generalize hM:bI (std n) X C ord chk k an (.cond cd x y) s K=M at h
  simp only [bI]at hM
  split at hM
  ·rename_i f b hb
   obtain⟨pv,p1,p2⟩:=dK hX he hb
   obtain⟨gf,rfl⟩:=p2.bool
   have hbv:=jQ (KV A.abs p1)
   have main:∀(a1 a2:Ann) {σ:Type} {K':Exit→RSt (std n)→(σ→Prop)→Prop} {r':σ→Prop},((b=true→bI (std n) X C ord chk k a1 x s K' r')∧(b=false→bI (std n) X C ord chk k a2 y s K' r'))→(Code.cond cd x y).wp E.P (LX E c0 w0 h0 k H0 m0 K' r') a w:=by
    intro a1 a2 σ K' r' h
    refine wp_cond hbv ?_
    obtain⟨b,rfl⟩:∃b':Bool,b'=b:=⟨b,rfl⟩
    cases b with
    | true=>exact rz x (h.1 rfl) A g S hK hs
    | false=>exact rz y (h.2 rfl) A g S hK hs
   split at hM
   ·subst hM;exact main _ _ h
   ·subst hM;exact main _ _ h
   ·rename_i sk a1 a2
    subst hM;exact Qq hc0 hs (fun {σ K' r'} h=>main a1 a2 h) h
   ·subst hM;exact h.elim
  ·subst hM;exact h.elim
 | .block id b,ρ,an,s,K,r,h,s',c,w,a,A,g,S,hK,hs=>by
  have main:∀(a1:Ann) {σ:Type} {K':Exit→RSt (std n)→(σ→Prop)→Prop} {r':σ→Prop} (K1:Exit→RSt (std n)→(σ→Prop)→Prop),(∀s',K1 .normal s'=K' .normal s')→(∀s',K1 .ret s'=K' .ret s')→(∀i s',K1 (.exit i) s'=if i==id then K' .normal s' else K' (.exit i) s')→
    bI (std n) X C ord chk k a1 b s K1 r'→(Code.block id b).wp E.P (LX E c0 w0 h0 k H0 m0 K' r') a w:=by
   intro a1 σ K' r' K1 e1 e2 e3 h
   refine wp_block (wp_mono (rz b h A g S hK hs) ?_)
   intro e a' w' he
   cases e with
   | outgrown=>exact he.elim
   | panic _=>exact he
   | goto _=>exact he
   | normal=>obtain⟨c,s',s1,b1,b2,b3,b4,b5,b6⟩:=he;rw [e1]at b6;exact⟨c,s',s1,b1,b2,b3,b4,b5,b6⟩
   | ret=>obtain⟨c,s',s1,b1,b2,b3,b4,b5,b6⟩:=he;rw [e2]at b6;exact⟨c,s',s1,b1,b2,b3,b4,b5,b6⟩
   | exit i=>
    obtain⟨c,s',s1,b1,b2,b3,b4,b5,b6⟩:=he
    rw [e3]at b6
    simp only [Exit.inBlock]
    simp only [beq_iff_eq]at b6
    split
    ·rename_i e;rw [if_pos e]at b6;exact⟨c,s',s1,b1,b2,b3,b4,b5,b6⟩
    ·rename_i e;rw [if_neg e]at b6;exact⟨c,s',s1,b1,b2,b3,b4,b5,b6⟩
  generalize hM:bI (std n) X C ord chk k an (.block id b) s K=M at h
  simp only [bI]at hM
  split at hM
  ·subst hM;refine main _ _ ?_ ?_ ?_ h<;>intros<;>rfl
  ·subst hM;refine main _ _ ?_ ?_ ?_ h<;>intros<;>rfl
  ·rename_i sk a1
   subst hM
   exact Qq hc0 hs (fun {σ K' r'} h=>by refine main a1 _ ?_ ?_ ?_ h<;>intros<;>rfl) h
  ·subst hM;exact h.elim
 | .loop b,ρ,an,s,K,r,h,s',c,w,a,A,g,S,hK,hs=>by
  cases an with
  | loop sk a1=>
   rw [bI]at h
   rcases hx0:DJ (std n) k sk s with _ | ⟨ck,x0⟩
   ·rw [hx0]at h;exact h.elim
   ·rw [hx0]at h
    obtain⟨hck,h⟩:=fZ h
    obtain⟨I,μ,hI0,h⟩:=h
    obtain⟨c1,s1',g1,A1,S1,K1,hm1⟩:=JN hx0 hck S A hc0 g hs
    rw [hs]at h
    refine wp_loop_ghost (fun N a' w'=>∃c s' x,Grow c0 w0 h0 c w' s'.h∧jq E s' c w' a'∧SR s' (rY (std n) sk m0 x)∧Keep k H0 (rY (std n) sk m0 x).h∧(rY (std n) sk m0 x).m=m0∧I x∧μ x=N) (μ x0) ⟨c1,s1',x0,g1,A1,S1,hK.trans K1,hm1,hI0,rfl⟩ ?_
    rintro N a' w' ⟨c2,s2',x,g2,A2,S2,K2,hm2,hi,rfl⟩
    have hq:=h x hi
    refine wp_mono (rz b hq A2 g2 S2 K2 hm2) ?_
    intro e a3 w3 he
    cases e with
    | outgrown=>exact he.elim
    | panic _=>exact he
    | goto _=>exact he
    | normal=>
     obtain⟨c4,s4',s4,b1,b2,b3,b4,b5,b6⟩:=he
     simp only at b6
     rcases hx4:DJ (std n) k sk s4 with _ | ⟨ck4,t4⟩
     ·rw [hx4]at b6;exact b6.elim
     ·rw [hx4]at b6
      obtain⟨asD,b6⟩:=fZ b6
      obtain⟨c5,s5',g5,A5,S5,K5,hm5⟩:=JN hx4 asD b3 b2 hc0 b1 b5
      exact⟨μ t4,b6.2,c5,s5',_,g5,A5,S5,b4.trans K5,hm5,b6.1,rfl⟩
    | ret=>obtain⟨c4,s4',s4,b1,b2,b3,b4,b5,b6⟩:=he;exact⟨c4,s4',s4,b1,b2,b3,b4,b5,b6⟩
    | exit i=>obtain⟨c4,s4',s4,b1,b2,b3,b4,b5,b6⟩:=he;exact⟨c4,s4',s4,b1,b2,b3,b4,b5,b6⟩
  | _=>simp [bI]at h
 | .exit i,ρ,an,s,K,r,h,s',c,w,a,A,g,S,hK,hs=>by
  have h:K (.exit i) s r:=by cases an<;>exact h
  exact wp_exit ⟨c,s',s,g,A,S,hK,hs,h⟩
 | .ret,ρ,an,s,K,r,h,s',c,w,a,A,g,S,hK,hs=>by
  have h:K .ret s r:=by cases an<;>exact h
  exact wp_ret ⟨c,s',s,g,A,S,hK,hs,h⟩
 | .rangeFunc ..,ρ,an,s,K,r,h,_,_,_,_,_,_,_,_,_=>by cases an<;>simp [bI]at h
 | .scope _,ρ,an,s,K,r,h,_,_,_,_,_,_,_,_,_=>by cases an<;>simp [bI]at h
 | .label _,ρ,an,s,K,r,h,_,_,_,_,_,_,_,_,_=>by cases an<;>simp [bI]at h
 | .goto _,ρ,an,s,K,r,h,_,_,_,_,_,_,_,_,_=>by cases an<;>simp [bI]at h
 | .refuse _,ρ,an,s,K,r,h,_,_,_,_,_,_,_,_,_=>by cases an<;>simp [bI]at h
end
end Go.TX
namespace Go.TX
open Go Go.AE
variable [aG]
section
variable {n:Nat}
theorem iD:∀(r:List (Option (Option Nat))) (m k:Nat),(newNames r m k).length=k
 | _,_,0=>by simp [newNames]
 | [],m,k+1=>by simp [newNames,iD [] (m+1) k]
 | some (some l)::r,m,k+1=>by simp [newNames,iD r m k]
 | some none::r,m,k+1=>by simp [newNames,iD r (m+1) k]
 | none::r,m,k+1=>by simp [newNames,iD r (m+1) k]
structure XB (r:List (Option (Option Nat))) (h:List aK) (os:List aK) (nms:List Nat) (kT:List aK):Prop where
 len:h.length≤kT.length
 at_:∀(i:Nat),i<os.length→∃l,nms[i]? =some l∧kT[l]? =os[i]? ∧(r[i]? =some (some (some l))∨(h.length≤l∧∀q:Nat,r[i]? ≠some (some (some q))))
 old:∀l,l<h.length→(∀i:Nat,i<os.length→r[i]? ≠some (some (some l)))→kT[l]? =h[l]?
 inj:∀(i j l:Nat),nms[i]? =some l→nms[j]? =some l→i=j
 new:∀l,h.length≤l→l<kT.length→∃i:Nat,i<os.length∧nms[i]? =some l
theorem Qr:∀(os:List aK) (r:List (Option (Option Nat))) (h:List aK),(∀i l:Nat,r[i]? =some (some (some l))→i<os.length→l<h.length)→(∀i j l:Nat,r[i]? =some (some (some l))→r[j]? =some (some (some l))→i=j)→
  XB r h os (newNames r h.length os.length) (iB (std n) h (newNames r h.length os.length) os)
 | [],r,h,h1,h2=>by
  refine⟨?_,fun i hi=>by simp at hi,fun l _ _=> ?_,fun i j l hi=>by simp [newNames]at hi,fun l a b=> ?_⟩<;>simp only [List.length_nil,newNames,iB]at* <;>first | exact Nat.le_refl _ | rfl | omega
 | o::os,r,h,h1,h2=>by
  have fresh:∀r',(∀(i:Nat),r'[i]? =r[i+1]?)→(∀q:Nat,r[0]? ≠some (some (some q)))→newNames r h.length (os.length+1)=h.length::newNames r' (h.length+1) os.length→XB r h (o::os) (newNames r h.length (os.length+1)) (iB (std n) h (newNames r h.length (os.length+1)) (o::os)):=by
   intro r' hr h0 e
   rw [e]
   have hl:(h++ [o]).length=h.length+1:=by simp
   have P:=Qr os r' (h++ [o]) (fun i l hi hi2=>by rw [hl];have:=h1 (i+1) l (by rw [←hr];exact hi) (by simp;omega);omega) (fun i j l hi hj=>by have:=h2 (i+1) (j+1) l (by rw [←hr];exact hi) (by rw [←hr];exact hj);omega)
   rw [hl]at P
   have hput:iB (std n) h (h.length::newNames r' (h.length+1) os.length) (o::os)=iB (std n) (h++ [o]) (newNames r' (h.length+1) os.length) os:=by
    simp [iB]
   rw [hput]
   have hcur:(iB (std n) (h++ [o]) (newNames r' (h.length+1) os.length) os)[h.length]? =some o:=by
    rw [P.old h.length (by simp) (fun i hi hh=>by have:=h1 (i+1) h.length (by rw [←hr];exact hh) (by simp;omega);omega)]
    simp
   refine⟨by have:=P.len;simp at this;omega,fun i hi=> ?_,fun l hl2 hn=> ?_,fun i j l hi hj=> ?_,fun l ha hb=> ?_⟩
   ·cases i with
    | zero=>exact⟨h.length,rfl,by rw [hcur];rfl,.inr ⟨Nat.le_refl _,h0⟩⟩
    | succ i=>
     obtain⟨l,q1,q2,q3⟩:=P.at_ i (by simpa using hi)
     refine⟨l,by simpa using q1,by rw [q2];simp,?_⟩
     rw [←hr]
     rcases q3 with q3 | ⟨q3,q4⟩
     ·exact .inl q3
     ·exact .inr ⟨by simp at q3;omega,q4⟩
   ·rw [P.old l (by simp;omega) (fun i hi hh=>hn (i+1) (by simp;omega) (by rw [←hr];exact hh))]
    exact List.getElem?_append_left hl2
   ·have ne:∀(j:Nat),(newNames r' (h.length+1) os.length)[j]? =some h.length→False:=by
     intro j hj
     have hj2:j<os.length:=by have:=(List.getElem?_eq_some_iff.1 hj).1;rw [iD]at this;exact this
     obtain⟨l,q1,q2,q3⟩:=P.at_ j hj2
     rw [hj]at q1;cases q1
     rcases q3 with q3 | ⟨q3,q4⟩
     ·have:=h1 (j+1) h.length (by rw [←hr];exact q3) (by simp;omega);omega
     ·simp at q3;omega
    cases i with
    | zero=>
     simp at hi;subst hi
     cases j with
     | zero=>rfl
     | succ j=>exact(ne j (by simpa using hj)).elim
    | succ i=>
     cases j with
     | zero=>simp at hj;subst hj;exact(ne i (by simpa using hi)).elim
     | succ j=>rw [P.inj i j l (by simpa using hi) (by simpa using hj)]
   ·by_cases e:l=h.length
    ·subst e;exact⟨0,by simp,rfl⟩
    ·obtain⟨i,q1,q2⟩:=P.new l (by simp;omega) hb
     exact⟨i+1,by simp;omega,by simpa using q2⟩
  match r,h1,h2,fresh with
  | [],h1,h2,fresh=>exact fresh [] (fun i=>by simp) (fun q=>by simp) rfl
  | none::r',h1,h2,fresh=>exact fresh r' (fun i=>by simp) (fun q=>by simp) rfl
  | some none::r',h1,h2,fresh=>exact fresh r' (fun i=>by simp) (fun q=>by simp) rfl
  | some (some l0)::r',h1,h2,_=>
   have hl0:l0<h.length:=h1 0 l0 rfl (by simp)
   have e:newNames (some (some l0)::r') h.length (os.length+1)=l0::newNames r' h.length os.length:=rfl
   show XB _ _ _ (newNames (some (some l0)::r') h.length (os.length+1)) (iB (std n) h (newNames (some (some l0)::r') h.length (os.length+1)) (o::os))
   rw [e]
   have hl:(h.set l0 o).length=h.length:=by simp
   have P:=Qr os r' (h.set l0 o) (fun i l hi hi2=>by rw [hl];exact h1 (i+1) l (by simpa using hi) (by simp;omega)) (fun i j l hi hj=>by have:=h2 (i+1) (j+1) l (by simpa using hi) (by simpa using hj);omega)
   rw [hl]at P
   have hput:iB (std n) h (l0::newNames r' h.length os.length) (o::os)=iB (std n) (h.set l0 o) (newNames r' h.length os.length) os:=by
    have:Nat.blt l0 h.length=true:=by simpa using hl0
    simp [iB,hl0]
   rw [hput]
   have hcur:(iB (std n) (h.set l0 o) (newNames r' h.length os.length) os)[l0]? =some o:=by
    rw [P.old l0 (by simpa using hl0) (fun i hi hh=>by have:=h2 0 (i+1) l0 rfl (by simpa using hh);omega)]
    rw [List.getElem?_set_self hl0]
   refine⟨by have:=P.len;rw [hl]at this;exact this,fun i hi=> ?_,fun l hl2 hn=> ?_,fun i j l hi hj=> ?_,fun l ha hb=> ?_⟩
   ·cases i with
    | zero=>exact⟨l0,rfl,by rw [hcur];rfl,.inl rfl⟩
    | succ i=>
     obtain⟨l,q1,q2,q3⟩:=P.at_ i (by simpa using hi)
     refine⟨l,by simpa using q1,by rw [q2];simp,?_⟩
     simp only [List.getElem?_cons_succ]
     rcases q3 with q3 | ⟨q3,q4⟩
     ·exact .inl q3
     ·exact .inr ⟨by rw [hl]at q3;exact q3,q4⟩
   ·rw [P.old l (by rw [hl];exact hl2) (fun i hi hh=>hn (i+1) (by simp;omega) (by simpa using hh))]
    have:l0≠l:=fun e=>hn 0 (by simp) (by rw [e];rfl)
    exact List.getElem?_set_ne this
   ·have ne:∀(j:Nat),(newNames r' h.length os.length)[j]? =some l0→False:=by
     intro j hj
     have hj2:j<os.length:=by have:=(List.getElem?_eq_some_iff.1 hj).1;rw [iD]at this;exact this
     obtain⟨l,q1,q2,q3⟩:=P.at_ j hj2
     rw [hj]at q1;cases q1
     rcases q3 with q3 | ⟨q3,q4⟩
     ·have:=h2 0 (j+1) l0 rfl (by simpa using q3);omega
     ·rw [hl]at q3;omega
    cases i with
    | zero=>
     simp at hi;subst hi
     cases j with
     | zero=>rfl
     | succ j=>exact(ne j (by simpa using hj)).elim
    | succ i=>
     cases j with
     | zero=>simp at hj;subst hj;exact(ne i (by simpa using hi)).elim
     | succ j=>rw [P.inj i j l (by simpa using hi) (by simpa using hj)]
   ·obtain⟨i,q1,q2⟩:=P.new l (by rw [hl];exact ha) hb
    exact⟨i+1,by simp;omega,by simpa using q2⟩
theorem Wh {nm:Nat→Nat} {k:SkV} {r r':List (LV aB)} {v:SVal} (h:yX aB nm k r=some (v,r')):nW v=false:=by
 cases k with
 | c k=>simp only [yX]at h;split at h<;>cases h;rfl
 | agg ks=>simp only [yX]at h;split at h<;>cases h;rfl
 | sv f c=>
  unfold yX at h
  split at h<;>first | (cases h;rfl) | (split at h<;>cases h<;>rfl) | cases h
theorem Ea {nm:Nat→Nat}:∀ {ks:List SkV} {r r':List (LV aB)} {vs:List SVal},qW aB nm ks r=some (vs,r')→∀v∈vs,nW v=false
 | [],r,r',vs,h=>by simp only [qW,Option.some.injEq,Prod.mk.injEq]at h;obtain⟨rfl,_⟩:=h;simp
 | k::ks,r,r',vs,h=>by
  simp only [qW]at h
  split at h
  ·rename_i x r1 hx
   split at h
   ·rename_i xs r2 hxs;cases h
    intro v hv
    cases hv with
    | head=>exact Wh hx
    | tail _ hv=>exact Ea hxs v hv
   ·cases h
  ·cases h
theorem zk:∀ {ls:List Nat} {h:List aK} {l:Nat} {g:Bool} {c:Co} {xs:List c.den},l∈ls→h[l]? =some (.rows g c xs)→Gone (bq (std n) h ls) l
 | [],_,_,_,_,_,hm,_=>by simp at hm
 | a::ls,h,l,g,c,xs,hm,hl=>by
  rw [gH]
  have stays:∀(ls:List Nat) (h:List aK),Gone h l→Gone (bq (std n) h ls) l:=by
   intro ls
   induction ls with
   | nil=>intro h hg;exact hg
   | cons b ls ih=>
    intro h ⟨cc,nn,hg⟩
    rw [gH]
    refine ih _ ⟨cc,nn,?_⟩
    by_cases e:b=l
    ·subst e;unfold fE;split
     ·rename_i hh;rw [hg]at hh;cases hh
     ·exact hg
    ·rw [vG e];exact hg
  by_cases e:a=l
  ·subst e
   refine stays ls _ ⟨c,(xs.length:Int),?_⟩
   unfold fE;rw [hl];simp only
   rw [List.getElem?_set_self (List.getElem?_eq_some_iff.1 hl).1]
  ·refine zk (g:=g) (c:=c) (xs:=xs) ?_ (by rw [vG e];exact hl)
   cases hm with
   | head=>exact absurd rfl e
   | tail _ h=>exact h
theorem IJ {h:List aK}:∀ {ks:List SkO} {j:Nat} {s s':ES (std n)},yV (std n) h j ks s=some s'→∀ {i:Nat} {k:SkO},ks[i]? =some k→k≠ .gone→∀ {l:Nat} (_:s'.ren[j+i]? =some (some (some l))),∃o,h[l]? =some o∧¬Gone [o] 0
 | [],_,_,_,_,i,k,hk,_,_,_=>by simp at hk
 | q::ks,j,s,s',hx,i,k,hk,hg,l,h5=>by
  simp only [yV]at hx
  split at hx
  ·rename_i s1 h1
   cases i with
   | succ i=>
    have:=IJ hx (i:=i) (k:=k) (by simpa using hk) hg (l:=l) (by rw [show j+1+i=j+(i+1) by omega];exact h5)
    exact this
   | zero=>
    simp at hk;subst hk
    rw [Nat.add_zero]at h5
    have e1:ELe s s':=by
     obtain⟨_,_,_,a2,_⟩:=Uu (m:=n) (fun i=>i) h1 (.gone .i64 0) ⟨.i64,0,rfl⟩
     obtain⟨_,_,_,b2,_⟩:=qm (m:=n) (fun i=>i) (fun _=> .gone .i64 0) (fun _=>⟨.i64,0,rfl⟩) hx
     exact a2.trans b2
    cases q with
    | gone=>exact absurd rfl hg
    | box kk=>
     rcases hr:s.ren[j]? with _ | _ | _ | l0<;>simp only [Qg,hr,reduceCtorEq]at h1
     have:=e1.ren j _ hr
     rw [h5]at this;cases this
     split at h1
     ·rename_i v hv;exact⟨_,hv,fun⟨c,m,hgo⟩=>by simp at hgo⟩
     ·cases h1
    | rows f c=>
     rcases hr:s.ren[j]? with _ | _ | _ | l0<;>simp only [Qg,hr,reduceCtorEq]at h1
     ·have:=e1.ren j _ hr
      rw [h5]at this;cases this
     ·have:=e1.ren j _ hr
      rw [h5]at this;cases this
      split at h1
      ·rename_i g c' xs hv;exact⟨_,hv,fun⟨c,m,hgo⟩=>by simp at hgo⟩
      ·cases h1
  ·cases hx
end
end Go.TX
namespace Go.TX
open Go Go.AE
variable [aG]
section
variable {n:Nat}
theorem JO {X:XT} {E:Tab} (hX:XOK X E) {s':St} {s:RSt (std n)} (S:SR s' s):∀ {rs:List ResultVar} {qs:List SVal},Qk (std n) X s rs=some qs→∃ps,F2 (PVR (nmh s.h)) ps qs∧∀K,K ps→Lj E s' rs K
 | [],qs,h=>by simp only [Qk,Option.some.injEq]at h;subst h;exact⟨[],.nil,fun K hK=>hK⟩
 | .tmp t::r,qs,h=>by
  simp only [Qk]at h
  split at h
  ·rename_i v hv
   split at h
   ·rename_i vs hvs;cases h
    obtain⟨pv,p1,p2⟩:=S.val t _ hv
    obtain⟨ps,q1,q2⟩:=JO hX S hvs
    exact⟨pv::ps,.cons p2 q1,fun K hK=>by unfold Lj;exact iF p1 _ (q2 _ hK)⟩
   ·cases h
  ·cases h
 | .cell t ty::r,qs,h=>by
  simp only [Qk]at h
  split at h
  ·rename_i p hp
   split at h
   ·rename_i v hv
    split at h
    ·rename_i vs hvs;cases h
     obtain⟨pv,p1,p2⟩:=S.val t _ hp
     obtain⟨pr,r1,r2⟩:=LM hX S.heap p2 hv (fun b hb=>by simp at hb)
     obtain⟨ps,q1,q2⟩:=JO hX S hvs
     exact⟨pr::ps,.cons r1 q1,fun K hK=>by unfold Lj;exact iF p1 _ (r2 _ (q2 _ hK))⟩
    ·cases h
   ·cases h
  ·cases h
theorem ae1 {N:NM}:∀ {ps:List PV} {vs:List SVal},F2 (PVR N) ps vs→(∀v∈vs,nW v=false)→PVR N (one ps) (ak5 (std n) vs)
 | [],_,h,_=>by cases h;exact .tup .nil
 | [p],_,.cons h1 h2,_=>by cases h2;exact h1
 | p::q::ps,_,.cons h1 (.cons h2 h3),ht=>by
  have up:∀ {p v},PVR N p v→nW v=false→PV0 N p v:=fun h hv=>by
   cases h with
   | one h=>exact h
   | tup _=>simp [nW]at hv
  have all:∀ {ps:List PV} {vs:List SVal},F2 (PVR N) ps vs→(∀v∈vs,nW v=false)→F2 (PV0 N) ps vs:=by
   intro ps vs h
   induction h with
   | nil=>intro _;exact .nil
   | cons a _ ih=>intro ht;exact .cons (up a (ht _ (by simp))) (ih fun v hv=>ht v (List.mem_cons_of_mem _ hv))
  exact .tup (all (.cons h1 (.cons h2 h3)) ht)
theorem acu {c:Ctx} {w:World} {us:List Value} {ps:List PV} (h:F2 (bF c w) us ps):bF c w (if h:us.toArray.size=1 then us.toArray[0]else .tuple us.toArray) (one ps):=by
 cases h with
 | nil=>exact Lh _ _
 | cons q1 q2=>
  cases q2 with
  | nil=>simpa [one]using q1
  | cons q3 q4=>
   have hl:=(F2.cons q1 (F2.cons q3 q4)).length
   rw [dif_neg (by simp)]
   refine .tup _ _ hl (fun i hi=> ?_)
   have hx:∀(l:List PV),i<l.length→l[i]? =some (l.getD i default):=fun l hl=>by simp [List.getD,List.getElem?_eq_getElem hl]
   obtain⟨u,hu,hr⟩:=(F2.cons q1 (F2.cons q3 q4)).get (hx _ hi)
   rw [l6 hu];exact hr
theorem Mj (h:List aK) (l:Nat):Gone [tO (std n) h l] 0:=by
 unfold tO;split
 ·exact⟨_,_,rfl⟩
 ·exact⟨_,_,rfl⟩
 ·exact⟨_,_,rfl⟩
def zl (D:List Nat) (h:Heap):Heap:=D.map (fun l=>(l,fH.gone))++h
theorem Eb {D:List Nat} {h:Heap} {l:Nat} (hl:l∈D):AE.look (zl D h) l=some .gone:=by
 induction D with
 | nil=>simp at hl
 | cons d D ih=>
  show AE.look ((d,.gone)::zl D h) l=_
  by_cases e:d=l
  ·subst e;rw [aI]
  ·rw [ay _ _ e]
   exact ih (by cases hl with | head=>exact absurd rfl e | tail _ h=>exact h)
theorem qx {D:List Nat} {h:Heap} {l:Nat} (hl:l∉D):AE.look (zl D h) l=AE.look h l:=by
 induction D with
 | nil=>rfl
 | cons d D ih=>
  show AE.look ((d,.gone)::zl D h) l=_
  rw [ay _ _ (fun e=>hl (by simp [e]))]
  exact ih (fun h=>hl (List.mem_cons_of_mem _ h))
section
variable {X:XT} {E:Tab} (hE:aF E) (hX:XOK X E) {C:Calls aB} (hG:oL E (jW C)) (hm:E.P.follows .mixedOrders=true) {ord:Nat→List fP} {chk:Nat→Array Oper→Nat→Bool} (Mi:∀id ops m,chk id ops m=true→Static E ord id ops m)
include hE hX hG hm Mi
theorem alu {f:FuncId} {fn:Func} {code:Code} (hf:E.P.funcs[f]? =some fn) (hb:fn.body=some code) (hent:Enters E.P f) {sg:Sig} {an:Ann} {ct:Ct aB sg}
  (hrun:∀x,ct.pre x=true→Ql (std 0) X C ord chk an sg fn code x (fun y=>y=ct.fn x)):dw E f (bZ ct) where
 enters:=hent
 calls:=by
  rintro args h nn K ⟨m,qs,hs,hargs,HR,hlen,cr,hcall,acv,v,kT,hvk,hK⟩ c w vs hcn qw H Gl
  subst hlen
  unfold qY at hcall
  split at hcall
  ·rename_i e1 he1
   split at hcall
   ·rename_i e he
    split at hcall
    ·rename_i jg
     simp only [Bool.and_eq_true,List.isEmpty_iff]at jg
     obtain⟨jg,htr⟩:=jg
     have jg:=JH jg
     split at hcall
     ·rename_i x hx
      simp only [Option.some.injEq]at hcall
      subst hcall
      have hck:∀b∈e.ck,b=true:=fun b hb=>acv b (List.mem_append_left _ hb)
      have hpre:ct.pre x=true:=acv _ (List.mem_append_right _ (by simp))
      obtain⟨N,hrun⟩:∃N:Nat,Ql (std N) X C ord chk an sg fn code x (fun y=>y=ct.fn x):=⟨0,hrun x hpre⟩
      simp only at hvk hK
      obtain⟨new1,qs1,a1,a2,a3,a4⟩:=tY (fun i=>i) he1
      obtain⟨new2,os1,b1,b2,b3,b4,b5⟩:=qm (fun i=>i) (fun _=>(.gone .i64 0:aK)) (fun _=>⟨.i64,0,rfl⟩) he
      have hlv:e.lv.reverse=new1++new2:=by rw [b1,a1];simp [es0]
      have hun:=unpack_pack hx
      rw [hlv]at hun
      have hrl:e.ren.length=sg.objs.length:=by rw [b2.len,a2.len,JL]
      have hof:∀(j:Nat) (kk:SkO),sg.objs[j]? =some kk→∃o2,os1[j]? =some o2∧OF e hs (fun i=>i) j kk (.gone .i64 0) o2:=fun j kk hj=>by
       obtain⟨o2,q1,q2⟩:=b5 e (.refl _) j kk hj
       exact⟨o2,q1,by simpa using q2⟩
      obtain⟨o1,m1,m2,m3,m4,_,_⟩:=yc (ks:=sg.objs) (nm:=fun i=>i) (old:=fun _=>(.gone .i64 0:aK)) H HR hck jg hrl b4 hof (cb:={K:=fun _ _=>False,μ:=μX e c,n:=0}) (hb':=[])
       (Mh w _ _ _ (fun _ _ h=>h.elim) (fun _ h=>h)) false (fun h=>by cases h) (μ2:=μX e c) (n2:=sg.objs.length) (Nat.zero_le _) (fun _ _=>rfl) (fun i hi=>hi) (fun i j _ _ h=>h)
       (fun i l hi=>by simp only [μX];rw [hi]) (fun i hi=>by simp only [μX];rw [hi]) (h2:=os1) (fun i _=>rfl)
       (fun l o hl ho=>by
        have:sg.objs.length≤l:=by
         rcases Nat.lt_or_ge l sg.objs.length with h | h
         ·exact absurd rfl (hl l h)
         ·exact h
        rw [List.getElem?_eq_none (by omega)]at ho;cases ho) (fun _ _=>rfl)
       (fun b ⟨l,o,hl,_⟩ _=>by simp [AE.look]at hl) (fun f b h _=>h) (fun f b ⟨l,o,hl,_⟩ _=>by simp [AE.look]at hl)
      generalize hc1:({K:=fun f b=>False∨KX e c false f b,μ:=μX e c,n:=sg.objs.length}:Ctx)=c1 at m1 m2 m3 m4
      generalize hh1:sj (fun i=>i) o1 (List.range sg.objs.length) []=h1' at m1 m2 m4
      have c1n:c1.n=sg.objs.length:=by rw [←hc1]
      have c1K:∀f b,c1.K f b→c.K f b∨∃l g,(l,g)∈e.fro∧c.μ l=some b∧(f=true→g=true):=fun f b hb=>by
       rw [←hc1]at hb
       rcases hb with hb | hb | ⟨l,g,q1,q2,q3⟩
       ·exact hb.elim
       ·exact .inl (by simpa using hb)
       ·exact .inr ⟨l,g,q1,q2,fun h=>q3 (by simp [h])⟩
      have ae2:∀f b,c.K f b→c1.K f b:=fun f b hb=>by rw [←hc1];exact .inr (.inl (by simpa using hb))
      have alv:∀b,eB c1 h1' b→∃(i lq:Nat) (q:fH),e.ren[i]? =some (some (some lq))∧AE.look h lq=some q∧q.live∧c.μ lq=some b:=fun b hb=>by
       rcases m4 b hb with⟨l,o,hl,_⟩ | hb
       ·simp [AE.look]at hl
       ·exact hb
      have alx:F2 (WV c w (nmh hs)) vs qs:=by
       clear he1 a1 a2 a3 a4 hvk hrun
       induction qw generalizing qs with
       | nil=>cases hargs;exact .nil
       | cons q1 _ ih=>cases hargs with | cons q3 q4=>exact .cons ⟨_,q1,q3⟩ (ih _ q4)
      obtain⟨aly,p1,p2⟩:=JM (a4 H HR b2 hck m3 (fun h=>by cases h) alx)
      unfold Ql at hrun
      split at hrun
      ·exact hrun.elim
      rename_i hkk
      have hkk:sg.objs.length≤sg.dS.length:=by
       have:Nat.ble sg.objs.length sg.dS.length=true:=by simpa using hkk
       exact Nat.le_of_ble_eq_true this
      rw [show unpack (std N).ah sg.inp x=new1++new2 from hun,a3]at hrun
      simp only at hrun
      have hb3:=b3 []
      rw [List.append_nil]at hb3
      rw [show qX (std N).ah (fun i=>i) (fun _=>dR.gone Co.i64 ((std N).lit 0)) 0 sg.objs new2=some (os1,[])from hb3]at hrun
      simp only at hrun
      have hql:qs1.length=vs.length:=by rw [←p2.length,←p1.length]
      refine calls_of_wp hf hb ?_
      have A1:jq E {t:=(List.range qs1.length).zip (aly.map some),h:=h1',n:=sg.objs.length,k:=0,m:=qs1.length+(fn.ntmps-qs1.length)} c1 w {tmps:=vs.toArray++Array.replicate (fn.ntmps-vs.toArray.size) undef,defers:=[]}:=by
       refine⟨⟨fun i u hu=>D8 p1 ?_ i u hu,m1,?_⟩,c1n,rfl,by simp [hql]⟩
       ·refine F2.CJ (by simp [hql]) fun j i u hj hu=> ?_
        have:i=j:=by
         have h3:=(List.getElem?_eq_some_iff.1 hj).1
         simp at h3
         rw [List.getElem?_range h3]at hj;cases hj;rfl
        subst this
        have hlt:i<vs.length:=(List.getElem?_eq_some_iff.1 hu).1
        simp only
        rw [Array.getElem?_append_left (by simpa using hlt)]
        simpa using hu
       ·intro gg d hd
        obtain⟨q1,u,q2,q3⟩:=Gl gg d hd
        exact⟨ae2 _ _ q1,u,q2,q3.mono' fun b hb=>ae2 _ _ hb⟩
      have S1:SR {t:=(List.range qs1.length).zip (aly.map some),h:=h1',n:=sg.objs.length,k:=0,m:=qs1.length+(fn.ntmps-qs1.length)}
        ({t:=(List.range qs1.length).zip (qs1.map fun v=>⟨none,v⟩),gs:=[],h:=os1,m:=qs1.length+(fn.ntmps-qs1.length)}:RSt (std N)):=by
       refine⟨m2,by simp [nm,b4],rfl,fun i sv hi=> ?_,fun t e he=>by simp at he⟩
       obtain⟨q1,q2⟩:=D7 p2 i sv hi
       unfold zf
       rw [q1];exact q2
      refine wp_mono (rz hE hX hG hm Mi c1n code hrun A1 (.refl _ _ _) S1 (.refl _ os1) rfl) ?_
      have fin:∀ {c3:Ctx} {s3':St} {s3:RSt (std N)} {a3x:Act} {w3:World},Grow c1 w h1' c3 w3 s3'.h→jq E s3' c3 w3 a3x→SR s3' s3→Keep sg.objs.length os1 s3.h→
        V3 (std N) X sg fn s3 (fun y=>y=ct.fn x)→
        a3x.defers=[]∧∃v,(results fn a3x.tmps).run E.P w3= .ok v w3∧
         Post (fun v w'=>∃c' r h' j,Grow c w h c' w' h'∧bG c' w' h'∧c'.n=nm hs.length j∧bF c' w' v r∧K r h' j) (.returned v) w3:=by
       intro c3 s3' s3 aud w3 g3 A3 S3 K3 hfin
       refine⟨A3.defers,?_⟩
       generalize hM:V3 (std N) X sg fn s3=M at hfin
       unfold V3 at hM
       split at hM
       ·rename_i rs hrs
        split at hM
        ·rename_i e2 he2
         split at hM
         ·rename_i e3 he3
          split at hM
          ·rename_i Ec
           have Ec:=JH Ec
           split at hM
           ·rename_i y hy
            subst hM
            obtain⟨alz,hfin⟩:=fZ hfin
            have hfin:y=ct.fn x:=hfin
            subst hfin
            obtain⟨ps,rp1,rp2⟩:=JO (E:=E) hX S3 hrs
            obtain⟨us,ps',u1,u2,u3⟩:=z8 hE A3 _ (fun q=>q=ps) (rp2 _ rfl)
            subst u3
            refine⟨_,Ll u1,?_⟩
            generalize hbr:(sg.fresh&&e.fro.all fun p=> !p.2)=br at hvk hK
            generalize Wi:(if br=true then hs else bq (std m) hs (e.fro.map (·.1)))=h1T at hvk
            have Ed:h1T.length=hs.length:=by
             rw [←Wi];split
             ·rfl
             ·exact kR _ _ _
            have alA:nmh h1T=nmh hs:=by
             rw [←Wi];split
             ·rfl
             ·exact tV _ _ _
            obtain⟨nms,ae3⟩:∃nms,newNames e.ren h1T.length sg.dS.length=nms:=⟨_,rfl⟩
            rw [ae3]at hvk
            have alB:nms.length=sg.dS.length:=by rw [←ae3];exact iD _ _ _
            obtain⟨alC,qs3,x1,x2,x3,x4⟩:=tY (fun i=>nms.getD i 0) he2
            obtain⟨ae4,os3,y1,y2,y3,y4,y5⟩:=qm (fun i=>nms.getD i 0) (fun i=>tO (std m) h1T (nms.getD i 0)) (fun j=>Mj h1T _) he3
            have hlv3:e3.lv.reverse=alC++ae4:=by rw [y1,x1];simp [es0]
            have alD:=unpack_pack hy
            rw [hlv3]at alD
            rw [show unpack (std m).ah sg.out (ct.fn x)=alC++ae4 from alD,x3]at hvk
            simp only at hvk
            have hy3:=y3 []
            rw [List.append_nil]at hy3
            rw [hy3]at hvk
            simp only [Option.some.injEq,Prod.mk.injEq]at hvk
            obtain⟨hv,hkT⟩:=hvk
            have hrl3:e3.ren.length=sg.dS.length:=by rw [y2.len,x2.len,JL]
            have IK:∀(i l:Nat),e.ren[i]? =some (some (some l))→i<sg.objs.length:=fun i l hi=>by rw [←hrl];exact(List.getElem?_eq_some_iff.1 hi).1
            have passed:∀(i l:Nat),e.ren[i]? =some (some (some l))→∃o',AE.look h l=some o'∧o'.live:=fun i l hi=>by
             have hik:=IK i l hi
             obtain⟨o2,q1,q2⟩:=hof i _ (List.getElem?_eq_getElem hik)
             obtain⟨_,_,_,_,q3⟩:=q2.rel H HR hck m3 (fun h=>by cases h)
             exact q3 l (fun hg=>jg.gone hi (by rw [List.getElem?_eq_getElem hik,hg])) hi
            have hlh:∀l o',AE.look h l=some o'→l<hs.length:=fun l o' hl=>by rw [←hcn];exact(H.obj l o' hl).1
            have P:=Qr (n:=m) os3 e.ren h1T (fun i l hi _=>by rw [Ed];obtain⟨o',q,_⟩:=passed i l hi;exact hlh l o' q) (fun i j l hi hj=>jg.dist hi hj)
            rw [y4,ae3,hkT]at P
            have acw:∀i,i<sg.dS.length→nms[i]? =some (nms.getD i 0):=fun i hi=>by
             have:i<nms.length:=by rw [alB];exact hi
             simp [List.getD,List.getElem?_eq_getElem this]
            have nmP:∀i,i<sg.dS.length→kT[nms.getD i 0]? =os3[i]? ∧(e.ren[i]? =some (some (some (nms.getD i 0)))∨(hs.length≤nms.getD i 0∧∀q:Nat,e.ren[i]? ≠some (some (some q)))):=fun i hi=>by
             obtain⟨l,q1,q2,q3⟩:=P.at_ i (by rw [y4];exact hi)
             rw [acw i hi]at q1
             have q1:=Option.some.inj q1
             subst q1
             rw [Ed]at q3
             exact⟨q2,q3⟩
            have XC:∀i j,i<sg.dS.length→j<sg.dS.length→nms.getD i 0=nms.getD j 0→i=j:=fun i j hi hj hij=>P.inj i j _ (acw i hi) (by rw [hij];exact acw j hj)
            have asE:∀i,i<sg.dS.length→nms.getD i 0<kT.length:=fun i hi=>by
             have h3:=(nmP i hi).1
             rw [List.getElem?_eq_getElem (show i<os3.length by rw [y4];exact hi)]at h3
             exact(List.getElem?_eq_some_iff.1 h3).1
            have Ux:∀(i l:Nat),e.ren[i]? =some (some (some l))→nms.getD i 0=l:=fun i l hi=>by
             have hik:=Nat.lt_of_lt_of_le (IK i l hi) hkk
             rcases(nmP i hik).2 with q | ⟨_,q⟩
             ·rw [hi]at q;cases q;rfl
             ·exact absurd hi (q l)
            have hD:∀l,l∈bH e.ren→∃i,i<sg.dS.length∧nms.getD i 0=l∧e.ren[i]? =some (some (some l)):=fun l hl=>by
             obtain⟨i,hi⟩:=vI hl
             exact⟨i,Nat.lt_of_lt_of_le (IK i l hi) hkk,Ux i l hi,hi⟩
            obtain⟨D,adi⟩:∃D,bH e.ren++(if br=true then []else e.fro.map (·.1))=D:=⟨_,rfl⟩
            rw [adi]at hK
            have Mk:∀l,l∈D↔l∈bH e.ren∨(br=false∧∃f,(l,f)∈e.fro):=fun l=>by
             rw [←adi];cases br<;>simp
            have vK:∀l f,(l,f)∈e.fro→(∃g cc xs,hs[l]? =some (.rows g cc xs))∧∃o',AE.look h l=some o'∧o'.live:=fun l f hl=>by
             obtain⟨_,g,cc,xs,q⟩:=jg.fro l f hl
             obtain⟨o',q1,q2⟩:=HR.old l _ q
             cases q2 with | rows _=>exact⟨⟨g,cc,xs,q⟩,_,q1,trivial⟩
            have IL:∀l o,AE.look (zl D h) l=some o→o.live→l∉D∧AE.look h l=some o:=fun l o hl hlv=>by
             by_cases hd:l∈D
             ·rw [Eb hd]at hl;cases hl;exact hlv.elim
             ·rw [qx hd]at hl;exact⟨hd,hl⟩
            have JQ:∀l o b,l∉D→AE.look h l=some o→o.live→c.μ l=some b→¬eB c1 h1' b:=fun l o b hd hl hlv hb ho=>by
             obtain⟨i,lq,q,q1,q2,q3,q4⟩:=alv b ho
             have:=H.inj l o lq q b hl hlv q2 q3 hb q4
             subst this
             exact hd ((Mk l).2 (.inl (qo q1)))
            have Uy:∀b,eB c1 h1' b→eB c h b:=fun b hb=>by
             obtain⟨i,lq,q,_,q2,q3,q4⟩:=alv b hb
             exact⟨lq,q,q2,q3,q4⟩
            have kept:∀f b,c.K f b→w3.heap[b]? =w.heap[b]? :=fun f b hb=>g3.kept b (H.low f b hb) (fun ho=>H.own f b (Uy b ho) hb)
            have Hb:bG c w3 (zl D h):=by
             refine⟨fun l o hl=> ?_,fun l o l' o' b q1 q2 q3 q4 q5 q6=> ?_,?_,fun f b hb=>Nat.lt_of_lt_of_le (H.low f b hb) g3.size,H.sub⟩
             ·by_cases hd:l∈D
              ·rw [Eb hd]at hl;cases hl
               refine⟨?_,trivial⟩
               rcases(Mk l).1 hd with h3 | ⟨_,f,h3⟩
               ·obtain⟨i,hi⟩:=vI h3
                obtain⟨o',q,_⟩:=passed i l hi
                exact(H.obj l o' q).1
               ·obtain⟨_,o',q,_⟩:=vK l f h3
                exact(H.obj l o' q).1
              ·rw [qx hd]at hl
               obtain⟨q1,q2⟩:=H.obj l o hl
               exact⟨q1,q2.mono (.refl c) kept g3.stays q1 (fun b hlv hb=>g3.kept b (q2.lt hlv hb) (JQ l o b hd hl hlv hb))⟩
             ·obtain⟨_,r1⟩:=IL l o q1 q2
              obtain⟨_,r2⟩:=IL l' o' q3 q4
              exact H.inj l o l' o' b r1 q2 r2 q4 q5 q6
             ·rintro f b ⟨l,o,hl,hlv,hb⟩ hk
              obtain⟨_,r1⟩:=IL l o hl hlv
              exact H.own f b ⟨l,o,r1,hlv,hb⟩ hk
            have XD:∀l o b,AE.look h l=some o→o.live→c.μ l=some b→b<w.heap.size:=fun l o b hl hlv hb=>(H.obj l o hl).2.lt hlv hb
            have adk:∀l o b,l∉D→AE.look h l=some o→o.live→c.μ l=some b→¬eB c3 s3'.h b:=fun l o b hd hl hlv hb ho=>by
             rcases g3.oJ b ho with h3 | h3
             ·exact JQ l o b hd hl hlv hb h3
             ·have:=XD l o b hl hlv hb;omega
            have Uz:∀q g b,(q,g)∈e3.fro→c3.μ q=some b→eB c3 s3'.h b:=fun q g b hq hb=>by
             obtain⟨_,g',cc,xs,hl⟩:=Ec.fro q g hq
             obtain⟨o',q1,q2⟩:=S3.heap.old q _ hl
             cases q2 with | rows _=>exact⟨q,_,q1,trivial,hb⟩
            have alE:br=true→∀l f,(l,f)∈e.fro→f=false:=fun hb l f hl=>by
             rw [←hbr]at hb
             simp only [Bool.and_eq_true]at hb
             have:=List.all_eq_true.1 hb.2 _ hl
             simpa using this
            have aeW:∀f b,eB c (zl D h) b→KX e3 c3 br f b→False:=by
             rintro f b ⟨l,o,hl,hlv,hb⟩ hk
             obtain⟨hd,hl⟩:=IL l o hl hlv
             rcases hk with hk | ⟨q,g,q1,q2,_⟩
             ·rcases g3.vR _ b hk with h3 | h3 | h3
              ·rcases c1K _ b h3 with h3 | ⟨l2,g2,q1,q2,q3⟩
               ·exact H.own _ b ⟨l,o,hl,hlv,hb⟩ h3
               ·obtain⟨_,o2,r1,r2⟩:=vK l2 g2 q1
                have:=H.inj l o l2 o2 b hl hlv r1 r2 hb q2
                subst this
                cases hbb:br with
                | false=>exact hd ((Mk l).2 (.inr ⟨hbb,g2,q1⟩))
                | true=>
                 have h5:=q3 (by rw [hbb];simp)
                 have h6:=alE hbb l g2 q1
                 rw [h5]at h6;cases h6
              ·have:=XD l o b hl hlv hb;omega
              ·exact JQ l o b hd hl hlv hb h3
             ·exact adk l o b hd hl hlv hb (Uz q g b q1 q2)
            have asF:∃μ2:Nat→Option Nat,(∀l,l<hs.length→μ2 l=c.μ l)∧(∀(i q:Nat),i<sg.dS.length→hs.length≤nms.getD i 0→e3.ren[i]? =some (some (some q))→μ2 (nms.getD i 0)=c3.μ q)∧
              (∀i:Nat,i<sg.dS.length→hs.length≤nms.getD i 0→e3.ren[i]? =some (some none)→μ2 (nms.getD i 0)=none):=by
             have hch:∀l,∃ob:Option Nat,(l<hs.length→ob=c.μ l)∧(∀(i q:Nat),i<sg.dS.length→hs.length≤l→nms.getD i 0=l→e3.ren[i]? =some (some (some q))→ob=c3.μ q)∧
               (∀i:Nat,i<sg.dS.length→hs.length≤l→nms.getD i 0=l→e3.ren[i]? =some (some none)→ob=none):=by
              intro l
              by_cases hl:l<hs.length
              ·exact⟨c.μ l,fun _=>rfl,fun i q _ h4=>by omega,fun i _ h4=>by omega⟩
              ·by_cases hx:∃i q:Nat,i<sg.dS.length∧nms.getD i 0=l∧e3.ren[i]? =some (some (some q))
               ·obtain⟨i,q,h4,h5,h6⟩:=hx
                refine⟨c3.μ q,fun h=>absurd h hl,fun j q' h7 _ h9 h10=> ?_,fun j h7 _ h9 h10=> ?_⟩
                ·have:=XC i j h4 h7 (h5.trans h9.symm);subst this
                 rw [h6]at h10;cases h10;rfl
                ·have:=XC i j h4 h7 (h5.trans h9.symm);subst this
                 rw [h6]at h10;cases h10
               ·exact⟨none,fun h=>absurd h hl,fun j q' h7 _ h9 h10=>absurd ⟨j,q',h7,h9,h10⟩ hx,fun _ _ _ _ _=>rfl⟩
             obtain⟨μ2,ae5⟩:=Classical.axiomOfChoice hch
             exact⟨μ2,fun l hl=>(ae5 l).1 hl,fun i q h4 h5 h6=>(ae5 _).2.1 i q h4 h5 rfl h6,fun i h4 h5 h6=>(ae5 _).2.2 i h4 h5 rfl h6⟩
            obtain⟨μ2,μa,μb,μc⟩:=asF
            have Qs:∀(i:Nat) (v:Option Nat),i<sg.objs.length→e3.ren[i]? =some (some v)→v=some i∧(es0 (std N) sg.objs.length sg.dS).ren[i]? =some (some (some i)):=fun i v hi hv=>by
             have hik:=Nat.lt_of_lt_of_le hi hkk
             have h0:=JK (n:=N) hi hik
             have hg:qV sg.dS[i]? =false:=by
              unfold qV;split
              ·rename_i hh;exact absurd hh (Ec.gone hv)
              ·rfl
             rw [hg]at h0
             have h0:(es0 (std N) sg.objs.length sg.dS).ren[i]? =some (some (some i)):=by simpa using h0
             have:=y2.ren i _ (x2.ren i _ h0)
             rw [hv]at this;cases this
             exact⟨rfl,h0⟩
            have hname:∀(i q:Nat),e3.ren[i]? =some (some (some q))→μ2 (nms.getD i 0)=c3.μ q:=fun i q hi=>by
             have hik:i<sg.dS.length:=by rw [←hrl3];exact(List.getElem?_eq_some_iff.1 hi).1
             rcases(nmP i hik).2 with h4 | ⟨h4,_⟩
             ·have hio:=IK i _ h4
              obtain⟨h5,_⟩:=Qs i _ hio hi
              cases h5
              obtain⟨o',h6,_⟩:=passed i _ h4
              rw [μa _ (hlh _ o' h6),g3.le.μ i (by rw [c1n];exact hio)]
              exact(m3.name i _ h4).2.symm
             ·exact μb i q hik h4 hi
            have hnil:∀(i:Nat),e3.ren[i]? =some (some none)→μ2 (nms.getD i 0)=none:=fun i hi=>by
             have hik:i<sg.dS.length:=by rw [←hrl3];exact(List.getElem?_eq_some_iff.1 hi).1
             rcases Nat.lt_or_ge i sg.objs.length with h4 | h4
             ·obtain⟨h5,_⟩:=Qs i _ h4 hi;cases h5
             ·rcases(nmP i hik).2 with h5 | ⟨h5,_⟩
              ·have:=IK i _ h5;omega
              ·exact μc i hik h5 hi
            have hsame:Same hs kT:=fun l z hz=>by
             have hll:l<hs.length:=by
              rcases Nat.lt_or_ge l hs.length with hl | hl
              ·exact hl
              ·simp [nmh,List.getElem?_eq_none hl]at hz
             by_cases hp:∃i:Nat,e.ren[i]? =some (some (some l))
             ·obtain⟨i,hi⟩:=hp
              have hio:=IK i l hi
              have hik:=Nat.lt_of_lt_of_le hio hkk
              have hn:=Ux i l hi
              have hat:=(nmP i hik).1
              rw [hn]at hat
              obtain⟨k3,hk3⟩:∃k3,sg.dS[i]? =some k3:=⟨_,List.getElem?_eq_getElem hik⟩
              obtain⟨o3,r1,r2⟩:=y5 e3 (.refl _) i k3 hk3
              rw [Nat.zero_add]at r2
              have goal:nmh [o3] 0=some z→nmh kT l=some z:=fun hh=>by
               simp only [nmh,hat,r1];simpa [nmh]using hh
              by_cases hg:k3= .gone
              ·refine goal ?_
               rw [r2.gone hg]
               show nmh [tO (std m) h1T (nms.getD i 0)] 0=some z
               rw [hn]
               rw [←alA]at hz
               unfold tO
               simp only [nmh]at hz ⊢
               split at hz
               ·rename_i hh;rw [hh];simpa using hz
               ·rename_i hh;rw [hh];simpa using hz
               ·cases hz
              ·obtain⟨v3,hv3⟩:=r2.live hg
               obtain⟨h5,h6⟩:=Qs i _ hio hv3
               subst h5
               obtain⟨o1',s1,s2⟩:=hof i _ (List.getElem?_eq_getElem hio)
               have asG:sg.objs[i]≠ .gone:=fun hh=>jg.gone hi (by rw [List.getElem?_eq_getElem hio,hh])
               have t1:=s2.s1 l z.1 z.2 asG hi (by rw [hz])
               have asH:qU (std m) e i=none:=by simp [qU,htr]
               rw [asH]at t1
               have t2:nmh os1 i=some z:=by simp only [nmh,s1];simpa [nmh]using t1
               rcases(K3 i hio).2 z t2 with⟨cc,nn,hgo⟩ | t3
               ·exfalso
                obtain⟨v3',aue⟩:=r2.live hg
                have:=IJ he3 (i:=i) hk3 hg (l:=i) (by rw [Nat.zero_add];exact hv3)
                obtain⟨o4,ho4,asI⟩:=this
                rw [hgo]at ho4;cases ho4
                exact asI ⟨_,_,rfl⟩
               ·have asJ:qU (std N) e3 i=none:=by rw [y2.tr i _ (x2.ren i _ h6),x2.tr i _ h6];rfl
                have t4:=r2.s1 i z.1 z.2 hg hv3 (by rw [t3])
                rw [asJ]at t4
                exact goal t4
             ·have hp':∀i:Nat,i<os3.length→e.ren[i]? ≠some (some (some l)):=fun i _ hi=>hp ⟨i,hi⟩
              have:=P.old l (by rw [Ed];exact hll) hp'
              rw [←alA]at hz
              simp only [nmh,this]
              exact hz
            have asK:∀(j:Nat) (kk:SkO),sg.dS[j]? =some kk→∃o2,os3[j]? =some o2∧OF e3 s3.h (fun i=>nms.getD i 0) j kk (tO (std m) h1T (nms.getD j 0)) o2:=fun j kk hj=>by
             obtain⟨o2,q1,q2⟩:=y5 e3 (.refl _) j kk hj
             exact⟨o2,q1,by simpa using q2⟩
            have asL:br=true→sg.dS.all SkO.fresh=true:=fun hb=>by
             rw [←hbr]at hb
             simp only [Bool.and_eq_true,Sig.fresh]at hb
             exact hb.1.2
            have asM:br=true→sg.res.all SkV.fresh=true:=fun hb=>by
             rw [←hbr]at hb
             simp only [Bool.and_eq_true,Sig.fresh]at hb
             exact hb.1.1
            obtain⟨o3f,z1,z2,z3,z4,z5,z6⟩:=yc (ks:=sg.dS) (nm:=fun i=>nms.getD i 0) (old:=fun i=>tO (std m) h1T (nms.getD i 0)) A3.abs.heap S3.heap alz Ec hrl3 y4 asK (cb:=c) (hb':=zl D h)
             Hb br asL (μ2:=μ2) (n2:=kT.length) (by rw [hcn,←Ed];exact P.len) (fun l hl=>μa l (by rw [←hcn];exact hl)) asE XC hname hnil (h2:=kT) (fun i hi=>(nmP i hi).1)
             (fun l o hl ho=>by
              have hll:l<hs.length:=by
               rcases Nat.lt_or_ge l hs.length with h4 | h4
               ·exact h4
               ·obtain⟨i,q1,q2⟩:=P.new l (by rw [Ed];exact h4) (List.getElem?_eq_some_iff.1 ho).1
                rw [y4]at q1
                rw [acw i q1]at q2
                exact absurd (Option.some.inj q2) (hl i q1)
              have hnp:l∉bH e.ren:=fun hp=>by
               obtain⟨i,q1,q2,_⟩:=hD l hp
               exact hl i q1 q2
              have h5:=P.old l (by rw [Ed];exact hll) (fun i hi hh=>hnp (qo hh))
              rw [h5]at ho
              by_cases hd:l∈D
              ·rcases(Mk l).1 hd with h6 | ⟨hb0,f,h6⟩
               ·exact absurd h6 hnp
               ·rw [←Wi,hb0]at ho
                simp only [Bool.false_eq_true,if_false]at ho
                obtain⟨⟨g,cc,xs,h7⟩,_⟩:=vK l f h6
                have:Gone (bq (std m) hs (e.fro.map (·.1))) l:=zk (List.mem_map.2 ⟨_,h6,rfl⟩) h7
                obtain⟨c5,n5,h8⟩:=this
                rw [h8]at ho;cases ho
                exact⟨.gone,Eb hd,.gone⟩
              ·have h7:hs[l]? =some o:=by
                rw [←Wi]at ho
                split at ho
                ·exact ho
                ·rename_i hb0
                 rw [jJ m _ _ (fun h8=>hd ((Mk l).2 (.inr ⟨by simpa using hb0,by
                  obtain⟨p,hp,rfl⟩:=List.mem_map.1 h8
                  exact⟨p.2,hp⟩⟩)))]at ho
                 exact ho
               obtain⟨o',r1,r2⟩:=HR.old l _ h7
               exact⟨o',by rw [qx hd];exact r1,r2.mono hsame⟩)
             (fun l hl=>by
              have hll:hs.length≤l:=by have:=P.len;rw [Ed]at this;omega
              have hnd:l∉D:=fun hd=>by
               rcases(Mk l).1 hd with h4 | ⟨_,f,h4⟩
               ·obtain⟨i,hi⟩:=vI h4
                obtain⟨o',q,_⟩:=passed i l hi
                have:=hlh l o' q;omega
               ·obtain⟨_,o',q,_⟩:=vK l f h4
                have:=hlh l o' q;omega
              rw [qx hnd]
              exact HR.new l hll)
             (fun b ⟨l,o,hl,hlv,hb⟩ ho=>by
              obtain⟨hd,hl⟩:=IL l o hl hlv
              exact adk l o b hd hl hlv hb ho)
             (fun f b hk ho=>A3.abs.heap.own f b ho (g3.le.K f b (ae2 f b hk))) aeW
            have wvs:F2 (WV c3 w3 (nmh s3.h)) us rs:=by
             clear he2 x1 x2 x3 x4 hrs u1 rp2
             induction u2 generalizing rs with
             | nil=>cases rp1;exact .nil
             | cons q1 _ ih=>cases rp1 with | cons q3 q4=>exact .cons ⟨_,q1,q3⟩ (ih _ q4)
            obtain⟨asN,w1,w2⟩:=JM (x4 A3.abs.heap S3.heap y2 alz z3 asM wvs)
            have hv3:PVR (nmh kT) (one asN) v:=by rw [←hv];exact ae1 w2 (Ea (x3 ae4))
            have hkl:kT.length=nm hs.length (kT.length-hs.length):=by have:=P.len;rw [Ed]at this;simp [nm];omega
            have asO:∀b,eB c (zl D h) b→eB c h b:=fun b ⟨l,o,hl,hlv,hb⟩=>⟨l,o,(IL l o hl hlv).2,hlv,hb⟩
            have adl:∀b,eB c3 s3'.h b→eB c h b∨w.heap.size≤b:=fun b hb=>(g3.oJ b hb).imp (Uy b) id
            refine⟨_,_,_,kT.length-hs.length,?_,z1,hkl,acu w1,hK _ _ _ hv3 z2 ?_ hkl⟩
            ·refine⟨z5,g3.size,g3.stays,fun b hb hno=>g3.kept b hb (fun ho=>hno (Uy b ho)),fun f b hb=> ?_,fun b hb=> ?_,g3.os,g3.tape,g3.output⟩
             ·rcases hb with hb | hb | ⟨q,g,q1,q2,_⟩
              ·exact .inl hb
              ·rcases g3.vR _ b hb with h4 | h4 | h4
               ·rcases c1K _ b h4 with h5 | ⟨l2,g2,q1,q2,q3⟩
                ·left
                 cases f with
                 | true=>simpa using h5
                 | false=>cases br with
                  | true=>exact H.sub b (by simpa using h5)
                  | false=>simpa using h5
                ·obtain⟨_,o2,r1,r2⟩:=vK l2 g2 q1
                 exact .inr (.inr ⟨l2,o2,r1,r2,q2⟩)
               ·exact .inr (.inl h4)
               ·exact .inr (.inr (Uy b h4))
              ·rcases adl b (Uz q g b q1 q2)with h4 | h4
               ·exact .inr (.inr h4)
               ·exact .inr (.inl h4)
             ·rcases z4 b hb with h4 | ⟨i,lq,q,_,q2,q3,q4⟩
              ·exact .inl (asO b h4)
              ·exact adl b ⟨lq,q,q2,q3,q4⟩
            ·refine⟨hsame,by have:=P.len;rw [Ed]at this;exact this,fun l ⟨cc,nn,hgo⟩=> ?_,fun l hl hnd=> ?_⟩
             ·have hll:=(List.getElem?_eq_some_iff.1 hgo).1
              have hnp:∀i:Nat,e.ren[i]? ≠some (some (some l)):=fun i hi=>by
               obtain⟨o',q1,q2⟩:=passed i l hi
               obtain⟨o2,q3,q4⟩:=HR.old l _ hgo
               rw [q1]at q3;cases q3;cases q4;exact q2.elim
              have hnf:∀f,(l,f)∉e.fro:=fun f hf=>by
               obtain⟨⟨g,c5,xs,h7⟩,_⟩:=vK l f hf
               rw [hgo]at h7;cases h7
              refine⟨cc,nn,?_⟩
              rw [P.old l (by rw [Ed];exact hll) (fun i _=>hnp i),←Wi]
              split
              ·exact hgo
              ·rw [jJ m _ _ (fun h8=>by
                obtain⟨p,hp,rfl⟩:=List.mem_map.1 h8
                exact hnf p.2 hp)]
               exact hgo
             ·have hnp:∀i:Nat,e.ren[i]? ≠some (some (some l)):=fun i hi=>hnd ((Mk l).2 (.inl (qo hi)))
              refine⟨?_,?_⟩
              ·rw [P.old l (by rw [Ed];exact hl) (fun i _=>hnp i),←Wi]
               split
               ·rfl
               ·rename_i hb0
                exact jJ m _ _ (fun h8=>hnd ((Mk l).2 (.inr ⟨by simpa using hb0,by
                 obtain⟨p,hp,rfl⟩:=List.mem_map.1 h8
                 exact⟨p.2,hp⟩⟩)))
              ·rw [z6 l (fun i hi hh=>by
                rcases(nmP i hi).2 with h4 | ⟨h4,_⟩
                ·rw [hh]at h4;exact hnp i h4
                ·omega),qx hnd]
           ·(subst hM;exact hfin.elim)
          ·(subst hM;exact hfin.elim)
         ·(subst hM;exact hfin.elim)
        ·(subst hM;exact hfin.elim)
       ·(subst hM;exact hfin.elim)
      intro ex a' w' he
      cases ex with
      | outgrown=>exact he.elim
      | panic _=>exact he.elim
      | goto _=>exact he.elim
      | normal=>obtain⟨c3,s3',s3,g1,g2,g3,g4,_,g6⟩:=he;exact fin g1 g2 g3 g4 g6
      | ret=>obtain⟨c3,s3',s3,g1,g2,g3,g4,_,g6⟩:=he;exact fin g1 g2 g3 g4 g6
      | exit i=>obtain⟨c3,s3',s3,g1,g2,g3,g4,_,g6⟩:=he;exact g6.elim
     ·cases hcall
    ·cases hcall
   ·cases hcall
  ·cases hcall
end
end
end Go.TX
namespace Go.TX
open Go Go.AE
structure FM {ρ:Type} (m:(ρ→Prop)→Prop):Prop where
 mono:∀Q Q':ρ→Prop,(∀y,Q y→Q' y)→m Q→m Q'
 one:∀Q:ρ→Prop,m Q→∃y,Q y∧m (fun z=>z=y)
 two:∀Q Q':ρ→Prop,m Q→m Q'→∃y,Q y∧Q' y
section
variable {n:Nat} {ρ:Type}
theorem FM.fail:FM (fun _:ρ→Prop=>False):=⟨fun _ _ _ h=>h,fun _ h=>h.elim,fun _ _ h=>h.elim⟩
theorem FM.ret (t:ρ):FM (fun Q:ρ→Prop=>Q t):=⟨fun _ _ h hq=>h _ hq,fun _ hq=>⟨t,hq,rfl⟩,fun _ _ h g=>⟨t,h,g⟩⟩
theorem FM.bind {α:Type} {m:(α→Prop)→Prop} {k:α→(ρ→Prop)→Prop} (hm:FM m) (hk:∀t,FM (k t)):FM (fun Q=>m fun t=>k t Q):=
 ⟨fun Q Q' h hq=>hm.mono _ _ (fun t ht=>(hk t).mono _ _ h ht) hq,fun Q hq=>by
  obtain⟨t,h1,h2⟩:=hm.one _ hq
  obtain⟨y,h3,h4⟩:=(hk t).one _ h1
  exact⟨y,h3,hm.mono _ _ (fun t' e=>by subst e;exact h4) h2⟩,fun Q Q' h g=>by
  obtain⟨t,h1,h2⟩:=hm.two _ _ h g
  exact(hk t).two _ _ h1 h2⟩
theorem FM.rW {α:Type} {m:(α ⊕ ρ→Prop)→Prop} {k:α→(ρ→Prop)→Prop} (hm:FM m) (hk:∀t,FM (k t)):FM (fun Q=>m (Cq k Q)):=
 ⟨fun Q Q' h hq=>hm.mono _ _ (fun t ht=>by
  cases t with
  | inl x=>exact(hk x).mono _ _ h ht
  | inr r=>exact h _ ht) hq,fun Q hq=>by
  obtain⟨t,h1,h2⟩:=hm.one _ hq
  cases t with
  | inl x=>
   obtain⟨y,h3,h4⟩:=(hk x).one _ h1
   exact⟨y,h3,hm.mono _ _ (fun t' e=>by subst e;exact h4) h2⟩
  | inr r=>exact⟨r,h1,hm.mono _ _ (fun t' e=>by subst e;rfl) h2⟩,fun Q Q' h g=>by
  obtain⟨t,h1,h2⟩:=hm.two _ _ h g
  cases t with
  | inl x=>exact(hk x).two _ _ h1 h2
  | inr r=>exact⟨r,h1,h2⟩⟩
theorem FM.itW {α:Type} {f:α→(α ⊕ ρ→Prop)→Prop} (hf:∀x,FM (f x)):∀(N:Nat) (x:α),FM (TX.itW N f x)
 | 0,x=>by
  have e:TX.itW 0 f x=fun _=>False:=by funext Q;rw [TX.itW]
  rw [e];exact .fail
 | N+1,x=>by
  have e:TX.itW (N+1) f x=fun Q=>f x (Cq (TX.itW N f) Q):=by funext Q;rw [TX.itW]
  rw [e];exact .rW (hf x) (FM.itW hf N)
theorem Am {α:Type} {k k':α→(ρ→Prop)→Prop} {Q Q':ρ→Prop} (hk:∀x,k x Q→k' x Q') (hq:∀y,Q y→Q' y):∀s,Cq k Q s→Cq k' Q' s
 | .inl x=>hk x
 | .inr r=>hq r
theorem Qt {α:Type} {f:α→(α ⊕ ρ→Prop)→Prop} (hf:∀x,FM (f x)) {Q:ρ→Prop}:∀ {N M:Nat} {x:α},N≤M→TX.itW N f x Q→TX.itW M f x Q
 | 0,_,_,_,h=>by rw [TX.itW]at h;exact h.elim
 | N+1,0,_,h,_=>absurd h (by omega)
 | N+1,M+1,x,h,g=>by
  rw [TX.itW]at g ⊢
  exact(hf x).mono _ _ (Am (fun y k=>Qt hf (by omega) k) (fun _ k=>k)) g
theorem Ee {α:Type} {f:α→(α ⊕ ρ→Prop)→Prop} (hf:∀x,FM (f x)) {x:α} {Q:ρ→Prop} (h:Uk f x Q):∃r,Q r∧∃N,TX.itW N f x (fun z=>z=r):=by
 obtain⟨I,μ,h0,hs⟩:=h
 have key:∀(n:Nat) (y:α),μ y<n→I y→∃r,Q r∧∃N,TX.itW N f y (fun z=>z=r):=by
  intro n
  induction n with
  | zero=>intro y h;omega
  | succ n ih=>
   intro y hy hI
   obtain⟨s,h1,h2⟩:=(hf y).one _ (hs y hI)
   cases s with
   | inl z=>
    obtain⟨r,q1,N,q2⟩:=ih z (by have:=h1.2;omega) h1.1
    refine⟨r,q1,N+1,?_⟩
    rw [TX.itW]
    exact(hf y).mono _ _ (fun s e=>by subst e;exact q2) h2
   | inr r=>
    refine⟨r,h1,1,?_⟩
    rw [TX.itW]
    exact(hf y).mono _ _ (fun s e=>by subst e;rfl) h2
 exact key _ x (Nat.lt_succ_self _) h0
theorem FM.iter {α:Type} {f:α→(α ⊕ ρ→Prop)→Prop} (hf:∀x,FM (f x)) (x:α):FM (fun Q=>Uk f x Q):=by
 refine⟨fun Q Q' h ⟨I,μ,h0,hs⟩=>⟨I,μ,h0,fun y hy=>(hf y).mono _ _ (Am (fun _ h=>h) h) (hs y hy)⟩,fun Q h=> ?_,fun Q Q' h g=> ?_⟩
 rotate_left
 ·obtain⟨r,q1,N,q2⟩:=Ee hf h
  obtain⟨t,g1,M,g2⟩:=Ee hf g
  obtain⟨z,rfl,rfl⟩:=(FM.itW hf (max N M) x).two _ _ (Qt hf (Nat.le_max_left ..) q2) (Qt hf (Nat.le_max_right ..) g2)
  exact⟨_,q1,g1⟩
 obtain⟨r,q1,N,q2⟩:=Ee hf h
 refine⟨r,q1,?_⟩
 have least:∀y,(∃N,TX.itW N f y (fun z=>z=r))→∃N,TX.itW N f y (fun z=>z=r)∧∀M,M<N→¬TX.itW M f y (fun z=>z=r):=by
  intro y ⟨N,hN⟩
  induction N using Nat.strongRecOn with
  | ind N ih=>
   by_cases h:∃M,M<N∧TX.itW M f y (fun z=>z=r)
   ·obtain⟨M,h1,h2⟩:=h;exact ih M h1 h2
   ·exact⟨N,hN,fun M hM hh=>h ⟨M,hM,hh⟩⟩
 have pick:∀y,∃N,(∃N,TX.itW N f y (fun z=>z=r))→TX.itW N f y (fun z=>z=r)∧∀M,M<N→¬TX.itW M f y (fun z=>z=r):=fun y=>by
  by_cases h:∃N,TX.itW N f y (fun z=>z=r)
  ·obtain⟨N,hN⟩:=least y h;exact⟨N,fun _=>hN⟩
  ·exact⟨0,fun hh=>absurd hh h⟩
 obtain⟨ν,hν⟩:=Classical.axiomOfChoice pick
 refine⟨fun y=>∃N,TX.itW N f y (fun z=>z=r),ν,⟨N,q2⟩,fun y hy=> ?_⟩
 obtain⟨h1,h2⟩:=hν y hy
 cases hn:ν y with
 | zero=>rw [hn]at h1;rw [TX.itW]at h1;exact h1.elim
 | succ k=>
  rw [hn]at h1
  rw [TX.itW]at h1
  refine(hf y).mono _ _ (Am (fun z hz=> ?_) (fun _ h=>h)) h1
  refine⟨⟨k,hz⟩,?_⟩
  have hz':=hν z ⟨k,hz⟩
  by_cases hlt:ν z<k+1
  ·exact hlt
  ·exact absurd hz (hz'.2 k (by omega))
theorem FM.chk {b:Bool} {m:(ρ→Prop)→Prop} (h:FM m):FM (fun Q=>b=true∧m Q):=
 ⟨fun _ _ hq ⟨a,c⟩=>⟨a,h.mono _ _ hq c⟩,fun _ ⟨a,c⟩=>let⟨y,q1,q2⟩:=h.one _ c;⟨y,q1,a,q2⟩,fun _ _ ⟨_,c⟩ ⟨_,d⟩=>h.two _ _ c d⟩
theorem FM.gL {m:(ρ→Prop)→Prop} (h:FM m):∀(ps:List Bool),FM (TX.gL (std n) ps m)
 | []=>h
 | _::ps=> .chk (FM.gL h ps)
theorem FM.cond {b:Bool} {x y:(ρ→Prop)→Prop} (hx:FM x) (hy:FM y):FM (fun Q=>(b=true→x Q)∧(b=false→y Q)):=
 ⟨fun _ _ hq ⟨a,c⟩=>⟨fun h=>hx.mono _ _ hq (a h),fun h=>hy.mono _ _ hq (c h)⟩,fun _ ⟨a,c⟩=>by
  cases b with
  | true=>obtain⟨y,q1,q2⟩:=hx.one _ (a rfl);exact⟨y,q1,fun _=>q2,fun h=>by cases h⟩
  | false=>obtain⟨y,q1,q2⟩:=hy.one _ (c rfl);exact⟨y,q1,fun h=>(by cases h),fun _=>q2⟩,fun _ _ ⟨a,c⟩ ⟨a',c'⟩=>by
  cases b with
  | true=>exact hx.two _ _ (a rfl) (a' rfl)
  | false=>exact hy.two _ _ (c rfl) (c' rfl)⟩
theorem FM.bind' {ts:List LTy} {m:(iC ts→Prop)→Prop} {k:iC ts→(ρ→Prop)→Prop} (hm:FM m) (hk:∀t,FM (k t)):FM ((std n).bind ts m k):=by
 have:=FM.bind hm hk
 exact this
theorem FM.ae6 {ts:List LTy} {m:(iC ts ⊕ ρ→Prop)→Prop} {k:iC ts→(ρ→Prop)→Prop} (hm:FM m) (hk:∀t,FM (k t)):FM ((std n).rW ts m k):=by
 have:=FM.rW hm hk
 exact this
theorem FM.inl' {ts:List LTy} (t:iC ts):FM ((std n).inl (ρ:=ρ) ts t):=FM.ret _
theorem FM.inr' {ts:List LTy} {m:(ρ→Prop)→Prop} (h:FM m):FM ((std n).inr (ρ:=ρ) ts m):=by
 have:=FM.bind (k:=fun(r:ρ) (Q:iC ts ⊕ ρ→Prop)=>Q (Sum.inr r)) h fun r=>FM.ret _
 exact this
theorem FM.iter' {ts:List LTy} {f:iC ts→(iC ts ⊕ ρ→Prop)→Prop} (hf:∀x,FM (f x)) (x:iC ts):FM ((std n).iter ts f x):=FM.iter hf x
theorem FM.ret' {ts:List LTy} (t:iC ts):FM ((std n).ret ts t):=FM.ret t
theorem FM.use {cr:CR (std n)} {K:SVal→List aK→(ρ→Prop)→Prop} (h:∀v k,FM (K v k)):FM (rX (std n) cr K):=by
  obtain⟨ck,ts,y,k,td,p⟩:=cr
  unfold rX
  cases ts with
  | nil => simp only; split
           · exact h _ _
           · exact .fail
  | cons a b=>
    simp only
    split
    · exact h _ _
    · exact .fail
end
theorem uf:∀(ts:List LTy),Nonempty (iC ts)
 | []=>⟨()⟩
 | t::r=>by
  obtain⟨y⟩:=uf r
  have x:Nonempty (LT aB t):=by
   cases t with
   | i=>exact⟨(0:Int)⟩
   | b=>exact⟨false⟩
   | s=>exact⟨(default:ByteArray)⟩
   | l c=>exact⟨([]:List c.den)⟩
   | x c=>exact⟨(default:c.den)⟩
  obtain⟨x⟩:=x
  exact⟨(x,y)⟩
noncomputable def cn {s:Sig} (F:iC s.inp→(iC s.out→Prop)→Prop):Ct aB s:=
 {pre:=fun x=> @decide (∃y,F x fun z=>z=y) (Classical.propDecidable _)
  fn:=fun x=> @Classical.epsilon _ (uf _) fun y=>F x fun z=>z=y}
structure Fn (E:Tab) (f:FuncId) {s:Sig} (F:iC s.inp→(iC s.out→Prop)→Prop) (c:Ct aB s):Prop where
 e:c=cn F
 fm:∀x,FM (F x)
 ok:dw E f (bZ c)
theorem Fn.cs {E:Tab} {f:FuncId} {s:Sig} {F:iC s.inp→(iC s.out→Prop)→Prop} {c:Ct aB s} (h:Fn E f F c) {x:iC s.inp} {Q:iC s.out→Prop} (g:F x Q):c.pre x=true∧Q (c.fn x):=by
 rw [h.e]
 obtain⟨y,h1,h2⟩:=(h.fm x).one _ g
 have e:∃y,F x fun z=>z=y:=⟨y,h2⟩
 refine⟨by simp only [cn];exact @decide_eq_true _ (Classical.propDecidable _) e,?_⟩
 obtain⟨z,k1,k2⟩:=(h.fm x).two _ _ g (@Classical.epsilon_spec _ (fun y=>F x fun z=>z=y) e)
 have k2:z=(cn F).fn x:=k2
 rw [←k2];exact k1
variable [aG]
section
variable {n:Nat} {ρ:Type}
theorem FM.region {X:XT} {C:Calls aB} {ops:List Oper} {K:RSt (std n)→(ρ→Prop)→Prop} (hK:∀s,FM (K s)):∀(rest:List Oper) (s:RSt (std n)),FM (fD (std n) X C ops rest K s)
 | [],s=>by unfold fD;exact hK s
 | o::rest,s=>by
  have ih:=FM.region (X:=X) (C:=C) (ops:=ops) hK rest
  unfold fD
  split
  ·split
   ·split
    ·split
     ·refine FM.gL ?_ _
      rw [Cx];exact ih _
     ·exact .fail
    ·split
     ·exact FM.gL (FM.use fun v k=>ih _) _
     ·exact .fail
   ·split
    ·split
     ·exact ih _
     ·split
      ·split
       ·exact FM.gL (ih _) _
       ·exact .fail
      ·split
       ·split
        ·exact FM.gL (FM.use fun v k=>ih _) _
        ·exact .cond (FM.gL (FM.use fun v k=>ih _) _) (ih _)
       ·exact .fail
     ·exact .fail
    ·exact .fail
  ·exact .fail
theorem FM.draw {X:XT} {C:Calls aB} {ops:List Oper} {K:RSt (std n)→(ρ→Prop)→Prop} (hK:∀s,FM (K s)):∀(rest:List fP) (hs:List (Nat×List Nat)) (s:RSt (std n)),FM (iL (std n) X C ops rest hs K s)
 | [],hs,s=>by unfold iL;exact hK s
 | (i,rs,cs)::rest,hs,s=>by
  have ih:=FM.draw (X:=X) (C:=C) (ops:=ops) hK rest
  unfold iL
  split
  ·exact .fail
  ·split
   ·simp only
    split
    ·split
     ·exact .fail
     ·split
      ·split
       ·refine FM.gL ?_ _
        rw [Cx];exact ih _ _
       ·exact .fail
      ·split
       ·split
        ·exact ih _ _
        ·split
         ·exact FM.gL (ih _ _) _
         ·exact .fail
        ·exact .fail
       ·exact .fail
    ·split
     ·exact FM.gL (ih _ _) _
     ·exact ih _ _
     ·exact .fail
    ·split
     ·exact FM.gL (ih _ _) _
     ·exact .fail
    ·split
     ·split
      ·split
       ·exact FM.gL (FM.use fun v k=>ih _ _) _
       ·exact .fail
      ·exact .fail
     ·split
      ·split
       ·exact ih _ _
       ·split
        ·split
         ·split
          ·exact FM.gL (FM.use fun v k=>ih _ _) _
          ·exact .cond (FM.gL (FM.use fun v k=>ih _ _) _) (ih _ _)
         ·exact .fail
        ·exact .fail
       ·exact .fail
      ·exact .fail
   ·exact .fail
theorem FM.cut {k:Nat} {sk:H6} {pl:Bool} {s:RSt (std n)} {K:Exit→RSt (std n)→(ρ→Prop)→Prop} (hK:∀e s,FM (K e s)) {W: {σ:Type}→(Exit→RSt (std n)→(σ→Prop)→Prop)→(σ→Prop)→Prop}
  (hW:∀ {σ:Type} {K':Exit→RSt (std n)→(σ→Prop)→Prop},(∀e s,FM (K' e s))→FM (W K')):FM (Qj (std n) k sk pl s K W):=by
 unfold Qj
 split
 ·refine FM.bind' (hW fun e s=> ?_) (fun t=>hK _ _)
  split
  ·split
   ·exact FM.gL (FM.ret' _) _
   ·exact .fail
  ·exact .fail
 ·refine FM.ae6 (hW fun e s=> ?_) (fun t=>hK _ _)
  split
  ·split
   ·exact FM.gL (FM.inl' _) _
   ·exact .fail
  ·exact FM.inr' (hK _ _)
theorem FM.reg {X:XT} {C:Calls aB} {ord:Nat→List fP} {chk:Nat→Array Oper→Nat→Bool} {id:Nat} {ops:Array Oper} {draw:Bool} {s:RSt (std n)} {K:Exit→RSt (std n)→(ρ→Prop)→Prop} (hK:∀e s,FM (K e s)):
  FM ((if draw then(if chk id ops s.m then iL (std n) X C ops.toList (ord id) [] (fun s=>K .normal s) s else(std n).fail)else fD (std n) X C ops.toList ops.toList (fun s=>K .normal s) s:(std n).M ρ)):=by
 split
 ·split
  ·exact FM.draw (fun s=>hK _ s) _ _ _
  ·exact .fail
 ·exact FM.region (fun s=>hK _ s) _ _
end
theorem FM.exec {n:Nat} {X:XT} {C:Calls aB} {ord:Nat→List fP} {chk:Nat→Array Oper→Nat→Bool} {k:Nat}:∀(code:Code) {ρ:Type} (an:Ann) (s:RSt (std n)) (K:Exit→RSt (std n)→(ρ→Prop)→Prop),(∀e s,FM (K e s))→FM (bI (std n) X C ord chk k an code s K)
  | .skip,ρ,an,s,K,hK=>by cases an<;>exact hK _ _
  | .region id ops draw,ρ,an,s,K,hK=>by
    simp only [bI]
    split
    · exact FM.cut hK fun hK'=>FM.reg hK'
    · exact FM.reg hK
  | .seq x y,ρ,an,s,K,hK=>by
    have main:∀a1 a2 (K1:Exit→RSt (std n)→(ρ→Prop)→Prop),(∀s',K1 .normal s'=bI (std n) X C ord chk k a2 y s' K)→(∀e s',e≠ .normal→K1 e s'=K e s')→FM (bI (std n) X C ord chk k a1 x s K1):=by
      intro a1 a2 K1 h1 h2
      refine FM.exec x a1 s K1 fun e s'=> ?_
      by_cases he:e= .normal
      · subst he;rw [h1];exact FM.exec y a2 s' K hK
      · rw [h2 e s' he];exact hK _ _
    cases an with
    | seq a1 a2=>rw [bI];exact main a1 a2 _ (fun _=>rfl) (fun e s' he=>by cases e<;>first | rfl | exact absurd rfl he)
    | u=>rw [bI];exact main .u .u _ (fun _=>rfl) (fun e s' he=>by cases e<;>first | rfl | exact absurd rfl he)
    | _=>simp only [bI];exact .fail
  | .cond cd x y,ρ,an,s,K,hK=>by
    simp only [bI]
    split
    · split
      · exact .cond (FM.exec x _ s K hK) (FM.exec y _ s K hK)
      · exact .cond (FM.exec x _ s K hK) (FM.exec y _ s K hK)
      · exact FM.cut hK fun hK'=> .cond (FM.exec x _ s _ hK') (FM.exec y _ s _ hK')
      · exact .fail
    · exact .fail
  | .block id b,ρ,an,s,K,hK=>by
    have main:∀ {σ:Type} {K':Exit→RSt (std n)→(σ→Prop)→Prop},(∀e s,FM (K' e s))→∀a1 (K1:Exit→RSt (std n)→(σ→Prop)→Prop),(∀e s',K1 e s'=K' e s'∨K1 e s'=K' .normal s')→FM (bI (std n) X C ord chk k a1 b s K1):=by
      intro σ K' hK' a1 K1 h1
      refine FM.exec b a1 s K1 fun e s'=> ?_
      rcases h1 e s' with h | h<;>rw [h]<;>exact hK' _ _
    have alt:∀ {σ:Type} {K':Exit→RSt (std n)→(σ→Prop)→Prop} (e:Exit) (s':RSt (std n)),(match e with | .exit i=>if i==id then K' .normal s' else K' (.exit i) s' | e=>K' e s':(std n).M σ)=K' e s'∨(match e with | .exit i=>if i==id then K' .normal s' else K' (.exit i) s' | e=>K' e s':(std n).M σ)=K' .normal s':=by
      intro σ K' e s'
      cases e with
      | exit i => simp only; split
                  · exact .inr rfl
                  · exact .inl rfl
      | _=>exact .inl rfl
    simp only [bI]
    split
    · exact main hK _ _ alt
    · exact main hK _ _ alt
    · exact FM.cut hK fun hK'=>main hK' _ _ alt
    · exact .fail
  | .loop b,ρ,an,s,K,hK=>by
    cases an with
    | loop sk a1=>
      rw [bI]
      split
      · refine FM.gL (FM.iter' (fun x=>FM.exec b a1 _ _ fun e s'=> ?_) _) _
        split
        · split
          · exact FM.gL (FM.inl' _) _
          · exact .fail
        · exact FM.inr' (hK _ _)
      · exact .fail
    | _=>simp only [bI];exact .fail
  | .exit i,ρ,an,s,K,hK=>by cases an<;>exact hK _ _
  | .ret,ρ,an,s,K,hK=>by cases an<;>exact hK _ _
  | .rangeFunc ..,ρ,an,s,K,hK=>by cases an<;>(simp only [bI];exact .fail)
  | .scope _,ρ,an,s,K,hK=>by cases an<;>(simp only [bI];exact .fail)
  | .label _,ρ,an,s,K,hK=>by cases an<;>(simp only [bI];exact .fail)
  | .goto _,ρ,an,s,K,hK=>by cases an<;>(simp only [bI];exact .fail)
  | .refuse _,ρ,an,s,K,hK=>by cases an<;>(simp only [bI];exact .fail)
theorem FM.run {n:Nat} {X:XT} {C:Calls aB} {ord:Nat→List fP} {chk:Nat→Array Oper→Nat→Bool} {an:Ann} {sg:Sig} {fn:Func} {code:Code} (x:iC sg.inp):FM (Ql (std n) X C ord chk an sg fn code x):=by
 unfold Ql
 split
 ·exact .fail
 ·split
  ·split
   ·refine FM.exec code an _ _ fun e s=> ?_
    have he:FM (V3 (std n) X sg fn s):=by
     unfold V3
     split
     ·split
      ·split
       ·split
        ·split
         ·exact FM.gL (FM.ret' _) _
         ·exact .fail
        ·exact .fail
       ·exact .fail
      ·exact .fail
     ·exact .fail
    split
    ·exact he
    ·exact he
    ·exact .fail
   ·exact .fail
  ·exact .fail
def ofL (C:Car) (l:List (FuncId×Sigma (Ct C))):Calls C:=fun f=>(l.filter fun p=>p.1==f).map (·.2)
def XE (l:List (Nat×List fP)) (i:Nat):List fP:=match l.find? fun p=>p.1==i with | some p=>p.2 | none=> []
def acy (E:Tab) (l:List (Nat×List fP)) (id:Nat) (ops:Array Oper) (m:Nat):Bool:=Jq ops.toList (XE l id)&&yT E m ops.toList&&Js E.P ops.toList
theorem acz {E:Tab} {l:List (Nat×List fP)}:∀id ops m,acy E l id ops m=true→Static E (XE l) id ops m:=fun _ _ _ h=>h
theorem ae7 {E:Tab} {l:List (FuncId×Sigma (Ct aB))} (h:∀p∈l,dw E p.1 (bZ p.2.2)):oL E (jW (ofL aB l)):=by
 intro f R hR
 unfold jW at hR
 split at hR
 ·cases hR
 ·cases hR
  rename_i hne
  have hall:∀ct∈ofL aB l f,dw E f (bZ ct.2):=fun ct hct=>by
   obtain⟨p,hp,rfl⟩:=List.mem_map.1 hct
   obtain⟨hp1,hp2⟩:=List.mem_filter.1 hp
   have:p.1=f:=by simpa using hp2
   rw [←this];exact h p hp1
  obtain⟨ct,hct⟩:=List.exists_mem_of_ne_nil _ hne
  exact⟨(hall ct hct).enters,fun args h n K ⟨ct,hct,hk⟩=>(hall ct hct).calls args h n K hk⟩
def Ru (X:XT) (E:Tab) (A:Alg) (ord:List (Nat×List fP)) (an:Ann) (s:Sig) (fn:Func) (l:List (FuncId×Sigma (Ct A.ah))) (F:Tup A.ah s.inp→A.M (Tup A.ah s.out)):Prop:=
 ∀x,Ql A X (ofL A.ah l) (XE ord) (acy E ord) an s fn (fn.body.getD .skip) x=F x
section
variable {X:XT} {E:Tab} (hE:aF E) (hX:XOK X E) (hm:E.P.follows .mixedOrders=true)
include hE hX hm
theorem asP {f:FuncId} {fn:Func} (hf:E.P.funcs[f]? =some fn) (hb:fn.body.isSome=true) (hent:∀c,fn.body=some c→Enters E.P f) {l:List (FuncId×Sigma (Ct aB))} (hl:∀p∈l,dw E p.1 (bZ p.2.2)) {ord:List (Nat×List fP)} {sg:Sig} {an:Ann}
  {F:iC sg.inp→(iC sg.out→Prop)→Prop} (hrun:Ru X E (std 0) ord an sg fn l F):Fn E f F (cn F):=by
 obtain⟨code,hb⟩:=Option.isSome_iff_exists.1 hb
 have hr:∀x,Ql (std 0) X (ofL aB l) (XE ord) (acy E ord) an sg fn code x=F x:=fun x=>by have:=hrun x;rw [hb]at this;exact this
 have hFM:∀x,FM (F x):=fun x=>by rw [←hr x];exact FM.run x
 refine⟨rfl,hFM,alu hE hX (ae7 hl) hm (ord:=XE ord) (chk:=acy E ord) acz hf hb (hent _ hb) (an:=an) (fun x hx=> ?_)⟩
 rw [hr x]
 simp only [cn]at hx
 exact @Classical.epsilon_spec _ (fun y=>F x fun z=>z=y) (@of_decide_eq_true _ (Classical.propDecidable _) hx)
end
@[reducible] def aG.z : aG := ⟨[], []⟩
@[reducible] def Alg.cl (A : Alg) {ρ : Type} {i o : List LTy} (p : Tup A.ah i → A.B) (f : Tup A.ah i → Tup A.ah o) (a : Tup A.ah i) (k : Tup A.ah o → A.M ρ) : A.M ρ := A.chk (p a) (A.Jw _ (f a) k)
@[reducible] def Alg.cg (A : Alg) {ρ : Type} {i o : List LTy} (b : A.B) (p : Tup A.ah i → A.B) (f : Tup A.ah i → Tup A.ah o) (a : Tup A.ah i) (k : Tup A.ah o → A.M ρ) : A.M ρ := A.chk (A.orB (A.aA b) (p a)) (A.Jw _ (f a) k)
@[reducible] def Alg.rb (A : Alg) (v : A.B) : A.M (Tup A.ah [.b]) := A.Jw [.b] (v, ()) fun x => A.ret [.b] (x.1, ())
@[reducible] def Alg.bd (A : Alg) {ρ : Type} (c : Co) (l : A.L c) (i : A.I) (m : A.M ρ) : A.M ρ := A.chk (A.cmp .leq (A.lit 0) i) (A.chk (A.cmp .lss i (A.len c l)) m)
@[reducible] def Alg.l1 (A : Alg) {ρ : Type} (t : LTy) (v : LT A.ah t) (k : Tup A.ah [t] → A.M ρ) : A.M ρ := A.Jw [t] (v, ()) k
@[reducible] def Tup.q {C : Car} {a b c d : LTy} {ts : List LTy} (x : Tup C (a :: b :: c :: d :: ts)) : Tup C ts := x.2.2.2.2
@[reducible] def Tup.o {C : Car} {a b c d e f g h : LTy} {ts : List LTy} (x : Tup C (a :: b :: c :: d :: e :: f :: g :: h :: ts)) : Tup C ts := x.2.2.2.2.2.2.2.2
@[reducible] def Pt (A : Alg) (s : Sig) : Type := Tup A.ah s.inp → A.B
@[reducible] def Ft (A : Alg) (s : Sig) : Type := Tup A.ah s.inp → Tup A.ah s.out
@[reducible] def Ot (A : Alg) (s : Sig) : Type := A.M (Tup A.ah s.out)
end Go.TX
namespace Go.TX.F
open Go Go.AE Go.TX
set_option maxRecDepth 100000
@[reducible] def Ml : Sig := ⟨[.c (.rows false .iop), .c (.int .i64)], [], [.c (.int .i64)], []⟩
@[reducible] def Mq : Sig := ⟨[.sv false .blk, .c (.int .i64)], [], [.c (.int .i64)], []⟩
@[reducible] def fQ : Sig := ⟨[.c (.int .i64), .c (.int .i64), .c (.int .i64)], [], [.c .bool], []⟩
@[reducible] def jX : Sig := ⟨[.c (.int .i64)], [], [.c .bool], []⟩
@[reducible] def Ef : Sig := ⟨[.c (.int .i64)], [], [.c .bool], []⟩
@[reducible] def ug : Sig := ⟨[.c (.rows false .iop), .c (.int .i64), .c (.int .i64)], [], [.c .bool], []⟩
@[reducible] def Eh : Sig := ⟨[.c (.rows false .iop), .c (.int .i64), .c (.int .i64)], [], [.c .bool], []⟩
@[reducible] def Ei : Sig := ⟨[.sv false .blk], [], [.c .bool], []⟩
@[reducible] def uh : Sig := ⟨[.sv false .blk], [], [.c .bool], []⟩
@[reducible] def Ej : Sig := ⟨[.sv false .blk, .sv false .blk], [], [.c .bool], []⟩
@[reducible] def jY : Sig := ⟨[.c (.int .i64)], [], [.agg [.own 0]], [.rows true .mono]⟩
@[reducible] def uj : Sig := ⟨[], [], [.agg [.own 0], .c (.own 1)], [.rows true .atom, .rows true .poly]⟩
@[reducible] def mQ : Sig := ⟨[.c (.rows false .i64), .c (.rows false .i64)], [], [.c (.int .i64)], []⟩
@[reducible] def El : Sig := ⟨[.sv false .mono], [], [.c .bool], []⟩
@[reducible] def gW : Sig := ⟨[.sv false .poly], [], [.c .bool], []⟩
@[reducible] def Em : Sig := ⟨[.sv false .atom], [], [.c .bool], []⟩
@[reducible] def En : Sig := ⟨[.sv false .poly, .c (.int .i64)], [], [.c .bool], []⟩
@[reducible] def um : Sig := ⟨[.sv false .atom, .c (.int .i64)], [], [.c .bool], []⟩
@[reducible] def fT : Sig := ⟨[.sv false .poly, .sv false .poly], [], [.c (.int .i64)], []⟩
@[reducible] def uo : Sig := ⟨[.sv false .atom, .sv false .atom], [], [.c .bool], []⟩
@[reducible] def Eo : Sig := ⟨[.sv false .tab], [], [.c .bool], []⟩
@[reducible] def dL : Sig := ⟨[.c (.rows false .mono)], [], [.agg [.own 0]], [.rows true .mono]⟩
@[reducible] def uw : Sig := ⟨[.sv false .atom], [], [.agg [.int .i64, .int .i64, .own 0, .own 1]], [.rows true .mono, .rows true .mono]⟩
@[reducible] def Ep : Sig := ⟨[.sv false .tab], [], [.agg [.own 0]], [.rows true .atom]⟩
@[reducible] def mR : Sig := ⟨[.agg [.own 0], .sv false .atom], [.rows true .atom], [.agg [.own 1], .c (.int .i64)], [.gone, .rows true .atom]⟩
@[reducible] def Er : Sig := ⟨[.c (.own 0), .c (.int .i64)], [.rows false .poly], [.sv false .poly], [.rows false .poly]⟩
@[reducible] def uz : Sig := ⟨[.c (.int .i64)], [], [.agg [.own 0]], [.rows true .mono]⟩
@[reducible] def jZ : Sig := ⟨[.c (.int .i64)], [], [.c (.int .i64)], []⟩
@[reducible] def uD : Sig := ⟨[.c (.rows false .mono), .sv false .mono], [], [.c (.own 0)], [.rows false .mono]⟩
@[reducible] def uE : Sig := ⟨[.c (.rows false .mono)], [], [.agg [.own 0], .c .bool], [.rows true .mono]⟩
@[reducible] def Es : Sig := ⟨[.sv false .poly, .sv false .poly], [], [.agg [.own 0], .c .bool], [.rows true .mono]⟩
@[reducible] def Eu : Sig := ⟨[.sv false .poly, .c (.int .i64)], [], [.agg [.own 0]], [.rows true .mono]⟩
@[reducible] def Ew : Sig := ⟨[.c (.rows false .i64), .c (.rows false .i64)], [], [.c (.own 0)], [.rows true .i64]⟩
@[reducible] def Ey : Sig := ⟨[.sv false .poly, .sv false .poly], [], [.agg [.own 0], .c .bool], [.rows true .mono]⟩
@[reducible] def Ez : Sig := ⟨[.c (.int .i64), .sv false .poly, .sv false .poly], [], [.agg [.own 0], .c .bool], [.rows true .mono]⟩
@[reducible] def mU : Sig := ⟨[.sv false .poly], [], [.c (.int .i64), .c .bool], []⟩
@[reducible] def EA : Sig := ⟨[.c (.int .i64), .c (.int .i64), .c (.int .i64)], [], [.c (.int .i64)], []⟩
@[reducible] def EB : Sig := ⟨[.c (.int .i64), .c (.int .i64), .sv false .poly], [], [.agg [.own 0], .c .bool], [.rows true .mono]⟩
@[reducible] def EC : Sig := ⟨[.c (.int .i64), .sv false .poly, .sv false .poly], [], [.agg [.own 0], .c .bool], [.rows true .mono]⟩
@[reducible] def ED : Sig := ⟨[.agg [.own 0], .c (.int .i64), .sv false .poly, .sv false .poly], [.rows true .atom], [.agg [.own 1], .agg [.own 2]], [.gone, .rows true .atom, .rows true .mono]⟩
@[reducible] def EF : Sig := ⟨[.c (.rows false .ev), .c (.int .i64)], [], [.c (.int .i64)], []⟩
@[reducible] def EG : Sig := ⟨[.agg [.own 0], .c (.rows false .ev), .c (.int .i64)], [.rows true .atom], [.agg [.own 1], .agg [.own 2]], [.gone, .rows true .atom, .rows true .mono]⟩
@[reducible] def mV : Sig := ⟨[.c (.rows false .poly)], [], [.c (.own 0)], [.rows true .poly]⟩
@[reducible] def EH : Sig := ⟨[.sv false .iop, .sv false .poly, .sv false .poly, .c (.rows false .poly)], [], [.agg [.int .i64, .int .i64, .own 0, .own 1, .own 2]], [.rows true .mono, .rows true .mono, .rows true .poly]⟩
@[reducible] def EI : Sig := ⟨[.sv false .blk], [], [.c (.int .i64)], []⟩
@[reducible] def EJ : Sig := ⟨[.sv false .blk], [], [.c (.int .i64)], []⟩
@[reducible] def uF : Sig := ⟨[.sv false .sym, .c (.int .i64)], [], [.agg [.rows false .ev, .rows false .poly, .int .i64, .nil, .nil, .int .i64]], []⟩
@[reducible] def EK : Sig := ⟨[.sv false .sym, .c (.int .i64)], [], [.sv false .sym], []⟩
@[reducible] def EL : Sig := ⟨[.sv false .sym, .c (.int .i64)], [], [.sv false .sym], []⟩
@[reducible] def EM : Sig := ⟨[.sv false .tab, .sv false .blk], [], [.sv false .tab, .sv false .sym], []⟩
@[reducible] def uG : Sig := ⟨[.c (.rows false .poly), .c (.rows false .poly)], [], [.c .bool], []⟩
@[reducible] def EN : Sig := ⟨[.sv false .ev, .sv false .ev], [], [.c .bool], []⟩
@[reducible] def EP : Sig := ⟨[.sv false .sym, .sv false .sym], [], [.c .bool], []⟩
@[reducible] def ER : Sig := ⟨[.sv false .blk, .sv false .blk], [], [.c .bool], []⟩
@[reducible] def Mr : Sig := ⟨[.sv false .iop], [], [.agg [.int .i64, .int .i64, .int .i64, .int .i64, .int .i64]], []⟩
@[reducible] def Ms : Sig := ⟨[.c (.rows false .iop)], [], [.c (.own 0)], [.rows true .iop]⟩
@[reducible] def Mt : Sig := ⟨[.sv false .blk], [], [.agg [.int .i64, .int .i64, .own 0, .int .i64, .int .i64, .int .i64, .int .i64]], [.rows true .iop]⟩
@[reducible] def cu : Sig := ⟨[.c (.int .i64), .c (.int .i64), .c (.int .i64)], [], [.c .bool], []⟩
@[reducible] def Bq : Sig := ⟨[.sv false .iop], [], [.c .bool, .c .bool, .c .bool, .c .bool], []⟩
@[reducible] def kS : Sig := ⟨[.c (.int .i64)], [], [.c .bool], []⟩
@[reducible] def Br : Sig := ⟨[.c (.int .i64)], [], [.c .bool], []⟩
@[reducible] def Bu : Sig := ⟨[.c (.int .i64)], [], [.c .bool], []⟩
@[reducible] def Mv : Sig := ⟨[.sv false .iop], [], [.c .bool], []⟩
@[reducible] def Bv : Sig := ⟨[.sv false .blk, .c (.int .i64), .c (.int .i64)], [], [.c .bool], []⟩
@[reducible] def Mw : Sig := ⟨[.sv false .blk, .c (.int .i64)], [], [.c .bool], []⟩
@[reducible] def Bw : Sig := ⟨[.sv false .blk], [], [.c .bool, .c .bool, .c .bool], []⟩
@[reducible] def Mx : Sig := ⟨[.sv false .blk], [], [.c .bool], []⟩
@[reducible] def Bz : Sig := ⟨[.sv false .blk], [], [.c .bool], []⟩
@[reducible] def MB : Sig := ⟨[.c (.rows false .iop), .c (.rows false .iop)], [], [.c .bool], []⟩
@[reducible] def MC : Sig := ⟨[.sv false .blk, .sv false .blk], [], [.c .bool], []⟩
@[reducible] def ME : Sig := ⟨[.c (.int .i64), .c (.pb 0 1 0)], [.box (.c (.int .i64))], [.c .bool], [.box (.c (.int .i64))]⟩
@[reducible] def ET : Sig := ⟨[.c (.rows false .i64), .c (.fn 176 [(0, 1)])], [.box (.c (.int .i64))], [.c (.int .i64)], [.box (.c (.int .i64))]⟩
@[reducible] def MF : Sig := ⟨[.c (.rows false .i64), .c (.fn 176 [(0, 1)])], [.box (.c (.int .i64))], [.c .bool], [.box (.c (.int .i64))]⟩
@[reducible] def BA : Sig := ⟨[.sv false .poly, .c (.int .i64)], [], [.c .bool], []⟩
@[reducible] def MG : Sig := ⟨[.c (.int .i64)], [], [.c .bool], []⟩
@[reducible] def EU : Sig := ⟨[.c (.int .i64), .c (.int .i64)], [], [.c (.int .i64)], []⟩
@[reducible] def MH : Sig := ⟨[.c (.rows false .i64)], [], [.c (.int .i64)], []⟩
@[reducible] def MI : Sig := ⟨[.c (.rows false .i64), .c (.rows false .i64)], [], [.c (.int .i64)], []⟩
@[reducible] def nY : Sig := ⟨[.c (.rows false .i64), .c (.rows false .i64)], [], [.c (.int .i64)], []⟩
@[reducible] def EW : Sig := ⟨[.c (.int .i64), .c (.int .i64)], [], [.c .bool], []⟩
@[reducible] def EZ : Sig := ⟨[.c (.rows false .i64)], [], [.c .bool], []⟩
@[reducible] def MJ : Sig := ⟨[.sv false .mono], [], [.c .bool], []⟩
@[reducible] def E5 : Sig := ⟨[.c (.rows false .mono), .c (.fn 161 [])], [], [.c (.int .i64)], []⟩
@[reducible] def MK : Sig := ⟨[.c (.rows false .mono), .c (.fn 161 [])], [], [.c .bool], []⟩
@[reducible] def iR : Sig := ⟨[.sv false .poly], [], [.c .bool], []⟩
@[reducible] def BD : Sig := ⟨[.sv false .atom, .c (.int .i64)], [], [.c .bool], []⟩
@[reducible] def uH : Sig := ⟨[.sv false .poly, .sv false .poly], [], [.c (.int .i64)], []⟩
@[reducible] def jL : Sig := ⟨[.sv false .poly, .sv false .poly], [], [.c .bool], []⟩
@[reducible] def ML : Sig := ⟨[.sv false .atom, .sv false .atom], [], [.c .bool], []⟩
@[reducible] def MN : Sig := ⟨[.sv false .atom, .c (.pb 0 4 0)], [.box (.sv false .atom)], [.c .bool], [.box (.sv false .atom)]⟩
@[reducible] def E8 : Sig := ⟨[.c (.rows false .atom), .c (.fn 149 [(0, 4)])], [.box (.sv false .atom)], [.c (.int .i64)], [.box (.sv false .atom)]⟩
@[reducible] def BF : Sig := ⟨[.sv false .tab, .sv false .atom], [], [.c (.int .i64)], []⟩
@[reducible] def MO : Sig := ⟨[.c (.rows true .atom)], [], [.c (.clip true .atom)], []⟩
@[reducible] def BH : Sig := ⟨[.sv true .tab, .sv true .atom], [], [.sv true .tab, .c (.int .i64)], []⟩
@[reducible] def BI : Sig := ⟨[.c (.int .i64)], [], [.agg [.own 0]], [.rows true .mono]⟩
@[reducible] def BJ : Sig := ⟨[.c (.pb 0 2 0), .c (.int .i64), .c (.int .i64)], [.box (.agg [.rows true .atom, .bool])], [.sv true .poly], [.box (.agg [.rows true .atom, .bool])]⟩
@[reducible] def BK : Sig := ⟨[.c (.pb 0 2 0)], [.box (.agg [.rows true .atom, .bool])], [.c (.own 1)], [.box (.agg [.rows true .atom, .bool]), .rows true .poly]⟩
@[reducible] def BL : Sig := ⟨[.c (.rows false .i64)], [], [.c (.own 0)], [.rows true .i64]⟩
@[reducible] def uI : Sig := ⟨[.sv false .poly], [], [.agg [.own 0]], [.rows true .mono]⟩
@[reducible] def BM : Sig := ⟨[.sv false .tab], [], [.agg [.own 0]], [.rows true .atom]⟩
@[reducible] def MQ : Sig := ⟨[], [], [.sv true .tab, .c (.rows true .poly)], []⟩
@[reducible] def MR : Sig := ⟨[.sv false .tab], [], [.c .bool], []⟩
@[reducible] def MS : Sig := ⟨[.sv false .iop], [], [.c .bool], []⟩
@[reducible] def MU : Sig := ⟨[.c (.own 0)], [.rows true .poly], [.c (.own 1)], [.rows true .poly, .rows true .poly]⟩
@[reducible] def uJ : Sig := ⟨[.c (.int .i64)], [], [.agg [.own 0]], [.rows true .mono]⟩
@[reducible] def BN : Sig := ⟨[.sv false .poly], [], [.c (.int .i64), .c .bool], []⟩
@[reducible] def uK : Sig := ⟨[.c (.int .i64)], [], [.c (.int .i64)], []⟩
@[reducible] def BO : Sig := ⟨[.sv false .mono, .sv false .mono], [], [.c (.int .i64)], []⟩
@[reducible] def E9 : Sig := ⟨[.c (.own 0), .c (.int .i64), .c (.int .i64), .c (.fn 200 [])], [.rows false .mono], [], [.rows false .mono]⟩
@[reducible] def Fa : Sig := ⟨[.c (.own 0), .c (.int .i64), .c (.int .i64), .c (.int .i64), .c (.fn 200 [])], [.rows false .mono], [], [.rows false .mono]⟩
@[reducible] def Fb : Sig := ⟨[.c (.own 0), .c (.int .i64), .c (.int .i64), .c (.int .i64), .c (.fn 200 [])], [.rows false .mono], [], [.rows false .mono]⟩
@[reducible] def mW : Sig := ⟨[.c (.own 0), .c (.int .i64), .c (.int .i64), .c (.int .i64), .c (.fn 200 [])], [.rows false .mono], [], [.rows false .mono]⟩
@[reducible] def Fe : Sig := ⟨[.c (.own 0), .c (.int .i64), .c (.fn 200 [])], [.rows false .mono], [], [.rows false .mono]⟩
@[reducible] def Fg : Sig := ⟨[.c (.own 0), .c (.fn 200 [])], [.rows false .mono], [], [.rows false .mono]⟩
@[reducible] def BP : Sig := ⟨[.c (.own 0)], [.rows false .mono], [.agg [.own 1], .c .bool], [.rows false .mono, .rows true .mono]⟩
@[reducible] def MV : Sig := ⟨[.c (.nil), .c (.int .i64)], [], [.c (.own 0)], [.rows true .mono]⟩
@[reducible] def MW : Sig := ⟨[.c (.rows false .poly)], [], [.c (.own 0)], [.rows false .mono]⟩
@[reducible] def MX : Sig := ⟨[.sv false .poly, .sv false .poly], [], [.agg [.own 0], .c .bool], [.rows true .mono]⟩
@[reducible] def Fh : Sig := ⟨[.c (.nil), .c (.int .i64)], [], [.c (.own 0)], [.rows true .i64]⟩
@[reducible] def MZ : Sig := ⟨[.c (.rows false .ints)], [], [.c (.own 0)], [.rows true .i64]⟩
@[reducible] def Fj : Sig := ⟨[.c (.own 0), .c (.int .i64), .c (.int .i64)], [.rows true .i64], [], [.rows true .i64]⟩
@[reducible] def Fp : Sig := ⟨[.c (.own 0), .c (.int .i64), .c (.int .i64)], [.rows true .i64], [], [.rows true .i64]⟩
@[reducible] def Fq : Sig := ⟨[.c (.own 0), .c (.int .i64), .c (.int .i64)], [.rows true .i64], [], [.rows true .i64]⟩
@[reducible] def Fu : Sig := ⟨[.c (.own 0), .c (.int .i64), .c (.int .i64)], [.rows true .i64], [.c (.int .i64), .c (.int .i64)], [.rows true .i64]⟩
@[reducible] def Fv : Sig := ⟨[.c (.own 0), .c (.int .i64), .c (.int .i64)], [.rows true .i64], [], [.rows true .i64]⟩
@[reducible] def Fw : Sig := ⟨[.c (.own 0), .c (.int .i64), .c (.int .i64)], [.rows true .i64], [.c .bool], [.rows true .i64]⟩
@[reducible] def Fx : Sig := ⟨[.c (.own 0), .c (.int .i64), .c (.int .i64), .c (.int .i64)], [.rows true .i64], [.c (.int .i64)], [.rows true .i64]⟩
@[reducible] def Fy : Sig := ⟨[.c (.own 0), .c (.int .i64), .c (.int .i64), .c (.int .i64)], [.rows true .i64], [.c (.int .i64), .c .bool], [.rows true .i64]⟩
@[reducible] def oP : Sig := ⟨[.c (.own 0), .c (.int .i64), .c (.int .i64), .c (.int .i64)], [.rows true .i64], [], [.rows true .i64]⟩
@[reducible] def UA : Sig := ⟨[.c (.int .u64)], [], [.c (.int .i64)], []⟩
@[reducible] def Fz : Sig := ⟨[.c (.own 0)], [.rows true .i64], [], [.rows true .i64]⟩
@[reducible] def BQ : Sig := ⟨[.sv false .poly, .sv false .poly], [], [.agg [.own 0], .c .bool], [.rows true .mono]⟩
@[reducible] def M0 : Sig := ⟨[.sv false .poly, .c (.int .i64)], [], [.agg [.own 0]], [.rows true .mono]⟩
@[reducible] def M4 : Sig := ⟨[.c (.int .i64), .c (.int .i64), .c (.int .i64)], [], [.c (.int .i64)], []⟩
@[reducible] def M5 : Sig := ⟨[.c (.int .i64), .sv true .poly, .sv true .poly], [], [.sv true .poly, .c .bool], []⟩
@[reducible] def M6 : Sig := ⟨[.sv true .tab, .c (.int .i64), .sv true .poly, .sv true .poly], [], [.sv true .tab, .sv true .poly, .c .bool], []⟩
@[reducible] def M7 : Sig := ⟨[.c (.rows false .poly)], [], [.c (.own 0)], [.rows true .poly]⟩
@[reducible] def M8 : Sig := ⟨[.sv false .sym], [], [.agg [.own 0, .own 1, .int .i64, .own 2, .own 3, .int .i64]], [.rows true .ev, .rows true .poly, .rows true .mono, .rows true .mono]⟩
@[reducible] def M9 : Sig := ⟨[.c (.int .i64), .c (.int .i64), .c (.int .i64)], [], [.c .bool], []⟩
@[reducible] def Na : Sig := ⟨[.sv false .sym, .c (.int .i64)], [], [.sv true .sym], []⟩
@[reducible] def Nb : Sig := ⟨[.sv true .tab, .sv false .blk], [], [.sv true .tab, .sv true .sym], []⟩
@[reducible] def Nc : Sig := ⟨[.sv false .poly, .sv false .poly], [], [.c .bool], []⟩
@[reducible] def Ng : Sig := ⟨[.c (.rows false .poly), .c (.rows false .poly), .c (.fn 128 [])], [], [.c .bool], []⟩
@[reducible] def BR : Sig := ⟨[.c (.rows false .poly), .c (.rows false .poly)], [], [.c .bool], []⟩
@[reducible] def Nh : Sig := ⟨[.sv false .ev, .sv false .ev], [], [.c .bool], []⟩
@[reducible] def Ni : Sig := ⟨[.c (.rows false .ev), .c (.rows false .ev), .c (.fn 84 [])], [], [.c .bool], []⟩
@[reducible] def Nj : Sig := ⟨[.sv false .sym, .sv false .sym], [], [.c .bool], []⟩
@[reducible] def Nk : Sig := ⟨[.sv false .blk, .sv false .blk], [], [.c .bool], []⟩
@[reducible] def Nl : Sig := ⟨[.sv false .iop, .sv false .iop], [], [.c .bool], []⟩
@[reducible] def Nn : Sig := ⟨[.c (.rows false .iop), .c (.rows false .iop)], [], [.c .bool], []⟩
@[reducible] def Np : Sig := ⟨[.sv false .blk, .sv false .blk], [], [.c .bool], []⟩
@[reducible] def Nq : Sig := ⟨[.sv false .cer, .c (.int .i64)], [], [.c (.int .i64)], []⟩
@[reducible] def Nr : Sig := ⟨[.c (.rows false .cer), .c (.int .i64)], [], [.c (.int .i64)], []⟩
@[reducible] def FB : Sig := ⟨[.c (.rows false .cer)], [], [.c .bool], []⟩
@[reducible] def Ns : Sig := ⟨[.sv false .cer], [], [.agg [.int .i64, .int .i64, .own 0, .int .i64, .int .i64, .int .i64, .int .i64, .int .i64, .int .i64, .own 1, .int .i64, .int .i64, .int .i64, .int .i64]], [.rows true .iop, .rows true .iop]⟩
@[reducible] def Nt : Sig := ⟨[.c (.rows false .cer)], [], [.c (.own 0)], [.rows true .cer]⟩
@[reducible] def XF : Sig := ⟨[.sv false .cer], [], [.c .bool], []⟩
@[reducible] def FC : Sig := ⟨[.c (.rows false .cer), .c (.fn 37 [])], [], [.c (.int .i64)], []⟩
@[reducible] def Nu : Sig := ⟨[.c (.rows false .cer), .c (.fn 37 [])], [], [.c .bool], []⟩
@[reducible] def XG : Sig := ⟨[.c (.rows false .cer)], [], [.c .bool], []⟩
@[reducible] def Nv : Sig := ⟨[.sv false .cer, .sv false .cer], [], [.c .bool], []⟩
@[reducible] def Nw : Sig := ⟨[.c (.rows false .cer), .c (.rows false .cer)], [], [.c .bool], []⟩
@[reducible] def adn : Sig := ⟨[.c (.rows false .cer)], [], [.c .bool], []⟩
def XH (A:Alg) (x:Tup A.ah [.l .iop,.i]):Ot A Ml:=
 A.l1 .i (A.lit 0) fun x0=>
 A.l1 .i (A.arith .sub .i64 x.2.1 (A.len .iop x.1)) fun x1=>
 A.cond (A.cmp .lss x1.1 (A.lit 0)) (A.l1 .i (A.lit (-1)) fun x2=>
 A.ret _ (x2.1,()))<|
 A.l1 .i x1.1 fun x2=>
 A.ret _ (x2.1,())
def XI (A:Alg) (alF:Pt A Ml) (alG:Ft A Ml) (x:Tup A.ah [.x .blk,.i]):Ot A Mq:=
 A.l1 .i (A.lit 0) fun x0=>
 A.cl alF alG (A.fL .blk 2 .iop x.1,x.2.1,()) fun x1=>
 A.l1 .i x1.1 fun x2=>
 A.cond (A.cmp .lss x2.1 (A.lit 0)) (A.l1 .i (A.lit (-1)) fun x3=>
 A.ret _ (x3.1,()))<|
 A.l1 .i x2.1 fun x3=>
 A.ret _ (x3.1,())
def Qu (A:Alg) (x:Tup A.ah [.i,.i,.i]):Ot A fQ:=
 A.l1 .b (A.bl false) fun x0=>
 A.rb (A.au (A.cmp .geq x.1 x.2.1) (A.cmp .leq x.1 x.2.2.1) (A.bl false))
def Qv (A:Alg) (x:Tup A.ah [.i]):Ot A jX:=
 A.l1 .b (A.bl false) fun x0=>
 A.rb (A.au (A.cmp .geq x.1 (A.lit 0)) (A.cmp .lss x.1 (A.lit 65536)) (A.bl false))
def Qw (A:Alg) (gy:Pt A fQ) (gB:Ft A fQ) (x:Tup A.ah [.i]):Ot A Ef:=
 A.l1 .b (A.bl false) fun x0=>
 A.cl gy gB (x.1,A.lit 1,A.lit 4,()) fun x1=>
 A.rb (A.au x1.1 (A.bl true) (A.cmp .eql x.1 (A.lit 6)))
def Qx (A:Alg) (ae8:Pt A Ef) (ae9:Ft A Ef) (x:Tup A.ah [.l .iop,.i,.i]):Ot A ug:=
 A.l1 .b (A.bl false) fun x0=>
 A.chk (A.orB (A.aA (A.au (A.cmp .geq x.2.1 (A.lit 0)) (A.cmp .lss x.2.1 x.2.2.1) (A.bl false))) (A.cmp .leq (A.lit 0) x.2.1))<|
 A.chk (A.orB (A.aA (A.au (A.cmp .geq x.2.1 (A.lit 0)) (A.cmp .lss x.2.1 x.2.2.1) (A.bl false))) (A.cmp .lss x.2.1 (A.len .iop x.1)))<|
 A.cg (A.au (A.cmp .geq x.2.1 (A.lit 0)) (A.cmp .lss x.2.1 x.2.2.1) (A.bl false)) ae8 ae9 (A.fI .iop 0 (A.get .iop x.1 x.2.1),()) fun x1=>
 A.rb (A.au (A.au (A.cmp .geq x.2.1 (A.lit 0)) (A.cmp .lss x.2.1 x.2.2.1) (A.bl false)) x1.1 (A.bl false))
def Qy (A:Alg) (rA:Pt A jX) (rC:Ft A jX) (gy:Pt A fQ) (gB:Ft A fQ) (oQ:Pt A ug) (oU:Ft A ug) (x:Tup A.ah [.l .iop,.i,.i]):Ot A Eh:=
 A.l1 .b (A.bl false) fun x0=>
 A.bd .iop x.1 x.2.1<|
 A.l1 (.x .iop) (A.get .iop x.1 x.2.1) fun x1=>
 A.l1 .b (A.cmp .eql (A.fI .iop 0 x1.1) (A.lit 1)) fun x2=>
 A.cond x2.1 (A.cg (A.au (A.cmp .eql (A.fI .iop 1 x1.1) (A.lit 0)) (A.cmp .eql (A.fI .iop 2 x1.1) (A.lit 0)) (A.bl false)) rA rC (A.fI .iop 3 x1.1,()) fun x3=>
 A.rb (A.au (A.au (A.au (A.cmp .eql (A.fI .iop 1 x1.1) (A.lit 0)) (A.cmp .eql (A.fI .iop 2 x1.1) (A.lit 0)) (A.bl false)) x3.1 (A.bl false)) (A.cmp .eql (A.fI .iop 4 x1.1) (A.lit 0)) (A.bl false)))<|
 A.l1 .b (A.cmp .eql (A.fI .iop 0 x1.1) (A.lit 2)) fun x3=>
 A.cond x3.1 (A.cg (A.au (A.cmp .eql (A.fI .iop 1 x1.1) (A.lit 0)) (A.cmp .eql (A.fI .iop 2 x1.1) (A.lit 0)) (A.bl false)) gy gB (A.fI .iop 3 x1.1,A.lit 0,A.lit 3,()) fun x4=>
 A.rb (A.au (A.au (A.au (A.cmp .eql (A.fI .iop 1 x1.1) (A.lit 0)) (A.cmp .eql (A.fI .iop 2 x1.1) (A.lit 0)) (A.bl false)) x4.1 (A.bl false)) (A.cmp .eql (A.fI .iop 4 x1.1) (A.lit 0)) (A.bl false)))<|
 A.l1 .b (A.cmp .eql (A.fI .iop 0 x1.1) (A.lit 3)) fun x4=>
 A.cond x4.1 (A.cl oQ oU (x.1,A.fI .iop 1 x1.1,x.2.1,()) fun x5=>
 A.cg x5.1 oQ oU (x.1,A.fI .iop 2 x1.1,x.2.1,()) fun x6=>
 A.cg (A.au x5.1 x6.1 (A.bl false)) gy gB (A.fI .iop 3 x1.1,A.lit 1,A.lit 5,()) fun x7=>
 A.rb (A.au (A.au (A.au x5.1 x6.1 (A.bl false)) x7.1 (A.bl false)) (A.cmp .eql (A.fI .iop 4 x1.1) (A.lit 0)) (A.bl false)))<|
 A.l1 .b (A.cmp .eql (A.fI .iop 0 x1.1) (A.lit 4)) fun x5=>
 A.bind [.l .iop,.i,.i,.i,.b,.x .iop] (A.cond x5.1 (A.ret _ (x.1,x.2.1,x.2.2.1,A.fI .iop 0 x1.1,x5.1,x1.1,()))<|
 A.l1 .b (A.cmp .eql (A.fI .iop 0 x1.1) (A.lit 7)) fun x6=>
 A.ret _ (x.1,x.2.1,x.2.2.1,A.fI .iop 0 x1.1,x6.1,x1.1,())) fun x6=>
 A.cond x6.q.1 (A.cl oQ oU (x6.1,A.fI .iop 1 x6.q.2.1,x6.2.1,()) fun x7=>
 A.cg (A.au (A.au x7.1 (A.cmp .eql (A.fI .iop 2 x6.q.2.1) (A.lit 0)) (A.bl false)) (A.cmp .eql (A.fI .iop 3 x6.q.2.1) (A.lit 0)) (A.bl false)) gy gB (A.fI .iop 4 x6.q.2.1,A.lit 0,A.arith .sub .i64 x6.2.2.1 (A.lit 1),()) fun x8=>
 A.rb (A.au (A.au (A.au x7.1 (A.cmp .eql (A.fI .iop 2 x6.q.2.1) (A.lit 0)) (A.bl false)) (A.cmp .eql (A.fI .iop 3 x6.q.2.1) (A.lit 0)) (A.bl false)) x8.1 (A.bl false)))<|
 A.l1 .b (A.cmp .eql x6.2.2.2.1 (A.lit 5)) fun x7=>
 A.cond x7.1 (A.cl oQ oU (x6.1,A.fI .iop 1 x6.q.2.1,x6.2.1,()) fun x8=>
 A.cg x8.1 oQ oU (x6.1,A.fI .iop 2 x6.q.2.1,x6.2.1,()) fun x9=>
 A.cg (A.au (A.au x8.1 x9.1 (A.bl false)) (A.cmp .eql (A.fI .iop 3 x6.q.2.1) (A.lit 0)) (A.bl false)) gy gB (A.fI .iop 4 x6.q.2.1,A.lit 0,A.arith .sub .i64 x6.2.2.1 (A.lit 1),()) fun x10=>
 A.rb (A.au (A.au (A.au x8.1 x9.1 (A.bl false)) (A.cmp .eql (A.fI .iop 3 x6.q.2.1) (A.lit 0)) (A.bl false)) x10.1 (A.bl false)))<|
 A.l1 .b (A.cmp .eql x6.2.2.2.1 (A.lit 6)) fun x8=>
 A.cond x8.1 (A.cg (A.au (A.au (A.cmp .eql (A.fI .iop 1 x6.q.2.1) (A.lit 0)) (A.cmp .eql (A.fI .iop 2 x6.q.2.1) (A.lit 0)) (A.bl false)) (A.cmp .eql (A.fI .iop 3 x6.q.2.1) (A.lit 0)) (A.bl false)) gy gB (A.fI .iop 4 x6.q.2.1,A.lit 0,A.arith .sub .i64 x6.2.2.1 (A.lit 1),()) fun x9=>
 A.rb (A.au (A.au (A.au (A.cmp .eql (A.fI .iop 1 x6.q.2.1) (A.lit 0)) (A.cmp .eql (A.fI .iop 2 x6.q.2.1) (A.lit 0)) (A.bl false)) (A.cmp .eql (A.fI .iop 3 x6.q.2.1) (A.lit 0)) (A.bl false)) x9.1 (A.bl false)))<|
 A.l1 .b (A.cmp .eql x6.2.2.2.1 (A.lit 8)) fun x9=>
 A.cond x9.1 (A.cl oQ oU (x6.1,A.fI .iop 1 x6.q.2.1,x6.2.1,()) fun x10=>
 A.cg (A.au x10.1 (A.cmp .eql (A.fI .iop 2 x6.q.2.1) (A.lit 0)) (A.bl false)) gy gB (A.fI .iop 3 x6.q.2.1,A.lit 0,A.lit 3,()) fun x11=>
 A.rb (A.au (A.au (A.au x10.1 (A.cmp .eql (A.fI .iop 2 x6.q.2.1) (A.lit 0)) (A.bl false)) x11.1 (A.bl false)) (A.cmp .eql (A.fI .iop 4 x6.q.2.1) (A.lit 0)) (A.bl false)))<|
 A.rb (A.bl false)
def Qz (A:Alg) (rA:Pt A jX) (rC:Ft A jX) (oQ:Pt A ug) (oU:Ft A ug) (x:Tup A.ah [.x .blk]):Ot A Ei:=
 A.l1 .b (A.bl false) fun x0=>
 A.l1 .i (A.len .iop (A.fL .blk 2 .iop x.1)) fun x1=>
 A.l1 .b (A.cmp .eql (A.fI .blk 3 x.1) (A.lit 1)) fun x2=>
 A.cond x2.1 (A.cg (A.au (A.cmp .eql (A.fI .blk 4 x.1) (A.lit 0)) (A.cmp .eql (A.fI .blk 5 x.1) (A.lit 0)) (A.bl false)) rA rC (A.fI .blk 6 x.1,()) fun x3=>
 A.rb (A.au (A.au (A.cmp .eql (A.fI .blk 4 x.1) (A.lit 0)) (A.cmp .eql (A.fI .blk 5 x.1) (A.lit 0)) (A.bl false)) x3.1 (A.bl false)))<|
 A.l1 .b (A.cmp .eql (A.fI .blk 3 x.1) (A.lit 2)) fun x3=>
 A.cond x3.1 (A.cl oQ oU (A.fL .blk 2 .iop x.1,A.fI .blk 4 x.1,x1.1,()) fun x4=>
 A.rb (A.au (A.au x4.1 (A.cmp .eql (A.fI .blk 5 x.1) (A.lit 0)) (A.bl false)) (A.cmp .eql (A.fI .blk 6 x.1) (A.lit 0)) (A.bl false)))<|
 A.l1 .b (A.cmp .eql (A.fI .blk 3 x.1) (A.lit 3)) fun x4=>
 A.bind [.i,.b,.x .blk] (A.cond x4.1 (A.ret _ (x1.1,x4.1,x.1,()))<|
 A.l1 .b (A.cmp .eql (A.fI .blk 3 x.1) (A.lit 4)) fun x5=>
 A.ret _ (x1.1,x5.1,x.1,())) fun x5=>
 A.cond x5.2.1 (A.cl oQ oU (A.fL .blk 2 .iop x5.2.2.1,A.fI .blk 4 x5.2.2.1,x5.1,()) fun x6=>
 A.cg x6.1 oQ oU (A.fL .blk 2 .iop x5.2.2.1,A.fI .blk 5 x5.2.2.1,x5.1,()) fun x7=>
 A.cg (A.au x6.1 x7.1 (A.bl false)) rA rC (A.fI .blk 6 x5.2.2.1,()) fun x8=>
 A.rb (A.au (A.au x6.1 x7.1 (A.bl false)) x8.1 (A.bl false)))<|
 A.rb (A.bl false)
def QA (A:Alg) (gy:Pt A fQ) (gB:Ft A fQ) (afa:Pt A Ei) (afb:Ft A Ei) (afc:Pt A Eh) (afd:Ft A Eh) (x:Tup A.ah [.x .blk]):Ot A uh:=
 A.l1 .b (A.bl false) fun x0=>
 A.cl gy gB (A.fI .blk 1 x.1,A.lit 1,A.lit 8,()) fun x1=>
 A.cg (A.aA (A.aA x1.1)) gy gB (A.fI .blk 0 x.1,A.lit 0,A.arith .sub .i64 (A.lit 64) (A.fI .blk 1 x.1),()) fun x2=>
 A.cond (A.au (A.au (A.aA x1.1) (A.bl true) (A.aA x2.1)) (A.bl true) (A.cmp .gtr (A.len .iop (A.fL .blk 2 .iop x.1)) (A.lit 48))) (A.rb (A.bl false))<|
 A.l1 .i (A.lit 0) fun x3=>
 A.iter [.i,.x .blk] (fun x4=>
 A.cond (A.cmp .lss x4.1 (A.len .iop (A.fL .blk 2 .iop x4.2.1))) (A.cl afc afd (A.fL .blk 2 .iop x4.2.1,x4.1,A.fI .blk 1 x4.2.1,()) fun x5=>
 A.cond (A.aA x5.1) (A.l1 .b (A.bl false) fun x6=>
 A.inr _<|A.ret _ (x6.1,()))<|
 A.l1 .i (A.arith .add .i64 x4.1 (A.lit 1)) fun x6=>
 A.inl _ (x6.1,x4.2.1,()))<|
 A.inr _<|A.cl afa afb (x4.2.1,()) fun x5=>
 A.rb x5.1) (x3.1,x.1,())
def QB (A:Alg) (x:Tup A.ah [.x .blk,.x .blk]):Ot A Ej:=
 A.l1 .b (A.bl false) fun x0=>
 A.cond (A.au (A.au (A.au (A.au (A.au (A.au (A.cmp .neq (A.fI .blk 0 x.1) (A.fI .blk 0 x.2.1)) (A.bl true) (A.cmp .neq (A.fI .blk 1 x.1) (A.fI .blk 1 x.2.1))) (A.bl true) (A.cmp .neq (A.fI .blk 3 x.1) (A.fI .blk 3 x.2.1))) (A.bl true) (A.cmp .neq (A.fI .blk 4 x.1) (A.fI .blk 4 x.2.1))) (A.bl true) (A.cmp .neq (A.fI .blk 5 x.1) (A.fI .blk 5 x.2.1))) (A.bl true) (A.cmp .neq (A.fI .blk 6 x.1) (A.fI .blk 6 x.2.1))) (A.bl true) (A.cmp .neq (A.len .iop (A.fL .blk 2 .iop x.1)) (A.len .iop (A.fL .blk 2 .iop x.2.1)))) (A.rb (A.bl false))<|
 A.l1 .i (A.lit 0) fun x1=>
 A.iter [.i,.x .blk,.x .blk] (fun x2=>
 A.cond (A.cmp .lss x2.1 (A.len .iop (A.fL .blk 2 .iop x2.2.1))) (A.bd .iop (A.fL .blk 2 .iop x2.2.1) x2.1<|
 A.bd .iop (A.fL .blk 2 .iop x2.2.2.1) x2.1<|
 A.cond (A.aA (A.eqX .iop (A.get .iop (A.fL .blk 2 .iop x2.2.1) x2.1) (A.get .iop (A.fL .blk 2 .iop x2.2.2.1) x2.1))) (A.l1 .b (A.bl false) fun x3=>
 A.inr _<|A.ret _ (x3.1,()))<|
 A.l1 .i (A.arith .add .i64 x2.1 (A.lit 1)) fun x3=>
 A.inl _ (x3.1,x2.2.1,x2.2.2.1,()))<|
 A.inr _<|A.rb (A.bl true)) (x1.1,x.1,x.2.1,())
def QC (A:Alg) (gy:Pt A fQ) (gB:Ft A fQ) (x:Tup A.ah [.i]):Ot A jY:=
 A.cl gy gB (x.1,A.lit 0,A.lit 199,()) fun x0=>
 A.cond (A.aA x0.1) (A.ret _ (A.aR .mono,()))<|
 A.l1 (.l .i64) (A.lst .i64 [A.mkX .i64 (x.1,())]) fun x1=>
 A.l1 (.l .mono) (A.lst .mono [A.mkX .mono (A.lit 1,x1.1,())]) fun x2=>
 A.ret _ (x2.1,())
def QD (A:Alg) (yj:Pt A jY) (yu:Ft A jY) (x:Tup A.ah []):Ot A uj:=
 A.l1 (.l .poly) (A.lst .poly []) fun x0=>
 A.l1 .i (A.lit 0) fun x1=>
 A.iter [.i,.l .poly,.l .atom] (fun x2=>
 A.cond (A.cmp .lss x2.1 (A.lit 4)) (A.l1 (.l .atom) (A.lst .atom [A.mkX .atom (A.lit 1,x2.1,A.aR .mono,A.aR .mono,())]) fun x3=>
 A.chk (A.cmp .leq (A.addN (A.len .atom x2.2.2.1) (A.len .atom x3.1)) (A.lit 1073741824))<|
 A.l1 (.l .atom) (A.app .atom x2.2.2.1 x3.1) fun x4=>
 A.cl yj yu (x2.1,()) fun x5=>
 A.l1 (.l .poly) (A.lst .poly [A.mkX .poly (x5.1,())]) fun x6=>
 A.chk (A.cmp .leq (A.addN (A.len .poly x2.2.1) (A.len .poly x6.1)) (A.lit 1073741824))<|
 A.l1 (.l .poly) (A.app .poly x2.2.1 x6.1) fun x7=>
 A.l1 .i (A.arith .add .i64 x2.1 (A.lit 1)) fun x8=>
 A.inl _ (x8.1,x7.1,x4.1,()))<|
 A.inr _<|A.ret _ (x2.2.2.1,x2.2.1,())) (x1.1,x0.1,A.aR .atom,())
def QE (A:Alg) (x:Tup A.ah [.l .i64,.l .i64]):Ot A mQ:=
 A.l1 .i (A.lit 0) fun x0=>
 A.cond (A.cmp .neq (A.len .i64 x.1) (A.len .i64 x.2.1)) (A.cond (A.cmp .lss (A.len .i64 x.1) (A.len .i64 x.2.1)) (A.l1 .i (A.lit (-1)) fun x1=>
 A.ret _ (x1.1,()))<|
 A.l1 .i (A.lit 1) fun x1=>
 A.ret _ (x1.1,()))<|
 A.l1 .i (A.lit 0) fun x1=>
 A.iter [.l .i64,.l .i64,.i] (fun x2=>
 A.cond (A.cmp .lss x2.2.2.1 (A.len .i64 x2.1)) (A.bd .i64 x2.1 x2.2.2.1<|
 A.bd .i64 x2.2.1 x2.2.2.1<|
 A.cond (A.cmp .lss (A.fI .i64 0 (A.get .i64 x2.1 x2.2.2.1)) (A.fI .i64 0 (A.get .i64 x2.2.1 x2.2.2.1))) (A.l1 .i (A.lit (-1)) fun x3=>
 A.inr _<|A.ret _ (x3.1,()))<|
 A.bd .i64 x2.1 x2.2.2.1<|
 A.bd .i64 x2.2.1 x2.2.2.1<|
 A.cond (A.cmp .gtr (A.fI .i64 0 (A.get .i64 x2.1 x2.2.2.1)) (A.fI .i64 0 (A.get .i64 x2.2.1 x2.2.2.1))) (A.l1 .i (A.lit 1) fun x3=>
 A.inr _<|A.ret _ (x3.1,()))<|
 A.l1 .i (A.arith .add .i64 x2.2.2.1 (A.lit 1)) fun x3=>
 A.inl _ (x2.1,x2.2.1,x3.1,()))<|
 A.inr _<|A.l1 .i (A.lit 0) fun x3=>
 A.ret _ (x3.1,())) (x.1,x.2.1,x1.1,())
def QF (A:Alg) (gy:Pt A fQ) (gB:Ft A fQ) (x:Tup A.ah [.x .mono]):Ot A El:=
 A.l1 .b (A.bl false) fun x0=>
 A.cl gy gB (A.fI .mono 0 x.1,A.lit 1,A.lit 65535,()) fun x1=>
 A.cond (A.au (A.aA x1.1) (A.bl true) (A.cmp .gtr (A.len .i64 (A.fL .mono 1 .i64 x.1)) (A.lit 4))) (A.rb (A.bl false))<|
 A.l1 .i (A.lit 0) fun x2=>
 A.iter [.i,.x .mono] (fun x3=>
 A.cond (A.cmp .lss x3.1 (A.len .i64 (A.fL .mono 1 .i64 x3.2.1))) (A.bd .i64 (A.fL .mono 1 .i64 x3.2.1) x3.1<|
 A.cl gy gB (A.fI .i64 0 (A.get .i64 (A.fL .mono 1 .i64 x3.2.1) x3.1),A.lit 0,A.lit 199,()) fun x4=>
 A.chk (A.orB (A.aA (A.nK (A.aA (A.aA x4.1)) (A.cmp .gtr x3.1 (A.lit 0)))) (A.cmp .leq (A.lit 0) (A.arith .sub .i64 x3.1 (A.lit 1))))<|
 A.chk (A.orB (A.aA (A.nK (A.aA (A.aA x4.1)) (A.cmp .gtr x3.1 (A.lit 0)))) (A.cmp .lss (A.arith .sub .i64 x3.1 (A.lit 1)) (A.len .i64 (A.fL .mono 1 .i64 x3.2.1))))<|
 A.chk (A.orB (A.aA (A.nK (A.aA (A.aA x4.1)) (A.cmp .gtr x3.1 (A.lit 0)))) (A.cmp .leq (A.lit 0) x3.1))<|
 A.chk (A.orB (A.aA (A.nK (A.aA (A.aA x4.1)) (A.cmp .gtr x3.1 (A.lit 0)))) (A.cmp .lss x3.1 (A.len .i64 (A.fL .mono 1 .i64 x3.2.1))))<|
 A.cond (A.au (A.aA x4.1) (A.bl true) (A.au (A.cmp .gtr x3.1 (A.lit 0)) (A.cmp .gtr (A.fI .i64 0 (A.get .i64 (A.fL .mono 1 .i64 x3.2.1) (A.arith .sub .i64 x3.1 (A.lit 1)))) (A.fI .i64 0 (A.get .i64 (A.fL .mono 1 .i64 x3.2.1) x3.1))) (A.bl false))) (A.l1 .b (A.bl false) fun x5=>
 A.inr _<|A.ret _ (x5.1,()))<|
 A.l1 .i (A.arith .add .i64 x3.1 (A.lit 1)) fun x5=>
 A.inl _ (x5.1,x3.2.1,()))<|
 A.inr _<|A.rb (A.bl true)) (x2.1,x.1,())
def QG (A:Alg) (afe:Pt A El) (aff:Ft A El) (FD:Pt A mQ) (FH:Ft A mQ) (x:Tup A.ah [.x .poly]):Ot A gW:=
 A.l1 .b (A.bl false) fun x0=>
 A.cond (A.cmp .gtr (A.len .mono (A.fL .poly 0 .mono x.1)) (A.lit 12)) (A.rb (A.bl false))<|
 A.l1 .i (A.lit 0) fun x1=>
 A.iter [.i,.x .poly] (fun x2=>
 A.cond (A.cmp .lss x2.1 (A.len .mono (A.fL .poly 0 .mono x2.2.1))) (A.bd .mono (A.fL .poly 0 .mono x2.2.1) x2.1<|
 A.cl afe aff (A.get .mono (A.fL .poly 0 .mono x2.2.1) x2.1,()) fun x3=>
 A.chk (A.orB (A.aA (A.nK (A.aA (A.aA x3.1)) (A.cmp .gtr x2.1 (A.lit 0)))) (A.cmp .leq (A.lit 0) (A.arith .sub .i64 x2.1 (A.lit 1))))<|
 A.chk (A.orB (A.aA (A.nK (A.aA (A.aA x3.1)) (A.cmp .gtr x2.1 (A.lit 0)))) (A.cmp .lss (A.arith .sub .i64 x2.1 (A.lit 1)) (A.len .mono (A.fL .poly 0 .mono x2.2.1))))<|
 A.chk (A.orB (A.aA (A.nK (A.aA (A.aA x3.1)) (A.cmp .gtr x2.1 (A.lit 0)))) (A.cmp .leq (A.lit 0) x2.1))<|
 A.chk (A.orB (A.aA (A.nK (A.aA (A.aA x3.1)) (A.cmp .gtr x2.1 (A.lit 0)))) (A.cmp .lss x2.1 (A.len .mono (A.fL .poly 0 .mono x2.2.1))))<|
 A.cg (A.nK (A.aA (A.aA x3.1)) (A.cmp .gtr x2.1 (A.lit 0))) FD FH (A.fL .mono 1 .i64 (A.get .mono (A.fL .poly 0 .mono x2.2.1) (A.arith .sub .i64 x2.1 (A.lit 1))),A.fL .mono 1 .i64 (A.get .mono (A.fL .poly 0 .mono x2.2.1) x2.1),()) fun x4=>
 A.cond (A.au (A.aA x3.1) (A.bl true) (A.au (A.cmp .gtr x2.1 (A.lit 0)) (A.cmp .geq x4.1 (A.lit 0)) (A.bl false))) (A.l1 .b (A.bl false) fun x5=>
 A.inr _<|A.ret _ (x5.1,()))<|
 A.l1 .i (A.arith .add .i64 x2.1 (A.lit 1)) fun x5=>
 A.inl _ (x5.1,x2.2.1,()))<|
 A.inr _<|A.rb (A.bl true)) (x1.1,x.1,())
def QH (A:Alg) (x:Tup A.ah [.x .atom]):Ot A Em:=
 A.l1 .b (A.bl false) fun x0=>
 A.rb (A.au (A.cmp .eql (A.len .mono (A.fL .atom 2 .mono x.1)) (A.lit 0)) (A.cmp .eql (A.len .mono (A.fL .atom 3 .mono x.1)) (A.lit 0)) (A.bl false))
def QI (A:Alg) (x:Tup A.ah [.x .poly,.i]):Ot A En:=
 A.l1 .b (A.bl false) fun x0=>
 A.l1 .i (A.lit 0) fun x1=>
 A.iter [.i,.i,.x .poly] (fun x2=>
 A.cond (A.cmp .lss x2.2.1 (A.len .mono (A.fL .poly 0 .mono x2.2.2.1))) (A.l1 .i (A.lit 0) fun x3=>
 A.iter [.i,.i,.i,.x .poly] (fun x4=>
 A.bd .mono (A.fL .poly 0 .mono x4.2.2.2.1) x4.2.1<|
 A.cond (A.cmp .lss x4.2.2.1 (A.len .i64 (A.fL .mono 1 .i64 (A.get .mono (A.fL .poly 0 .mono x4.2.2.2.1) x4.2.1)))) (A.bd .mono (A.fL .poly 0 .mono x4.2.2.2.1) x4.2.1<|
 A.bd .i64 (A.fL .mono 1 .i64 (A.get .mono (A.fL .poly 0 .mono x4.2.2.2.1) x4.2.1)) x4.2.2.1<|
 A.cond (A.cmp .geq (A.fI .i64 0 (A.get .i64 (A.fL .mono 1 .i64 (A.get .mono (A.fL .poly 0 .mono x4.2.2.2.1) x4.2.1)) x4.2.2.1)) x4.1) (A.l1 .b (A.bl false) fun x5=>
 A.inr _<|A.inr _<|A.ret _ (x5.1,()))<|
 A.l1 .i (A.arith .add .i64 x4.2.2.1 (A.lit 1)) fun x5=>
 A.inl _ (x4.1,x4.2.1,x5.1,x4.2.2.2.1,()))<|
 A.inr _<|A.l1 .i (A.arith .add .i64 x4.2.1 (A.lit 1)) fun x5=>
 A.inl _ (x4.1,x5.1,x4.2.2.2.1,())) (x2.1,x2.2.1,x3.1,x2.2.2.1,()))<|
 A.inr _<|A.rb (A.bl true)) (x.2.1,x1.1,x.1,())
def QJ (A:Alg) (gy:Pt A fQ) (gB:Ft A fQ) (jw:Pt A gW) (jy:Ft A gW) (XJ:Pt A En) (XK:Ft A En) (XL:Pt A Em) (XM:Ft A Em) (x:Tup A.ah [.x .atom,.i]):Ot A um:=
 A.l1 .b (A.bl false) fun x0=>
 A.l1 .b (A.cmp .eql (A.fI .atom 0 x.1) (A.lit 1)) fun x1=>
 A.cond x1.1 (A.cl gy gB (A.fI .atom 1 x.1,A.lit 0,A.lit 3,()) fun x2=>
 A.cg x2.1 XL XM (x.1,()) fun x3=>
 A.rb (A.au x2.1 x3.1 (A.bl false)))<|
 A.l1 .b (A.cmp .eql (A.fI .atom 0 x.1) (A.lit 2)) fun x2=>
 A.bind [.i,.i,.b,.x .atom] (A.cond x2.1 (A.ret _ (x.2.1,A.fI .atom 0 x.1,x2.1,x.1,()))<|
 A.l1 .b (A.cmp .eql (A.fI .atom 0 x.1) (A.lit 3)) fun x3=>
 A.ret _ (x.2.1,A.fI .atom 0 x.1,x3.1,x.1,())) fun x3=>
 A.cond x3.2.2.1 (A.cl gy gB (A.fI .atom 1 x3.2.2.2.1,A.lit 0,A.lit 199,()) fun x4=>
 A.cg x4.1 XL XM (x3.2.2.2.1,()) fun x5=>
 A.rb (A.au x4.1 x5.1 (A.bl false)))<|
 A.l1 .b (A.cmp .eql x3.2.1 (A.lit 4)) fun x4=>
 A.cond x4.1 (A.cl gy gB (A.fI .atom 1 x3.2.2.2.1,A.lit 1,A.lit 5,()) fun x5=>
 A.cg x5.1 jw jy (A.mkX .poly (A.fL .atom 2 .mono x3.2.2.2.1,()),()) fun x6=>
 A.cg (A.au x5.1 x6.1 (A.bl false)) jw jy (A.mkX .poly (A.fL .atom 3 .mono x3.2.2.2.1,()),()) fun x7=>
 A.cg (A.au (A.au x5.1 x6.1 (A.bl false)) x7.1 (A.bl false)) XJ XK (A.mkX .poly (A.fL .atom 2 .mono x3.2.2.2.1,()),x3.1,()) fun x8=>
 A.cg (A.au (A.au (A.au x5.1 x6.1 (A.bl false)) x7.1 (A.bl false)) x8.1 (A.bl false)) XJ XK (A.mkX .poly (A.fL .atom 3 .mono x3.2.2.2.1,()),x3.1,()) fun x9=>
 A.rb (A.au (A.au (A.au (A.au x5.1 x6.1 (A.bl false)) x7.1 (A.bl false)) x8.1 (A.bl false)) x9.1 (A.bl false)))<|
 A.rb (A.bl false)
def QK (A:Alg) (FD:Pt A mQ) (FH:Ft A mQ) (x:Tup A.ah [.x .poly,.x .poly]):Ot A fT:=
 A.l1 .i (A.lit 0) fun x0=>
 A.cond (A.cmp .neq (A.len .mono (A.fL .poly 0 .mono x.1)) (A.len .mono (A.fL .poly 0 .mono x.2.1))) (A.cond (A.cmp .lss (A.len .mono (A.fL .poly 0 .mono x.1)) (A.len .mono (A.fL .poly 0 .mono x.2.1))) (A.l1 .i (A.lit (-1)) fun x1=>
 A.ret _ (x1.1,()))<|
 A.l1 .i (A.lit 1) fun x1=>
 A.ret _ (x1.1,()))<|
 A.l1 .i (A.lit 0) fun x1=>
 A.iter [.i,.x .poly,.x .poly] (fun x2=>
 A.cond (A.cmp .lss x2.1 (A.len .mono (A.fL .poly 0 .mono x2.2.1))) (A.bd .mono (A.fL .poly 0 .mono x2.2.1) x2.1<|
 A.bd .mono (A.fL .poly 0 .mono x2.2.2.1) x2.1<|
 A.cl FD FH (A.fL .mono 1 .i64 (A.get .mono (A.fL .poly 0 .mono x2.2.1) x2.1),A.fL .mono 1 .i64 (A.get .mono (A.fL .poly 0 .mono x2.2.2.1) x2.1),()) fun x3=>
 A.l1 .i x3.1 fun x4=>
 A.cond (A.cmp .neq x4.1 (A.lit 0)) (A.l1 .i x4.1 fun x5=>
 A.inr _<|A.ret _ (x5.1,()))<|
 A.bd .mono (A.fL .poly 0 .mono x2.2.1) x2.1<|
 A.bd .mono (A.fL .poly 0 .mono x2.2.2.1) x2.1<|
 A.cond (A.cmp .neq (A.fI .mono 0 (A.get .mono (A.fL .poly 0 .mono x2.2.1) x2.1)) (A.fI .mono 0 (A.get .mono (A.fL .poly 0 .mono x2.2.2.1) x2.1))) (A.bd .mono (A.fL .poly 0 .mono x2.2.1) x2.1<|
 A.bd .mono (A.fL .poly 0 .mono x2.2.2.1) x2.1<|
 A.cond (A.cmp .lss (A.fI .mono 0 (A.get .mono (A.fL .poly 0 .mono x2.2.1) x2.1)) (A.fI .mono 0 (A.get .mono (A.fL .poly 0 .mono x2.2.2.1) x2.1))) (A.l1 .i (A.lit (-1)) fun x5=>
 A.inr _<|A.ret _ (x5.1,()))<|
 A.l1 .i (A.lit 1) fun x5=>
 A.inr _<|A.ret _ (x5.1,()))<|
 A.l1 .i (A.arith .add .i64 x2.1 (A.lit 1)) fun x5=>
 A.inl _ (x5.1,x2.2.1,x2.2.2.1,()))<|
 A.inr _<|A.l1 .i (A.lit 0) fun x3=>
 A.ret _ (x3.1,())) (x1.1,x.1,x.2.1,())
def QL (A:Alg) (iT:Pt A fT) (iU:Ft A fT) (x:Tup A.ah [.x .atom,.x .atom]):Ot A uo:=
 A.l1 .b (A.bl false) fun x0=>
 A.cg (A.au (A.cmp .eql (A.fI .atom 0 x.1) (A.fI .atom 0 x.2.1)) (A.cmp .eql (A.fI .atom 1 x.1) (A.fI .atom 1 x.2.1)) (A.bl false)) iT iU (A.mkX .poly (A.fL .atom 2 .mono x.1,()),A.mkX .poly (A.fL .atom 2 .mono x.2.1,()),()) fun x1=>
 A.cg (A.au (A.au (A.cmp .eql (A.fI .atom 0 x.1) (A.fI .atom 0 x.2.1)) (A.cmp .eql (A.fI .atom 1 x.1) (A.fI .atom 1 x.2.1)) (A.bl false)) (A.cmp .eql x1.1 (A.lit 0)) (A.bl false)) iT iU (A.mkX .poly (A.fL .atom 3 .mono x.1,()),A.mkX .poly (A.fL .atom 3 .mono x.2.1,()),()) fun x2=>
 A.rb (A.au (A.au (A.au (A.cmp .eql (A.fI .atom 0 x.1) (A.fI .atom 0 x.2.1)) (A.cmp .eql (A.fI .atom 1 x.1) (A.fI .atom 1 x.2.1)) (A.bl false)) (A.cmp .eql x1.1 (A.lit 0)) (A.bl false)) (A.cmp .eql x2.1 (A.lit 0)) (A.bl false))
def QM (A:Alg) (QN:Pt A um) (QO:Ft A um) (QS:Pt A uo) (QT:Ft A uo) (x:Tup A.ah [.x .tab]):Ot A Eo:=
 A.l1 .b (A.bl false) fun x0=>
 A.cond (A.cmp .gtr (A.len .atom (A.fL .tab 0 .atom x.1)) (A.lit 200)) (A.rb (A.bl false))<|
 A.l1 .i (A.lit 0) fun x1=>
 A.iter [.i,.x .tab] (fun x2=>
 A.cond (A.cmp .lss x2.1 (A.len .atom (A.fL .tab 0 .atom x2.2.1))) (A.bd .atom (A.fL .tab 0 .atom x2.2.1) x2.1<|
 A.cl QN QO (A.get .atom (A.fL .tab 0 .atom x2.2.1) x2.1,x2.1,()) fun x3=>
 A.cond (A.aA x3.1) (A.l1 .b (A.bl false) fun x4=>
 A.inr _<|A.ret _ (x4.1,()))<|
 A.l1 .i (A.lit 0) fun x4=>
 A.iter [.i,.i,.x .tab] (fun x5=>
 A.cond (A.cmp .lss x5.2.1 x5.1) (A.bd .atom (A.fL .tab 0 .atom x5.2.2.1) x5.2.1<|
 A.bd .atom (A.fL .tab 0 .atom x5.2.2.1) x5.1<|
 A.cl QS QT (A.get .atom (A.fL .tab 0 .atom x5.2.2.1) x5.2.1,A.get .atom (A.fL .tab 0 .atom x5.2.2.1) x5.1,()) fun x6=>
 A.cond x6.1 (A.l1 .b (A.bl false) fun x7=>
 A.inr _<|A.inr _<|A.ret _ (x7.1,()))<|
 A.l1 .i (A.arith .add .i64 x5.2.1 (A.lit 1)) fun x7=>
 A.inl _ (x5.1,x7.1,x5.2.2.1,()))<|
 A.inr _<|A.l1 .i (A.arith .add .i64 x5.1 (A.lit 1)) fun x6=>
 A.inl _ (x6.1,x5.2.2.1,())) (x2.1,x4.1,x2.2.1,()))<|
 A.inr _<|A.rb (A.bl true)) (x1.1,x.1,())
def QU (A:Alg) (x:Tup A.ah [.l .mono]):Ot A dL:=
 A.l1 .i (A.lit 0) fun x0=>
 A.iter [.l .mono,.i,.l .mono] (fun x1=>
 A.cond (A.cmp .lss x1.2.1 (A.len .mono x1.1)) (A.bd .mono x1.1 x1.2.1<|
 A.bd .mono x1.1 x1.2.1<|
 A.chk (A.orB (A.cmp .lss (A.lit 0) (A.len .i64 (A.fL .mono 1 .i64 (A.get .mono x1.1 x1.2.1)))) (A.cmp .eql (A.len .i64 (A.lst .i64 [])) (A.lit 0)))<|
 A.chk (A.cmp .leq (A.addN (A.len .i64 (A.lst .i64 [])) (A.len .i64 (A.fL .mono 1 .i64 (A.get .mono x1.1 x1.2.1)))) (A.lit 1073741824))<|
 A.l1 (.l .i64) (A.app .i64 (A.lst .i64 []) (A.fL .mono 1 .i64 (A.get .mono x1.1 x1.2.1))) fun x2=>
 A.l1 (.l .mono) (A.lst .mono [A.mkX .mono (A.fI .mono 0 (A.get .mono x1.1 x1.2.1),x2.1,())]) fun x3=>
 A.chk (A.cmp .leq (A.addN (A.len .mono x1.2.2.1) (A.len .mono x3.1)) (A.lit 1073741824))<|
 A.l1 (.l .mono) (A.app .mono x1.2.2.1 x3.1) fun x4=>
 A.l1 .i (A.arith .add .i64 x1.2.1 (A.lit 1)) fun x5=>
 A.inl _ (x1.1,x5.1,x4.1,()))<|
 A.inr _<|A.ret _ (x1.2.2.1,())) (x.1,x0.1,A.aR .mono,())
def QV (A:Alg) (fU:Pt A dL) (fV:Ft A dL) (x:Tup A.ah [.x .atom]):Ot A uw:=
 A.cl fU fV (A.fL .atom 2 .mono x.1,()) fun x0=>
 A.cl fU fV (A.fL .atom 3 .mono x.1,()) fun x1=>
 A.ret _ (A.fI .atom 0 x.1,A.fI .atom 1 x.1,x0.1,x1.1,())
def QW (A:Alg) (QX:Pt A uw) (QY:Ft A uw) (x:Tup A.ah [.x .tab]):Ot A Ep:=
 A.l1 .i (A.lit 0) fun x0=>
 A.iter [.i,.x .tab,.l .atom] (fun x1=>
 A.cond (A.cmp .lss x1.1 (A.len .atom (A.fL .tab 0 .atom x1.2.1))) (A.bd .atom (A.fL .tab 0 .atom x1.2.1) x1.1<|
 A.cl QX QY (A.get .atom (A.fL .tab 0 .atom x1.2.1) x1.1,()) fun x2=>
 A.l1 (.l .atom) (A.lst .atom [A.mkX .atom (x2.1,x2.2.1,x2.2.2.1,x2.2.2.2.1,())]) fun x3=>
 A.chk (A.cmp .leq (A.addN (A.len .atom x1.2.2.1) (A.len .atom x3.1)) (A.lit 1073741824))<|
 A.l1 (.l .atom) (A.app .atom x1.2.2.1 x3.1) fun x4=>
 A.l1 .i (A.arith .add .i64 x1.1 (A.lit 1)) fun x5=>
 A.inl _ (x5.1,x1.2.1,x4.1,()))<|
 A.inr _<|A.ret _ (x1.2.2.1,())) (x0.1,x.1,A.aR .atom,())
def QZ (A:Alg) (QN:Pt A um) (QO:Ft A um) (QS:Pt A uo) (QT:Ft A uo) (QX:Pt A uw) (QY:Ft A uw) (x:Tup A.ah [.x .atom,.l .atom]):Ot A mR:=
 A.l1 .i (A.lit 0) fun x0=>
 A.cl QN QO (x.1,A.len .atom x.2.1,()) fun x1=>
 A.cond (A.aA x1.1) (A.l1 .i (A.lit (-1)) fun x2=>
 A.ret _ (x2.1,x.2.1,()))<|
 A.l1 .i (A.lit 0) fun x2=>
 A.iter [.i,.l .atom,.x .atom] (fun x3=>
 A.cond (A.cmp .lss x3.1 (A.len .atom x3.2.1)) (A.bd .atom x3.2.1 x3.1<|
 A.bd .atom x3.2.1 x3.1<|
 A.cl QS QT (A.get .atom x3.2.1 x3.1,x3.2.2.1,()) fun x4=>
 A.cond x4.1 (A.l1 .i x3.1 fun x5=>
 A.inr _<|A.ret _ (x5.1,x3.2.1,()))<|
 A.l1 .i (A.arith .add .i64 x3.1 (A.lit 1)) fun x5=>
 A.inl _ (x5.1,x3.2.1,x3.2.2.1,()))<|
 A.inr _<|A.cond (A.cmp .eql (A.len .atom x3.2.1) (A.lit 200)) (A.l1 .i (A.lit (-1)) fun x4=>
 A.ret _ (x4.1,x3.2.1,()))<|
 A.cl QX QY (x3.2.2.1,()) fun x4=>
 A.l1 (.l .atom) (A.lst .atom [A.mkX .atom (x4.1,x4.2.1,x4.2.2.1,x4.2.2.2.1,())]) fun x5=>
 A.chk (A.cmp .leq (A.addN (A.len .atom x3.2.1) (A.len .atom x5.1)) (A.lit 1073741824))<|
 A.l1 (.l .atom) (A.app .atom x3.2.1 x5.1) fun x6=>
 A.l1 .i (A.arith .sub .i64 (A.len .atom x6.1) (A.lit 1)) fun x7=>
 A.ret _ (x7.1,x6.1,())) (x2.1,x.2.1,x.1,())
def Q0 (A:Alg) (x:Tup A.ah [.i,.l .poly]):Ot A Er:=
 A.cond (A.au (A.cmp .lss x.1 (A.lit 0)) (A.bl true) (A.cmp .geq x.1 (A.len .poly x.2.1))) (A.ret _ (A.mkX .poly (A.aR .mono,()),x.2.1,()))<|
 A.bd .poly x.2.1 x.1<|
 A.bd .poly x.2.1 x.1<|
 A.l1 (.x .poly) (A.get .poly x.2.1 x.1) fun x0=>
 A.ret _ (x0.1,x.2.1,())
def Q5 (A:Alg) (gy:Pt A fQ) (gB:Ft A fQ) (x:Tup A.ah [.i]):Ot A uz:=
 A.cl gy gB (x.1,A.lit 1,A.lit 65535,()) fun x0=>
 A.cond (A.aA x0.1) (A.ret _ (A.aR .mono,()))<|
 A.l1 (.l .mono) (A.lst .mono [A.mkX .mono (x.1,A.aR .i64,())]) fun x1=>
 A.ret _ (x1.1,())
def Q6 (A:Alg) (x:Tup A.ah [.i]):Ot A jZ:=
 A.l1 .i (A.lit 0) fun x0=>
 A.chk (A.cmp .neq (A.lit 65536) (A.lit 0))<|
 A.l1 .i (A.arith .rem .i64 x.1 (A.lit 65536)) fun x1=>
 A.bind [.i] (A.cond (A.cmp .lss x1.1 (A.lit 0)) (A.l1 .i (A.arith .add .i64 x1.1 (A.lit 65536)) fun x2=>
 A.ret _ (x2.1,()))<|
 A.ret _ (x1.1,())) fun x2=>
 A.l1 .i x2.1 fun x3=>
 A.ret _ (x3.1,())
def Q7 (A:Alg) (FD:Pt A mQ) (FH:Ft A mQ) (rD:Pt A jZ) (rE:Ft A jZ) (x:Tup A.ah [.l .mono,.x .mono]):Ot A uD:=
 A.l1 (.l .mono) (A.lst .mono []) fun x0=>
 A.l1 .b (A.bl false) fun x1=>
 A.l1 .i (A.lit 0) fun x2=>
 A.iter [.l .mono,.b,.i,.x .mono,.l .mono] (fun x3=>
 A.cond (A.cmp .lss x3.2.2.1 (A.len .mono x3.1)) (A.bd .mono x3.1 x3.2.2.1<|
 A.cl FD FH (A.fL .mono 1 .i64 x3.2.2.2.1,A.fL .mono 1 .i64 (A.get .mono x3.1 x3.2.2.1),()) fun x4=>
 A.l1 .i x4.1 fun x5=>
 A.bind [.l .mono,.b,.i,.i,.x .mono,.l .mono] (A.cond (A.au (A.aA x3.2.1) (A.cmp .lss x5.1 (A.lit 0)) (A.bl false)) (A.l1 (.l .mono) (A.lst .mono [x3.2.2.2.1]) fun x6=>
 A.chk (A.cmp .leq (A.addN (A.len .mono x3.q.1) (A.len .mono x6.1)) (A.lit 1073741824))<|
 A.l1 (.l .mono) (A.app .mono x3.q.1 x6.1) fun x7=>
 A.l1 .b (A.bl true) fun x8=>
 A.ret _ (x3.1,x8.1,x3.2.2.1,x5.1,x3.2.2.2.1,x7.1,()))<|
 A.ret _ (x3.1,x3.2.1,x3.2.2.1,x5.1,x3.2.2.2.1,x3.q.1,())) fun x6=>
 A.bind [.l .mono,.b,.i,.x .mono,.l .mono] (A.cond (A.cmp .eql x6.2.2.2.1 (A.lit 0)) (A.l1 .b (A.bl true) fun x7=>
 A.bd .mono x6.1 x6.2.2.1<|
 A.cl rD rE (A.arith .add .i64 (A.fI .mono 0 (A.get .mono x6.1 x6.2.2.1)) (A.fI .mono 0 x6.q.1),()) fun x8=>
 A.l1 .i x8.1 fun x9=>
 A.bind [.l .mono,.b,.i,.x .mono,.l .mono] (A.cond (A.cmp .gtr x9.1 (A.lit 0)) (A.bd .mono x6.1 x6.2.2.1<|
 A.l1 (.l .mono) (A.lst .mono [A.mkX .mono (x9.1,A.fL .mono 1 .i64 (A.get .mono x6.1 x6.2.2.1),())]) fun x10=>
 A.chk (A.cmp .leq (A.addN (A.len .mono x6.q.2.1) (A.len .mono x10.1)) (A.lit 1073741824))<|
 A.l1 (.l .mono) (A.app .mono x6.q.2.1 x10.1) fun x11=>
 A.ret _ (x6.1,x7.1,x6.2.2.1,x6.q.1,x11.1,()))<|
 A.ret _ (x6.1,x7.1,x6.2.2.1,x6.q.1,x6.q.2.1,())) fun x10=>
 A.ret _ (x10.1,x10.2.1,x10.2.2.1,x10.2.2.2.1,x10.q.1,()))<|
 A.bd .mono x6.1 x6.2.2.1<|
 A.l1 (.l .mono) (A.lst .mono [A.get .mono x6.1 x6.2.2.1]) fun x7=>
 A.chk (A.cmp .leq (A.addN (A.len .mono x6.q.2.1) (A.len .mono x7.1)) (A.lit 1073741824))<|
 A.l1 (.l .mono) (A.app .mono x6.q.2.1 x7.1) fun x8=>
 A.ret _ (x6.1,x6.2.1,x6.2.2.1,x6.q.1,x8.1,())) fun x7=>
 A.l1 .i (A.arith .add .i64 x7.2.2.1 (A.lit 1)) fun x8=>
 A.inl _ (x7.1,x7.2.1,x8.1,x7.2.2.2.1,x7.q.1,()))<|
 A.inr _<|A.bind [.l .mono] (A.cond (A.aA x3.2.1) (A.l1 (.l .mono) (A.lst .mono [x3.2.2.2.1]) fun x4=>
 A.chk (A.cmp .leq (A.addN (A.len .mono x3.q.1) (A.len .mono x4.1)) (A.lit 1073741824))<|
 A.l1 (.l .mono) (A.app .mono x3.q.1 x4.1) fun x5=>
 A.ret _ (x5.1,()))<|
 A.ret _ (x3.q.1,())) fun x4=>
 A.ret _ (x4.1,())) (x.1,x1.1,x2.1,x.2.1,x0.1,())
def Q8 (A:Alg) (fU:Pt A dL) (fV:Ft A dL) (x:Tup A.ah [.l .mono]):Ot A uE:=
 A.l1 .b (A.bl false) fun x0=>
 A.cond (A.cmp .gtr (A.len .mono x.1) (A.lit 12)) (A.l1 .b (A.bl false) fun x1=>
 A.ret _ (x1.1,A.aR .mono,()))<|
 A.l1 .i (A.lit 0) fun x1=>
 A.iter [.l .mono,.i] (fun x2=>
 A.cond (A.cmp .lss x2.2.1 (A.len .mono x2.1)) (A.bd .mono x2.1 x2.2.1<|
 A.cond (A.cmp .gtr (A.len .i64 (A.fL .mono 1 .i64 (A.get .mono x2.1 x2.2.1))) (A.lit 4)) (A.l1 .b (A.bl false) fun x3=>
 A.inr _<|A.ret _ (x3.1,A.aR .mono,()))<|
 A.l1 .i (A.arith .add .i64 x2.2.1 (A.lit 1)) fun x3=>
 A.inl _ (x2.1,x3.1,()))<|
 A.inr _<|A.cl fU fV (x2.1,()) fun x3=>
 A.l1 .b (A.bl true) fun x4=>
 A.ret _ (x4.1,x3.1,())) (x.1,x1.1,())
def Q9 (A:Alg) (jw:Pt A gW) (jy:Ft A gW) (Ra:Pt A uD) (Rb:Ft A uD) (Rc:Pt A uE) (Rf:Ft A uE) (x:Tup A.ah [.x .poly,.x .poly]):Ot A Es:=
 A.l1 .b (A.bl false) fun x0=>
 A.cl jw jy (x.1,()) fun x1=>
 A.cg (A.aA (A.aA x1.1)) jw jy (x.2.1,()) fun x2=>
 A.cond (A.au (A.aA x1.1) (A.bl true) (A.aA x2.1)) (A.l1 .b (A.bl false) fun x3=>
 A.ret _ (x3.1,A.aR .mono,()))<|
 A.l1 (.l .mono) (A.fL .poly 0 .mono x.1) fun x3=>
 A.l1 .i (A.lit 0) fun x4=>
 A.iter [.l .mono,.i,.x .poly] (fun x5=>
 A.cond (A.cmp .lss x5.2.1 (A.len .mono (A.fL .poly 0 .mono x5.2.2.1))) (A.bd .mono (A.fL .poly 0 .mono x5.2.2.1) x5.2.1<|
 A.cl Ra Rb (x5.1,A.get .mono (A.fL .poly 0 .mono x5.2.2.1) x5.2.1,()) fun x6=>
 A.l1 .i (A.arith .add .i64 x5.2.1 (A.lit 1)) fun x7=>
 A.inl _ (x6.1,x7.1,x5.2.2.1,()))<|
 A.inr _<|A.cl Rc Rf (x5.1,()) fun x6=>
 A.l1 .b x6.1 fun x7=>
 A.ret _ (x7.1,x6.2.1,())) (x3.1,x4.1,x.2.1,())
def Rh (A:Alg) (jw:Pt A gW) (jy:Ft A gW) (rD:Pt A jZ) (rE:Ft A jZ) (fU:Pt A dL) (fV:Ft A dL) (rA:Pt A jX) (rC:Ft A jX) (x:Tup A.ah [.x .poly,.i]):Ot A Eu:=
 A.cl jw jy (x.1,()) fun x0=>
 A.cg (A.aA (A.aA x0.1)) rA rC (x.2.1,()) fun x1=>
 A.cond (A.au (A.aA x0.1) (A.bl true) (A.aA x1.1)) (A.ret _ (A.aR .mono,()))<|
 A.l1 (.l .mono) (A.lst .mono []) fun x2=>
 A.l1 .i (A.lit 0) fun x3=>
 A.iter [.i,.i,.x .poly,.l .mono] (fun x4=>
 A.cond (A.cmp .lss x4.2.1 (A.len .mono (A.fL .poly 0 .mono x4.2.2.1))) (A.bd .mono (A.fL .poly 0 .mono x4.2.2.1) x4.2.1<|
 A.cl rD rE (A.arith .mul .i64 (A.fI .mono 0 (A.get .mono (A.fL .poly 0 .mono x4.2.2.1) x4.2.1)) x4.1,()) fun x5=>
 A.l1 .i x5.1 fun x6=>
 A.bind [.i,.i,.x .poly,.l .mono] (A.cond (A.cmp .gtr x6.1 (A.lit 0)) (A.bd .mono (A.fL .poly 0 .mono x4.2.2.1) x4.2.1<|
 A.l1 (.l .mono) (A.lst .mono [A.mkX .mono (x6.1,A.fL .mono 1 .i64 (A.get .mono (A.fL .poly 0 .mono x4.2.2.1) x4.2.1),())]) fun x7=>
 A.chk (A.cmp .leq (A.addN (A.len .mono x4.2.2.2.1) (A.len .mono x7.1)) (A.lit 1073741824))<|
 A.l1 (.l .mono) (A.app .mono x4.2.2.2.1 x7.1) fun x8=>
 A.ret _ (x4.1,x4.2.1,x4.2.2.1,x8.1,()))<|
 A.ret _ (x4.1,x4.2.1,x4.2.2.1,x4.2.2.2.1,())) fun x7=>
 A.l1 .i (A.arith .add .i64 x7.2.1 (A.lit 1)) fun x8=>
 A.inl _ (x7.1,x8.1,x7.2.2.1,x7.2.2.2.1,()))<|
 A.inr _<|A.cl fU fV (x4.2.2.2.1,()) fun x5=>
 A.ret _ (x5.1,())) (x.2.1,x3.1,x.1,x2.1,())
def Ri (A:Alg) (x:Tup A.ah [.l .i64,.l .i64]):Ot A Ew:=
 A.l1 (.l .i64) (A.lst .i64 []) fun x0=>
 A.l1 .i (A.lit 0) fun x1=>
 A.l1 .i (A.lit 0) fun x2=>
 A.iter [.l .i64,.l .i64,.i,.i,.l .i64] (fun x3=>
 A.cond (A.cmp .lss x3.2.2.2.1 (A.len .i64 x3.2.1)) (A.iter [.l .i64,.l .i64,.i,.i,.l .i64] (fun x4=>
 A.chk (A.orB (A.aA (A.cmp .lss x4.2.2.1 (A.len .i64 x4.1))) (A.cmp .leq (A.lit 0) x4.2.2.1))<|
 A.chk (A.orB (A.aA (A.cmp .lss x4.2.2.1 (A.len .i64 x4.1))) (A.cmp .lss x4.2.2.1 (A.len .i64 x4.1)))<|
 A.chk (A.orB (A.aA (A.cmp .lss x4.2.2.1 (A.len .i64 x4.1))) (A.cmp .leq (A.lit 0) x4.2.2.2.1))<|
 A.chk (A.orB (A.aA (A.cmp .lss x4.2.2.1 (A.len .i64 x4.1))) (A.cmp .lss x4.2.2.2.1 (A.len .i64 x4.2.1)))<|
 A.cond (A.au (A.cmp .lss x4.2.2.1 (A.len .i64 x4.1)) (A.cmp .leq (A.fI .i64 0 (A.get .i64 x4.1 x4.2.2.1)) (A.fI .i64 0 (A.get .i64 x4.2.1 x4.2.2.2.1))) (A.bl false)) (A.bd .i64 x4.1 x4.2.2.1<|
 A.l1 (.l .i64) (A.lst .i64 [A.mkX .i64 (A.fI .i64 0 (A.get .i64 x4.1 x4.2.2.1),())]) fun x5=>
 A.chk (A.cmp .leq (A.addN (A.len .i64 x4.q.1) (A.len .i64 x5.1)) (A.lit 1073741824))<|
 A.l1 (.l .i64) (A.app .i64 x4.q.1 x5.1) fun x6=>
 A.l1 .i (A.arith .add .i64 x4.2.2.1 (A.lit 1)) fun x7=>
 A.inl _ (x4.1,x4.2.1,x7.1,x4.2.2.2.1,x6.1,()))<|
 A.inr _<|A.bd .i64 x4.2.1 x4.2.2.2.1<|
 A.l1 (.l .i64) (A.lst .i64 [A.mkX .i64 (A.fI .i64 0 (A.get .i64 x4.2.1 x4.2.2.2.1),())]) fun x5=>
 A.chk (A.cmp .leq (A.addN (A.len .i64 x4.q.1) (A.len .i64 x5.1)) (A.lit 1073741824))<|
 A.l1 (.l .i64) (A.app .i64 x4.q.1 x5.1) fun x6=>
 A.l1 .i (A.arith .add .i64 x4.2.2.2.1 (A.lit 1)) fun x7=>
 A.inl _ (x4.1,x4.2.1,x4.2.2.1,x7.1,x6.1,())) (x3.1,x3.2.1,x3.2.2.1,x3.2.2.2.1,x3.q.1,()))<|
 A.inr _<|A.chk (A.cmp .leq (A.lit 0) x3.2.2.1)<|
 A.chk (A.cmp .leq x3.2.2.1 (A.len .i64 x3.1))<|
 A.chk (A.cmp .leq (A.len .i64 x3.1) (A.len .i64 x3.1))<|
 A.chk (A.cmp .leq (A.addN (A.len .i64 x3.q.1) (A.len .i64 (A.sub .i64 x3.1 x3.2.2.1 (A.len .i64 x3.1)))) (A.lit 1073741824))<|
 A.l1 (.l .i64) (A.app .i64 x3.q.1 (A.sub .i64 x3.1 x3.2.2.1 (A.len .i64 x3.1))) fun x4=>
 A.ret _ (x4.1,())) (x.1,x.2.1,x1.1,x2.1,x0.1,())
def Rj (A:Alg) (jw:Pt A gW) (jy:Ft A gW) (rD:Pt A jZ) (rE:Ft A jZ) (Ra:Pt A uD) (Rb:Ft A uD) (afg:Pt A Ew) (afh:Ft A Ew) (Rc:Pt A uE) (Rf:Ft A uE) (x:Tup A.ah [.x .poly,.x .poly]):Ot A Ey:=
 A.l1 .b (A.bl false) fun x0=>
 A.cl jw jy (x.1,()) fun x1=>
 A.cg (A.aA (A.aA x1.1)) jw jy (x.2.1,()) fun x2=>
 A.cond (A.au (A.aA x1.1) (A.bl true) (A.aA x2.1)) (A.l1 .b (A.bl false) fun x3=>
 A.ret _ (x3.1,A.aR .mono,()))<|
 A.l1 (.l .mono) (A.lst .mono []) fun x3=>
 A.l1 .i (A.lit 0) fun x4=>
 A.iter [.i,.x .poly,.x .poly,.l .mono] (fun x5=>
 A.cond (A.cmp .lss x5.1 (A.len .mono (A.fL .poly 0 .mono x5.2.1))) (A.l1 .i (A.lit 0) fun x6=>
 A.iter [.i,.i,.x .poly,.x .poly,.l .mono] (fun x7=>
 A.cond (A.cmp .lss x7.2.1 (A.len .mono (A.fL .poly 0 .mono x7.2.2.2.1))) (A.bd .mono (A.fL .poly 0 .mono x7.2.2.1) x7.1<|
 A.bd .mono (A.fL .poly 0 .mono x7.2.2.2.1) x7.2.1<|
 A.cl rD rE (A.arith .mul .i64 (A.fI .mono 0 (A.get .mono (A.fL .poly 0 .mono x7.2.2.1) x7.1)) (A.fI .mono 0 (A.get .mono (A.fL .poly 0 .mono x7.2.2.2.1) x7.2.1)),()) fun x8=>
 A.l1 .i x8.1 fun x9=>
 A.bind [.i,.i,.x .poly,.x .poly,.l .mono] (A.cond (A.cmp .gtr x9.1 (A.lit 0)) (A.bd .mono (A.fL .poly 0 .mono x7.2.2.1) x7.1<|
 A.bd .mono (A.fL .poly 0 .mono x7.2.2.2.1) x7.2.1<|
 A.cl afg afh (A.fL .mono 1 .i64 (A.get .mono (A.fL .poly 0 .mono x7.2.2.1) x7.1),A.fL .mono 1 .i64 (A.get .mono (A.fL .poly 0 .mono x7.2.2.2.1) x7.2.1),()) fun x10=>
 A.cl Ra Rb (x7.q.1,A.mkX .mono (x9.1,x10.1,()),()) fun x11=>
 A.ret _ (x7.1,x7.2.1,x7.2.2.1,x7.2.2.2.1,x11.1,()))<|
 A.ret _ (x7.1,x7.2.1,x7.2.2.1,x7.2.2.2.1,x7.q.1,())) fun x10=>
 A.l1 .i (A.arith .add .i64 x10.2.1 (A.lit 1)) fun x11=>
 A.inl _ (x10.1,x11.1,x10.2.2.1,x10.2.2.2.1,x10.q.1,()))<|
 A.inr _<|A.l1 .i (A.arith .add .i64 x7.1 (A.lit 1)) fun x8=>
 A.inl _ (x8.1,x7.2.2.1,x7.2.2.2.1,x7.q.1,())) (x5.1,x6.1,x5.2.1,x5.2.2.1,x5.2.2.2.1,()))<|
 A.inr _<|A.cl Rc Rf (x5.2.2.2.1,()) fun x6=>
 A.l1 .b x6.1 fun x7=>
 A.ret _ (x7.1,x6.2.1,())) (x4.1,x.1,x.2.1,x3.1,())
def Rk (A:Alg) (afi:Pt A Ey) (afj:Ft A Ey) (XO:Pt A Es) (XP:Ft A Es) (afk:Pt A Eu) (afl:Ft A Eu) (x:Tup A.ah [.i,.x .poly,.x .poly]):Ot A Ez:=
 A.l1 .b (A.bl false) fun x0=>
 A.l1 .b (A.cmp .eql x.1 (A.lit 1)) fun x1=>
 A.cond x1.1 (A.cl XO XP (x.2.1,x.2.2.1,()) fun x2=>
 A.l1 .b x2.1 fun x3=>
 A.ret _ (x3.1,x2.2.1,()))<|
 A.l1 .b (A.cmp .eql x.1 (A.lit 2)) fun x2=>
 A.cond x2.1 (A.cl afk afl (x.2.2.1,A.lit 65535,()) fun x3=>
 A.cl XO XP (x.2.1,A.mkX .poly (x3.1,()),()) fun x4=>
 A.l1 .b x4.1 fun x5=>
 A.ret _ (x5.1,x4.2.1,()))<|
 A.l1 .b (A.cmp .eql x.1 (A.lit 3)) fun x3=>
 A.cond x3.1 (A.cl afi afj (x.2.1,x.2.2.1,()) fun x4=>
 A.l1 .b x4.1 fun x5=>
 A.ret _ (x5.1,x4.2.1,()))<|
 A.l1 .b (A.bl false) fun x4=>
 A.ret _ (x4.1,A.aR .mono,())
def Rl (A:Alg) (jw:Pt A gW) (jy:Ft A gW) (x:Tup A.ah [.x .poly]):Ot A mU:=
 A.l1 .i (A.lit 0) fun x0=>
 A.l1 .b (A.bl false) fun x1=>
 A.cl jw jy (x.1,()) fun x2=>
 A.cond (A.aA x2.1) (A.l1 .i (A.lit 0) fun x3=>
 A.l1 .b (A.bl false) fun x4=>
 A.ret _ (x3.1,x4.1,()))<|
 A.cond (A.cmp .eql (A.len .mono (A.fL .poly 0 .mono x.1)) (A.lit 0)) (A.l1 .i (A.lit 0) fun x3=>
 A.l1 .b (A.bl true) fun x4=>
 A.ret _ (x3.1,x4.1,()))<|
 A.chk (A.orB (A.aA (A.aA (A.cmp .gtr (A.len .mono (A.fL .poly 0 .mono x.1)) (A.lit 1)))) (A.cmp .leq (A.lit 0) (A.lit 0)))<|
 A.chk (A.orB (A.aA (A.aA (A.cmp .gtr (A.len .mono (A.fL .poly 0 .mono x.1)) (A.lit 1)))) (A.cmp .lss (A.lit 0) (A.len .mono (A.fL .poly 0 .mono x.1))))<|
 A.cond (A.au (A.cmp .gtr (A.len .mono (A.fL .poly 0 .mono x.1)) (A.lit 1)) (A.bl true) (A.cmp .gtr (A.len .i64 (A.fL .mono 1 .i64 (A.get .mono (A.fL .poly 0 .mono x.1) (A.lit 0)))) (A.lit 0))) (A.l1 .i (A.lit 0) fun x3=>
 A.l1 .b (A.bl false) fun x4=>
 A.ret _ (x3.1,x4.1,()))<|
 A.bd .mono (A.fL .poly 0 .mono x.1) (A.lit 0)<|
 A.l1 .i (A.fI .mono 0 (A.get .mono (A.fL .poly 0 .mono x.1) (A.lit 0))) fun x3=>
 A.l1 .b (A.bl true) fun x4=>
 A.ret _ (x3.1,x4.1,())
def Rm (A:Alg) (rD:Pt A jZ) (rE:Ft A jZ) (rA:Pt A jX) (rC:Ft A jX) (x:Tup A.ah [.i,.i,.i]):Ot A EA:=
 A.l1 .i (A.lit 0) fun x0=>
 A.cl rA rC (x.2.1,()) fun x1=>
 A.cg (A.aA (A.aA x1.1)) rA rC (x.2.2.1,()) fun x2=>
 A.cond (A.au (A.aA x1.1) (A.bl true) (A.aA x2.1)) (A.l1 .i (A.lit 0) fun x3=>
 A.ret _ (x3.1,()))<|
 A.l1 .b (A.cmp .eql x.1 (A.lit 1)) fun x3=>
 A.cond x3.1 (A.cl rD rE (A.arith .add .i64 x.2.1 x.2.2.1,()) fun x4=>
 A.l1 .i x4.1 fun x5=>
 A.ret _ (x5.1,()))<|
 A.l1 .b (A.cmp .eql x.1 (A.lit 2)) fun x4=>
 A.cond x4.1 (A.cl rD rE (A.arith .sub .i64 x.2.1 x.2.2.1,()) fun x5=>
 A.l1 .i x5.1 fun x6=>
 A.ret _ (x6.1,()))<|
 A.l1 .b (A.cmp .eql x.1 (A.lit 3)) fun x5=>
 A.cond x5.1 (A.cl rD rE (A.arith .mul .i64 x.2.1 x.2.2.1,()) fun x6=>
 A.l1 .i x6.1 fun x7=>
 A.ret _ (x7.1,()))<|
 A.l1 .b (A.cmp .eql x.1 (A.lit 4)) fun x6=>
 A.cond x6.1 (A.l1 .i (A.arith .and .i64 x.2.1 x.2.2.1) fun x7=>
 A.ret _ (x7.1,()))<|
 A.l1 .b (A.cmp .eql x.1 (A.lit 5)) fun x7=>
 A.cond x7.1 (A.l1 .i (A.arith .xor .i64 x.2.1 x.2.2.1) fun x8=>
 A.ret _ (x8.1,()))<|
 A.l1 .i (A.lit 0) fun x8=>
 A.ret _ (x8.1,())
def Rn (A:Alg) (fU:Pt A dL) (fV:Ft A dL) (x:Tup A.ah [.i,.i,.x .poly]):Ot A EB:=
 A.l1 .b (A.bl false) fun x0=>
 A.cond (A.au (A.cmp .eql x.1 (A.lit 4)) (A.cmp .eql x.2.1 (A.lit 0)) (A.bl false)) (A.l1 .b (A.bl true) fun x1=>
 A.ret _ (x1.1,A.aR .mono,()))<|
 A.cond (A.au (A.au (A.cmp .eql x.1 (A.lit 4)) (A.cmp .eql x.2.1 (A.lit 65535)) (A.bl false)) (A.bl true) (A.au (A.cmp .eql x.1 (A.lit 5)) (A.cmp .eql x.2.1 (A.lit 0)) (A.bl false))) (A.cl fU fV (A.fL .poly 0 .mono x.2.2.1,()) fun x1=>
 A.l1 .b (A.bl true) fun x2=>
 A.ret _ (x2.1,x1.1,()))<|
 A.l1 .b (A.bl false) fun x1=>
 A.ret _ (x1.1,A.aR .mono,())
def Ro (A:Alg) (iT:Pt A fT) (iU:Ft A fT) (fU:Pt A dL) (fV:Ft A dL) (afm:Pt A EA) (afn:Ft A EA) (Rp:Pt A uz) (Rq:Ft A uz) (yw:Pt A mU) (yx:Ft A mU) (XQ:Pt A EB) (XR:Ft A EB) (x:Tup A.ah [.i,.x .poly,.x .poly]):Ot A EC:=
 A.l1 .b (A.bl false) fun x0=>
 A.cl yw yx (x.2.1,()) fun x1=>
 A.l1 .i x1.1 fun x2=>
 A.l1 .b x1.2.1 fun x3=>
 A.cl yw yx (x.2.2.1,()) fun x4=>
 A.l1 .i x4.1 fun x5=>
 A.l1 .b x4.2.1 fun x6=>
 A.cond (A.au x3.1 x6.1 (A.bl false)) (A.cl afm afn (x.1,x2.1,x5.1,()) fun x7=>
 A.cl Rp Rq (x7.1,()) fun x8=>
 A.l1 .b (A.bl true) fun x9=>
 A.ret _ (x9.1,x8.1,()))<|
 A.cl iT iU (x.2.1,x.2.2.1,()) fun x7=>
 A.cond (A.cmp .eql x7.1 (A.lit 0)) (A.cond (A.cmp .eql x.1 (A.lit 4)) (A.cl fU fV (A.fL .poly 0 .mono x.2.1,()) fun x8=>
 A.l1 .b (A.bl true) fun x9=>
 A.ret _ (x9.1,x8.1,()))<|
 A.l1 .b (A.bl true) fun x8=>
 A.ret _ (x8.1,A.aR .mono,()))<|
 A.cond x3.1 (A.cl XQ XR (x.1,x2.1,x.2.2.1,()) fun x8=>
 A.l1 .b x8.1 fun x9=>
 A.ret _ (x9.1,x8.2.1,()))<|
 A.cond x6.1 (A.cl XQ XR (x.1,x5.1,x.2.1,()) fun x8=>
 A.l1 .b x8.1 fun x9=>
 A.ret _ (x9.1,x8.2.1,()))<|
 A.l1 .b (A.bl false) fun x8=>
 A.ret _ (x8.1,A.aR .mono,())
def Rs (A:Alg) (yj:Pt A jY) (yu:Ft A jY) (iT:Pt A fT) (iU:Ft A fT) (afo:Pt A Ez) (afp:Ft A Ez) (afq:Pt A EC) (afr:Ft A EC) (FJ:Pt A mR) (FK:Ft A mR) (x:Tup A.ah [.i,.x .poly,.x .poly,.l .atom]):Ot A ED:=
 A.cl afo afp (x.1,x.2.1,x.2.2.1,()) fun x0=>
 A.l1 .b x0.1 fun x1=>
 A.bind [.i,.b,.l .atom,.x .poly,.x .poly,.l .mono] (A.cond (A.au (A.cmp .eql x.1 (A.lit 4)) (A.bl true) (A.cmp .eql x.1 (A.lit 5))) (A.cl afq afr (x.1,x.2.1,x.2.2.1,()) fun x2=>
 A.l1 .b x2.1 fun x3=>
 A.ret _ (x.1,x3.1,x.2.2.2.1,x.2.1,x.2.2.1,x2.2.1,()))<|
 A.ret _ (x.1,x1.1,x.2.2.2.1,x.2.1,x.2.2.1,x0.2.1,())) fun x2=>
 A.cond x2.2.1 (A.ret _ (x2.2.2.1,x2.q.2.1,()))<|
 A.cg (A.cmp .neq x2.1 (A.lit 2)) iT iU (x2.2.2.2.1,x2.q.1,()) fun x3=>
 A.bind [.l .atom,.i,.i,.l .mono,.l .mono] (A.cond (A.au (A.cmp .neq x2.1 (A.lit 2)) (A.cmp .gtr x3.1 (A.lit 0)) (A.bl false)) (A.ret _ (x2.2.2.1,A.lit 4,x2.1,A.fL .poly 0 .mono x2.q.1,A.fL .poly 0 .mono x2.2.2.2.1,()))<|
 A.ret _ (x2.2.2.1,A.lit 4,x2.1,A.fL .poly 0 .mono x2.2.2.2.1,A.fL .poly 0 .mono x2.q.1,())) fun x4=>
 A.cl FJ FK (A.mkX .atom (x4.2.1,x4.2.2.1,x4.2.2.2.1,x4.q.1,()),x4.1,()) fun x5=>
 A.l1 .i x5.1 fun x6=>
 A.cond (A.cmp .lss x6.1 (A.lit 0)) (A.ret _ (A.aR .atom,A.aR .mono,()))<|
 A.cl yj yu (x6.1,()) fun x7=>
 A.ret _ (x5.2.1,x7.1,())
def Rt (A:Alg) (x:Tup A.ah [.l .ev,.i]):Ot A EF:=
 A.l1 .i (A.lit 0) fun x0=>
 A.l1 .i (A.lit 0) fun x1=>
 A.l1 .i (A.lit 0) fun x2=>
 A.iter [.l .ev,.i,.i,.i] (fun x3=>
 A.cond (A.cmp .lss x3.2.2.2.1 (A.len .ev x3.1)) (A.bd .ev x3.1 x3.2.2.2.1<|
 A.bind [.l .ev,.i,.i,.i] (A.cond (A.cmp .eql (A.fI .ev 0 (A.get .ev x3.1 x3.2.2.2.1)) x3.2.1) (A.l1 .i (A.arith .add .i64 x3.2.2.1 (A.lit 1)) fun x4=>
 A.ret _ (x3.1,x3.2.1,x4.1,x3.2.2.2.1,()))<|
 A.ret _ (x3.1,x3.2.1,x3.2.2.1,x3.2.2.2.1,())) fun x4=>
 A.l1 .i (A.arith .add .i64 x4.2.2.2.1 (A.lit 1)) fun x5=>
 A.inl _ (x4.1,x4.2.1,x4.2.2.1,x5.1,()))<|
 A.inr _<|A.l1 .i x3.2.2.1 fun x4=>
 A.ret _ (x4.1,())) (x.1,x.2.1,x1.1,x2.1,())
def Rv (A:Alg) (yj:Pt A jY) (yu:Ft A jY) (FJ:Pt A mR) (FK:Ft A mR) (afs:Pt A EF) (aft:Ft A EF) (x:Tup A.ah [.l .ev,.i,.l .atom]):Ot A EG:=
 A.cl afs aft (x.1,x.2.1,()) fun x0=>
 A.bind [.l .atom,.i,.i] (A.cond (A.cmp .eql x.2.1 (A.lit 6)) (A.l1 .i (A.lit 3) fun x1=>
 A.ret _ (x.2.2.1,x1.1,x0.1,()))<|
 A.ret _ (x.2.2.1,A.lit 2,x0.1,())) fun x1=>
 A.cl FJ FK (A.mkX .atom (x1.2.1,x1.2.2.1,A.aR .mono,A.aR .mono,()),x1.1,()) fun x2=>
 A.l1 .i x2.1 fun x3=>
 A.cl yj yu (x3.1,()) fun x4=>
 A.ret _ (x2.2.1,x4.1,())
def Rw (A:Alg) (fU:Pt A dL) (fV:Ft A dL) (x:Tup A.ah [.l .poly]):Ot A mV:=
 A.l1 (.l .poly) (A.lst .poly []) fun x0=>
 A.l1 .i (A.lit 0) fun x1=>
 A.iter [.l .poly,.i,.l .poly] (fun x2=>
 A.cond (A.cmp .lss x2.2.1 (A.len .poly x2.1)) (A.bd .poly x2.1 x2.2.1<|
 A.cl fU fV (A.fL .poly 0 .mono (A.get .poly x2.1 x2.2.1),()) fun x3=>
 A.l1 (.l .poly) (A.lst .poly [A.mkX .poly (x3.1,())]) fun x4=>
 A.chk (A.cmp .leq (A.addN (A.len .poly x2.2.2.1) (A.len .poly x4.1)) (A.lit 1073741824))<|
 A.l1 (.l .poly) (A.app .poly x2.2.2.1 x4.1) fun x5=>
 A.l1 .i (A.arith .add .i64 x2.2.1 (A.lit 1)) fun x6=>
 A.inl _ (x2.1,x6.1,x5.1,()))<|
 A.inr _<|A.ret _ (x2.2.2.1,())) (x.1,x1.1,x0.1,())
def Rx (A:Alg) (fU:Pt A dL) (fV:Ft A dL) (Ao:Pt A mV) (Ap:Ft A mV) (x:Tup A.ah [.x .iop,.x .poly,.x .poly,.l .poly]):Ot A EH:=
 A.bind [.l .poly,.x .iop,.x .poly,.i,.i,.i,.i,.l .mono] (A.cond (A.cmp .neq (A.fI .iop 0 x.1) (A.lit 6)) (A.cl fU fV (A.fL .poly 0 .mono x.2.1,()) fun x0=>
 A.ret _ (x.2.2.2.1,x.1,x.2.2.1,A.lit 0,A.lit 0,A.fI .iop 0 x.1,A.fI .iop 4 x.1,x0.1,()))<|
 A.ret _ (x.2.2.2.1,x.1,x.2.2.1,A.lit 0,A.lit 0,A.fI .iop 0 x.1,A.fI .iop 4 x.1,A.aR .mono,())) fun x0=>
 A.bind [.l .poly,.x .iop,.i,.i,.i,.i,.l .mono,.l .mono] (A.cond (A.cmp .eql (A.fI .iop 0 x0.2.1) (A.lit 5)) (A.cl fU fV (A.fL .poly 0 .mono x0.2.2.1,()) fun x1=>
 A.ret _ (x0.1,x0.2.1,x0.2.2.2.1,x0.q.1,x0.q.2.1,x0.q.2.2.1,x0.q.2.2.2.1,x1.1,()))<|
 A.ret _ (x0.1,x0.2.1,x0.2.2.2.1,x0.q.1,x0.q.2.1,x0.q.2.2.1,x0.q.2.2.2.1,A.aR .mono,())) fun x1=>
 A.bind [.i,.i,.i,.i,.l .mono,.l .mono,.l .poly] (A.cond (A.au (A.cmp .eql (A.fI .iop 0 x1.2.1) (A.lit 4)) (A.bl true) (A.cmp .eql (A.fI .iop 0 x1.2.1) (A.lit 5))) (A.cl Ao Ap (x1.1,()) fun x2=>
 A.ret _ (x1.2.2.1,x1.2.2.2.1,x1.q.1,x1.q.2.1,x1.q.2.2.1,x1.q.2.2.2.1,x2.1,()))<|
 A.ret _ (x1.2.2.1,x1.2.2.2.1,x1.q.1,x1.q.2.1,x1.q.2.2.1,x1.q.2.2.2.1,A.aR .poly,())) fun x2=>
 A.ret _ (x2.2.2.1,x2.2.2.2.1,x2.q.1,x2.q.2.1,x2.q.2.2.1,())
def Ry (A:Alg) (x:Tup A.ah [.x .blk]):Ot A EI:=
 A.l1 .i (A.lit 0) fun x0=>
 A.cond (A.cmp .eql (A.fI .blk 3 x.1) (A.lit 1)) (A.l1 .i (A.lit (-1)) fun x1=>
 A.ret _ (x1.1,()))<|
 A.l1 .i (A.fI .blk 4 x.1) fun x1=>
 A.ret _ (x1.1,())
def Rz (A:Alg) (x:Tup A.ah [.x .blk]):Ot A EJ:=
 A.l1 .i (A.lit 0) fun x0=>
 A.cond (A.au (A.cmp .eql (A.fI .blk 3 x.1) (A.lit 1)) (A.bl true) (A.cmp .eql (A.fI .blk 3 x.1) (A.lit 2))) (A.l1 .i (A.lit (-1)) fun x1=>
 A.ret _ (x1.1,()))<|
 A.l1 .i (A.fI .blk 5 x.1) fun x1=>
 A.ret _ (x1.1,())
def RA (A:Alg) (x:Tup A.ah [.x .sym,.i]):Ot A uF:=
 A.l1 .i (A.lit 1) fun x0=>
 A.l1 .i x.2.1 fun x1=>
 A.ret _ (A.fL .sym 0 .ev x.1,A.fL .sym 1 .poly x.1,x0.1,x1.1,())
def RD (A:Alg) (yw:Pt A mU) (yx:Ft A mU) (iT:Pt A fT) (iU:Ft A fT) (JR:Pt A uF) (JU:Ft A uF) (x:Tup A.ah [.x .sym,.i]):Ot A EK:=
 A.cl yw yx (A.mkX .poly (A.fL .sym 3 .mono x.1,()),()) fun x0=>
 A.l1 .i x0.1 fun x1=>
 A.l1 .b x0.2.1 fun x2=>
 A.cl yw yx (A.mkX .poly (A.fL .sym 4 .mono x.1,()),()) fun x3=>
 A.l1 .i x3.1 fun x4=>
 A.l1 .b x3.2.1 fun x5=>
 A.cl iT iU (A.mkX .poly (A.fL .sym 3 .mono x.1,()),A.mkX .poly (A.fL .sym 4 .mono x.1,()),()) fun x6=>
 A.l1 .b (A.cmp .eql x6.1 (A.lit 0)) fun x7=>
 A.l1 .b (A.au x7.1 (A.cmp .eql (A.fI .sym 2 x.1) (A.lit 3)) (A.bl false)) fun x8=>
 A.bind [.i,.b,.b,.b,.b,.x .sym,.i,.i] (A.cond x8.1 (A.ret _ (x.2.1,x2.1,x5.1,x7.1,x8.1,x.1,A.lit 0,A.lit 0,()))<|
 A.l1 .b (A.au (A.au (A.au x2.1 x5.1 (A.bl false)) (A.cmp .eql (A.fI .sym 2 x.1) (A.lit 4)) (A.bl false)) (A.cmp .lss x1.1 x4.1) (A.bl false)) fun x9=>
 A.ret _ (x.2.1,x2.1,x5.1,x7.1,x9.1,x.1,A.lit 0,A.lit 0,())) fun x9=>
 A.cond x9.q.1 (A.cl JR JU (x9.q.2.1,A.fI .sym 5 x9.q.2.1,()) fun x10=>
 A.ret _ (A.mkX .sym (x10.1,x10.2.1,x10.2.2.1,A.aR .mono,A.aR .mono,x10.2.2.2.1,()),()))<|
 A.l1 .b x9.2.2.2.1 fun x10=>
 A.bind [.i,.b,.x .sym,.i,.i] (A.cond x10.1 (A.ret _ (x9.1,x10.1,x9.q.2.1,x9.q.2.2.1,x9.q.2.2.2.1,()))<|
 A.l1 .b (A.au x9.2.1 x9.2.2.1 (A.bl false)) fun x11=>
 A.ret _ (x9.1,x11.1,x9.q.2.1,x9.q.2.2.1,x9.q.2.2.2.1,())) fun x11=>
 A.cond x11.2.1 (A.cl JR JU (x11.2.2.1,x11.1,()) fun x12=>
 A.ret _ (A.mkX .sym (x12.1,x12.2.1,x12.2.2.1,A.aR .mono,A.aR .mono,x12.2.2.2.1,()),()))<|
 A.cg (A.cmp .eql (A.fI .sym 2 x11.2.2.1) (A.lit 3)) iT iU (A.mkX .poly (A.fL .sym 3 .mono x11.2.2.1,()),A.mkX .poly (A.fL .sym 4 .mono x11.2.2.1,()),()) fun x12=>
 A.bind [.x .sym,.i,.i] (A.cond (A.au (A.cmp .eql (A.fI .sym 2 x11.2.2.1) (A.lit 3)) (A.cmp .gtr x12.1 (A.lit 0)) (A.bl false)) (A.ret _ (A.mkX .sym (A.fL .sym 0 .ev x11.2.2.1,A.fL .sym 1 .poly x11.2.2.1,A.fI .sym 2 x11.2.2.1,A.fL .sym 4 .mono x11.2.2.1,A.fL .sym 3 .mono x11.2.2.1,A.fI .sym 5 x11.2.2.1,()),x11.2.2.2.1,x11.q.1,()))<|
 A.ret _ (x11.2.2.1,x11.2.2.2.1,x11.q.1,())) fun x13=>
 A.l1 (.x .sym) x13.1 fun x14=>
 A.ret _ (x14.1,())
def RF (A:Alg) (yw:Pt A mU) (yx:Ft A mU) (jw:Pt A gW) (jy:Ft A gW) (fU:Pt A dL) (fV:Ft A dL) (JR:Pt A uF) (JU:Ft A uF) (afu:Pt A EK) (afv:Ft A EK) (Ao:Pt A mV) (Ap:Ft A mV) (x:Tup A.ah [.x .sym,.i]):Ot A EL:=
 A.cl jw jy (A.mkX .poly (A.fL .sym 3 .mono x.1,()),()) fun x0=>
 A.cg (A.aA (A.aA x0.1)) jw jy (A.mkX .poly (A.fL .sym 4 .mono x.1,()),()) fun x1=>
 A.cond (A.au (A.aA x0.1) (A.bl true) (A.aA x1.1)) (A.ret _ (A.mkX .sym (A.aR .ev,A.aR .poly,A.lit 0,A.aR .mono,A.aR .mono,A.lit 0,()),()))<|
 A.l1 (.x .sym) x.1 fun x2=>
 A.l1 (.l .ev) (A.lst .ev []) fun x3=>
 A.l1 .i (A.lit 0) fun x4=>
 A.iter [.i,.i,.x .sym,.i,.i,.l .poly,.i,.l .mono,.l .mono,.i,.l .ev] (fun x5=>
 A.cond (A.cmp .lss x5.2.1 (A.len .ev (A.fL .sym 0 .ev x5.2.2.1))) (A.bd .ev (A.fL .sym 0 .ev x5.2.2.1) x5.2.1<|
 A.l1 (.x .ev) (A.get .ev (A.fL .sym 0 .ev x5.2.2.1) x5.2.1) fun x6=>
 A.cl fU fV (A.fL .ev 2 .mono x6.1,()) fun x7=>
 A.cl fU fV (A.fL .ev 3 .mono x6.1,()) fun x8=>
 A.cl Ao Ap (A.fL .ev 4 .poly x6.1,()) fun x9=>
 A.l1 (.l .ev) (A.lst .ev [A.mkX .ev (A.fI .ev 0 x6.1,A.fI .ev 1 x6.1,x7.1,x8.1,x9.1,())]) fun x10=>
 A.chk (A.cmp .leq (A.addN (A.len .ev x5.o.2.2.1) (A.len .ev x10.1)) (A.lit 1073741824))<|
 A.l1 (.l .ev) (A.app .ev x5.o.2.2.1 x10.1) fun x11=>
 A.l1 .i (A.arith .add .i64 x5.2.1 (A.lit 1)) fun x12=>
 A.inl _ (x5.1,x12.1,x5.2.2.1,x5.2.2.2.1,x5.q.1,x5.q.2.1,x5.q.2.2.1,x5.q.2.2.2.1,x5.o.1,x5.o.2.1,x11.1,()))<|
 A.inr _<|A.cl Ao Ap (A.fL .sym 1 .poly x5.2.2.1,()) fun x6=>
 A.cl fU fV (A.fL .sym 3 .mono x5.2.2.1,()) fun x7=>
 A.cl fU fV (A.fL .sym 4 .mono x5.2.2.1,()) fun x8=>
 A.l1 .b (A.cmp .eql (A.fI .sym 2 x5.2.2.1) (A.lit 2)) fun x9=>
 A.rW [.i,.i,.i,.i,.l .ev,.l .poly,.l .mono,.l .mono] (A.cond x9.1 (A.cl yw yx (A.mkX .poly (A.fL .sym 3 .mono x5.2.2.1,()),()) fun x10=>
 A.l1 .i x10.1 fun x11=>
 A.l1 .b x10.2.1 fun x12=>
 A.cond x12.1 (A.cl JR JU (A.mkX .sym (x5.o.2.2.1,x6.1,x5.q.2.2.1,x7.1,x8.1,x5.o.2.1,()),x11.1,()) fun x13=>
 A.inr _<|A.ret _ (A.mkX .sym (x13.1,x13.2.1,x13.2.2.1,A.aR .mono,A.aR .mono,x13.2.2.2.1,()),()))<|
 A.inl _ (x5.2.2.2.1,x5.q.1,x5.q.2.2.1,x5.o.2.1,x5.o.2.2.1,x6.1,x7.1,x8.1,()))<|
 A.l1 .b (A.cmp .eql (A.fI .sym 2 x5.2.2.1) (A.lit 3)) fun x10=>
 A.bind [.i,.b,.i,.i,.i,.i,.l .ev,.l .poly,.l .mono,.l .mono] (A.cond x10.1 (A.ret _ (x5.1,x10.1,x5.2.2.2.1,x5.q.1,x5.q.2.2.1,x5.o.2.1,x5.o.2.2.1,x6.1,x7.1,x8.1,()))<|
 A.l1 .b (A.cmp .eql (A.fI .sym 2 x5.2.2.1) (A.lit 4)) fun x11=>
 A.ret _ (x5.1,x11.1,x5.2.2.2.1,x5.q.1,x5.q.2.2.1,x5.o.2.1,x5.o.2.2.1,x6.1,x7.1,x8.1,())) fun x11=>
 A.cond x11.2.1 (A.cl afu afv (A.mkX .sym (x11.q.2.2.1,x11.q.2.2.2.1,x11.q.1,x11.o.1,x11.o.2.1,x11.q.2.1,()),x11.1,()) fun x12=>
 A.l1 (.x .sym) x12.1 fun x13=>
 A.inr _<|A.ret _ (x13.1,()))<|
 A.inl _ (x11.2.2.1,x11.2.2.2.1,x11.q.1,x11.q.2.1,x11.q.2.2.1,x11.q.2.2.2.1,x11.o.1,x11.o.2.1,())) fun x10=>
 A.ret _ (A.mkX .sym (x10.q.1,x10.q.2.1,x10.2.2.1,x10.q.2.2.1,x10.q.2.2.2.1,x10.2.2.2.1,()),())) (x.2.1,x4.1,x.1,A.lit 0,A.lit 0,A.fL .sym 1 .poly x2.1,A.fI .sym 2 x2.1,A.fL .sym 3 .mono x2.1,A.fL .sym 4 .mono x2.1,A.fI .sym 5 x2.1,x3.1,())
def RG (A:Alg) (JV:Pt A uh) (JW:Ft A uh) (yj:Pt A jY) (yu:Ft A jY) (Rp:Pt A uz) (Rq:Ft A uz) (afw:Pt A EL) (afx:Ft A EL) (RH:Pt A uj) (RJ:Ft A uj) (afy:Pt A Eo) (afz:Ft A Eo) (fU:Pt A dL) (fV:Ft A dL) (afA:Pt A Ep) (afB:Ft A Ep) (afC:Pt A ED) (afD:Ft A ED) (FJ:Pt A mR) (FK:Ft A mR) (afE:Pt A EG) (afF:Ft A EG) (afG:Pt A EH) (afH:Ft A EH) (JX:Pt A Er) (JY:Ft A Er) (Ao:Pt A mV) (Ap:Ft A mV) (afI:Pt A EI) (afJ:Ft A EI) (afK:Pt A EJ) (afL:Ft A EJ) (x:Tup A.ah [.x .tab,.x .blk]):Ot A EM:=
 A.cl afy afz (x.1,()) fun x0=>
 A.cg (A.aA (A.aA x0.1)) JV JW (x.2.1,()) fun x1=>
 A.cond (A.au (A.au (A.aA x0.1) (A.bl true) (A.aA x1.1)) (A.bl true) (A.cmp .gtr (A.len .atom (A.fL .tab 0 .atom x.1)) (A.lit 100))) (A.ret _ (A.mkX .tab (A.aR .atom,()),A.mkX .sym (A.aR .ev,A.aR .poly,A.lit 0,A.aR .mono,A.aR .mono,A.lit 0,()),()))<|
 A.cl afA afB (x.1,()) fun x2=>
 A.cl RH RJ () fun x3=>
 A.l1 .i (A.lit 0) fun x4=>
 A.iter [.i,.x .blk,.i,.i,.i,.i,.l .poly,.l .atom] (fun x5=>
 A.cond (A.cmp .lss x5.1 (A.lit 4)) (A.cl FJ FK (A.mkX .atom (A.lit 1,x5.1,A.aR .mono,A.aR .mono,()),x5.q.2.2.2.1,()) fun x6=>
 A.l1 .i x6.1 fun x7=>
 A.cl yj yu (x7.1,()) fun x8=>
 A.bd .poly x5.q.2.2.1 x5.1<|
 A.bd .poly x5.q.2.2.1 x5.1<|
 A.l1 .i (A.arith .add .i64 x5.1 (A.lit 1)) fun x9=>
 A.inl _ (x9.1,x5.2.1,x5.2.2.1,x5.2.2.2.1,x5.q.1,x5.q.2.1,A.set .poly x5.q.2.2.1 x5.1 (A.mkX .poly (x8.1,())),x6.2.1,()))<|
 A.inr _<|A.l1 (.l .poly) (A.lst .poly []) fun x6=>
 A.l1 .i (A.lit 0) fun x7=>
 A.iter [.i,.x .blk,.i,.i,.i,.i,.l .poly,.l .poly,.l .atom,.l .ev] (fun x8=>
 A.cond (A.cmp .lss x8.1 (A.len .iop (A.fL .blk 2 .iop x8.2.1))) (A.bd .iop (A.fL .blk 2 .iop x8.2.1) x8.1<|
 A.l1 (.x .iop) (A.get .iop (A.fL .blk 2 .iop x8.2.1) x8.1) fun x9=>
 A.cl JX JY (A.fI .iop 1 x9.1,x8.q.2.2.2.1,()) fun x10=>
 A.l1 (.x .poly) x10.1 fun x11=>
 A.cl JX JY (A.fI .iop 2 x9.1,x10.2.1,()) fun x12=>
 A.l1 (.x .poly) x12.1 fun x13=>
 A.l1 .b (A.cmp .eql (A.fI .iop 0 x9.1) (A.lit 1)) fun x14=>
 A.bind [.i,.x .blk,.i,.i,.i,.i,.l .poly,.l .poly,.x .poly,.l .atom,.l .ev] (A.cond x14.1 (A.cl Rp Rq (A.fI .iop 3 x9.1,()) fun x15=>
 A.ret _ (x8.1,x8.2.1,x8.2.2.1,x8.2.2.2.1,x8.q.1,x8.q.2.1,x8.q.2.2.1,x12.2.1,A.mkX .poly (x15.1,()),x8.o.1,x8.o.2.1,()))<|
 A.l1 .b (A.cmp .eql (A.fI .iop 0 x9.1) (A.lit 2)) fun x15=>
 A.bind [.i,.x .blk,.i,.i,.i,.i,.l .poly,.l .poly,.x .poly,.l .atom,.l .ev] (A.cond x15.1 (A.bd .poly x8.q.2.2.1 (A.fI .iop 3 x9.1)<|
 A.bd .poly x8.q.2.2.1 (A.fI .iop 3 x9.1)<|
 A.l1 (.x .poly) (A.get .poly x8.q.2.2.1 (A.fI .iop 3 x9.1)) fun x16=>
 A.ret _ (x8.1,x8.2.1,x8.2.2.1,x8.2.2.2.1,x8.q.1,x8.q.2.1,x8.q.2.2.1,x12.2.1,x16.1,x8.o.1,x8.o.2.1,()))<|
 A.l1 .b (A.cmp .eql (A.fI .iop 0 x9.1) (A.lit 8)) fun x16=>
 A.bind [.i,.x .blk,.i,.i,.i,.i,.l .poly,.l .poly,.l .atom,.l .ev,.l .mono] (A.cond x16.1 (A.bd .poly x8.q.2.2.1 (A.fI .iop 3 x9.1)<|
 A.bd .poly x8.q.2.2.1 (A.fI .iop 3 x9.1)<|
 A.l1 (.x .poly) x11.1 fun x17=>
 A.ret _ (x8.1,x8.2.1,x8.2.2.1,x8.2.2.2.1,x8.q.1,x8.q.2.1,A.set .poly x8.q.2.2.1 (A.fI .iop 3 x9.1) x17.1,x12.2.1,x8.o.1,x8.o.2.1,A.aR .mono,()))<|
 A.l1 .b (A.cmp .eql (A.fI .iop 0 x9.1) (A.lit 3)) fun x17=>
 A.bind [.i,.x .blk,.i,.i,.i,.i,.l .poly,.l .poly,.l .atom,.l .ev,.l .mono] (A.cond x17.1 (A.cl afC afD (A.fI .iop 3 x9.1,x11.1,x13.1,x8.o.1,()) fun x18=>
 A.ret _ (x8.1,x8.2.1,x8.2.2.1,x8.2.2.2.1,x8.q.1,x8.q.2.1,x8.q.2.2.1,x12.2.1,x18.1,x8.o.2.1,x18.2.1,()))<|
 A.bind [.i,.x .blk,.i,.i,.i,.i,.l .poly,.l .poly,.x .iop,.x .poly,.x .poly,.l .atom,.l .ev,.l .mono] (A.cond (A.au (A.cmp .eql (A.fI .iop 0 x9.1) (A.lit 4)) (A.bl true) (A.cmp .eql (A.fI .iop 0 x9.1) (A.lit 6))) (A.cl afE afF (x8.o.2.1,A.fI .iop 0 x9.1,x8.o.1,()) fun x18=>
 A.ret _ (x8.1,x8.2.1,x8.2.2.1,x8.2.2.2.1,x8.q.1,x8.q.2.1,x8.q.2.2.1,x12.2.1,x9.1,x11.1,x13.1,x18.1,x8.o.2.1,x18.2.1,()))<|
 A.ret _ (x8.1,x8.2.1,x8.2.2.1,x8.2.2.2.1,x8.q.1,x8.q.2.1,x8.q.2.2.1,x12.2.1,x9.1,x11.1,x13.1,x8.o.1,x8.o.2.1,A.aR .mono,())) fun x18=>
 A.cl afG afH (x18.o.1,x18.o.2.1,x18.o.2.2.1,x18.q.2.2.1,()) fun x19=>
 A.l1 (.l .ev) (A.lst .ev [A.mkX .ev (x19.1,x19.2.1,x19.2.2.1,x19.2.2.2.1,x19.q.1,())]) fun x20=>
 A.chk (A.cmp .leq (A.addN (A.len .ev x18.o.q.1) (A.len .ev x20.1)) (A.lit 1073741824))<|
 A.l1 (.l .ev) (A.app .ev x18.o.q.1 x20.1) fun x21=>
 A.ret _ (x18.1,x18.2.1,x18.2.2.1,x18.2.2.2.1,x18.q.1,x18.q.2.1,x18.q.2.2.1,x18.q.2.2.2.1,x18.o.2.2.2.1,x21.1,x18.o.q.2.1,())) fun x18=>
 A.ret _ (x18.1,x18.2.1,x18.2.2.1,x18.2.2.2.1,x18.q.1,x18.q.2.1,x18.q.2.2.1,x18.q.2.2.2.1,x18.o.1,x18.o.2.1,x18.o.2.2.1,())) fun x17=>
 A.ret _ (x17.1,x17.2.1,x17.2.2.1,x17.2.2.2.1,x17.q.1,x17.q.2.1,x17.q.2.2.1,x17.q.2.2.2.1,A.mkX .poly (x17.o.2.2.1,()),x17.o.1,x17.o.2.1,())) fun x16=>
 A.ret _ (x16.1,x16.2.1,x16.2.2.1,x16.2.2.2.1,x16.q.1,x16.q.2.1,x16.q.2.2.1,x16.q.2.2.2.1,x16.o.1,x16.o.2.1,x16.o.2.2.1,())) fun x15=>
 A.l1 (.l .poly) (A.lst .poly [x15.o.1]) fun x16=>
 A.chk (A.cmp .leq (A.addN (A.len .poly x15.q.2.2.2.1) (A.len .poly x16.1)) (A.lit 1073741824))<|
 A.l1 (.l .poly) (A.app .poly x15.q.2.2.2.1 x16.1) fun x17=>
 A.l1 .i (A.arith .add .i64 x15.1 (A.lit 1)) fun x18=>
 A.inl _ (x18.1,x15.2.1,x15.2.2.1,x15.2.2.2.1,x15.q.1,x15.q.2.1,x15.q.2.2.1,x17.1,x15.o.2.1,x15.o.2.2.1,()))<|
 A.inr _<|A.cl Ao Ap (x8.q.2.2.1,()) fun x9=>
 A.cl afI afJ (x8.2.1,()) fun x10=>
 A.cl JX JY (x10.1,x8.q.2.2.2.1,()) fun x11=>
 A.cl fU fV (A.fL .poly 0 .mono x11.1,()) fun x12=>
 A.cl afK afL (x8.2.1,()) fun x13=>
 A.cl JX JY (x13.1,x11.2.1,()) fun x14=>
 A.cl fU fV (A.fL .poly 0 .mono x14.1,()) fun x15=>
 A.cl afw afx (A.mkX .sym (x8.o.2.1,x9.1,x8.q.1,x12.1,x15.1,x8.q.2.1,()),A.arith .add .i64 (A.fI .blk 0 x8.2.1) (A.fI .blk 1 x8.2.1),()) fun x16=>
 A.l1 (.x .sym) x16.1 fun x17=>
 A.ret _ (A.mkX .tab (x8.o.1,()),x17.1,())) (x7.1,x5.2.1,x5.2.2.1,x5.2.2.2.1,x5.q.1,x5.q.2.1,x5.q.2.2.1,x6.1,x5.q.2.2.2.1,A.aR .ev,())) (x4.1,x.2.1,A.lit 0,A.lit 0,A.fI .blk 3 x.2.1,A.fI .blk 6 x.2.1,x3.2.1,x2.1,())
def RL (A:Alg) (iT:Pt A fT) (iU:Ft A fT) (x:Tup A.ah [.l .poly,.l .poly]):Ot A uG:=
 A.l1 .b (A.bl false) fun x0=>
 A.cond (A.cmp .neq (A.len .poly x.1) (A.len .poly x.2.1)) (A.rb (A.bl false))<|
 A.l1 .i (A.lit 0) fun x1=>
 A.iter [.l .poly,.l .poly,.i] (fun x2=>
 A.cond (A.cmp .lss x2.2.2.1 (A.len .poly x2.1)) (A.bd .poly x2.1 x2.2.2.1<|
 A.bd .poly x2.2.1 x2.2.2.1<|
 A.cl iT iU (A.get .poly x2.1 x2.2.2.1,A.get .poly x2.2.1 x2.2.2.1,()) fun x3=>
 A.cond (A.cmp .neq x3.1 (A.lit 0)) (A.l1 .b (A.bl false) fun x4=>
 A.inr _<|A.ret _ (x4.1,()))<|
 A.l1 .i (A.arith .add .i64 x2.2.2.1 (A.lit 1)) fun x4=>
 A.inl _ (x2.1,x2.2.1,x4.1,()))<|
 A.inr _<|A.rb (A.bl true)) (x.1,x.2.1,x1.1,())
def RN (A:Alg) (iT:Pt A fT) (iU:Ft A fT) (RO:Pt A uG) (RP:Ft A uG) (x:Tup A.ah [.x .ev,.x .ev]):Ot A EN:=
 A.l1 .b (A.bl false) fun x0=>
 A.cg (A.au (A.cmp .eql (A.fI .ev 0 x.1) (A.fI .ev 0 x.2.1)) (A.cmp .eql (A.fI .ev 1 x.1) (A.fI .ev 1 x.2.1)) (A.bl false)) iT iU (A.mkX .poly (A.fL .ev 2 .mono x.1,()),A.mkX .poly (A.fL .ev 2 .mono x.2.1,()),()) fun x1=>
 A.cg (A.au (A.au (A.cmp .eql (A.fI .ev 0 x.1) (A.fI .ev 0 x.2.1)) (A.cmp .eql (A.fI .ev 1 x.1) (A.fI .ev 1 x.2.1)) (A.bl false)) (A.cmp .eql x1.1 (A.lit 0)) (A.bl false)) iT iU (A.mkX .poly (A.fL .ev 3 .mono x.1,()),A.mkX .poly (A.fL .ev 3 .mono x.2.1,()),()) fun x2=>
 A.cg (A.au (A.au (A.au (A.cmp .eql (A.fI .ev 0 x.1) (A.fI .ev 0 x.2.1)) (A.cmp .eql (A.fI .ev 1 x.1) (A.fI .ev 1 x.2.1)) (A.bl false)) (A.cmp .eql x1.1 (A.lit 0)) (A.bl false)) (A.cmp .eql x2.1 (A.lit 0)) (A.bl false)) RO RP (A.fL .ev 4 .poly x.1,A.fL .ev 4 .poly x.2.1,()) fun x3=>
 A.rb (A.au (A.au (A.au (A.au (A.cmp .eql (A.fI .ev 0 x.1) (A.fI .ev 0 x.2.1)) (A.cmp .eql (A.fI .ev 1 x.1) (A.fI .ev 1 x.2.1)) (A.bl false)) (A.cmp .eql x1.1 (A.lit 0)) (A.bl false)) (A.cmp .eql x2.1 (A.lit 0)) (A.bl false)) x3.1 (A.bl false))
def RQ (A:Alg) (iT:Pt A fT) (iU:Ft A fT) (afM:Pt A EN) (afN:Ft A EN) (RO:Pt A uG) (RP:Ft A uG) (x:Tup A.ah [.x .sym,.x .sym]):Ot A EP:=
 A.l1 .b (A.bl false) fun x0=>
 A.cg (A.aA (A.cmp .neq (A.len .ev (A.fL .sym 0 .ev x.1)) (A.len .ev (A.fL .sym 0 .ev x.2.1)))) RO RP (A.fL .sym 1 .poly x.1,A.fL .sym 1 .poly x.2.1,()) fun x1=>
 A.cg (A.aA (A.au (A.au (A.au (A.cmp .neq (A.len .ev (A.fL .sym 0 .ev x.1)) (A.len .ev (A.fL .sym 0 .ev x.2.1))) (A.bl true) (A.aA x1.1)) (A.bl true) (A.cmp .neq (A.fI .sym 2 x.1) (A.fI .sym 2 x.2.1))) (A.bl true) (A.cmp .neq (A.fI .sym 5 x.1) (A.fI .sym 5 x.2.1)))) iT iU (A.mkX .poly (A.fL .sym 3 .mono x.1,()),A.mkX .poly (A.fL .sym 3 .mono x.2.1,()),()) fun x2=>
 A.cg (A.aA (A.au (A.au (A.au (A.au (A.cmp .neq (A.len .ev (A.fL .sym 0 .ev x.1)) (A.len .ev (A.fL .sym 0 .ev x.2.1))) (A.bl true) (A.aA x1.1)) (A.bl true) (A.cmp .neq (A.fI .sym 2 x.1) (A.fI .sym 2 x.2.1))) (A.bl true) (A.cmp .neq (A.fI .sym 5 x.1) (A.fI .sym 5 x.2.1))) (A.bl true) (A.cmp .neq x2.1 (A.lit 0)))) iT iU (A.mkX .poly (A.fL .sym 4 .mono x.1,()),A.mkX .poly (A.fL .sym 4 .mono x.2.1,()),()) fun x3=>
 A.cond (A.au (A.au (A.au (A.au (A.au (A.cmp .neq (A.len .ev (A.fL .sym 0 .ev x.1)) (A.len .ev (A.fL .sym 0 .ev x.2.1))) (A.bl true) (A.aA x1.1)) (A.bl true) (A.cmp .neq (A.fI .sym 2 x.1) (A.fI .sym 2 x.2.1))) (A.bl true) (A.cmp .neq (A.fI .sym 5 x.1) (A.fI .sym 5 x.2.1))) (A.bl true) (A.cmp .neq x2.1 (A.lit 0))) (A.bl true) (A.cmp .neq x3.1 (A.lit 0))) (A.rb (A.bl false))<|
 A.l1 .i (A.lit 0) fun x4=>
 A.iter [.i,.x .sym,.x .sym] (fun x5=>
 A.cond (A.cmp .lss x5.1 (A.len .ev (A.fL .sym 0 .ev x5.2.1))) (A.bd .ev (A.fL .sym 0 .ev x5.2.1) x5.1<|
 A.bd .ev (A.fL .sym 0 .ev x5.2.2.1) x5.1<|
 A.cl afM afN (A.get .ev (A.fL .sym 0 .ev x5.2.1) x5.1,A.get .ev (A.fL .sym 0 .ev x5.2.2.1) x5.1,()) fun x6=>
 A.cond (A.aA x6.1) (A.l1 .b (A.bl false) fun x7=>
 A.inr _<|A.ret _ (x7.1,()))<|
 A.l1 .i (A.arith .add .i64 x5.1 (A.lit 1)) fun x7=>
 A.inl _ (x7.1,x5.2.1,x5.2.2.1,()))<|
 A.inr _<|A.rb (A.bl true)) (x4.1,x.1,x.2.1,())
def RS (A:Alg) (JV:Pt A uh) (JW:Ft A uh) (afO:Pt A Ej) (afP:Ft A Ej) (RH:Pt A uj) (RJ:Ft A uj) (XU:Pt A EM) (XV:Ft A EM) (afQ:Pt A EP) (afR:Ft A EP) (x:Tup A.ah [.x .blk,.x .blk]):Ot A ER:=
 A.l1 .b (A.bl false) fun x0=>
 A.cl JV JW (x.1,()) fun x1=>
 A.cg (A.aA (A.aA x1.1)) JV JW (x.2.1,()) fun x2=>
 A.cond (A.au (A.au (A.au (A.aA x1.1) (A.bl true) (A.aA x2.1)) (A.bl true) (A.cmp .neq (A.fI .blk 0 x.1) (A.fI .blk 0 x.2.1))) (A.bl true) (A.cmp .neq (A.fI .blk 1 x.1) (A.fI .blk 1 x.2.1))) (A.rb (A.bl false))<|
 A.cl afO afP (x.1,x.2.1,()) fun x3=>
 A.cond x3.1 (A.rb (A.bl true))<|
 A.cl RH RJ () fun x4=>
 A.cl XU XV (A.mkX .tab (x4.1,()),x.1,()) fun x5=>
 A.l1 (.x .tab) x5.1 fun x6=>
 A.l1 (.x .sym) x5.2.1 fun x7=>
 A.cl XU XV (x6.1,x.2.1,()) fun x8=>
 A.l1 (.x .tab) x8.1 fun x9=>
 A.l1 (.x .sym) x8.2.1 fun x10=>
 A.cl afQ afR (x7.1,x10.1,()) fun x11=>
 A.rb x11.1
def XW (A:Alg) (x:Tup A.ah [.x .iop]):Ot A Mr:=
 A.l1 .i (A.fI .iop 0 x.1) fun x0=>
 A.l1 .i (A.fI .iop 1 x.1) fun x1=>
 A.l1 .i (A.fI .iop 2 x.1) fun x2=>
 A.l1 .i (A.fI .iop 3 x.1) fun x3=>
 A.l1 .i (A.fI .iop 4 x.1) fun x4=>
 A.ret _ (x0.1,x1.1,x2.1,x3.1,x4.1,())
def XY (A:Alg) (alH:Pt A Mr) (alI:Ft A Mr) (x:Tup A.ah [.l .iop]):Ot A Ms:=
 A.chk (A.cmp .eql (A.len .iop x.1) (A.len .iop x.1))<|
 A.chk (A.cmp .leq (A.lit 0) (A.len .iop x.1))<|
 A.chk (A.cmp .leq (A.len .iop x.1) (A.lit 1073741824))<|
 A.l1 (.l .iop) (A.rep .iop (A.len .iop x.1) (A.mkX .iop (A.lit 0,A.lit 0,A.lit 0,A.lit 0,A.lit 0,()))) fun x0=>
 A.l1 .i (A.lit 0) fun x1=>
 A.iter [.l .iop,.i,.l .iop] (fun x2=>
 A.cond (A.cmp .lss x2.2.1 (A.len .iop x2.1)) (A.bd .iop x2.1 x2.2.1<|
 A.cl alH alI (A.get .iop x2.1 x2.2.1,()) fun x3=>
 A.bd .iop x2.2.2.1 x2.2.1<|
 A.bd .iop x2.2.2.1 x2.2.1<|
 A.l1 .i (A.arith .add .i64 x2.2.1 (A.lit 1)) fun x4=>
 A.inl _ (x2.1,x4.1,A.set .iop x2.2.2.1 x2.2.1 (A.mkX .iop (x3.1,x3.2.1,x3.2.2.1,x3.2.2.2.1,x3.q.1,())),()))<|
 A.inr _<|A.ret _ (x2.2.2.1,())) (x.1,x1.1,x0.1,())
def XZ (A:Alg) (alJ:Pt A Ms) (alK:Ft A Ms) (x:Tup A.ah [.x .blk]):Ot A Mt:=
 A.l1 .i (A.fI .blk 0 x.1) fun x0=>
 A.l1 .i (A.fI .blk 1 x.1) fun x1=>
 A.cl alJ alK (A.fL .blk 2 .iop x.1,()) fun x2=>
 A.l1 .i (A.fI .blk 3 x.1) fun x3=>
 A.l1 .i (A.fI .blk 4 x.1) fun x4=>
 A.l1 .i (A.fI .blk 5 x.1) fun x5=>
 A.l1 .i (A.fI .blk 6 x.1) fun x6=>
 A.ret _ (x0.1,x1.1,x3.1,x4.1,x5.1,x6.1,x2.1,())
def X0 (A:Alg) (x:Tup A.ah [.i,.i,.i]):Ot A cu:=
 A.l1 .b (A.bl false) fun x0=>
 A.rb (A.au (A.cmp .leq x.2.1 x.1) (A.cmp .leq x.1 x.2.2.1) (A.bl false))
def X3 (A:Alg) (gI:Pt A cu) (gJ:Ft A cu) (x:Tup A.ah [.x .iop]):Ot A Bq:=
 A.l1 .b (A.bl false) fun x0=>
 A.l1 .b (A.bl false) fun x1=>
 A.l1 .b (A.bl false) fun x2=>
 A.l1 .b (A.bl false) fun x3=>
 A.l1 .b (A.au (A.au (A.cmp .neq (A.fI .iop 0 x.1) (A.lit 1)) (A.cmp .neq (A.fI .iop 0 x.1) (A.lit 2)) (A.bl false)) (A.cmp .neq (A.fI .iop 0 x.1) (A.lit 6)) (A.bl false)) fun x4=>
 A.l1 .b (A.au (A.cmp .eql (A.fI .iop 0 x.1) (A.lit 3)) (A.bl true) (A.cmp .eql (A.fI .iop 0 x.1) (A.lit 5))) fun x5=>
 A.l1 .b (A.au (A.au (A.au (A.cmp .eql (A.fI .iop 0 x.1) (A.lit 1)) (A.bl true) (A.cmp .eql (A.fI .iop 0 x.1) (A.lit 2))) (A.bl true) (A.cmp .eql (A.fI .iop 0 x.1) (A.lit 3))) (A.bl true) (A.cmp .eql (A.fI .iop 0 x.1) (A.lit 8))) fun x6=>
 A.cl gI gJ (A.fI .iop 0 x.1,A.lit 4,A.lit 7,()) fun x7=>
 A.l1 .b x7.1 fun x8=>
 A.l1 .b x4.1 fun x9=>
 A.l1 .b x5.1 fun x10=>
 A.l1 .b x6.1 fun x11=>
 A.l1 .b x8.1 fun x12=>
 A.ret _ (x9.1,x10.1,x11.1,x12.1,())
def X4 (A:Alg) (gI:Pt A cu) (gJ:Ft A cu) (x:Tup A.ah [.i]):Ot A kS:=
 A.l1 .b (A.bl false) fun x0=>
 A.cl gI gJ (x.1,A.lit 0,A.lit 65535,()) fun x1=>
 A.rb x1.1
def X5 (A:Alg) (gI:Pt A cu) (gJ:Ft A cu) (x:Tup A.ah [.i]):Ot A Br:=
 A.l1 .b (A.bl false) fun x0=>
 A.cl gI gJ (x.1,A.lit 0,A.lit 3,()) fun x1=>
 A.rb x1.1
def X6 (A:Alg) (gI:Pt A cu) (gJ:Ft A cu) (x:Tup A.ah [.i]):Ot A Bu:=
 A.l1 .b (A.bl false) fun x0=>
 A.cl gI gJ (x.1,A.lit 1,A.lit 5,()) fun x1=>
 A.rb x1.1
def X7 (A:Alg) (gI:Pt A cu) (gJ:Ft A cu) (x:Tup A.ah [.x .iop]):Ot A Mv:=
 A.l1 .b (A.bl false) fun x0=>
 A.cl gI gJ (A.fI .iop 0 x.1,A.lit 1,A.lit 4,()) fun x1=>
 A.rb (A.au x1.1 (A.bl true) (A.cmp .eql (A.fI .iop 0 x.1) (A.lit 6)))
def X8 (A:Alg) (alL:Pt A Mv) (alM:Ft A Mv) (gI:Pt A cu) (gJ:Ft A cu) (x:Tup A.ah [.x .blk,.i,.i]):Ot A Bv:=
 A.l1 .b (A.bl false) fun x0=>
 A.cl gI gJ (x.2.1,A.lit 0,A.arith .sub .i64 x.2.2.1 (A.lit 1),()) fun x1=>
 A.chk (A.orB (A.aA x1.1) (A.cmp .leq (A.lit 0) x.2.1))<|
 A.chk (A.orB (A.aA x1.1) (A.cmp .lss x.2.1 (A.len .iop (A.fL .blk 2 .iop x.1))))<|
 A.cg x1.1 alL alM (A.get .iop (A.fL .blk 2 .iop x.1) x.2.1,()) fun x2=>
 A.rb (A.au x1.1 x2.1 (A.bl false))
def X9 (A:Alg) (Ny:Pt A Bv) (Nz:Ft A Bv) (Ya:Pt A Bq) (Yb:Ft A Bq) (uL:Pt A kS) (uM:Ft A kS) (gI:Pt A cu) (gJ:Ft A cu) (Yc:Pt A Bu) (Yd:Ft A Bu) (UC:Pt A Br) (UD:Ft A Br) (x:Tup A.ah [.x .blk,.i]):Ot A Mw:=
 A.l1 .b (A.bl false) fun x0=>
 A.bd .iop (A.fL .blk 2 .iop x.1) x.2.1<|
 A.l1 (.x .iop) (A.get .iop (A.fL .blk 2 .iop x.1) x.2.1) fun x1=>
 A.cl gI gJ (A.fI .iop 0 x1.1,A.lit 1,A.lit 8,()) fun x2=>
 A.cond (A.aA x2.1) (A.rb (A.bl false))<|
 A.cl Ya Yb (x1.1,()) fun x3=>
 A.l1 .b x3.1 fun x4=>
 A.l1 .b x3.2.1 fun x5=>
 A.l1 .b x3.2.2.1 fun x6=>
 A.l1 .b x3.2.2.2.1 fun x7=>
 A.cl uL uM (A.fI .iop 3 x1.1,()) fun x8=>
 A.cl UC UD (A.fI .iop 3 x1.1,()) fun x9=>
 A.cl Yc Yd (A.fI .iop 3 x1.1,()) fun x10=>
 A.cl UC UD (A.fI .iop 3 x1.1,()) fun x11=>
 A.l1 .b (A.au (A.cmp .eql (A.fI .iop 0 x1.1) (A.lit 1)) x8.1 (A.au (A.cmp .eql (A.fI .iop 0 x1.1) (A.lit 2)) x9.1 (A.au (A.cmp .eql (A.fI .iop 0 x1.1) (A.lit 3)) x10.1 (A.au (A.cmp .eql (A.fI .iop 0 x1.1) (A.lit 8)) x11.1 (A.bl false))))) fun x12=>
 A.cg x4.1 Ny Nz (x.1,A.fI .iop 1 x1.1,x.2.1,()) fun x13=>
 A.cg (A.nK (A.au (A.au x4.1 x13.1 (A.bl false)) (A.bl true) (A.au (A.aA x4.1) (A.cmp .eql (A.fI .iop 1 x1.1) (A.lit 0)) (A.bl false))) x5.1) Ny Nz (x.1,A.fI .iop 2 x1.1,x.2.1,()) fun x14=>
 A.cg (A.nK (A.au (A.au (A.au (A.au x4.1 x13.1 (A.bl false)) (A.bl true) (A.au (A.aA x4.1) (A.cmp .eql (A.fI .iop 1 x1.1) (A.lit 0)) (A.bl false))) (A.au (A.au x5.1 x14.1 (A.bl false)) (A.bl true) (A.au (A.aA x5.1) (A.cmp .eql (A.fI .iop 2 x1.1) (A.lit 0)) (A.bl false))) (A.bl false)) (A.au (A.au x6.1 x12.1 (A.bl false)) (A.bl true) (A.au (A.aA x6.1) (A.cmp .eql (A.fI .iop 3 x1.1) (A.lit 0)) (A.bl false))) (A.bl false)) x7.1) gI gJ (A.fI .iop 4 x1.1,A.lit 0,A.arith .sub .i64 (A.fI .blk 1 x.1) (A.lit 1),()) fun x15=>
 A.rb (A.au (A.au (A.au (A.au (A.au x4.1 x13.1 (A.bl false)) (A.bl true) (A.au (A.aA x4.1) (A.cmp .eql (A.fI .iop 1 x1.1) (A.lit 0)) (A.bl false))) (A.au (A.au x5.1 x14.1 (A.bl false)) (A.bl true) (A.au (A.aA x5.1) (A.cmp .eql (A.fI .iop 2 x1.1) (A.lit 0)) (A.bl false))) (A.bl false)) (A.au (A.au x6.1 x12.1 (A.bl false)) (A.bl true) (A.au (A.aA x6.1) (A.cmp .eql (A.fI .iop 3 x1.1) (A.lit 0)) (A.bl false))) (A.bl false)) (A.au (A.au x7.1 x15.1 (A.bl false)) (A.bl true) (A.au (A.aA x7.1) (A.cmp .eql (A.fI .iop 4 x1.1) (A.lit 0)) (A.bl false))) (A.bl false))
def Ye (A:Alg) (x:Tup A.ah [.x .blk]):Ot A Bw:=
 A.l1 .b (A.bl false) fun x0=>
 A.l1 .b (A.bl false) fun x1=>
 A.l1 .b (A.bl false) fun x2=>
 A.l1 .b (A.cmp .neq (A.fI .blk 3 x.1) (A.lit 1)) fun x3=>
 A.l1 .b (A.cmp .geq (A.fI .blk 3 x.1) (A.lit 3)) fun x4=>
 A.l1 .b (A.cmp .neq (A.fI .blk 3 x.1) (A.lit 2)) fun x5=>
 A.ret _ (x3.1,x4.1,x5.1,())
def Yf (A:Alg) (Yg:Pt A Bw) (Yh:Ft A Bw) (Ny:Pt A Bv) (Nz:Ft A Bv) (uL:Pt A kS) (uM:Ft A kS) (gI:Pt A cu) (gJ:Ft A cu) (x:Tup A.ah [.x .blk]):Ot A Mx:=
 A.l1 .b (A.bl false) fun x0=>
 A.cl Yg Yh (x.1,()) fun x1=>
 A.l1 .b x1.1 fun x2=>
 A.l1 .b x1.2.1 fun x3=>
 A.l1 .b x1.2.2.1 fun x4=>
 A.cl gI gJ (A.fI .blk 3 x.1,A.lit 1,A.lit 4,()) fun x5=>
 A.cg (A.nK x5.1 x2.1) Ny Nz (x.1,A.fI .blk 4 x.1,A.len .iop (A.fL .blk 2 .iop x.1),()) fun x6=>
 A.cg (A.nK (A.au x5.1 (A.au (A.au x2.1 x6.1 (A.bl false)) (A.bl true) (A.au (A.aA x2.1) (A.cmp .eql (A.fI .blk 4 x.1) (A.lit 0)) (A.bl false))) (A.bl false)) x3.1) Ny Nz (x.1,A.fI .blk 5 x.1,A.len .iop (A.fL .blk 2 .iop x.1),()) fun x7=>
 A.cg (A.nK (A.au (A.au x5.1 (A.au (A.au x2.1 x6.1 (A.bl false)) (A.bl true) (A.au (A.aA x2.1) (A.cmp .eql (A.fI .blk 4 x.1) (A.lit 0)) (A.bl false))) (A.bl false)) (A.au (A.au x3.1 x7.1 (A.bl false)) (A.bl true) (A.au (A.aA x3.1) (A.cmp .eql (A.fI .blk 5 x.1) (A.lit 0)) (A.bl false))) (A.bl false)) x4.1) uL uM (A.fI .blk 6 x.1,()) fun x8=>
 A.rb (A.au (A.au (A.au x5.1 (A.au (A.au x2.1 x6.1 (A.bl false)) (A.bl true) (A.au (A.aA x2.1) (A.cmp .eql (A.fI .blk 4 x.1) (A.lit 0)) (A.bl false))) (A.bl false)) (A.au (A.au x3.1 x7.1 (A.bl false)) (A.bl true) (A.au (A.aA x3.1) (A.cmp .eql (A.fI .blk 5 x.1) (A.lit 0)) (A.bl false))) (A.bl false)) (A.au (A.au x4.1 x8.1 (A.bl false)) (A.bl true) (A.au (A.aA x4.1) (A.cmp .eql (A.fI .blk 6 x.1) (A.lit 0)) (A.bl false))) (A.bl false))
def Yi (A:Alg) (alN:Pt A Mx) (alO:Ft A Mx) (alP:Pt A Mw) (alQ:Ft A Mw) (gI:Pt A cu) (gJ:Ft A cu) (x:Tup A.ah [.x .blk]):Ot A Bz:=
 A.l1 .b (A.bl false) fun x0=>
 A.cl gI gJ (A.fI .blk 1 x.1,A.lit 1,A.lit 8,()) fun x1=>
 A.cg (A.aA (A.aA x1.1)) gI gJ (A.fI .blk 0 x.1,A.lit 0,A.arith .sub .i64 (A.lit 64) (A.fI .blk 1 x.1),()) fun x2=>
 A.cond (A.au (A.au (A.aA x1.1) (A.bl true) (A.aA x2.1)) (A.bl true) (A.cmp .gtr (A.len .iop (A.fL .blk 2 .iop x.1)) (A.lit 48))) (A.rb (A.bl false))<|
 A.iter [.i,.i,.x .blk] (fun x3=>
 A.cond (A.cmp .lss x3.2.1 x3.1) (A.l1 .i x3.2.1 fun x4=>
 A.cl alP alQ (x3.2.2.1,x4.1,()) fun x5=>
 A.cond (A.aA x5.1) (A.l1 .b (A.bl false) fun x6=>
 A.inr _<|A.ret _ (x6.1,()))<|
 A.inl _ (x3.1,A.arith .add .i64 x3.2.1 (A.lit 1),x3.2.2.1,()))<|
 A.inr _<|A.cl alN alO (x3.2.2.1,()) fun x4=>
 A.rb x4.1) (A.len .iop (A.fL .blk 2 .iop x.1),A.lit 0,x.1,())
def Yj (A:Alg) (x:Tup A.ah [.l .iop,.l .iop]):Ot A MB:=
 A.l1 .b (A.bl false) fun x0=>
 A.cond (A.cmp .neq (A.len .iop x.1) (A.len .iop x.2.1)) (A.rb (A.bl false))<|
 A.iter [.l .iop,.l .iop,.i,.i] (fun x1=>
 A.cond (A.cmp .lss x1.2.2.2.1 x1.2.2.1) (A.l1 .i x1.2.2.2.1 fun x2=>
 A.bd .iop x1.1 x2.1<|
 A.bd .iop x1.2.1 x2.1<|
 A.cond (A.aA (A.eqX .iop (A.get .iop x1.1 x2.1) (A.get .iop x1.2.1 x2.1))) (A.l1 .b (A.bl false) fun x3=>
 A.inr _<|A.ret _ (x3.1,()))<|
 A.inl _ (x1.1,x1.2.1,x1.2.2.1,A.arith .add .i64 x1.2.2.2.1 (A.lit 1),()))<|
 A.inr _<|A.rb (A.bl true)) (x.1,x.2.1,A.len .iop x.1,A.lit 0,())
def Yk (A:Alg) (alR:Pt A MB) (alS:Ft A MB) (x:Tup A.ah [.x .blk,.x .blk]):Ot A MC:=
 A.l1 .b (A.bl false) fun x0=>
 A.cg (A.au (A.au (A.au (A.au (A.au (A.cmp .eql (A.fI .blk 0 x.1) (A.fI .blk 0 x.2.1)) (A.cmp .eql (A.fI .blk 1 x.1) (A.fI .blk 1 x.2.1)) (A.bl false)) (A.cmp .eql (A.fI .blk 3 x.1) (A.fI .blk 3 x.2.1)) (A.bl false)) (A.cmp .eql (A.fI .blk 4 x.1) (A.fI .blk 4 x.2.1)) (A.bl false)) (A.cmp .eql (A.fI .blk 5 x.1) (A.fI .blk 5 x.2.1)) (A.bl false)) (A.cmp .eql (A.fI .blk 6 x.1) (A.fI .blk 6 x.2.1)) (A.bl false)) alR alS (A.fL .blk 2 .iop x.1,A.fL .blk 2 .iop x.2.1,()) fun x1=>
 A.rb (A.au (A.au (A.au (A.au (A.au (A.au (A.cmp .eql (A.fI .blk 0 x.1) (A.fI .blk 0 x.2.1)) (A.cmp .eql (A.fI .blk 1 x.1) (A.fI .blk 1 x.2.1)) (A.bl false)) (A.cmp .eql (A.fI .blk 3 x.1) (A.fI .blk 3 x.2.1)) (A.bl false)) (A.cmp .eql (A.fI .blk 4 x.1) (A.fI .blk 4 x.2.1)) (A.bl false)) (A.cmp .eql (A.fI .blk 5 x.1) (A.fI .blk 5 x.2.1)) (A.bl false)) (A.cmp .eql (A.fI .blk 6 x.1) (A.fI .blk 6 x.2.1)) (A.bl false)) x1.1 (A.bl false))
def Yl (A:Alg) (x:Tup A.ah [.i,.i]):Ot A ME:=
 A.l1 .b (A.bl false) fun x0=>
 A.l1 .b (A.cmp .geq x.1 x.2.1) fun x1=>
 A.ret _ (x1.1,x.2.1,())
def RU (A:Alg) (alT:Pt A ME) (alU:Ft A ME) (x:Tup A.ah [.l .i64,.i]):Ot A ET:=
 A.l1 .i (A.lit 0) fun x0=>
 A.iter [.l .i64,.i,.i,.i] (fun x1=>
 A.cond (A.cmp .lss x1.2.2.1 x1.2.1) (A.l1 .i x1.2.2.1 fun x2=>
 A.bd .i64 x1.1 x2.1<|
 A.cl alT alU (A.fI .i64 0 (A.get .i64 x1.1 x2.1),x1.2.2.2.1,()) fun x3=>
 A.cond x3.1 (A.l1 .i x2.1 fun x4=>
 A.inr _<|A.ret _ (x4.1,x3.2.1,()))<|
 A.inl _ (x1.1,x1.2.1,A.arith .add .i64 x1.2.2.1 (A.lit 1),x3.2.1,()))<|
 A.inr _<|A.l1 .i (A.lit (-1)) fun x2=>
 A.ret _ (x2.1,x1.2.2.2.1,())) (x.1,A.len .i64 x.1,A.lit 0,x.2.1,())
def Ym (A:Alg) (afS:Pt A ET) (afT:Ft A ET) (x:Tup A.ah [.l .i64,.i]):Ot A MF:=
 A.l1 .b (A.bl false) fun x0=>
 A.cl afS afT (x.1,x.2.1,()) fun x1=>
 A.l1 .b (A.cmp .geq x1.1 (A.lit 0)) fun x2=>
 A.ret _ (x2.1,x1.2.1,())
def Yn (A:Alg) (alV:Pt A MF) (alW:Ft A MF) (x:Tup A.ah [.x .poly,.i]):Ot A BA:=
 A.l1 .b (A.bl false) fun x0=>
 A.iter [.l .mono,.i,.i,.i] (fun x1=>
 A.cond (A.cmp .lss x1.2.2.1 x1.2.1) (A.bd .mono x1.1 x1.2.2.1<|
 A.l1 (.x .mono) (A.get .mono x1.1 x1.2.2.1) fun x2=>
 A.cl alV alW (A.fL .mono 1 .i64 x2.1,x1.2.2.2.1,()) fun x3=>
 A.cond x3.1 (A.l1 .b (A.bl false) fun x4=>
 A.inr _<|A.ret _ (x4.1,()))<|
 A.inl _ (x1.1,x1.2.1,A.arith .add .i64 x1.2.2.1 (A.lit 1),x3.2.1,()))<|
 A.inr _<|A.rb (A.bl true)) (A.fL .poly 0 .mono x.1,A.len .mono (A.fL .poly 0 .mono x.1),A.lit 0,x.2.1,())
def afU (A:Alg) (x:Tup A.ah [.i]):Ot A MG:=
 A.l1 .b (A.bl false) fun x0=>
 A.rb (A.cmp .neq x.1 x.1)
def afV (A:Alg) (Yo:Pt A MG) (Yp:Ft A MG) (x:Tup A.ah [.i,.i]):Ot A EU:=
 A.l1 .i (A.lit 0) fun x0=>
 A.cl Yo Yp (x.1,()) fun x1=>
 A.l1 .b x1.1 fun x2=>
 A.cl Yo Yp (x.2.1,()) fun x3=>
 A.l1 .b x3.1 fun x4=>
 A.cond x2.1 (A.cond x4.1 (A.l1 .i (A.lit 0) fun x5=>
 A.ret _ (x5.1,()))<|
 A.l1 .i (A.lit (-1)) fun x5=>
 A.ret _ (x5.1,()))<|
 A.cond x4.1 (A.l1 .i (A.lit 1) fun x5=>
 A.ret _ (x5.1,()))<|
 A.cond (A.cmp .lss x.1 x.2.1) (A.l1 .i (A.lit (-1)) fun x5=>
 A.ret _ (x5.1,()))<|
 A.cond (A.cmp .gtr x.1 x.2.1) (A.l1 .i (A.lit 1) fun x5=>
 A.ret _ (x5.1,()))<|
 A.l1 .i (A.lit 0) fun x5=>
 A.ret _ (x5.1,())
def afW (A:Alg) (x:Tup A.ah [.l .i64]):Ot A MH:=
 A.l1 .i (A.lit 0) fun x0=>
 A.l1 .i (A.lit 0) fun x1=>
 A.iter [.i,.l .i64,.i,.i] (fun x2=>
 A.cond (A.cmp .lss x2.2.2.2.1 x2.2.2.1) (A.bd .i64 x2.2.1 x2.2.2.2.1<|
 A.l1 .i (A.fI .i64 0 (A.get .i64 x2.2.1 x2.2.2.2.1)) fun x3=>
 A.cond (A.cmp .neq x3.1 x2.1) (A.l1 .i x3.1 fun x4=>
 A.inr _<|A.ret _ (x4.1,()))<|
 A.inl _ (x2.1,x2.2.1,x2.2.2.1,A.arith .add .i64 x2.2.2.2.1 (A.lit 1),()))<|
 A.inr _<|A.l1 .i x2.1 fun x3=>
 A.ret _ (x3.1,())) (x1.1,x.1,A.len .i64 x.1,A.lit 0,())
def Yq (A:Alg) (Wj:Pt A EU) (Wm:Ft A EU) (x:Tup A.ah [.l .i64,.l .i64]):Ot A MI:=
 A.l1 .i (A.lit 0) fun x0=>
 A.iter [.l .i64,.l .i64,.l .i64,.i,.i] (fun x1=>
 A.cond (A.cmp .lss x1.q.1 x1.2.2.2.1) (A.bd .i64 x1.2.2.1 x1.q.1<|
 A.l1 .i x1.q.1 fun x2=>
 A.l1 .i (A.fI .i64 0 (A.get .i64 x1.2.2.1 x1.q.1)) fun x3=>
 A.cond (A.cmp .geq x2.1 (A.len .i64 x1.2.1)) (A.l1 .i (A.lit 1) fun x4=>
 A.inr _<|A.ret _ (x4.1,()))<|
 A.bd .i64 x1.2.1 x2.1<|
 A.l1 .i (A.fI .i64 0 (A.get .i64 x1.2.1 x2.1)) fun x4=>
 A.cl Wj Wm (x3.1,x4.1,()) fun x5=>
 A.l1 .i x5.1 fun x6=>
 A.cond (A.cmp .neq x6.1 (A.lit 0)) (A.l1 .i x6.1 fun x7=>
 A.inr _<|A.ret _ (x7.1,()))<|
 A.inl _ (x1.1,x1.2.1,x1.2.2.1,x1.2.2.2.1,A.arith .add .i64 x1.q.1 (A.lit 1),()))<|
 A.inr _<|A.cond (A.cmp .lss (A.len .i64 x1.1) (A.len .i64 x1.2.1)) (A.l1 .i (A.lit (-1)) fun x2=>
 A.ret _ (x2.1,()))<|
 A.l1 .i (A.lit 0) fun x2=>
 A.ret _ (x2.1,())) (x.1,x.2.1,x.1,A.len .i64 x.1,A.lit 0,())
def Yr (A:Alg) (afX:Pt A MH) (afY:Ft A MH) (Wj:Pt A EU) (Wm:Ft A EU) (alX:Pt A MI) (alY:Ft A MI) (x:Tup A.ah [.l .i64,.l .i64]):Ot A nY:=
 A.l1 .i (A.lit 0) fun x0=>
 A.cl Wj Wm (A.len .i64 x.1,A.len .i64 x.2.1,()) fun x1=>
 A.cl alX alY (x.1,x.2.1,()) fun x2=>
 A.l1 (.l .i64) (A.lst .i64 [A.mkX .i64 (x1.1,()),A.mkX .i64 (x2.1,())]) fun x3=>
 A.cl afX afY (x3.1,()) fun x4=>
 A.l1 .i x4.1 fun x5=>
 A.ret _ (x5.1,())
def afZ (A:Alg) (Yo:Pt A MG) (Yp:Ft A MG) (x:Tup A.ah [.i,.i]):Ot A EW:=
 A.l1 .b (A.bl false) fun x0=>
 A.cl Yo Yp (x.1,()) fun x1=>
 A.cg x1.1 Yo Yp (x.2.1,()) fun x2=>
 A.rb (A.au (A.au x1.1 (A.aA x2.1) (A.bl false)) (A.bl true) (A.cmp .lss x.1 x.2.1))
def RV (A:Alg) (Yt:Pt A EW) (Yu:Ft A EW) (x:Tup A.ah [.l .i64]):Ot A EZ:=
 A.l1 .b (A.bl false) fun x0=>
 A.l1 .i (A.arith .sub .i64 (A.len .i64 x.1) (A.lit 1)) fun x1=>
 A.iter [.l .i64,.i] (fun x2=>
 A.cond (A.cmp .gtr x2.2.1 (A.lit 0)) (A.bd .i64 x2.1 x2.2.1<|
 A.bd .i64 x2.1 (A.arith .sub .i64 x2.2.1 (A.lit 1))<|
 A.cl Yt Yu (A.fI .i64 0 (A.get .i64 x2.1 x2.2.1),A.fI .i64 0 (A.get .i64 x2.1 (A.arith .sub .i64 x2.2.1 (A.lit 1))),()) fun x3=>
 A.cond x3.1 (A.l1 .b (A.bl false) fun x4=>
 A.inr _<|A.ret _ (x4.1,()))<|
 A.l1 .i (A.arith .sub .i64 x2.2.1 (A.lit 1)) fun x4=>
 A.inl _ (x2.1,x4.1,()))<|
 A.inr _<|A.rb (A.bl true)) (x.1,x1.1,())
def Yv (A:Alg) (x:Tup A.ah [.x .mono]):Ot A MJ:=
 A.l1 .b (A.bl false) fun x0=>
 A.chk (A.orB (A.aA (A.cmp .gtr (A.len .i64 (A.fL .mono 1 .i64 x.1)) (A.lit 0))) (A.cmp .leq (A.lit 0) (A.lit 0)))<|
 A.chk (A.orB (A.aA (A.cmp .gtr (A.len .i64 (A.fL .mono 1 .i64 x.1)) (A.lit 0))) (A.cmp .lss (A.lit 0) (A.len .i64 (A.fL .mono 1 .i64 x.1))))<|
 A.rb (A.au (A.cmp .gtr (A.len .i64 (A.fL .mono 1 .i64 x.1)) (A.lit 0)) (A.cmp .lss (A.fI .i64 0 (A.get .i64 (A.fL .mono 1 .i64 x.1) (A.lit 0))) (A.lit 0)) (A.bl false))
def RX (A:Alg) (alZ:Pt A MJ) (al0:Ft A MJ) (x:Tup A.ah [.l .mono]):Ot A E5:=
 A.l1 .i (A.lit 0) fun x0=>
 A.iter [.l .mono,.i,.i] (fun x1=>
 A.cond (A.cmp .lss x1.2.2.1 x1.2.1) (A.l1 .i x1.2.2.1 fun x2=>
 A.bd .mono x1.1 x2.1<|
 A.cl alZ al0 (A.get .mono x1.1 x2.1,()) fun x3=>
 A.cond x3.1 (A.l1 .i x2.1 fun x4=>
 A.inr _<|A.ret _ (x4.1,()))<|
 A.inl _ (x1.1,x1.2.1,A.arith .add .i64 x1.2.2.1 (A.lit 1),()))<|
 A.inr _<|A.l1 .i (A.lit (-1)) fun x2=>
 A.ret _ (x2.1,())) (x.1,A.len .mono x.1,A.lit 0,())
def Yw (A:Alg) (af0:Pt A E5) (af2:Ft A E5) (x:Tup A.ah [.l .mono]):Ot A MK:=
 A.l1 .b (A.bl false) fun x0=>
 A.cl af0 af2 (x.1,()) fun x1=>
 A.rb (A.cmp .geq x1.1 (A.lit 0))
def Yx (A:Alg) (gI:Pt A cu) (gJ:Ft A cu) (UE:Pt A BA) (UF:Ft A BA) (af3:Pt A EZ) (af4:Ft A EZ) (FL:Pt A nY) (FN:Ft A nY) (al1:Pt A MK) (al2:Ft A MK) (x:Tup A.ah [.x .poly]):Ot A iR:=
 A.l1 .b (A.bl false) fun x0=>
 A.iter [.l .mono,.i,.i,.x .poly] (fun x1=>
 A.cond (A.cmp .lss x1.2.2.1 x1.2.1) (A.bd .mono x1.1 x1.2.2.1<|
 A.l1 .i x1.2.2.1 fun x2=>
 A.l1 (.x .mono) (A.get .mono x1.1 x1.2.2.1) fun x3=>
 A.cl gI gJ (A.fI .mono 0 x3.1,A.lit 1,A.lit 65535,()) fun x4=>
 A.cg (A.aA (A.au (A.aA x4.1) (A.bl true) (A.cmp .gtr (A.len .i64 (A.fL .mono 1 .i64 x3.1)) (A.lit 4)))) af3 af4 (A.fL .mono 1 .i64 x3.1,()) fun x5=>
 A.chk (A.orB (A.aA (A.nK (A.aA (A.au (A.au (A.aA x4.1) (A.bl true) (A.cmp .gtr (A.len .i64 (A.fL .mono 1 .i64 x3.1)) (A.lit 4))) (A.bl true) (A.aA x5.1))) (A.cmp .gtr x2.1 (A.lit 0)))) (A.cmp .leq (A.lit 0) (A.arith .sub .i64 x2.1 (A.lit 1))))<|
 A.chk (A.orB (A.aA (A.nK (A.aA (A.au (A.au (A.aA x4.1) (A.bl true) (A.cmp .gtr (A.len .i64 (A.fL .mono 1 .i64 x3.1)) (A.lit 4))) (A.bl true) (A.aA x5.1))) (A.cmp .gtr x2.1 (A.lit 0)))) (A.cmp .lss (A.arith .sub .i64 x2.1 (A.lit 1)) (A.len .mono (A.fL .poly 0 .mono x1.2.2.2.1))))<|
 A.cg (A.nK (A.aA (A.au (A.au (A.aA x4.1) (A.bl true) (A.cmp .gtr (A.len .i64 (A.fL .mono 1 .i64 x3.1)) (A.lit 4))) (A.bl true) (A.aA x5.1))) (A.cmp .gtr x2.1 (A.lit 0))) FL FN (A.fL .mono 1 .i64 (A.get .mono (A.fL .poly 0 .mono x1.2.2.2.1) (A.arith .sub .i64 x2.1 (A.lit 1))),A.fL .mono 1 .i64 x3.1,()) fun x6=>
 A.cond (A.au (A.au (A.au (A.aA x4.1) (A.bl true) (A.cmp .gtr (A.len .i64 (A.fL .mono 1 .i64 x3.1)) (A.lit 4))) (A.bl true) (A.aA x5.1)) (A.bl true) (A.au (A.cmp .gtr x2.1 (A.lit 0)) (A.cmp .geq x6.1 (A.lit 0)) (A.bl false))) (A.l1 .b (A.bl false) fun x7=>
 A.inr _<|A.ret _ (x7.1,()))<|
 A.inl _ (x1.1,x1.2.1,A.arith .add .i64 x1.2.2.1 (A.lit 1),x1.2.2.2.1,()))<|
 A.inr _<|A.cg (A.cmp .leq (A.len .mono (A.fL .poly 0 .mono x1.2.2.2.1)) (A.lit 12)) UE UF (x1.2.2.2.1,A.lit 200,()) fun x2=>
 A.cg (A.au (A.cmp .leq (A.len .mono (A.fL .poly 0 .mono x1.2.2.2.1)) (A.lit 12)) x2.1 (A.bl false)) al1 al2 (A.fL .poly 0 .mono x1.2.2.2.1,()) fun x3=>
 A.rb (A.au (A.au (A.cmp .leq (A.len .mono (A.fL .poly 0 .mono x1.2.2.2.1)) (A.lit 12)) x2.1 (A.bl false)) (A.aA x3.1) (A.bl false))) (A.fL .poly 0 .mono x.1,A.len .mono (A.fL .poly 0 .mono x.1),A.lit 0,x.1,())
def Yy (A:Alg) (gI:Pt A cu) (gJ:Ft A cu) (Yc:Pt A Bu) (Yd:Ft A Bu) (UE:Pt A BA) (UF:Ft A BA) (kU:Pt A iR) (kV:Ft A iR) (UC:Pt A Br) (UD:Ft A Br) (x:Tup A.ah [.x .atom,.i]):Ot A BD:=
 A.l1 .b (A.bl false) fun x0=>
 A.cond (A.cmp .eql (A.fI .atom 0 x.1) (A.lit 4)) (A.cl Yc Yd (A.fI .atom 1 x.1,()) fun x1=>
 A.cg x1.1 kU kV (A.mkX .poly (A.fL .atom 2 .mono x.1,()),()) fun x2=>
 A.cg (A.au x1.1 x2.1 (A.bl false)) kU kV (A.mkX .poly (A.fL .atom 3 .mono x.1,()),()) fun x3=>
 A.cg (A.au (A.au x1.1 x2.1 (A.bl false)) x3.1 (A.bl false)) UE UF (A.mkX .poly (A.fL .atom 2 .mono x.1,()),x.2.1,()) fun x4=>
 A.cg (A.au (A.au (A.au x1.1 x2.1 (A.bl false)) x3.1 (A.bl false)) x4.1 (A.bl false)) UE UF (A.mkX .poly (A.fL .atom 3 .mono x.1,()),x.2.1,()) fun x5=>
 A.rb (A.au (A.au (A.au (A.au x1.1 x2.1 (A.bl false)) x3.1 (A.bl false)) x4.1 (A.bl false)) x5.1 (A.bl false)))<|
 A.cond (A.cmp .gtr (A.arith .add .i64 (A.len .mono (A.fL .atom 2 .mono x.1)) (A.len .mono (A.fL .atom 3 .mono x.1))) (A.lit 0)) (A.rb (A.bl false))<|
 A.cg (A.cmp .eql (A.fI .atom 0 x.1) (A.lit 1)) UC UD (A.fI .atom 1 x.1,()) fun x1=>
 A.cg (A.nK (A.aA (A.au (A.cmp .eql (A.fI .atom 0 x.1) (A.lit 1)) x1.1 (A.bl false))) (A.au (A.cmp .eql (A.fI .atom 0 x.1) (A.lit 2)) (A.bl true) (A.cmp .eql (A.fI .atom 0 x.1) (A.lit 3)))) gI gJ (A.fI .atom 1 x.1,A.lit 0,A.lit 199,()) fun x2=>
 A.rb (A.au (A.au (A.cmp .eql (A.fI .atom 0 x.1) (A.lit 1)) x1.1 (A.bl false)) (A.bl true) (A.au (A.au (A.cmp .eql (A.fI .atom 0 x.1) (A.lit 2)) (A.bl true) (A.cmp .eql (A.fI .atom 0 x.1) (A.lit 3))) x2.1 (A.bl false)))
def Yz (A:Alg) (afX:Pt A MH) (afY:Ft A MH) (Wj:Pt A EU) (Wm:Ft A EU) (FL:Pt A nY) (FN:Ft A nY) (x:Tup A.ah [.x .poly,.x .poly]):Ot A uH:=
 A.l1 .i (A.lit 0) fun x0=>
 A.cl Wj Wm (A.len .mono (A.fL .poly 0 .mono x.1),A.len .mono (A.fL .poly 0 .mono x.2.1),()) fun x1=>
 A.l1 .i x1.1 fun x2=>
 A.cond (A.cmp .neq x2.1 (A.lit 0)) (A.l1 .i x2.1 fun x3=>
 A.ret _ (x3.1,()))<|
 A.iter [.l .mono,.i,.i,.x .poly] (fun x3=>
 A.cond (A.cmp .lss x3.2.2.1 x3.2.1) (A.bd .mono x3.1 x3.2.2.1<|
 A.l1 .i x3.2.2.1 fun x4=>
 A.l1 (.x .mono) (A.get .mono x3.1 x3.2.2.1) fun x5=>
 A.bd .mono (A.fL .poly 0 .mono x3.2.2.2.1) x4.1<|
 A.bd .mono (A.fL .poly 0 .mono x3.2.2.2.1) x4.1<|
 A.cl FL FN (A.fL .mono 1 .i64 x5.1,A.fL .mono 1 .i64 (A.get .mono (A.fL .poly 0 .mono x3.2.2.2.1) x4.1),()) fun x6=>
 A.cl Wj Wm (A.fI .mono 0 x5.1,A.fI .mono 0 (A.get .mono (A.fL .poly 0 .mono x3.2.2.2.1) x4.1),()) fun x7=>
 A.cl afX afY (A.lst .i64 [A.mkX .i64 (x6.1,()),A.mkX .i64 (x7.1,())],()) fun x8=>
 A.l1 .i x8.1 fun x9=>
 A.cond (A.cmp .neq x9.1 (A.lit 0)) (A.l1 .i x9.1 fun x10=>
 A.inr _<|A.ret _ (x10.1,()))<|
 A.inl _ (x3.1,x3.2.1,A.arith .add .i64 x3.2.2.1 (A.lit 1),x3.2.2.2.1,()))<|
 A.inr _<|A.l1 .i (A.lit 0) fun x4=>
 A.ret _ (x4.1,())) (A.fL .poly 0 .mono x.1,A.len .mono (A.fL .poly 0 .mono x.1),A.lit 0,x.2.1,())
def YA (A:Alg) (NA:Pt A uH) (NC:Ft A uH) (x:Tup A.ah [.x .poly,.x .poly]):Ot A jL:=
 A.l1 .b (A.bl false) fun x0=>
 A.cl NA NC (x.1,x.2.1,()) fun x1=>
 A.rb (A.cmp .eql x1.1 (A.lit 0))
def YB (A:Alg) (lS:Pt A jL) (lT:Ft A jL) (x:Tup A.ah [.x .atom,.x .atom]):Ot A ML:=
 A.l1 .b (A.bl false) fun x0=>
 A.cg (A.au (A.cmp .eql (A.fI .atom 0 x.1) (A.fI .atom 0 x.2.1)) (A.cmp .eql (A.fI .atom 1 x.1) (A.fI .atom 1 x.2.1)) (A.bl false)) lS lT (A.mkX .poly (A.fL .atom 2 .mono x.1,()),A.mkX .poly (A.fL .atom 2 .mono x.2.1,()),()) fun x1=>
 A.cg (A.au (A.au (A.cmp .eql (A.fI .atom 0 x.1) (A.fI .atom 0 x.2.1)) (A.cmp .eql (A.fI .atom 1 x.1) (A.fI .atom 1 x.2.1)) (A.bl false)) x1.1 (A.bl false)) lS lT (A.mkX .poly (A.fL .atom 3 .mono x.1,()),A.mkX .poly (A.fL .atom 3 .mono x.2.1,()),()) fun x2=>
 A.rb (A.au (A.au (A.au (A.cmp .eql (A.fI .atom 0 x.1) (A.fI .atom 0 x.2.1)) (A.cmp .eql (A.fI .atom 1 x.1) (A.fI .atom 1 x.2.1)) (A.bl false)) x1.1 (A.bl false)) x2.1 (A.bl false))
def YC (A:Alg) (al3:Pt A ML) (al4:Ft A ML) (x:Tup A.ah [.x .atom,.x .atom]):Ot A MN:=
 A.l1 .b (A.bl false) fun x0=>
 A.cl al3 al4 (x.2.1,x.1,()) fun x1=>
 A.l1 .b x1.1 fun x2=>
 A.ret _ (x2.1,x.2.1,())
def RY (A:Alg) (al5:Pt A MN) (al6:Ft A MN) (x:Tup A.ah [.l .atom,.x .atom]):Ot A E8:=
 A.l1 .i (A.lit 0) fun x0=>
 A.iter [.l .atom,.i,.i,.x .atom] (fun x1=>
 A.cond (A.cmp .lss x1.2.2.1 x1.2.1) (A.l1 .i x1.2.2.1 fun x2=>
 A.bd .atom x1.1 x2.1<|
 A.cl al5 al6 (A.get .atom x1.1 x2.1,x1.2.2.2.1,()) fun x3=>
 A.cond x3.1 (A.l1 .i x2.1 fun x4=>
 A.inr _<|A.ret _ (x4.1,x3.2.1,()))<|
 A.inl _ (x1.1,x1.2.1,A.arith .add .i64 x1.2.2.1 (A.lit 1),x3.2.1,()))<|
 A.inr _<|A.l1 .i (A.lit (-1)) fun x2=>
 A.ret _ (x2.1,x1.2.2.2.1,())) (x.1,A.len .atom x.1,A.lit 0,x.2.1,())
def YD (A:Alg) (af5:Pt A E8) (af6:Ft A E8) (x:Tup A.ah [.x .tab,.x .atom]):Ot A BF:=
 A.l1 .i (A.lit 0) fun x0=>
 A.cl af5 af6 (A.fL .tab 0 .atom x.1,x.2.1,()) fun x1=>
 A.l1 .i x1.1 fun x2=>
 A.ret _ (x2.1,())
def YE (A:Alg) (x:Tup A.ah [.l .atom]):Ot A MO:=
 A.chk (A.cmp .leq (A.lit 0) (A.lit 0))<|
 A.chk (A.cmp .leq (A.lit 0) (A.len .atom x.1))<|
 A.chk (A.cmp .leq (A.len .atom x.1) (A.len .atom x.1))<|
 A.chk (A.cmp .eql (A.len .atom x.1) (A.len .atom x.1))<|
 A.ret _ (A.sub .atom x.1 (A.lit 0) (A.len .atom x.1),())
def YF (A:Alg) (YG:Pt A BD) (YH:Ft A BD) (YI:Pt A BF) (YJ:Ft A BF) (al7:Pt A MO) (al8:Ft A MO) (x:Tup A.ah [.x .tab,.x .atom]):Ot A BH:=
 A.l1 .i (A.lit 0) fun x0=>
 A.cl YI YJ (x.1,x.2.1,()) fun x1=>
 A.l1 .i x1.1 fun x2=>
 A.cond (A.cmp .geq x2.1 (A.lit 0)) (A.l1 (.x .tab) x.1 fun x3=>
 A.l1 .i x2.1 fun x4=>
 A.ret _ (x3.1,x4.1,()))<|
 A.cl YG YH (x.2.1,A.len .atom (A.fL .tab 0 .atom x.1),()) fun x3=>
 A.cond (A.au (A.aA x3.1) (A.bl true) (A.cmp .eql (A.len .atom (A.fL .tab 0 .atom x.1)) (A.lit 200))) (A.l1 (.x .tab) x.1 fun x4=>
 A.l1 .i (A.lit (-1)) fun x5=>
 A.ret _ (x4.1,x5.1,()))<|
 A.cl al7 al8 (A.fL .tab 0 .atom x.1,()) fun x4=>
 A.chk (A.orB (A.cmp .lss (A.lit 0) (A.len .atom (A.lst .atom [x.2.1]))) (A.cmp .eql (A.len .atom x4.1) (A.lit 0)))<|
 A.chk (A.cmp .leq (A.addN (A.len .atom x4.1) (A.len .atom (A.lst .atom [x.2.1]))) (A.lit 1073741824))<|
 A.l1 (.l .atom) (A.app .atom x4.1 (A.lst .atom [x.2.1])) fun x5=>
 A.l1 .i (A.len .atom (A.fL .tab 0 .atom x.1)) fun x6=>
 A.ret _ (A.mkX .tab (x5.1,()),x6.1,())
def YK (A:Alg) (gI:Pt A cu) (gJ:Ft A cu) (x:Tup A.ah [.i]):Ot A BI:=
 A.cl gI gJ (x.1,A.lit 0,A.lit 199,()) fun x0=>
 A.cond (A.aA x0.1) (A.ret _ (A.aR .mono,()))<|
 A.l1 (.l .i64) (A.lst .i64 [A.mkX .i64 (x.1,())]) fun x1=>
 A.l1 (.l .mono) (A.lst .mono [A.mkX .mono (A.lit 1,x1.1,())]) fun x2=>
 A.ret _ (x2.1,())
def YL (A:Alg) (YM:Pt A BI) (YN:Ft A BI) (YO:Pt A BH) (YP:Ft A BH) (x:Tup A.ah [.i,.i,.l .atom,.b]):Ot A BJ:=
 A.cl YO YP (A.mkX .tab (x.2.2.1,()),A.mkX .atom (x.1,x.2.1,A.aR .mono,A.aR .mono,()),()) fun x0=>
 A.l1 (.x .tab) x0.1 fun x1=>
 A.l1 .i x0.2.1 fun x2=>
 A.cond (A.cmp .lss x2.1 (A.lit 0)) (A.l1 .b (A.bl true) fun x3=>
 A.ret _ (A.mkX .poly (A.aR .mono,()),x.2.2.1,x3.1,()))<|
 A.l1 (.x .tab) x1.1 fun x3=>
 A.cl YM YN (x2.1,()) fun x4=>
 A.ret _ (A.mkX .poly (x4.1,()),A.fL .tab 0 .atom x3.1,x.2.2.2.1,())
def YQ (A:Alg) (UG:Pt A BJ) (UH:Ft A BJ) (x:Tup A.ah [.l .atom,.b]):Ot A BK:=
 A.iter [.i,.l .atom,.b,.l .poly] (fun x0=>
 A.cond (A.cmp .lss x0.1 (A.lit 4)) (A.l1 .i x0.1 fun x1=>
 A.cl UG UH (A.lit 1,x1.1,x0.2.1,x0.2.2.1,()) fun x2=>
 A.l1 (.l .poly) (A.lst .poly [x2.1]) fun x3=>
 A.chk (A.cmp .leq (A.addN (A.len .poly x0.2.2.2.1) (A.len .poly x3.1)) (A.lit 1073741824))<|
 A.l1 (.l .poly) (A.app .poly x0.2.2.2.1 x3.1) fun x4=>
 A.inl _ (A.arith .add .i64 x0.1 (A.lit 1),x2.2.1,x2.2.2.1,x4.1,()))<|
 A.inr _<|A.ret _ (x0.2.1,x0.2.2.1,x0.2.2.2.1,())) (A.lit 0,x.1,x.2.1,A.aR .poly,())
def YR (A:Alg) (x:Tup A.ah [.l .i64]):Ot A BL:=
 A.chk (A.cmp .leq (A.len .i64 x.1) (A.lit 1073741824))<|
 A.l1 (.l .i64) x.1 fun x0=>
 A.ret _ (x0.1,())
def YS (A:Alg) (YT:Pt A BL) (YU:Ft A BL) (x:Tup A.ah [.x .poly]):Ot A uI:=
 A.iter [.l .mono,.i,.i,.l .mono] (fun x0=>
 A.cond (A.cmp .lss x0.2.2.1 x0.2.1) (A.bd .mono x0.1 x0.2.2.1<|
 A.l1 (.x .mono) (A.get .mono x0.1 x0.2.2.1) fun x1=>
 A.cl YT YU (A.fL .mono 1 .i64 x1.1,()) fun x2=>
 A.l1 (.l .mono) (A.lst .mono [A.mkX .mono (A.fI .mono 0 x1.1,x2.1,())]) fun x3=>
 A.chk (A.cmp .leq (A.addN (A.len .mono x0.2.2.2.1) (A.len .mono x3.1)) (A.lit 1073741824))<|
 A.l1 (.l .mono) (A.app .mono x0.2.2.2.1 x3.1) fun x4=>
 A.inl _ (x0.1,x0.2.1,A.arith .add .i64 x0.2.2.1 (A.lit 1),x4.1,()))<|
 A.inr _<|A.ret _ (x0.2.2.2.1,())) (A.fL .poly 0 .mono x.1,A.len .mono (A.fL .poly 0 .mono x.1),A.lit 0,A.aR .mono,())
def YV (A:Alg) (zm:Pt A uI) (zn:Ft A uI) (x:Tup A.ah [.x .tab]):Ot A BM:=
 A.iter [.l .atom,.i,.i,.l .atom] (fun x0=>
 A.cond (A.cmp .lss x0.2.2.1 x0.2.1) (A.bd .atom x0.1 x0.2.2.1<|
 A.l1 (.x .atom) (A.get .atom x0.1 x0.2.2.1) fun x1=>
 A.cl zm zn (A.mkX .poly (A.fL .atom 2 .mono x1.1,()),()) fun x2=>
 A.cl zm zn (A.mkX .poly (A.fL .atom 3 .mono x1.1,()),()) fun x3=>
 A.l1 (.l .atom) (A.lst .atom [A.mkX .atom (A.fI .atom 0 x1.1,A.fI .atom 1 x1.1,x2.1,x3.1,())]) fun x4=>
 A.chk (A.cmp .leq (A.addN (A.len .atom x0.2.2.2.1) (A.len .atom x4.1)) (A.lit 1073741824))<|
 A.l1 (.l .atom) (A.app .atom x0.2.2.2.1 x4.1) fun x5=>
 A.inl _ (x0.1,x0.2.1,A.arith .add .i64 x0.2.2.1 (A.lit 1),x5.1,()))<|
 A.inr _<|A.ret _ (x0.2.2.2.1,())) (A.fL .tab 0 .atom x.1,A.len .atom (A.fL .tab 0 .atom x.1),A.lit 0,A.aR .atom,())
def YW (A:Alg) (YX:Pt A BM) (YZ:Ft A BM) (Y0:Pt A BK) (Y1:Ft A BK) (x:Tup A.ah []):Ot A MQ:=
 A.cl Y0 Y1 (A.aR .atom,A.bl false,()) fun x0=>
 A.cl YX YZ (A.mkX .tab (x0.1,()),()) fun x1=>
 A.ret _ (A.mkX .tab (x1.1,()),x0.2.2.1,())
def Y2 (A:Alg) (YG:Pt A BD) (YH:Ft A BD) (YI:Pt A BF) (YJ:Ft A BF) (x:Tup A.ah [.x .tab]):Ot A MR:=
 A.l1 .b (A.bl false) fun x0=>
 A.iter [.l .atom,.i,.i,.x .tab] (fun x1=>
 A.cond (A.cmp .lss x1.2.2.1 x1.2.1) (A.bd .atom x1.1 x1.2.2.1<|
 A.l1 .i x1.2.2.1 fun x2=>
 A.l1 (.x .atom) (A.get .atom x1.1 x1.2.2.1) fun x3=>
 A.cl YG YH (x3.1,x2.1,()) fun x4=>
 A.cg (A.aA (A.aA x4.1)) YI YJ (x1.2.2.2.1,x3.1,()) fun x5=>
 A.cond (A.au (A.aA x4.1) (A.bl true) (A.cmp .neq x5.1 x2.1)) (A.l1 .b (A.bl false) fun x6=>
 A.inr _<|A.ret _ (x6.1,()))<|
 A.inl _ (x1.1,x1.2.1,A.arith .add .i64 x1.2.2.1 (A.lit 1),x1.2.2.2.1,()))<|
 A.inr _<|A.rb (A.cmp .leq (A.len .atom (A.fL .tab 0 .atom x1.2.2.2.1)) (A.lit 200))) (A.fL .tab 0 .atom x.1,A.len .atom (A.fL .tab 0 .atom x.1),A.lit 0,x.1,())
def Y3 (A:Alg) (gI:Pt A cu) (gJ:Ft A cu) (x:Tup A.ah [.x .iop]):Ot A MS:=
 A.l1 .b (A.bl false) fun x0=>
 A.cl gI gJ (A.fI .iop 0 x.1,A.lit 4,A.lit 7,()) fun x1=>
 A.rb x1.1
def Y4 (A:Alg) (x:Tup A.ah [.l .poly]):Ot A MU:=
 A.chk (A.cmp .neq (A.len .poly x.1) (A.lit 0))<|
 A.cond (A.bl false) (A.ret _ (x.1,A.aR .poly,()))<|
 A.l1 (.l .poly) (A.lst .poly []) fun x0=>
 A.chk (A.cmp .leq (A.addN (A.len .poly x0.1) (A.len .poly x.1)) (A.lit 1073741824))<|
 A.l1 (.l .poly) (A.app .poly x0.1 x.1) fun x1=>
 A.ret _ (x.1,x1.1,())
def Y5 (A:Alg) (gI:Pt A cu) (gJ:Ft A cu) (x:Tup A.ah [.i]):Ot A uJ:=
 A.cl gI gJ (x.1,A.lit 1,A.lit 65535,()) fun x0=>
 A.cond (A.aA x0.1) (A.ret _ (A.aR .mono,()))<|
 A.l1 (.l .mono) (A.lst .mono [A.mkX .mono (x.1,A.aR .i64,())]) fun x1=>
 A.ret _ (x1.1,())
def Y6 (A:Alg) (kU:Pt A iR) (kV:Ft A iR) (x:Tup A.ah [.x .poly]):Ot A BN:=
 A.l1 .i (A.lit 0) fun x0=>
 A.l1 .b (A.bl false) fun x1=>
 A.cl kU kV (x.1,()) fun x2=>
 A.l1 .b (A.aA x2.1) fun x3=>
 A.cond x3.1 (A.l1 .i (A.lit 0) fun x4=>
 A.l1 .b (A.bl false) fun x5=>
 A.ret _ (x4.1,x5.1,()))<|
 A.l1 .b (A.cmp .eql (A.len .mono (A.fL .poly 0 .mono x.1)) (A.lit 0)) fun x4=>
 A.cond x4.1 (A.l1 .i (A.lit 0) fun x5=>
 A.l1 .b (A.bl true) fun x6=>
 A.ret _ (x5.1,x6.1,()))<|
 A.chk (A.orB (A.aA (A.cmp .eql (A.len .mono (A.fL .poly 0 .mono x.1)) (A.lit 1))) (A.cmp .leq (A.lit 0) (A.lit 0)))<|
 A.chk (A.orB (A.aA (A.cmp .eql (A.len .mono (A.fL .poly 0 .mono x.1)) (A.lit 1))) (A.cmp .lss (A.lit 0) (A.len .mono (A.fL .poly 0 .mono x.1))))<|
 A.l1 .b (A.au (A.cmp .eql (A.len .mono (A.fL .poly 0 .mono x.1)) (A.lit 1)) (A.cmp .eql (A.len .i64 (A.fL .mono 1 .i64 (A.get .mono (A.fL .poly 0 .mono x.1) (A.lit 0)))) (A.lit 0)) (A.bl false)) fun x5=>
 A.cond x5.1 (A.bd .mono (A.fL .poly 0 .mono x.1) (A.lit 0)<|
 A.l1 .i (A.fI .mono 0 (A.get .mono (A.fL .poly 0 .mono x.1) (A.lit 0))) fun x6=>
 A.l1 .b (A.bl true) fun x7=>
 A.ret _ (x6.1,x7.1,()))<|
 A.l1 .i (A.lit 0) fun x6=>
 A.l1 .b (A.bl false) fun x7=>
 A.ret _ (x6.1,x7.1,())
def Y7 (A:Alg) (x:Tup A.ah [.i]):Ot A uK:=
 A.l1 .i (A.lit 0) fun x0=>
 A.l1 .i (A.arith .and .i64 x.1 (A.lit 65535)) fun x1=>
 A.ret _ (x1.1,())
def Y8 (A:Alg) (FL:Pt A nY) (FN:Ft A nY) (x:Tup A.ah [.x .mono,.x .mono]):Ot A BO:=
 A.l1 .i (A.lit 0) fun x0=>
 A.cl FL FN (A.fL .mono 1 .i64 x.1,A.fL .mono 1 .i64 x.2.1,()) fun x1=>
 A.l1 .i x1.1 fun x2=>
 A.ret _ (x2.1,())
def RZ (A:Alg) (ND:Pt A BO) (NG:Ft A BO) (x:Tup A.ah [.i,.i,.l .mono]):Ot A E9:=
 A.l1 .i (A.arith .add .i64 x.1 (A.lit 1)) fun x0=>
 A.iter [.i,.i,.i,.l .mono] (fun x1=>
 A.cond (A.cmp .lss x1.2.2.1 x1.2.1) (A.l1 .i x1.2.2.1 fun x2=>
 A.iter [.i,.i,.i,.i,.l .mono] (fun x3=>
 A.chk (A.orB (A.aA (A.cmp .gtr x3.2.2.2.1 x3.1)) (A.cmp .leq (A.lit 0) x3.2.2.2.1))<|
 A.chk (A.orB (A.aA (A.cmp .gtr x3.2.2.2.1 x3.1)) (A.cmp .lss x3.2.2.2.1 (A.len .mono x3.q.1)))<|
 A.chk (A.orB (A.aA (A.cmp .gtr x3.2.2.2.1 x3.1)) (A.cmp .leq (A.lit 0) x3.2.2.2.1))<|
 A.chk (A.orB (A.aA (A.cmp .gtr x3.2.2.2.1 x3.1)) (A.cmp .lss x3.2.2.2.1 (A.len .mono x3.q.1)))<|
 A.chk (A.orB (A.aA (A.cmp .gtr x3.2.2.2.1 x3.1)) (A.cmp .leq (A.lit 0) (A.arith .sub .i64 x3.2.2.2.1 (A.lit 1))))<|
 A.chk (A.orB (A.aA (A.cmp .gtr x3.2.2.2.1 x3.1)) (A.cmp .lss (A.arith .sub .i64 x3.2.2.2.1 (A.lit 1)) (A.len .mono x3.q.1)))<|
 A.chk (A.orB (A.aA (A.cmp .gtr x3.2.2.2.1 x3.1)) (A.cmp .leq (A.lit 0) (A.arith .sub .i64 x3.2.2.2.1 (A.lit 1))))<|
 A.chk (A.orB (A.aA (A.cmp .gtr x3.2.2.2.1 x3.1)) (A.cmp .lss (A.arith .sub .i64 x3.2.2.2.1 (A.lit 1)) (A.len .mono x3.q.1)))<|
 A.cg (A.cmp .gtr x3.2.2.2.1 x3.1) ND NG (A.get .mono x3.q.1 x3.2.2.2.1,A.get .mono x3.q.1 (A.arith .sub .i64 x3.2.2.2.1 (A.lit 1)),()) fun x4=>
 A.cond (A.au (A.cmp .gtr x3.2.2.2.1 x3.1) (A.cmp .lss x4.1 (A.lit 0)) (A.bl false)) (A.bd .mono x3.q.1 (A.arith .sub .i64 x3.2.2.2.1 (A.lit 1))<|
 A.bd .mono x3.q.1 (A.arith .sub .i64 x3.2.2.2.1 (A.lit 1))<|
 A.bd .mono x3.q.1 x3.2.2.2.1<|
 A.bd .mono x3.q.1 x3.2.2.2.1<|
 A.bd .mono x3.q.1 x3.2.2.2.1<|
 A.bd .mono x3.q.1 x3.2.2.2.1<|
 A.l1 (.x .mono) (A.get .mono x3.q.1 (A.arith .sub .i64 x3.2.2.2.1 (A.lit 1))) fun x5=>
 A.bd .mono (A.set .mono x3.q.1 x3.2.2.2.1 x5.1) (A.arith .sub .i64 x3.2.2.2.1 (A.lit 1))<|
 A.bd .mono (A.set .mono x3.q.1 x3.2.2.2.1 x5.1) (A.arith .sub .i64 x3.2.2.2.1 (A.lit 1))<|
 A.l1 (.x .mono) (A.get .mono x3.q.1 x3.2.2.2.1) fun x6=>
 A.l1 .i (A.arith .sub .i64 x3.2.2.2.1 (A.lit 1)) fun x7=>
 A.inl _ (x3.1,x3.2.1,x3.2.2.1,x7.1,A.set .mono (A.set .mono x3.q.1 x3.2.2.2.1 x5.1) (A.arith .sub .i64 x3.2.2.2.1 (A.lit 1)) x6.1,()))<|
 A.inr _<|A.l1 .i (A.arith .add .i64 x3.2.2.1 (A.lit 1)) fun x5=>
 A.inl _ (x3.1,x3.2.1,x5.1,x3.q.1,())) (x1.1,x1.2.1,x1.2.2.1,x2.1,x1.2.2.2.1,()))<|
 A.inr _<|A.ret _ (x1.2.2.2.1,())) (x.1,x.2.1,x0.1,x.2.2.1,())
def R3 (A:Alg) (x:Tup A.ah [.i,.i,.i,.l .mono]):Ot A Fa:=
 A.l1 .i (A.lit 0) fun x0=>
 A.iter [.i,.i,.i,.i,.l .mono] (fun x1=>
 A.cond (A.cmp .lss x1.2.2.2.1 x1.2.2.1) (A.bd .mono x1.q.1 (A.arith .add .i64 x1.2.1 x1.2.2.2.1)<|
 A.bd .mono x1.q.1 (A.arith .add .i64 x1.2.1 x1.2.2.2.1)<|
 A.bd .mono x1.q.1 (A.arith .add .i64 x1.1 x1.2.2.2.1)<|
 A.bd .mono x1.q.1 (A.arith .add .i64 x1.1 x1.2.2.2.1)<|
 A.bd .mono x1.q.1 (A.arith .add .i64 x1.1 x1.2.2.2.1)<|
 A.bd .mono x1.q.1 (A.arith .add .i64 x1.1 x1.2.2.2.1)<|
 A.l1 (.x .mono) (A.get .mono x1.q.1 (A.arith .add .i64 x1.2.1 x1.2.2.2.1)) fun x2=>
 A.bd .mono (A.set .mono x1.q.1 (A.arith .add .i64 x1.1 x1.2.2.2.1) x2.1) (A.arith .add .i64 x1.2.1 x1.2.2.2.1)<|
 A.bd .mono (A.set .mono x1.q.1 (A.arith .add .i64 x1.1 x1.2.2.2.1) x2.1) (A.arith .add .i64 x1.2.1 x1.2.2.2.1)<|
 A.l1 (.x .mono) (A.get .mono x1.q.1 (A.arith .add .i64 x1.1 x1.2.2.2.1)) fun x3=>
 A.l1 .i (A.arith .add .i64 x1.2.2.2.1 (A.lit 1)) fun x4=>
 A.inl _ (x1.1,x1.2.1,x1.2.2.1,x4.1,A.set .mono (A.set .mono x1.q.1 (A.arith .add .i64 x1.1 x1.2.2.2.1) x2.1) (A.arith .add .i64 x1.2.1 x1.2.2.2.1) x3.1,()))<|
 A.inr _<|A.ret _ (x1.q.1,())) (x.1,x.2.1,x.2.2.1,x0.1,x.2.2.2.1,())
def R4 (A:Alg) (R5:Pt A Fa) (R6:Ft A Fa) (x:Tup A.ah [.i,.i,.i,.l .mono]):Ot A Fb:=
 A.l1 .i (A.arith .sub .i64 x.2.1 x.1) fun x0=>
 A.l1 .i (A.arith .sub .i64 x.2.2.1 x.2.1) fun x1=>
 A.iter [.i,.i,.i,.l .mono] (fun x2=>
 A.cond (A.cmp .neq x2.2.1 x2.2.2.1) (A.bind [.i,.i,.i,.l .mono] (A.cond (A.cmp .gtr x2.2.1 x2.2.2.1) (A.cl R5 R6 (A.arith .sub .i64 x2.1 x2.2.1,x2.1,x2.2.2.1,x2.2.2.2.1,()) fun x3=>
 A.l1 .i (A.arith .sub .i64 x2.2.1 x2.2.2.1) fun x4=>
 A.ret _ (x2.1,x4.1,x2.2.2.1,x3.1,()))<|
 A.cl R5 R6 (A.arith .sub .i64 x2.1 x2.2.1,A.arith .sub .i64 (A.arith .add .i64 x2.1 x2.2.2.1) x2.2.1,x2.2.1,x2.2.2.2.1,()) fun x3=>
 A.l1 .i (A.arith .sub .i64 x2.2.2.1 x2.2.1) fun x4=>
 A.ret _ (x2.1,x2.2.1,x4.1,x3.1,())) fun x3=>
 A.inl _ (x3.1,x3.2.1,x3.2.2.1,x3.2.2.2.1,()))<|
 A.inr _<|A.cl R5 R6 (A.arith .sub .i64 x2.1 x2.2.1,x2.1,x2.2.1,x2.2.2.2.1,()) fun x3=>
 A.ret _ (x3.1,())) (x.2.1,x0.1,x1.1,x.2.2.2.1,())
def FP (A:Alg) (ND:Pt A BO) (NG:Ft A BO) (af7:Pt A Fb) (af8:Ft A Fb) (FQ:Pt A mW) (FR:Ft A mW) (x:Tup A.ah [.i,.i,.i,.l .mono]):Ot A mW:=
 A.cond (A.cmp .eql (A.arith .sub .i64 x.2.1 x.1) (A.lit 1)) (A.l1 .i x.2.1 fun x0=>
 A.l1 .i x.2.2.1 fun x1=>
 A.iter [.i,.i,.i,.l .mono] (fun x2=>
 A.cond (A.cmp .lss x2.2.1 x2.2.2.1) (A.chk (A.cmp .leq (A.lit 0) (A.lit 1))<|
 A.l1 .i (A.conv .i64 (A.arith .shr .u64 (A.conv .u64 (A.arith .add .i64 x2.2.1 x2.2.2.1)) (A.lit 1))) fun x3=>
 A.bd .mono x2.2.2.2.1 x3.1<|
 A.bd .mono x2.2.2.2.1 x3.1<|
 A.bd .mono x2.2.2.2.1 x2.1<|
 A.bd .mono x2.2.2.2.1 x2.1<|
 A.cl ND NG (A.get .mono x2.2.2.2.1 x3.1,A.get .mono x2.2.2.2.1 x2.1,()) fun x4=>
 A.bind [.i,.i,.i,.l .mono] (A.cond (A.cmp .lss x4.1 (A.lit 0)) (A.l1 .i (A.arith .add .i64 x3.1 (A.lit 1)) fun x5=>
 A.ret _ (x2.1,x5.1,x2.2.2.1,x2.2.2.2.1,()))<|
 A.l1 .i x3.1 fun x5=>
 A.ret _ (x2.1,x2.2.1,x5.1,x2.2.2.2.1,())) fun x5=>
 A.inl _ (x5.1,x5.2.1,x5.2.2.1,x5.2.2.2.1,()))<|
 A.inr _<|A.l1 .i x2.1 fun x3=>
 A.iter [.i,.i,.l .mono] (fun x4=>
 A.cond (A.cmp .lss x4.2.1 (A.arith .sub .i64 x4.1 (A.lit 1))) (A.bd .mono x4.2.2.1 (A.arith .add .i64 x4.2.1 (A.lit 1))<|
 A.bd .mono x4.2.2.1 (A.arith .add .i64 x4.2.1 (A.lit 1))<|
 A.bd .mono x4.2.2.1 x4.2.1<|
 A.bd .mono x4.2.2.1 x4.2.1<|
 A.bd .mono x4.2.2.1 x4.2.1<|
 A.bd .mono x4.2.2.1 x4.2.1<|
 A.l1 (.x .mono) (A.get .mono x4.2.2.1 (A.arith .add .i64 x4.2.1 (A.lit 1))) fun x5=>
 A.bd .mono (A.set .mono x4.2.2.1 x4.2.1 x5.1) (A.arith .add .i64 x4.2.1 (A.lit 1))<|
 A.bd .mono (A.set .mono x4.2.2.1 x4.2.1 x5.1) (A.arith .add .i64 x4.2.1 (A.lit 1))<|
 A.l1 (.x .mono) (A.get .mono x4.2.2.1 x4.2.1) fun x6=>
 A.l1 .i (A.arith .add .i64 x4.2.1 (A.lit 1)) fun x7=>
 A.inl _ (x4.1,x7.1,A.set .mono (A.set .mono x4.2.2.1 x4.2.1 x5.1) (A.arith .add .i64 x4.2.1 (A.lit 1)) x6.1,()))<|
 A.inr _<|A.ret _ (x4.2.2.1,())) (x2.2.1,x3.1,x2.2.2.2.1,())) (x.1,x0.1,x1.1,x.2.2.2.1,()))<|
 A.cond (A.cmp .eql (A.arith .sub .i64 x.2.2.1 x.2.1) (A.lit 1)) (A.l1 .i x.1 fun x0=>
 A.l1 .i x.2.1 fun x1=>
 A.iter [.i,.i,.i,.l .mono] (fun x2=>
 A.cond (A.cmp .lss x2.2.1 x2.2.2.1) (A.chk (A.cmp .leq (A.lit 0) (A.lit 1))<|
 A.l1 .i (A.conv .i64 (A.arith .shr .u64 (A.conv .u64 (A.arith .add .i64 x2.2.1 x2.2.2.1)) (A.lit 1))) fun x3=>
 A.bd .mono x2.2.2.2.1 x2.1<|
 A.bd .mono x2.2.2.2.1 x2.1<|
 A.bd .mono x2.2.2.2.1 x3.1<|
 A.bd .mono x2.2.2.2.1 x3.1<|
 A.cl ND NG (A.get .mono x2.2.2.2.1 x2.1,A.get .mono x2.2.2.2.1 x3.1,()) fun x4=>
 A.bind [.i,.i,.i,.l .mono] (A.cond (A.aA (A.cmp .lss x4.1 (A.lit 0))) (A.l1 .i (A.arith .add .i64 x3.1 (A.lit 1)) fun x5=>
 A.ret _ (x2.1,x5.1,x2.2.2.1,x2.2.2.2.1,()))<|
 A.l1 .i x3.1 fun x5=>
 A.ret _ (x2.1,x2.2.1,x5.1,x2.2.2.2.1,())) fun x5=>
 A.inl _ (x5.1,x5.2.1,x5.2.2.1,x5.2.2.2.1,()))<|
 A.inr _<|A.l1 .i x2.1 fun x3=>
 A.iter [.i,.i,.l .mono] (fun x4=>
 A.cond (A.cmp .gtr x4.2.1 x4.1) (A.bd .mono x4.2.2.1 (A.arith .sub .i64 x4.2.1 (A.lit 1))<|
 A.bd .mono x4.2.2.1 (A.arith .sub .i64 x4.2.1 (A.lit 1))<|
 A.bd .mono x4.2.2.1 x4.2.1<|
 A.bd .mono x4.2.2.1 x4.2.1<|
 A.bd .mono x4.2.2.1 x4.2.1<|
 A.bd .mono x4.2.2.1 x4.2.1<|
 A.l1 (.x .mono) (A.get .mono x4.2.2.1 (A.arith .sub .i64 x4.2.1 (A.lit 1))) fun x5=>
 A.bd .mono (A.set .mono x4.2.2.1 x4.2.1 x5.1) (A.arith .sub .i64 x4.2.1 (A.lit 1))<|
 A.bd .mono (A.set .mono x4.2.2.1 x4.2.1 x5.1) (A.arith .sub .i64 x4.2.1 (A.lit 1))<|
 A.l1 (.x .mono) (A.get .mono x4.2.2.1 x4.2.1) fun x6=>
 A.l1 .i (A.arith .sub .i64 x4.2.1 (A.lit 1)) fun x7=>
 A.inl _ (x4.1,x7.1,A.set .mono (A.set .mono x4.2.2.1 x4.2.1 x5.1) (A.arith .sub .i64 x4.2.1 (A.lit 1)) x6.1,()))<|
 A.inr _<|A.ret _ (x4.2.2.1,())) (x2.2.1,x3.1,x2.2.2.2.1,())) (x.2.1,x0.1,x1.1,x.2.2.2.1,()))<|
 A.chk (A.cmp .leq (A.lit 0) (A.lit 1))<|
 A.l1 .i (A.conv .i64 (A.arith .shr .u64 (A.conv .u64 (A.arith .add .i64 x.1 x.2.2.1)) (A.lit 1))) fun x0=>
 A.l1 .i (A.arith .add .i64 x0.1 x.2.1) fun x1=>
 A.l1 .i (A.lit 0) fun x2=>
 A.l1 .i (A.lit 0) fun x3=>
 A.bind [.i,.i,.i,.i,.i,.i,.i,.l .mono] (A.cond (A.cmp .gtr x.2.1 x0.1) (A.l1 .i (A.arith .sub .i64 x1.1 x.2.2.1) fun x4=>
 A.l1 .i x0.1 fun x5=>
 A.ret _ (x.1,x.2.1,x.2.2.1,x0.1,x1.1,x4.1,x5.1,x.2.2.2.1,()))<|
 A.l1 .i x.1 fun x4=>
 A.l1 .i x.2.1 fun x5=>
 A.ret _ (x.1,x.2.1,x.2.2.1,x0.1,x1.1,x4.1,x5.1,x.2.2.2.1,())) fun x4=>
 A.l1 .i (A.arith .sub .i64 x4.q.1 (A.lit 1)) fun x5=>
 A.iter [.i,.i,.i,.i,.i,.i,.i,.i,.l .mono] (fun x6=>
 A.cond (A.cmp .lss x6.q.2.1 x6.q.2.2.1) (A.chk (A.cmp .leq (A.lit 0) (A.lit 1))<|
 A.l1 .i (A.conv .i64 (A.arith .shr .u64 (A.conv .u64 (A.arith .add .i64 x6.q.2.1 x6.q.2.2.1)) (A.lit 1))) fun x7=>
 A.bd .mono x6.o.1 (A.arith .sub .i64 x6.q.2.2.2.1 x7.1)<|
 A.bd .mono x6.o.1 (A.arith .sub .i64 x6.q.2.2.2.1 x7.1)<|
 A.bd .mono x6.o.1 x7.1<|
 A.bd .mono x6.o.1 x7.1<|
 A.cl ND NG (A.get .mono x6.o.1 (A.arith .sub .i64 x6.q.2.2.2.1 x7.1),A.get .mono x6.o.1 x7.1,()) fun x8=>
 A.bind [.i,.i,.i,.i,.i,.i,.i,.i,.l .mono] (A.cond (A.aA (A.cmp .lss x8.1 (A.lit 0))) (A.l1 .i (A.arith .add .i64 x7.1 (A.lit 1)) fun x9=>
 A.ret _ (x6.1,x6.2.1,x6.2.2.1,x6.2.2.2.1,x6.q.1,x9.1,x6.q.2.2.1,x6.q.2.2.2.1,x6.o.1,()))<|
 A.l1 .i x7.1 fun x9=>
 A.ret _ (x6.1,x6.2.1,x6.2.2.1,x6.2.2.2.1,x6.q.1,x6.q.2.1,x9.1,x6.q.2.2.2.1,x6.o.1,())) fun x9=>
 A.inl _ (x9.1,x9.2.1,x9.2.2.1,x9.2.2.2.1,x9.q.1,x9.q.2.1,x9.q.2.2.1,x9.q.2.2.2.1,x9.o.1,()))<|
 A.inr _<|A.l1 .i (A.arith .sub .i64 x6.q.1 x6.q.2.1) fun x7=>
 A.bind [.i,.i,.i,.i,.i,.l .mono] (A.cond (A.au (A.cmp .lss x6.q.2.1 x6.2.1) (A.cmp .lss x6.2.1 x7.1) (A.bl false)) (A.cl af7 af8 (x6.q.2.1,x6.2.1,x7.1,x6.o.1,()) fun x8=>
 A.ret _ (x6.1,x6.2.2.1,x6.2.2.2.1,x6.q.2.1,x7.1,x8.1,()))<|
 A.ret _ (x6.1,x6.2.2.1,x6.2.2.2.1,x6.q.2.1,x7.1,x6.o.1,())) fun x8=>
 A.bind [.i,.i,.i,.l .mono] (A.cond (A.au (A.cmp .lss x8.1 x8.2.2.2.1) (A.cmp .lss x8.2.2.2.1 x8.2.2.1) (A.bl false)) (A.cl FQ FR (x8.1,x8.2.2.2.1,x8.2.2.1,x8.q.2.1,()) fun x9=>
 A.ret _ (x8.2.1,x8.2.2.1,x8.q.1,x9.1,()))<|
 A.ret _ (x8.2.1,x8.2.2.1,x8.q.1,x8.q.2.1,())) fun x9=>
 A.bind [.l .mono] (A.cond (A.au (A.cmp .lss x9.2.1 x9.2.2.1) (A.cmp .lss x9.2.2.1 x9.1) (A.bl false)) (A.cl FQ FR (x9.2.1,x9.2.2.1,x9.1,x9.2.2.2.1,()) fun x10=>
 A.ret _ (x10.1,()))<|
 A.ret _ (x9.2.2.2.1,())) fun x10=>
 A.ret _ (x10.1,())) (x4.1,x4.2.1,x4.2.2.1,x4.2.2.2.1,x4.q.1,x4.q.2.1,x4.q.2.2.1,x5.1,x4.q.2.2.2.1,())
def R7 (A:Alg) (Y9:Pt A E9) (Za:Ft A E9) (FQ:Pt A mW) (FR:Ft A mW) (x:Tup A.ah [.i,.l .mono]):Ot A Fe:=
 A.l1 .i (A.lit 20) fun x0=>
 A.l1 .i (A.lit 0) fun x1=>
 A.l1 .i x0.1 fun x2=>
 A.iter [.i,.i,.i,.i,.l .mono] (fun x3=>
 A.cond (A.cmp .leq x3.2.2.2.1 x3.1) (A.cl Y9 Za (x3.2.2.1,x3.2.2.2.1,x3.q.1,()) fun x4=>
 A.l1 .i x3.2.2.2.1 fun x5=>
 A.l1 .i (A.arith .add .i64 x3.2.2.2.1 x3.2.1) fun x6=>
 A.inl _ (x3.1,x3.2.1,x5.1,x6.1,x4.1,()))<|
 A.inr _<|A.cl Y9 Za (x3.2.2.1,x3.1,x3.q.1,()) fun x4=>
 A.iter [.i,.i,.l .mono] (fun x5=>
 A.cond (A.cmp .lss x5.2.1 x5.1) (A.l1 .i (A.lit 0) fun x6=>
 A.l1 .i (A.arith .mul .i64 (A.lit 2) x5.2.1) fun x7=>
 A.iter [.i,.i,.i,.i,.l .mono] (fun x8=>
 A.cond (A.cmp .leq x8.2.2.2.1 x8.1) (A.cl FQ FR (x8.2.2.1,A.arith .add .i64 x8.2.2.1 x8.2.1,x8.2.2.2.1,x8.q.1,()) fun x9=>
 A.l1 .i x8.2.2.2.1 fun x10=>
 A.l1 .i (A.arith .add .i64 x8.2.2.2.1 (A.arith .mul .i64 (A.lit 2) x8.2.1)) fun x11=>
 A.inl _ (x8.1,x8.2.1,x10.1,x11.1,x9.1,()))<|
 A.inr _<|A.l1 .i (A.arith .add .i64 x8.2.2.1 x8.2.1) fun x9=>
 A.bind [.i,.i,.l .mono] (A.cond (A.cmp .lss x9.1 x8.1) (A.cl FQ FR (x8.2.2.1,x9.1,x8.1,x8.q.1,()) fun x10=>
 A.ret _ (x8.1,x8.2.1,x10.1,()))<|
 A.ret _ (x8.1,x8.2.1,x8.q.1,())) fun x10=>
 A.l1 .i (A.arith .mul .i64 x10.2.1 (A.lit 2)) fun x11=>
 A.inl _ (x10.1,x11.1,x10.2.2.1,())) (x5.1,x5.2.1,x6.1,x7.1,x5.2.2.1,()))<|
 A.inr _<|A.ret _ (x5.2.2.1,())) (x3.1,x3.2.1,x4.1,())) (x.1,x0.1,x1.1,x2.1,x.2.1,())
def R8 (A:Alg) (af9:Pt A Fe) (aga:Ft A Fe) (x:Tup A.ah [.l .mono]):Ot A Fg:=
 A.cl af9 aga (A.len .mono x.1,x.1,()) fun x0=>
 A.ret _ (x0.1,())
def Zb (A:Alg) (FL:Pt A nY) (FN:Ft A nY) (kU:Pt A iR) (kV:Ft A iR) (FT:Pt A uK) (FU:Ft A uK) (YT:Pt A BL) (YU:Ft A BL) (agb:Pt A Fg) (agc:Ft A Fg) (x:Tup A.ah [.l .mono]):Ot A BP:=
 A.l1 .b (A.bl false) fun x0=>
 A.cl agb agc (x.1,()) fun x1=>
 A.l1 .i (A.lit 0) fun x2=>
 A.iter [.i,.l .mono,.l .mono] (fun x3=>
 A.cond (A.cmp .lss x3.1 (A.len .mono x3.2.1)) (A.bd .mono x3.2.1 x3.1<|
 A.bd .mono x3.2.1 x3.1<|
 A.l1 .i (A.lit 0) fun x4=>
 A.l1 (.x .mono) (A.get .mono x3.2.1 x3.1) fun x5=>
 A.iter [.i,.i,.l .mono,.x .mono,.l .mono] (fun x6=>
 A.chk (A.orB (A.aA (A.cmp .lss x6.1 (A.len .mono x6.2.2.1))) (A.cmp .leq (A.lit 0) x6.1))<|
 A.chk (A.orB (A.aA (A.cmp .lss x6.1 (A.len .mono x6.2.2.1))) (A.cmp .lss x6.1 (A.len .mono x6.2.2.1)))<|
 A.chk (A.orB (A.aA (A.cmp .lss x6.1 (A.len .mono x6.2.2.1))) (A.cmp .leq (A.lit 0) x6.1))<|
 A.chk (A.orB (A.aA (A.cmp .lss x6.1 (A.len .mono x6.2.2.1))) (A.cmp .lss x6.1 (A.len .mono x6.2.2.1)))<|
 A.cg (A.cmp .lss x6.1 (A.len .mono x6.2.2.1)) FL FN (A.fL .mono 1 .i64 x6.2.2.2.1,A.fL .mono 1 .i64 (A.get .mono x6.2.2.1 x6.1),()) fun x7=>
 A.cond (A.au (A.cmp .lss x6.1 (A.len .mono x6.2.2.1)) (A.cmp .eql x7.1 (A.lit 0)) (A.bl false)) (A.bd .mono x6.2.2.1 x6.1<|
 A.bd .mono x6.2.2.1 x6.1<|
 A.cl FT FU (A.arith .add .i64 x6.2.1 (A.fI .mono 0 (A.get .mono x6.2.2.1 x6.1)),()) fun x8=>
 A.l1 .i x8.1 fun x9=>
 A.l1 .i (A.arith .add .i64 x6.1 (A.lit 1)) fun x10=>
 A.inl _ (x10.1,x9.1,x6.2.2.1,x6.2.2.2.1,x6.q.1,()))<|
 A.inr _<|A.bind [.i,.l .mono,.l .mono] (A.cond (A.cmp .gtr x6.2.1 (A.lit 0)) (A.cl YT YU (A.fL .mono 1 .i64 x6.2.2.2.1,()) fun x8=>
 A.l1 (.l .mono) (A.lst .mono [A.mkX .mono (x6.2.1,x8.1,())]) fun x9=>
 A.chk (A.cmp .leq (A.addN (A.len .mono x6.q.1) (A.len .mono x9.1)) (A.lit 1073741824))<|
 A.l1 (.l .mono) (A.app .mono x6.q.1 x9.1) fun x10=>
 A.ret _ (x6.1,x6.2.2.1,x10.1,()))<|
 A.ret _ (x6.1,x6.2.2.1,x6.q.1,())) fun x8=>
 A.inl _ (x8.1,x8.2.1,x8.2.2.1,())) (x3.1,x4.1,x3.2.1,x5.1,x3.2.2.1,()))<|
 A.inr _<|A.cl kU kV (A.mkX .poly (x3.2.2.1,()),()) fun x4=>
 A.cond (A.aA x4.1) (A.l1 .b (A.bl false) fun x5=>
 A.ret _ (x5.1,x3.2.1,A.aR .mono,()))<|
 A.l1 .b (A.bl true) fun x5=>
 A.ret _ (x5.1,x3.2.1,x3.2.2.1,())) (x2.1,x1.1,A.aR .mono,())
def Zc (A:Alg) (x:Tup A.ah [.i]):Ot A MV:=
 A.cond (A.cmp .lss x.1 (A.lit 0)) (A.fail)<|
 A.l1 .i (A.arith .sub .i64 x.1 (A.arith .sub .i64 (A.lit 0) (A.lit 0))) fun x0=>
 A.bind [.l .mono] (A.cond (A.cmp .gtr x0.1 (A.lit 0)) (A.chk (A.cmp .eql (A.lit 0) (A.lit 0))<|
 A.chk (A.cmp .eql (A.lit 0) (A.lit 0))<|
 A.chk (A.cmp .leq (A.lit 0) x0.1)<|
 A.chk (A.cmp .leq x0.1 (A.lit 1073741824))<|
 A.chk (A.cmp .leq (A.len .mono (A.rep .mono x0.1 (A.mkX .mono (A.lit 0,A.aR .i64,())))) (A.lit 1073741824))<|
 A.l1 (.l .mono) (A.rep .mono x0.1 (A.mkX .mono (A.lit 0,A.aR .i64,()))) fun x1=>
 A.chk (A.cmp .leq (A.lit 0) (A.lit 0))<|
 A.chk (A.cmp .leq (A.lit 0) (A.lit 0))<|
 A.chk (A.cmp .leq (A.lit 0) (A.len .mono x1.1))<|
 A.chk (A.cmp .eql (A.lit 0) (A.lit 0))<|
 A.chk (A.cmp .leq (A.lit 0) (A.Jv (A.lit 0) (A.lit 0)))<|
 A.chk (A.cmp .leq (A.Jv (A.lit 0) (A.lit 0)) (A.len .mono x1.1))<|
 A.ret _ (A.sub .mono x1.1 (A.lit 0) (A.Jv (A.lit 0) (A.lit 0)),()))<|
 A.ret _ (A.aR .mono,())) fun x1=>
 A.ret _ (x1.1,())
def Zd (A:Alg) (al9:Pt A MV) (ama:Ft A MV) (x:Tup A.ah [.l .poly]):Ot A MW:=
 A.l1 .i (A.lit 0) fun x0=>
 A.iter [.l .poly,.i,.l .poly,.i,.i] (fun x1=>
 A.cond (A.cmp .lss x1.q.1 x1.2.2.2.1) (A.bd .poly x1.2.2.1 x1.q.1<|
 A.l1 (.l .mono) (A.fL .poly 0 .mono (A.get .poly x1.2.2.1 x1.q.1)) fun x2=>
 A.l1 .i (A.arith .add .i64 x1.2.1 (A.len .mono x2.1)) fun x3=>
 A.cond (A.cmp .lss x3.1 (A.lit 0)) (A.fail)<|
 A.inl _ (x1.1,x3.1,x1.2.2.1,x1.2.2.2.1,A.arith .add .i64 x1.q.1 (A.lit 1),()))<|
 A.inr _<|A.cl al9 ama (x1.2.1,()) fun x2=>
 A.iter [.l .poly,.i,.i,.l .mono] (fun x3=>
 A.cond (A.cmp .lss x3.2.2.1 x3.2.1) (A.bd .poly x3.1 x3.2.2.1<|
 A.l1 (.l .mono) (A.fL .poly 0 .mono (A.get .poly x3.1 x3.2.2.1)) fun x4=>
 A.chk (A.cmp .leq (A.addN (A.len .mono x3.2.2.2.1) (A.len .mono x4.1)) (A.lit 1073741824))<|
 A.l1 (.l .mono) (A.app .mono x3.2.2.2.1 x4.1) fun x5=>
 A.inl _ (x3.1,x3.2.1,A.arith .add .i64 x3.2.2.1 (A.lit 1),x5.1,()))<|
 A.inr _<|A.ret _ (x3.2.2.2.1,())) (x1.1,A.len .poly x1.1,A.lit 0,x2.1,())) (x.1,x0.1,x.1,A.len .poly x.1,A.lit 0,())
def Ze (A:Alg) (kU:Pt A iR) (kV:Ft A iR) (Zf:Pt A BP) (Zg:Ft A BP) (amb:Pt A MW) (amc:Ft A MW) (x:Tup A.ah [.x .poly,.x .poly]):Ot A MX:=
 A.l1 .b (A.bl false) fun x0=>
 A.cl kU kV (x.1,()) fun x1=>
 A.cg (A.aA (A.aA x1.1)) kU kV (x.2.1,()) fun x2=>
 A.cond (A.au (A.aA x1.1) (A.bl true) (A.aA x2.1)) (A.l1 .b (A.bl false) fun x3=>
 A.ret _ (x3.1,A.aR .mono,()))<|
 A.l1 (.l .poly) (A.lst .poly [A.mkX .poly (A.fL .poly 0 .mono x.1,()),A.mkX .poly (A.fL .poly 0 .mono x.2.1,())]) fun x3=>
 A.cl amb amc (x3.1,()) fun x4=>
 A.cl Zf Zg (x4.1,()) fun x5=>
 A.l1 .b x5.1 fun x6=>
 A.ret _ (x6.1,x5.2.2.1,())
def R9 (A:Alg) (x:Tup A.ah [.i]):Ot A Fh:=
 A.cond (A.cmp .lss x.1 (A.lit 0)) (A.fail)<|
 A.l1 .i (A.arith .sub .i64 x.1 (A.arith .sub .i64 (A.lit 0) (A.lit 0))) fun x0=>
 A.bind [.l .i64] (A.cond (A.cmp .gtr x0.1 (A.lit 0)) (A.chk (A.cmp .eql (A.lit 0) (A.lit 0))<|
 A.chk (A.cmp .eql (A.lit 0) (A.lit 0))<|
 A.chk (A.cmp .leq (A.lit 0) x0.1)<|
 A.chk (A.cmp .leq x0.1 (A.lit 1073741824))<|
 A.chk (A.cmp .leq (A.len .i64 (A.rep .i64 x0.1 (A.mkX .i64 (A.lit 0,())))) (A.lit 1073741824))<|
 A.l1 (.l .i64) (A.rep .i64 x0.1 (A.mkX .i64 (A.lit 0,()))) fun x1=>
 A.chk (A.cmp .leq (A.lit 0) (A.lit 0))<|
 A.chk (A.cmp .leq (A.lit 0) (A.lit 0))<|
 A.chk (A.cmp .leq (A.lit 0) (A.len .i64 x1.1))<|
 A.chk (A.cmp .eql (A.lit 0) (A.lit 0))<|
 A.chk (A.cmp .leq (A.lit 0) (A.Jv (A.lit 0) (A.lit 0)))<|
 A.chk (A.cmp .leq (A.Jv (A.lit 0) (A.lit 0)) (A.len .i64 x1.1))<|
 A.ret _ (A.sub .i64 x1.1 (A.lit 0) (A.Jv (A.lit 0) (A.lit 0)),()))<|
 A.ret _ (A.aR .i64,())) fun x1=>
 A.ret _ (x1.1,())
def Zh (A:Alg) (agd:Pt A Fh) (agf:Ft A Fh) (x:Tup A.ah [.l .ints]):Ot A MZ:=
 A.l1 .i (A.lit 0) fun x0=>
 A.iter [.l .ints,.i,.l .ints,.i,.i] (fun x1=>
 A.cond (A.cmp .lss x1.q.1 x1.2.2.2.1) (A.bd .ints x1.2.2.1 x1.q.1<|
 A.l1 (.l .i64) (A.fL .ints 0 .i64 (A.get .ints x1.2.2.1 x1.q.1)) fun x2=>
 A.l1 .i (A.arith .add .i64 x1.2.1 (A.len .i64 x2.1)) fun x3=>
 A.cond (A.cmp .lss x3.1 (A.lit 0)) (A.fail)<|
 A.inl _ (x1.1,x3.1,x1.2.2.1,x1.2.2.2.1,A.arith .add .i64 x1.q.1 (A.lit 1),()))<|
 A.inr _<|A.cl agd agf (x1.2.1,()) fun x2=>
 A.iter [.l .ints,.i,.i,.l .i64] (fun x3=>
 A.cond (A.cmp .lss x3.2.2.1 x3.2.1) (A.bd .ints x3.1 x3.2.2.1<|
 A.l1 (.l .i64) (A.fL .ints 0 .i64 (A.get .ints x3.1 x3.2.2.1)) fun x4=>
 A.chk (A.cmp .leq (A.addN (A.len .i64 x3.2.2.2.1) (A.len .i64 x4.1)) (A.lit 1073741824))<|
 A.l1 (.l .i64) (A.app .i64 x3.2.2.2.1 x4.1) fun x5=>
 A.inl _ (x3.1,x3.2.1,A.arith .add .i64 x3.2.2.1 (A.lit 1),x5.1,()))<|
 A.inr _<|A.ret _ (x3.2.2.2.1,())) (x1.1,A.len .ints x1.1,A.lit 0,x2.1,())) (x.1,x0.1,x.1,A.len .ints x.1,A.lit 0,())
def Sb (A:Alg) (Yt:Pt A EW) (Yu:Ft A EW) (x:Tup A.ah [.i,.i,.l .i64]):Ot A Fj:=
 A.l1 .i (A.arith .add .i64 x.1 (A.lit 1)) fun x0=>
 A.iter [.i,.i,.i,.l .i64] (fun x1=>
 A.cond (A.cmp .lss x1.2.2.1 x1.2.1) (A.l1 .i x1.2.2.1 fun x2=>
 A.iter [.i,.i,.i,.i,.l .i64] (fun x3=>
 A.chk (A.orB (A.aA (A.cmp .gtr x3.2.2.2.1 x3.1)) (A.cmp .leq (A.lit 0) x3.2.2.2.1))<|
 A.chk (A.orB (A.aA (A.cmp .gtr x3.2.2.2.1 x3.1)) (A.cmp .lss x3.2.2.2.1 (A.len .i64 x3.q.1)))<|
 A.chk (A.orB (A.aA (A.cmp .gtr x3.2.2.2.1 x3.1)) (A.cmp .leq (A.lit 0) x3.2.2.2.1))<|
 A.chk (A.orB (A.aA (A.cmp .gtr x3.2.2.2.1 x3.1)) (A.cmp .lss x3.2.2.2.1 (A.len .i64 x3.q.1)))<|
 A.chk (A.orB (A.aA (A.cmp .gtr x3.2.2.2.1 x3.1)) (A.cmp .leq (A.lit 0) (A.arith .sub .i64 x3.2.2.2.1 (A.lit 1))))<|
 A.chk (A.orB (A.aA (A.cmp .gtr x3.2.2.2.1 x3.1)) (A.cmp .lss (A.arith .sub .i64 x3.2.2.2.1 (A.lit 1)) (A.len .i64 x3.q.1)))<|
 A.chk (A.orB (A.aA (A.cmp .gtr x3.2.2.2.1 x3.1)) (A.cmp .leq (A.lit 0) (A.arith .sub .i64 x3.2.2.2.1 (A.lit 1))))<|
 A.chk (A.orB (A.aA (A.cmp .gtr x3.2.2.2.1 x3.1)) (A.cmp .lss (A.arith .sub .i64 x3.2.2.2.1 (A.lit 1)) (A.len .i64 x3.q.1)))<|
 A.cg (A.cmp .gtr x3.2.2.2.1 x3.1) Yt Yu (A.fI .i64 0 (A.get .i64 x3.q.1 x3.2.2.2.1),A.fI .i64 0 (A.get .i64 x3.q.1 (A.arith .sub .i64 x3.2.2.2.1 (A.lit 1))),()) fun x4=>
 A.cond (A.au (A.cmp .gtr x3.2.2.2.1 x3.1) x4.1 (A.bl false)) (A.bd .i64 x3.q.1 (A.arith .sub .i64 x3.2.2.2.1 (A.lit 1))<|
 A.bd .i64 x3.q.1 (A.arith .sub .i64 x3.2.2.2.1 (A.lit 1))<|
 A.bd .i64 x3.q.1 x3.2.2.2.1<|
 A.bd .i64 x3.q.1 x3.2.2.2.1<|
 A.bd .i64 x3.q.1 x3.2.2.2.1<|
 A.bd .i64 x3.q.1 x3.2.2.2.1<|
 A.l1 .i (A.fI .i64 0 (A.get .i64 x3.q.1 (A.arith .sub .i64 x3.2.2.2.1 (A.lit 1)))) fun x5=>
 A.bd .i64 (A.set .i64 x3.q.1 x3.2.2.2.1 (A.mkX .i64 (x5.1,()))) (A.arith .sub .i64 x3.2.2.2.1 (A.lit 1))<|
 A.bd .i64 (A.set .i64 x3.q.1 x3.2.2.2.1 (A.mkX .i64 (x5.1,()))) (A.arith .sub .i64 x3.2.2.2.1 (A.lit 1))<|
 A.l1 .i (A.fI .i64 0 (A.get .i64 x3.q.1 x3.2.2.2.1)) fun x6=>
 A.l1 .i (A.arith .sub .i64 x3.2.2.2.1 (A.lit 1)) fun x7=>
 A.inl _ (x3.1,x3.2.1,x3.2.2.1,x7.1,A.set .i64 (A.set .i64 x3.q.1 x3.2.2.2.1 (A.mkX .i64 (x5.1,()))) (A.arith .sub .i64 x3.2.2.2.1 (A.lit 1)) (A.mkX .i64 (x6.1,())),()))<|
 A.inr _<|A.l1 .i (A.arith .add .i64 x3.2.2.1 (A.lit 1)) fun x5=>
 A.inl _ (x3.1,x3.2.1,x5.1,x3.q.1,())) (x1.1,x1.2.1,x1.2.2.1,x2.1,x1.2.2.2.1,()))<|
 A.inr _<|A.ret _ (x1.2.2.2.1,())) (x.1,x.2.1,x0.1,x.2.2.1,())
def Sc (A:Alg) (Yt:Pt A EW) (Yu:Ft A EW) (agh:Pt A Fj) (agi:Ft A Fj) (agj:Pt A Fp) (agk:Ft A Fp) (agl:Pt A Fq) (agm:Ft A Fq) (agn:Pt A Fu) (agp:Ft A Fu) (agq:Pt A Fv) (agr:Ft A Fv) (ags:Pt A Fw) (agt:Ft A Fw) (agu:Pt A Fx) (agv:Ft A Fx) (agw:Pt A Fy) (agx:Ft A Fy) (JZ:Pt A oP) (J2:Ft A oP) (x:Tup A.ah [.i,.i,.i,.l .i64]):Ot A oP:=
 A.l1 .b (A.bl true) fun x0=>
 A.l1 .b (A.bl true) fun x1=>
 A.iter [.i,.i,.i,.b,.b,.l .i64] (fun x2=>
 A.rW [.i,.i,.i,.b,.b,.l .i64] (A.l1 .i (A.arith .sub .i64 x2.2.1 x2.1) fun x3=>
 A.cond (A.cmp .leq x3.1 (A.lit 12)) (A.cl agh agi (x2.1,x2.2.1,x2.q.2.1,()) fun x4=>
 A.inr _<|A.inr _<|A.ret _ (x4.1,()))<|
 A.cond (A.cmp .eql x2.2.2.1 (A.lit 0)) (A.cl agj agk (x2.1,x2.2.1,x2.q.2.1,()) fun x4=>
 A.inr _<|A.inr _<|A.ret _ (x4.1,()))<|
 A.bind [.i,.i,.i,.b,.b,.i,.l .i64] (A.cond (A.aA x2.2.2.2.1) (A.cl agl agm (x2.1,x2.2.1,x2.q.2.1,()) fun x4=>
 A.l1 .i (A.arith .sub .i64 x2.2.2.1 (A.lit 1)) fun x5=>
 A.ret _ (x2.1,x2.2.1,x5.1,x2.2.2.2.1,x2.q.1,x3.1,x4.1,()))<|
 A.ret _ (x2.1,x2.2.1,x2.2.2.1,x2.2.2.2.1,x2.q.1,x3.1,x2.q.2.1,())) fun x4=>
 A.cl agn agp (x4.1,x4.2.1,x4.q.2.2.1,()) fun x5=>
 A.l1 .i x5.1 fun x6=>
 A.l1 .i x5.2.1 fun x7=>
 A.bind [.i,.i,.i,.b,.b,.i,.i,.i,.l .i64] (A.cond (A.cmp .eql x7.1 (A.lit 2)) (A.cl agq agr (x4.1,x4.2.1,x5.2.2.1,()) fun x8=>
 A.l1 .i (A.arith .sub .i64 (A.arith .sub .i64 x4.2.1 (A.lit 1)) (A.arith .sub .i64 x6.1 x4.1)) fun x9=>
 A.l1 .i (A.lit 1) fun x10=>
 A.ret _ (x4.1,x4.2.1,x4.2.2.1,x4.2.2.2.1,x4.q.1,x4.q.2.1,x9.1,x10.1,x8.1,()))<|
 A.ret _ (x4.1,x4.2.1,x4.2.2.1,x4.2.2.2.1,x4.q.1,x4.q.2.1,x6.1,x7.1,x5.2.2.1,())) fun x8=>
 A.rW [.i,.i,.i,.b,.b,.i,.i,.l .i64] (A.cond (A.au (A.au x8.2.2.2.1 x8.q.1 (A.bl false)) (A.cmp .eql x8.q.2.2.2.1 (A.lit 1)) (A.bl false)) (A.cl ags agt (x8.1,x8.2.1,x8.o.1,()) fun x9=>
 A.cond x9.1 (A.inr _<|A.inr _<|A.inr _<|A.ret _ (x9.2.1,()))<|
 A.inl _ (x8.1,x8.2.1,x8.2.2.1,x8.2.2.2.1,x8.q.1,x8.q.2.1,x8.q.2.2.1,x9.2.1,()))<|
 A.inl _ (x8.1,x8.2.1,x8.2.2.1,x8.2.2.2.1,x8.q.1,x8.q.2.1,x8.q.2.2.1,x8.o.1,())) fun x9=>
 A.chk (A.orB (A.aA (A.cmp .gtr x9.1 (A.lit 0))) (A.cmp .leq (A.lit 0) (A.arith .sub .i64 x9.1 (A.lit 1))))<|
 A.chk (A.orB (A.aA (A.cmp .gtr x9.1 (A.lit 0))) (A.cmp .lss (A.arith .sub .i64 x9.1 (A.lit 1)) (A.len .i64 x9.q.2.2.2.1)))<|
 A.chk (A.orB (A.aA (A.cmp .gtr x9.1 (A.lit 0))) (A.cmp .leq (A.lit 0) (A.arith .sub .i64 x9.1 (A.lit 1))))<|
 A.chk (A.orB (A.aA (A.cmp .gtr x9.1 (A.lit 0))) (A.cmp .lss (A.arith .sub .i64 x9.1 (A.lit 1)) (A.len .i64 x9.q.2.2.2.1)))<|
 A.chk (A.orB (A.aA (A.cmp .gtr x9.1 (A.lit 0))) (A.cmp .leq (A.lit 0) x9.q.2.2.1))<|
 A.chk (A.orB (A.aA (A.cmp .gtr x9.1 (A.lit 0))) (A.cmp .lss x9.q.2.2.1 (A.len .i64 x9.q.2.2.2.1)))<|
 A.chk (A.orB (A.aA (A.cmp .gtr x9.1 (A.lit 0))) (A.cmp .leq (A.lit 0) x9.q.2.2.1))<|
 A.chk (A.orB (A.aA (A.cmp .gtr x9.1 (A.lit 0))) (A.cmp .lss x9.q.2.2.1 (A.len .i64 x9.q.2.2.2.1)))<|
 A.cg (A.cmp .gtr x9.1 (A.lit 0)) Yt Yu (A.fI .i64 0 (A.get .i64 x9.q.2.2.2.1 (A.arith .sub .i64 x9.1 (A.lit 1))),A.fI .i64 0 (A.get .i64 x9.q.2.2.2.1 x9.q.2.2.1),()) fun x10=>
 A.cond (A.au (A.cmp .gtr x9.1 (A.lit 0)) (A.aA x10.1) (A.bl false)) (A.cl agu agv (x9.1,x9.2.1,x9.q.2.2.1,x9.q.2.2.2.1,()) fun x11=>
 A.l1 .i x11.1 fun x12=>
 A.l1 .i x12.1 fun x13=>
 A.inl _ (x13.1,x9.2.1,x9.2.2.1,x9.2.2.2.1,x9.q.1,x11.2.1,()))<|
 A.cl agw agx (x9.1,x9.2.1,x9.q.2.2.1,x9.q.2.2.2.1,()) fun x11=>
 A.l1 .i x11.1 fun x12=>
 A.l1 .b x11.2.1 fun x13=>
 A.l1 .b x13.1 fun x14=>
 A.l1 .i (A.arith .sub .i64 x12.1 x9.1) fun x15=>
 A.l1 .i (A.arith .sub .i64 x9.2.1 x12.1) fun x16=>
 A.chk (A.cmp .neq (A.lit 8) (A.lit 0))<|
 A.l1 .i (A.arith .quo .i64 x9.q.2.1 (A.lit 8)) fun x17=>
 A.bind [.i,.i,.i,.b,.b,.l .i64] (A.cond (A.cmp .lss x15.1 x16.1) (A.l1 .b (A.cmp .geq x15.1 x17.1) fun x18=>
 A.cl JZ J2 (x9.1,x12.1,x9.2.2.1,x11.2.2.1,()) fun x19=>
 A.l1 .i (A.arith .add .i64 x12.1 (A.lit 1)) fun x20=>
 A.ret _ (x20.1,x9.2.1,x9.2.2.1,x18.1,x14.1,x19.1,()))<|
 A.l1 .b (A.cmp .geq x16.1 x17.1) fun x18=>
 A.cl JZ J2 (A.arith .add .i64 x12.1 (A.lit 1),x9.2.1,x9.2.2.1,x11.2.2.1,()) fun x19=>
 A.l1 .i x12.1 fun x20=>
 A.ret _ (x9.1,x20.1,x9.2.2.1,x18.1,x14.1,x19.1,())) fun x18=>
 A.inl _ (x18.1,x18.2.1,x18.2.2.1,x18.2.2.2.1,x18.q.1,x18.q.2.1,())) fun x3=>
 A.inl _ (x3.1,x3.2.1,x3.2.2.1,x3.2.2.2.1,x3.q.1,x3.q.2.1,())) (x.1,x.2.1,x.2.2.1,x0.1,x1.1,x.2.2.2.1,())
def Sd (A:Alg) (JZ:Pt A oP) (J2:Ft A oP) (amd:Pt A UA) (ame:Ft A UA) (x:Tup A.ah [.l .i64]):Ot A Fz:=
 A.l1 .i (A.len .i64 x.1) fun x0=>
 A.cl amd ame (A.conv .u64 x0.1,()) fun x1=>
 A.cl JZ J2 (A.lit 0,x0.1,x1.1,x.1,()) fun x2=>
 A.ret _ (x2.1,())
def Zi (A:Alg) (kU:Pt A iR) (kV:Ft A iR) (FT:Pt A uK) (FU:Ft A uK) (Zf:Pt A BP) (Zg:Ft A BP) (amf:Pt A MZ) (amg:Ft A MZ) (agy:Pt A Fz) (agz:Ft A Fz) (x:Tup A.ah [.x .poly,.x .poly]):Ot A BQ:=
 A.l1 .b (A.bl false) fun x0=>
 A.cl kU kV (x.1,()) fun x1=>
 A.cg (A.aA (A.aA x1.1)) kU kV (x.2.1,()) fun x2=>
 A.cond (A.au (A.aA x1.1) (A.bl true) (A.aA x2.1)) (A.l1 .b (A.bl false) fun x3=>
 A.ret _ (x3.1,A.aR .mono,()))<|
 A.iter [.l .mono,.i,.i,.x .poly,.l .mono] (fun x3=>
 A.cond (A.cmp .lss x3.2.2.1 x3.2.1) (A.bd .mono x3.1 x3.2.2.1<|
 A.l1 (.x .mono) (A.get .mono x3.1 x3.2.2.1) fun x4=>
 A.iter [.l .mono,.i,.i,.l .mono,.i,.i,.x .poly,.l .mono,.x .mono] (fun x5=>
 A.cond (A.cmp .lss x5.q.2.1 x5.q.1) (A.bd .mono x5.2.2.2.1 x5.q.2.1<|
 A.l1 (.x .mono) (A.get .mono x5.2.2.2.1 x5.q.2.1) fun x6=>
 A.l1 (.l .ints) (A.lst .ints [A.mkX .ints (A.fL .mono 1 .i64 x5.o.1,()),A.mkX .ints (A.fL .mono 1 .i64 x6.1,())]) fun x7=>
 A.cl amf amg (x7.1,()) fun x8=>
 A.cl agy agz (x8.1,()) fun x9=>
 A.cl FT FU (A.arith .mul .i64 (A.fI .mono 0 x5.o.1) (A.fI .mono 0 x6.1),()) fun x10=>
 A.l1 (.l .mono) (A.lst .mono [A.mkX .mono (x10.1,x9.1,())]) fun x11=>
 A.chk (A.cmp .leq (A.addN (A.len .mono x5.q.2.2.2.1) (A.len .mono x11.1)) (A.lit 1073741824))<|
 A.l1 (.l .mono) (A.app .mono x5.q.2.2.2.1 x11.1) fun x12=>
 A.inl _ (x5.1,x5.2.1,x5.2.2.1,x5.2.2.2.1,x5.q.1,A.arith .add .i64 x5.q.2.1 (A.lit 1),x5.q.2.2.1,x12.1,x5.o.1,()))<|
 A.inr _<|A.inl _ (x5.1,x5.2.1,A.arith .add .i64 x5.2.2.1 (A.lit 1),x5.q.2.2.1,x5.q.2.2.2.1,())) (x3.1,x3.2.1,x3.2.2.1,A.fL .poly 0 .mono x3.2.2.2.1,A.len .mono (A.fL .poly 0 .mono x3.2.2.2.1),A.lit 0,x3.2.2.2.1,x3.q.1,x4.1,()))<|
 A.inr _<|A.cl Zf Zg (x3.q.1,()) fun x4=>
 A.l1 .b x4.1 fun x5=>
 A.ret _ (x5.1,x4.2.2.1,())) (A.fL .poly 0 .mono x.1,A.len .mono (A.fL .poly 0 .mono x.1),A.lit 0,x.2.1,A.aR .mono,())
def Zj (A:Alg) (kU:Pt A iR) (kV:Ft A iR) (NH:Pt A uJ) (NI:Ft A uJ) (uL:Pt A kS) (uM:Ft A kS) (Zk:Pt A BQ) (Zl:Ft A BQ) (x:Tup A.ah [.x .poly,.i]):Ot A M0:=
 A.cl kU kV (x.1,()) fun x0=>
 A.cg (A.aA (A.aA x0.1)) uL uM (x.2.1,()) fun x1=>
 A.cond (A.au (A.aA x0.1) (A.bl true) (A.aA x1.1)) (A.ret _ (A.aR .mono,()))<|
 A.cl NH NI (x.2.1,()) fun x2=>
 A.cl Zk Zl (x.1,A.mkX .poly (x2.1,()),()) fun x3=>
 A.l1 .b x3.1 fun x4=>
 A.ret _ (x3.2.1,())
def Zm (A:Alg) (uL:Pt A kS) (uM:Ft A kS) (FT:Pt A uK) (FU:Ft A uK) (x:Tup A.ah [.i,.i,.i]):Ot A M4:=
 A.l1 .i (A.lit 0) fun x0=>
 A.cl uL uM (x.2.1,()) fun x1=>
 A.cg (A.aA (A.aA x1.1)) uL uM (x.2.2.1,()) fun x2=>
 A.cond (A.au (A.aA x1.1) (A.bl true) (A.aA x2.1)) (A.l1 .i (A.lit 0) fun x3=>
 A.ret _ (x3.1,()))<|
 A.l1 .b (A.cmp .eql x.1 (A.lit 1)) fun x3=>
 A.cond x3.1 (A.cl FT FU (A.arith .add .i64 x.2.1 x.2.2.1,()) fun x4=>
 A.l1 .i x4.1 fun x5=>
 A.ret _ (x5.1,()))<|
 A.l1 .b (A.cmp .eql x.1 (A.lit 2)) fun x4=>
 A.cond x4.1 (A.cl FT FU (A.arith .sub .i64 x.2.1 x.2.2.1,()) fun x5=>
 A.l1 .i x5.1 fun x6=>
 A.ret _ (x6.1,()))<|
 A.l1 .b (A.cmp .eql x.1 (A.lit 3)) fun x5=>
 A.cond x5.1 (A.cl FT FU (A.arith .mul .i64 x.2.1 x.2.2.1,()) fun x6=>
 A.l1 .i x6.1 fun x7=>
 A.ret _ (x7.1,()))<|
 A.l1 .b (A.cmp .eql x.1 (A.lit 4)) fun x6=>
 A.cond x6.1 (A.l1 .i (A.arith .and .i64 x.2.1 x.2.2.1) fun x7=>
 A.ret _ (x7.1,()))<|
 A.l1 .b (A.cmp .eql x.1 (A.lit 5)) fun x7=>
 A.cond x7.1 (A.l1 .i (A.arith .xor .i64 x.2.1 x.2.2.1) fun x8=>
 A.ret _ (x8.1,()))<|
 A.l1 .i (A.lit 0) fun x8=>
 A.ret _ (x8.1,())
def Zn (A:Alg) (lS:Pt A jL) (lT:Ft A jL) (NH:Pt A uJ) (NI:Ft A uJ) (amh:Pt A M4) (ami:Ft A M4) (ado:Pt A MX) (adp:Ft A MX) (Zk:Pt A BQ) (Zl:Ft A BQ) (amj:Pt A M0) (amk:Ft A M0) (NJ:Pt A BN) (NK:Ft A BN) (x:Tup A.ah [.i,.x .poly,.x .poly]):Ot A M5:=
 A.l1 .b (A.bl false) fun x0=>
 A.l1 .b (A.cmp .eql x.1 (A.lit 1)) fun x1=>
 A.cond x1.1 (A.cl ado adp (x.2.1,x.2.2.1,()) fun x2=>
 A.l1 .b x2.1 fun x3=>
 A.ret _ (A.mkX .poly (x2.2.1,()),x3.1,()))<|
 A.l1 .b (A.cmp .eql x.1 (A.lit 2)) fun x2=>
 A.cond x2.1 (A.cl amj amk (x.2.2.1,A.lit 65535,()) fun x3=>
 A.cl ado adp (x.2.1,A.mkX .poly (x3.1,()),()) fun x4=>
 A.l1 .b x4.1 fun x5=>
 A.ret _ (A.mkX .poly (x4.2.1,()),x5.1,()))<|
 A.l1 .b (A.cmp .eql x.1 (A.lit 3)) fun x3=>
 A.cond x3.1 (A.cl Zk Zl (x.2.1,x.2.2.1,()) fun x4=>
 A.l1 .b x4.1 fun x5=>
 A.ret _ (A.mkX .poly (x4.2.1,()),x5.1,()))<|
 A.cl NJ NK (x.2.1,()) fun x4=>
 A.l1 .i x4.1 fun x5=>
 A.l1 .b x4.2.1 fun x6=>
 A.cl NJ NK (x.2.2.1,()) fun x7=>
 A.l1 .i x7.1 fun x8=>
 A.l1 .b x7.2.1 fun x9=>
 A.l1 .b (A.au x6.1 x9.1 (A.bl false)) fun x10=>
 A.cond x10.1 (A.cl amh ami (x.1,x5.1,x8.1,()) fun x11=>
 A.cl NH NI (x11.1,()) fun x12=>
 A.l1 .b (A.bl true) fun x13=>
 A.ret _ (A.mkX .poly (x12.1,()),x13.1,()))<|
 A.cl lS lT (x.2.1,x.2.2.1,()) fun x11=>
 A.l1 .b (A.au x11.1 (A.cmp .eql x.1 (A.lit 4)) (A.bl false)) fun x12=>
 A.cond x12.1 (A.l1 (.x .poly) x.2.1 fun x13=>
 A.l1 .b (A.bl true) fun x14=>
 A.ret _ (x13.1,x14.1,()))<|
 A.cl lS lT (x.2.1,x.2.2.1,()) fun x13=>
 A.l1 .b x13.1 fun x14=>
 A.cond x14.1 (A.l1 .b (A.bl true) fun x15=>
 A.ret _ (A.mkX .poly (A.aR .mono,()),x15.1,()))<|
 A.bind [.i,.i,.b,.x .poly] (A.cond x6.1 (A.l1 (.x .poly) x.2.2.1 fun x15=>
 A.l1 .i x5.1 fun x16=>
 A.l1 .b (A.bl true) fun x17=>
 A.ret _ (x.1,x16.1,x17.1,x15.1,()))<|
 A.ret _ (x.1,x8.1,x9.1,x.2.1,())) fun x15=>
 A.l1 .b (A.au (A.au x15.2.2.1 (A.cmp .eql x15.1 (A.lit 4)) (A.bl false)) (A.cmp .eql x15.2.1 (A.lit 0)) (A.bl false)) fun x16=>
 A.cond x16.1 (A.l1 .b (A.bl true) fun x17=>
 A.ret _ (A.mkX .poly (A.aR .mono,()),x17.1,()))<|
 A.l1 .b (A.au x15.2.2.1 (A.au (A.au (A.cmp .eql x15.1 (A.lit 4)) (A.cmp .eql x15.2.1 (A.lit 65535)) (A.bl false)) (A.bl true) (A.au (A.cmp .eql x15.1 (A.lit 5)) (A.cmp .eql x15.2.1 (A.lit 0)) (A.bl false))) (A.bl false)) fun x17=>
 A.cond x17.1 (A.l1 (.x .poly) x15.2.2.2.1 fun x18=>
 A.l1 .b (A.bl true) fun x19=>
 A.ret _ (x18.1,x19.1,()))<|
 A.l1 .b (A.bl false) fun x18=>
 A.ret _ (A.mkX .poly (A.aR .mono,()),x18.1,())
def Zo (A:Alg) (NA:Pt A uH) (NC:Ft A uH) (aml:Pt A M5) (amm:Ft A M5) (YO:Pt A BH) (YP:Ft A BH) (YM:Pt A BI) (YN:Ft A BI) (x:Tup A.ah [.x .tab,.i,.x .poly,.x .poly]):Ot A M6:=
 A.l1 .b (A.bl false) fun x0=>
 A.cl aml amm (x.2.1,x.2.2.1,x.2.2.2.1,()) fun x1=>
 A.l1 (.x .poly) x1.1 fun x2=>
 A.l1 .b x1.2.1 fun x3=>
 A.cond x3.1 (A.l1 (.x .tab) x.1 fun x4=>
 A.l1 (.x .poly) x2.1 fun x5=>
 A.l1 .b (A.bl true) fun x6=>
 A.ret _ (x4.1,x5.1,x6.1,()))<|
 A.cg (A.cmp .neq x.2.1 (A.lit 2)) NA NC (x.2.2.1,x.2.2.2.1,()) fun x4=>
 A.bind [.i,.x .tab,.x .poly,.x .poly] (A.cond (A.au (A.cmp .neq x.2.1 (A.lit 2)) (A.cmp .gtr x4.1 (A.lit 0)) (A.bl false)) (A.l1 (.x .poly) x.2.2.2.1 fun x5=>
 A.l1 (.x .poly) x.2.2.1 fun x6=>
 A.ret _ (x.2.1,x.1,x5.1,x6.1,()))<|
 A.ret _ (x.2.1,x.1,x.2.2.1,x.2.2.2.1,())) fun x5=>
 A.cl YO YP (x5.2.1,A.mkX .atom (A.lit 4,x5.1,A.fL .poly 0 .mono x5.2.2.1,A.fL .poly 0 .mono x5.2.2.2.1,()),()) fun x6=>
 A.l1 (.x .tab) x6.1 fun x7=>
 A.l1 .i x6.2.1 fun x8=>
 A.cond (A.cmp .lss x8.1 (A.lit 0)) (A.l1 .b (A.bl false) fun x9=>
 A.ret _ (A.mkX .tab (A.aR .atom,()),A.mkX .poly (A.aR .mono,()),x9.1,()))<|
 A.cl YM YN (x8.1,()) fun x9=>
 A.l1 (.x .tab) x7.1 fun x10=>
 A.l1 .b (A.bl true) fun x11=>
 A.ret _ (x10.1,A.mkX .poly (x9.1,()),x11.1,())
def Zp (A:Alg) (zm:Pt A uI) (zn:Ft A uI) (x:Tup A.ah [.l .poly]):Ot A M7:=
 A.iter [.l .poly,.i,.i,.l .poly] (fun x0=>
 A.cond (A.cmp .lss x0.2.2.1 x0.2.1) (A.bd .poly x0.1 x0.2.2.1<|
 A.l1 (.x .poly) (A.get .poly x0.1 x0.2.2.1) fun x1=>
 A.cl zm zn (x1.1,()) fun x2=>
 A.l1 (.l .poly) (A.lst .poly [A.mkX .poly (x2.1,())]) fun x3=>
 A.chk (A.cmp .leq (A.addN (A.len .poly x0.2.2.2.1) (A.len .poly x3.1)) (A.lit 1073741824))<|
 A.l1 (.l .poly) (A.app .poly x0.2.2.2.1 x3.1) fun x4=>
 A.inl _ (x0.1,x0.2.1,A.arith .add .i64 x0.2.2.1 (A.lit 1),x4.1,()))<|
 A.inr _<|A.ret _ (x0.2.2.2.1,())) (x.1,A.len .poly x.1,A.lit 0,A.aR .poly,())
def Zq (A:Alg) (zm:Pt A uI) (zn:Ft A uI) (adq:Pt A M7) (adr:Ft A M7) (x:Tup A.ah [.x .sym]):Ot A M8:=
 A.cl adq adr (A.fL .sym 1 .poly x.1,()) fun x0=>
 A.cl zm zn (A.mkX .poly (A.fL .sym 3 .mono x.1,()),()) fun x1=>
 A.cl zm zn (A.mkX .poly (A.fL .sym 4 .mono x.1,()),()) fun x2=>
 A.iter [.l .ev,.i,.i,.i,.i,.i,.i,.l .ev,.l .poly,.l .mono,.l .mono] (fun x3=>
 A.cond (A.cmp .lss x3.2.2.1 x3.2.1) (A.bd .ev x3.1 x3.2.2.1<|
 A.l1 (.x .ev) (A.get .ev x3.1 x3.2.2.1) fun x4=>
 A.cl zm zn (A.mkX .poly (A.fL .ev 2 .mono x4.1,()),()) fun x5=>
 A.cl zm zn (A.mkX .poly (A.fL .ev 3 .mono x4.1,()),()) fun x6=>
 A.cl adq adr (A.fL .ev 4 .poly x4.1,()) fun x7=>
 A.l1 (.l .ev) (A.lst .ev [A.mkX .ev (A.fI .ev 0 x4.1,A.fI .ev 1 x4.1,x5.1,x6.1,x7.1,())]) fun x8=>
 A.chk (A.cmp .leq (A.addN (A.len .ev x3.q.2.2.2.1) (A.len .ev x8.1)) (A.lit 1073741824))<|
 A.l1 (.l .ev) (A.app .ev x3.q.2.2.2.1 x8.1) fun x9=>
 A.inl _ (x3.1,x3.2.1,A.arith .add .i64 x3.2.2.1 (A.lit 1),x3.2.2.2.1,x3.q.1,x3.q.2.1,x3.q.2.2.1,x9.1,x3.o.1,x3.o.2.1,x3.o.2.2.1,()))<|
 A.inr _<|A.ret _ (x3.q.2.1,x3.q.2.2.1,x3.q.2.2.2.1,x3.o.1,x3.o.2.1,x3.o.2.2.1,())) (A.fL .sym 0 .ev x.1,A.len .ev (A.fL .sym 0 .ev x.1),A.lit 0,A.lit 0,A.lit 0,A.fI .sym 2 x.1,A.fI .sym 5 x.1,A.aR .ev,x0.1,x1.1,x2.1,())
def Zr (A:Alg) (uL:Pt A kS) (uM:Ft A kS) (x:Tup A.ah [.i,.i,.i]):Ot A M9:=
 A.l1 .b (A.bl false) fun x0=>
 A.cl uL uM (x.2.1,()) fun x1=>
 A.cg x1.1 uL uM (x.2.2.1,()) fun x2=>
 A.rb (A.au (A.au x1.1 x2.1 (A.bl false)) (A.au (A.au (A.cmp .eql x.1 (A.lit 1)) (A.cmp .eql x.2.1 x.2.2.1) (A.bl false)) (A.bl true) (A.au (A.cmp .eql x.1 (A.lit 2)) (A.cmp .lss x.2.1 x.2.2.1) (A.bl false))) (A.bl false))
def Zt (A:Alg) (NJ:Pt A BN) (NK:Ft A BN) (kU:Pt A iR) (kV:Ft A iR) (NA:Pt A uH) (NC:Ft A uH) (amn:Pt A M8) (amo:Ft A M8) (lS:Pt A jL) (lT:Ft A jL) (amq:Pt A M9) (amr:Ft A M9) (x:Tup A.ah [.x .sym,.i]):Ot A Na:=
 A.cl kU kV (A.mkX .poly (A.fL .sym 3 .mono x.1,()),()) fun x0=>
 A.cg (A.aA (A.aA x0.1)) kU kV (A.mkX .poly (A.fL .sym 4 .mono x.1,()),()) fun x1=>
 A.cond (A.au (A.aA x0.1) (A.bl true) (A.aA x1.1)) (A.ret _ (A.mkX .sym (A.aR .ev,A.aR .poly,A.lit 0,A.aR .mono,A.aR .mono,A.lit 0,()),()))<|
 A.cl amn amo (x.1,()) fun x2=>
 A.cl NJ NK (A.mkX .poly (A.fL .sym 3 .mono x.1,()),()) fun x3=>
 A.l1 .i x3.1 fun x4=>
 A.l1 .b x3.2.1 fun x5=>
 A.cl NJ NK (A.mkX .poly (A.fL .sym 4 .mono x.1,()),()) fun x6=>
 A.l1 .i x6.1 fun x7=>
 A.l1 .b x6.2.1 fun x8=>
 A.l1 .i (A.arith .add .i64 (A.arith .sub .i64 (A.fI .sym 2 x.1) (A.lit 3)) (A.lit 1)) fun x9=>
 A.l1 .b (A.au (A.cmp .eql (A.fI .sym 2 x.1) (A.lit 2)) x5.1 (A.bl false)) fun x10=>
 A.bind [.i,.i,.i,.i,.l .ev,.l .poly,.l .mono,.l .mono] (A.cond x10.1 (A.l1 .i (A.lit 1) fun x11=>
 A.l1 .i x4.1 fun x12=>
 A.ret _ (A.lit 0,A.lit 0,x11.1,x12.1,x2.2.2.1,x2.2.2.2.1,A.aR .mono,A.aR .mono,()))<|
 A.l1 .b (A.au (A.cmp .neq (A.fI .sym 2 x.1) (A.lit 3)) (A.cmp .neq (A.fI .sym 2 x.1) (A.lit 4)) (A.bl false)) fun x11=>
 A.bind [.i,.i,.i,.i,.l .ev,.l .poly,.l .mono,.l .mono] (A.cond x11.1 (A.ret _ (A.lit 0,A.lit 0,x2.1,x2.2.1,x2.2.2.1,x2.2.2.2.1,x2.q.1,x2.q.2.1,()))<|
 A.cl lS lT (A.mkX .poly (A.fL .sym 3 .mono x.1,()),A.mkX .poly (A.fL .sym 4 .mono x.1,()),()) fun x12=>
 A.l1 .b (A.au x12.1 (A.bl true) (A.au x5.1 x8.1 (A.bl false))) fun x13=>
 A.bind [.i,.i,.i,.i,.l .ev,.l .poly,.l .mono,.l .mono] (A.cond x13.1 (A.cl lS lT (A.mkX .poly (A.fL .sym 3 .mono x.1,()),A.mkX .poly (A.fL .sym 4 .mono x.1,()),()) fun x14=>
 A.cg (A.nK (A.aA (A.au x14.1 (A.cmp .eql (A.fI .sym 2 x.1) (A.lit 3)) (A.bl false))) (A.au x5.1 x8.1 (A.bl false))) amq amr (x9.1,x4.1,x7.1,()) fun x15=>
 A.l1 .b (A.au (A.au x14.1 (A.cmp .eql (A.fI .sym 2 x.1) (A.lit 3)) (A.bl false)) (A.bl true) (A.au (A.au x5.1 x8.1 (A.bl false)) x15.1 (A.bl false))) fun x16=>
 A.l1 .i (A.lit 1) fun x17=>
 A.bind [.i,.i,.i,.i,.l .ev,.l .poly] (A.cond (A.aA x16.1) (A.l1 .i x.2.1 fun x18=>
 A.ret _ (A.lit 0,A.lit 0,x17.1,x18.1,x2.2.2.1,x2.2.2.2.1,()))<|
 A.ret _ (A.lit 0,A.lit 0,x17.1,x2.2.1,x2.2.2.1,x2.2.2.2.1,())) fun x18=>
 A.ret _ (x18.1,x18.2.1,x18.2.2.1,x18.2.2.2.1,x18.q.1,x18.q.2.1,A.aR .mono,A.aR .mono,()))<|
 A.cg (A.cmp .eql (A.fI .sym 2 x.1) (A.lit 3)) NA NC (A.mkX .poly (A.fL .sym 3 .mono x.1,()),A.mkX .poly (A.fL .sym 4 .mono x.1,()),()) fun x14=>
 A.l1 .b (A.au (A.cmp .eql (A.fI .sym 2 x.1) (A.lit 3)) (A.cmp .gtr x14.1 (A.lit 0)) (A.bl false)) fun x15=>
 A.bind [.i,.i,.i,.i,.l .ev,.l .poly,.l .mono,.l .mono] (A.cond x15.1 (A.ret _ (A.lit 0,A.lit 0,x2.1,x2.2.1,x2.2.2.1,x2.2.2.2.1,x2.q.2.1,x2.q.1,()))<|
 A.ret _ (A.lit 0,A.lit 0,x2.1,x2.2.1,x2.2.2.1,x2.2.2.2.1,x2.q.1,x2.q.2.1,())) fun x16=>
 A.ret _ (x16.1,x16.2.1,x16.2.2.1,x16.2.2.2.1,x16.q.1,x16.q.2.1,x16.q.2.2.1,x16.q.2.2.2.1,())) fun x14=>
 A.ret _ (x14.1,x14.2.1,x14.2.2.1,x14.2.2.2.1,x14.q.1,x14.q.2.1,x14.q.2.2.1,x14.q.2.2.2.1,())) fun x12=>
 A.ret _ (x12.1,x12.2.1,x12.2.2.1,x12.2.2.2.1,x12.q.1,x12.q.2.1,x12.q.2.2.1,x12.q.2.2.2.1,())) fun x11=>
 A.ret _ (A.mkX .sym (x11.q.1,x11.q.2.1,x11.2.2.1,x11.q.2.2.1,x11.q.2.2.2.1,x11.2.2.2.1,()),())
def Zu (A:Alg) (Yg:Pt A Bw) (Yh:Ft A Bw) (UJ:Pt A Bz) (UK:Ft A Bz) (ams:Pt A MS) (amt:Ft A MS) (Ya:Pt A Bq) (Yb:Ft A Bq) (NH:Pt A uJ) (NI:Ft A uJ) (amu:Pt A Na) (amv:Ft A Na) (amw:Pt A MR) (amx:Ft A MR) (YX:Pt A BM) (YZ:Ft A BM) (amy:Pt A M6) (amA:Ft A M6) (UG:Pt A BJ) (UH:Ft A BJ) (Y0:Pt A BK) (Y1:Ft A BK) (amB:Pt A MU) (amC:Ft A MU) (x:Tup A.ah [.x .tab,.x .blk]):Ot A Nb:=
 A.cl amw amx (x.1,()) fun x0=>
 A.cg (A.aA (A.au (A.aA x0.1) (A.bl true) (A.cmp .gtr (A.len .atom (A.fL .tab 0 .atom x.1)) (A.lit 100)))) UJ UK (x.2.1,()) fun x1=>
 A.cond (A.au (A.au (A.aA x0.1) (A.bl true) (A.cmp .gtr (A.len .atom (A.fL .tab 0 .atom x.1)) (A.lit 100))) (A.bl true) (A.aA x1.1)) (A.ret _ (A.mkX .tab (A.aR .atom,()),A.mkX .sym (A.aR .ev,A.aR .poly,A.lit 0,A.aR .mono,A.aR .mono,A.lit 0,()),()))<|
 A.cl Y0 Y1 (A.fL .tab 0 .atom x.1,A.bl false,()) fun x2=>
 A.chk (A.cmp .eql (A.len .iop (A.fL .blk 2 .iop x.2.1)) (A.len .iop (A.fL .blk 2 .iop x.2.1)))<|
 A.chk (A.cmp .leq (A.lit 0) (A.len .iop (A.fL .blk 2 .iop x.2.1)))<|
 A.chk (A.cmp .leq (A.len .iop (A.fL .blk 2 .iop x.2.1)) (A.lit 1073741824))<|
 A.l1 (.l .poly) (A.rep .poly (A.len .iop (A.fL .blk 2 .iop x.2.1)) (A.mkX .poly (A.aR .mono,()))) fun x3=>
 A.l1 .i (A.lit 0) fun x4=>
 A.l1 .i (A.lit 0) fun x5=>
 A.iter [.i,.i,.l .iop,.i,.i,.x .blk,.i,.i,.l .atom,.b,.i,.i,.l .poly,.l .ev,.l .poly] (fun x6=>
 A.cond (A.cmp .lss x6.q.1 x6.2.2.2.1) (A.bd .iop x6.2.2.1 x6.q.1<|
 A.l1 .i x6.q.1 fun x7=>
 A.l1 (.x .iop) (A.get .iop x6.2.2.1 x6.q.1) fun x8=>
 A.cl Ya Yb (x8.1,()) fun x9=>
 A.l1 .b x9.1 fun x10=>
 A.l1 .b x9.2.1 fun x11=>
 A.l1 .b x9.2.2.1 fun x12=>
 A.l1 .b x9.2.2.2.1 fun x13=>
 A.bind [.i,.i,.i,.b,.l .iop,.i,.i,.x .blk,.i,.i,.l .atom,.b,.i,.i,.l .poly,.x .iop,.x .poly,.l .ev,.l .poly] (A.cond x10.1 (A.bd .poly x6.o.q.1 (A.fI .iop 1 x8.1)<|
 A.bd .poly x6.o.q.1 (A.fI .iop 1 x8.1)<|
 A.l1 (.x .poly) (A.get .poly x6.o.q.1 (A.fI .iop 1 x8.1)) fun x14=>
 A.ret _ (x6.1,x6.2.1,x7.1,x11.1,x6.2.2.1,x6.2.2.2.1,x6.q.1,x6.q.2.1,x6.q.2.2.1,x6.q.2.2.2.1,x6.o.1,x6.o.2.1,x6.o.2.2.1,x6.o.2.2.2.1,x6.o.q.1,x8.1,x14.1,x6.o.q.2.1,x6.o.q.2.2.1,()))<|
 A.ret _ (x6.1,x6.2.1,x7.1,x11.1,x6.2.2.1,x6.2.2.2.1,x6.q.1,x6.q.2.1,x6.q.2.2.1,x6.q.2.2.2.1,x6.o.1,x6.o.2.1,x6.o.2.2.1,x6.o.2.2.2.1,x6.o.q.1,x8.1,A.mkX .poly (A.aR .mono,()),x6.o.q.2.1,x6.o.q.2.2.1,())) fun x14=>
 A.bind [.i,.i,.i,.l .iop,.i,.i,.x .blk,.i,.i,.l .atom,.b,.i,.i,.l .poly,.x .iop,.x .poly,.x .poly,.l .ev,.l .poly] (A.cond x14.2.2.2.1 (A.bd .poly x14.o.q.2.2.1 (A.fI .iop 2 x14.o.q.2.2.2.1)<|
 A.bd .poly x14.o.q.2.2.1 (A.fI .iop 2 x14.o.q.2.2.2.1)<|
 A.l1 (.x .poly) (A.get .poly x14.o.q.2.2.1 (A.fI .iop 2 x14.o.q.2.2.2.1)) fun x15=>
 A.ret _ (x14.1,x14.2.1,x14.2.2.1,x14.q.1,x14.q.2.1,x14.q.2.2.1,x14.q.2.2.2.1,x14.o.1,x14.o.2.1,x14.o.2.2.1,x14.o.2.2.2.1,x14.o.q.1,x14.o.q.2.1,x14.o.q.2.2.1,x14.o.q.2.2.2.1,x14.o.o.1,x15.1,x14.o.o.2.1,x14.o.o.2.2.1,()))<|
 A.ret _ (x14.1,x14.2.1,x14.2.2.1,x14.q.1,x14.q.2.1,x14.q.2.2.1,x14.q.2.2.2.1,x14.o.1,x14.o.2.1,x14.o.2.2.1,x14.o.2.2.2.1,x14.o.q.1,x14.o.q.2.1,x14.o.q.2.2.1,x14.o.q.2.2.2.1,x14.o.o.1,A.mkX .poly (A.aR .mono,()),x14.o.o.2.1,x14.o.o.2.2.1,())) fun x15=>
 A.cl ams amt (x15.o.q.2.2.1,()) fun x16=>
 A.bind [.i,.i,.i,.l .iop,.i,.i,.x .blk,.i,.i,.l .atom,.b,.i,.i,.l .poly,.x .iop,.x .poly,.x .poly,.l .ev,.l .poly] (A.cond x16.1 (A.bind [.i,.i,.i,.l .iop,.i,.i,.x .blk,.i,.i,.l .atom,.b,.i,.i,.l .poly,.x .iop,.x .poly,.x .poly,.i,.i,.l .mono,.l .mono,.l .ev,.l .poly,.l .poly] (A.cond (A.au (A.cmp .eql (A.fI .iop 0 x15.o.q.2.2.1) (A.lit 4)) (A.bl true) (A.cmp .eql (A.fI .iop 0 x15.o.q.2.2.1) (A.lit 5))) (A.cl amB amC (x15.o.o.2.2.1,()) fun x17=>
 A.ret _ (x15.1,x15.2.1,x15.2.2.1,x15.2.2.2.1,x15.q.1,x15.q.2.1,x15.q.2.2.1,x15.q.2.2.2.1,x15.o.1,x15.o.2.1,x15.o.2.2.1,x15.o.2.2.2.1,x15.o.q.1,x15.o.q.2.1,x15.o.q.2.2.1,x15.o.q.2.2.2.1,x15.o.o.1,A.fI .iop 0 x15.o.q.2.2.1,A.fI .iop 4 x15.o.q.2.2.1,A.fL .poly 0 .mono x15.o.q.2.2.2.1,A.fL .poly 0 .mono x15.o.o.1,x15.o.o.2.1,x17.1,x17.2.1,()))<|
 A.ret _ (x15.1,x15.2.1,x15.2.2.1,x15.2.2.2.1,x15.q.1,x15.q.2.1,x15.q.2.2.1,x15.q.2.2.2.1,x15.o.1,x15.o.2.1,x15.o.2.2.1,x15.o.2.2.2.1,x15.o.q.1,x15.o.q.2.1,x15.o.q.2.2.1,x15.o.q.2.2.2.1,x15.o.o.1,A.fI .iop 0 x15.o.q.2.2.1,A.fI .iop 4 x15.o.q.2.2.1,A.fL .poly 0 .mono x15.o.q.2.2.2.1,A.fL .poly 0 .mono x15.o.o.1,x15.o.o.2.1,x15.o.o.2.2.1,A.aR .poly,())) fun x17=>
 A.l1 (.l .ev) (A.lst .ev [A.mkX .ev (x17.o.o.2.1,x17.o.o.2.2.1,x17.o.o.2.2.2.1,x17.o.o.q.1,x17.o.o.q.2.2.2.1,())]) fun x18=>
 A.chk (A.cmp .leq (A.addN (A.len .ev x17.o.o.q.2.1) (A.len .ev x18.1)) (A.lit 1073741824))<|
 A.l1 (.l .ev) (A.app .ev x17.o.o.q.2.1 x18.1) fun x19=>
 A.ret _ (x17.1,x17.2.1,x17.2.2.1,x17.2.2.2.1,x17.q.1,x17.q.2.1,x17.q.2.2.1,x17.q.2.2.2.1,x17.o.1,x17.o.2.1,x17.o.2.2.1,x17.o.2.2.2.1,x17.o.q.1,x17.o.q.2.1,x17.o.q.2.2.1,x17.o.q.2.2.2.1,x17.o.o.1,x19.1,x17.o.o.q.2.2.1,()))<|
 A.ret _ (x15.1,x15.2.1,x15.2.2.1,x15.2.2.2.1,x15.q.1,x15.q.2.1,x15.q.2.2.1,x15.q.2.2.2.1,x15.o.1,x15.o.2.1,x15.o.2.2.1,x15.o.2.2.2.1,x15.o.q.1,x15.o.q.2.1,x15.o.q.2.2.1,x15.o.q.2.2.2.1,x15.o.o.1,x15.o.o.2.1,x15.o.o.2.2.1,())) fun x17=>
 A.l1 .b (A.cmp .eql (A.fI .iop 0 x17.o.q.2.2.1) (A.lit 1)) fun x18=>
 A.rW [.i,.i,.l .iop,.i,.i,.x .blk,.i,.i,.l .atom,.b,.i,.i,.l .poly,.l .ev,.l .poly] (A.cond x18.1 (A.cl NH NI (A.fI .iop 3 x17.o.q.2.2.1,()) fun x19=>
 A.bd .poly x17.o.q.2.1 x17.2.2.1<|
 A.bd .poly x17.o.q.2.1 x17.2.2.1<|
 A.inl _ (x17.1,x17.2.1,x17.2.2.2.1,x17.q.1,x17.q.2.1,x17.q.2.2.1,x17.q.2.2.2.1,x17.o.1,x17.o.2.1,x17.o.2.2.1,x17.o.2.2.2.1,x17.o.q.1,A.set .poly x17.o.q.2.1 x17.2.2.1 (A.mkX .poly (x19.1,())),x17.o.o.2.1,x17.o.o.2.2.1,()))<|
 A.l1 .b (A.cmp .eql (A.fI .iop 0 x17.o.q.2.2.1) (A.lit 2)) fun x19=>
 A.rW [.i,.i,.l .iop,.i,.i,.x .blk,.i,.i,.l .atom,.b,.i,.i,.l .poly,.l .ev,.l .poly] (A.cond x19.1 (A.bd .poly x17.o.o.2.2.1 (A.fI .iop 3 x17.o.q.2.2.1)<|
 A.bd .poly x17.o.o.2.2.1 (A.fI .iop 3 x17.o.q.2.2.1)<|
 A.bd .poly x17.o.q.2.1 x17.2.2.1<|
 A.bd .poly x17.o.q.2.1 x17.2.2.1<|
 A.l1 (.x .poly) (A.get .poly x17.o.o.2.2.1 (A.fI .iop 3 x17.o.q.2.2.1)) fun x20=>
 A.inl _ (x17.1,x17.2.1,x17.2.2.2.1,x17.q.1,x17.q.2.1,x17.q.2.2.1,x17.q.2.2.2.1,x17.o.1,x17.o.2.1,x17.o.2.2.1,x17.o.2.2.2.1,x17.o.q.1,A.set .poly x17.o.q.2.1 x17.2.2.1 x20.1,x17.o.o.2.1,x17.o.o.2.2.1,()))<|
 A.l1 .b (A.cmp .eql (A.fI .iop 0 x17.o.q.2.2.1) (A.lit 3)) fun x20=>
 A.rW [.i,.i,.l .iop,.i,.i,.x .blk,.i,.i,.l .atom,.b,.i,.i,.l .poly,.l .ev,.l .poly] (A.cond x20.1 (A.cl amy amA (A.mkX .tab (x17.o.2.1,()),A.fI .iop 3 x17.o.q.2.2.1,x17.o.q.2.2.2.1,x17.o.o.1,()) fun x21=>
 A.l1 (.x .tab) x21.1 fun x22=>
 A.l1 (.x .poly) x21.2.1 fun x23=>
 A.l1 .b x21.2.2.1 fun x24=>
 A.cond (A.aA x24.1) (A.inr _<|A.inr _<|A.inr _<|A.inr _<|A.ret _ (A.mkX .tab (A.aR .atom,()),A.mkX .sym (A.aR .ev,A.aR .poly,A.lit 0,A.aR .mono,A.aR .mono,A.lit 0,()),()))<|
 A.l1 (.x .tab) x22.1 fun x25=>
 A.bd .poly x17.o.q.2.1 x17.2.2.1<|
 A.bd .poly x17.o.q.2.1 x17.2.2.1<|
 A.l1 (.x .poly) x23.1 fun x26=>
 A.inl _ (x17.1,x17.2.1,x17.2.2.2.1,x17.q.1,x17.q.2.1,x17.q.2.2.1,x17.q.2.2.2.1,x17.o.1,A.fL .tab 0 .atom x25.1,x17.o.2.2.1,x17.o.2.2.2.1,x17.o.q.1,A.set .poly x17.o.q.2.1 x17.2.2.1 x26.1,x17.o.o.2.1,x17.o.o.2.2.1,()))<|
 A.l1 .b (A.cmp .eql (A.fI .iop 0 x17.o.q.2.2.1) (A.lit 4)) fun x21=>
 A.bind [.i,.i,.l .iop,.i,.i,.x .blk,.i,.i,.l .atom,.b,.i,.i,.l .poly,.l .ev,.l .poly] (A.cond x21.1 (A.cl UG UH (A.lit 2,x17.1,x17.o.2.1,x17.o.2.2.1,()) fun x22=>
 A.bd .poly x17.o.q.2.1 x17.2.2.1<|
 A.bd .poly x17.o.q.2.1 x17.2.2.1<|
 A.l1 (.x .poly) x22.1 fun x23=>
 A.l1 .i (A.arith .add .i64 x17.1 (A.lit 1)) fun x24=>
 A.ret _ (x24.1,x17.2.1,x17.2.2.2.1,x17.q.1,x17.q.2.1,x17.q.2.2.1,x17.q.2.2.2.1,x17.o.1,x22.2.1,x22.2.2.1,x17.o.2.2.2.1,x17.o.q.1,A.set .poly x17.o.q.2.1 x17.2.2.1 x23.1,x17.o.o.2.1,x17.o.o.2.2.1,()))<|
 A.l1 .b (A.cmp .eql (A.fI .iop 0 x17.o.q.2.2.1) (A.lit 6)) fun x22=>
 A.bind [.i,.i,.l .iop,.i,.i,.x .blk,.i,.i,.l .atom,.b,.i,.i,.l .poly,.l .ev,.l .poly] (A.cond x22.1 (A.cl UG UH (A.lit 3,x17.2.1,x17.o.2.1,x17.o.2.2.1,()) fun x23=>
 A.bd .poly x17.o.q.2.1 x17.2.2.1<|
 A.bd .poly x17.o.q.2.1 x17.2.2.1<|
 A.l1 (.x .poly) x23.1 fun x24=>
 A.l1 .i (A.arith .add .i64 x17.2.1 (A.lit 1)) fun x25=>
 A.ret _ (x17.1,x25.1,x17.2.2.2.1,x17.q.1,x17.q.2.1,x17.q.2.2.1,x17.q.2.2.2.1,x17.o.1,x23.2.1,x23.2.2.1,x17.o.2.2.2.1,x17.o.q.1,A.set .poly x17.o.q.2.1 x17.2.2.1 x24.1,x17.o.o.2.1,x17.o.o.2.2.1,()))<|
 A.l1 .b (A.cmp .eql (A.fI .iop 0 x17.o.q.2.2.1) (A.lit 8)) fun x23=>
 A.bind [.i,.i,.l .iop,.i,.i,.x .blk,.i,.i,.l .atom,.b,.i,.i,.l .poly,.l .ev,.l .poly] (A.cond x23.1 (A.bd .poly x17.o.o.2.2.1 (A.fI .iop 3 x17.o.q.2.2.1)<|
 A.bd .poly x17.o.o.2.2.1 (A.fI .iop 3 x17.o.q.2.2.1)<|
 A.l1 (.x .poly) x17.o.q.2.2.2.1 fun x24=>
 A.ret _ (x17.1,x17.2.1,x17.2.2.2.1,x17.q.1,x17.q.2.1,x17.q.2.2.1,x17.q.2.2.2.1,x17.o.1,x17.o.2.1,x17.o.2.2.1,x17.o.2.2.2.1,x17.o.q.1,x17.o.q.2.1,x17.o.o.2.1,A.set .poly x17.o.o.2.2.1 (A.fI .iop 3 x17.o.q.2.2.1) x24.1,()))<|
 A.ret _ (x17.1,x17.2.1,x17.2.2.2.1,x17.q.1,x17.q.2.1,x17.q.2.2.1,x17.q.2.2.2.1,x17.o.1,x17.o.2.1,x17.o.2.2.1,x17.o.2.2.2.1,x17.o.q.1,x17.o.q.2.1,x17.o.o.2.1,x17.o.o.2.2.1,())) fun x24=>
 A.ret _ (x24.1,x24.2.1,x24.2.2.1,x24.2.2.2.1,x24.q.1,x24.q.2.1,x24.q.2.2.1,x24.q.2.2.2.1,x24.o.1,x24.o.2.1,x24.o.2.2.1,x24.o.2.2.2.1,x24.o.q.1,x24.o.q.2.1,x24.o.q.2.2.1,())) fun x23=>
 A.ret _ (x23.1,x23.2.1,x23.2.2.1,x23.2.2.2.1,x23.q.1,x23.q.2.1,x23.q.2.2.1,x23.q.2.2.2.1,x23.o.1,x23.o.2.1,x23.o.2.2.1,x23.o.2.2.2.1,x23.o.q.1,x23.o.q.2.1,x23.o.q.2.2.1,())) fun x22=>
 A.inl _ (x22.1,x22.2.1,x22.2.2.1,x22.2.2.2.1,x22.q.1,x22.q.2.1,x22.q.2.2.1,x22.q.2.2.2.1,x22.o.1,x22.o.2.1,x22.o.2.2.1,x22.o.2.2.2.1,x22.o.q.1,x22.o.q.2.1,x22.o.q.2.2.1,())) fun x21=>
 A.inl _ (x21.1,x21.2.1,x21.2.2.1,x21.2.2.2.1,x21.q.1,x21.q.2.1,x21.q.2.2.1,x21.q.2.2.2.1,x21.o.1,x21.o.2.1,x21.o.2.2.1,x21.o.2.2.2.1,x21.o.q.1,x21.o.q.2.1,x21.o.q.2.2.1,())) fun x20=>
 A.inl _ (x20.1,x20.2.1,x20.2.2.1,x20.2.2.2.1,x20.q.1,x20.q.2.1,x20.q.2.2.1,x20.q.2.2.2.1,x20.o.1,x20.o.2.1,x20.o.2.2.1,x20.o.2.2.2.1,x20.o.q.1,x20.o.q.2.1,x20.o.q.2.2.1,())) fun x19=>
 A.inl _ (x19.1,x19.2.1,x19.2.2.1,x19.2.2.2.1,A.arith .add .i64 x19.q.1 (A.lit 1),x19.q.2.1,x19.q.2.2.1,x19.q.2.2.2.1,x19.o.1,x19.o.2.1,x19.o.2.2.1,x19.o.2.2.2.1,x19.o.q.1,x19.o.q.2.1,x19.o.q.2.2.1,()))<|
 A.inr _<|A.cl Yg Yh (x6.q.2.1,()) fun x7=>
 A.l1 .b x7.1 fun x8=>
 A.l1 .b x7.2.1 fun x9=>
 A.l1 .b x7.2.2.1 fun x10=>
 A.bind [.b,.x .blk,.i,.i,.l .atom,.b,.i,.l .mono,.i,.l .poly,.l .ev,.l .poly] (A.cond x8.1 (A.bd .poly x6.o.q.1 (A.fI .blk 4 x6.q.2.1)<|
 A.bd .poly x6.o.q.1 (A.fI .blk 4 x6.q.2.1)<|
 A.l1 (.x .poly) (A.get .poly x6.o.q.1 (A.fI .blk 4 x6.q.2.1)) fun x11=>
 A.ret _ (x9.1,x6.q.2.1,x6.q.2.2.1,x6.q.2.2.2.1,x6.o.1,x6.o.2.1,x6.o.2.2.1,A.fL .poly 0 .mono x11.1,x6.o.2.2.2.1,x6.o.q.1,x6.o.q.2.1,x6.o.q.2.2.1,()))<|
 A.ret _ (x9.1,x6.q.2.1,x6.q.2.2.1,x6.q.2.2.2.1,x6.o.1,x6.o.2.1,x6.o.2.2.1,A.aR .mono,x6.o.2.2.2.1,x6.o.q.1,x6.o.q.2.1,x6.o.q.2.2.1,())) fun x11=>
 A.bind [.x .blk,.i,.i,.l .atom,.b,.i,.l .mono,.l .mono,.i,.l .ev,.l .poly] (A.cond x11.1 (A.bd .poly x11.o.2.1 (A.fI .blk 5 x11.2.1)<|
 A.bd .poly x11.o.2.1 (A.fI .blk 5 x11.2.1)<|
 A.l1 (.x .poly) (A.get .poly x11.o.2.1 (A.fI .blk 5 x11.2.1)) fun x12=>
 A.ret _ (x11.2.1,x11.2.2.1,x11.2.2.2.1,x11.q.1,x11.q.2.1,x11.q.2.2.1,x11.q.2.2.2.1,A.fL .poly 0 .mono x12.1,x11.o.1,x11.o.2.2.1,x11.o.2.2.2.1,()))<|
 A.ret _ (x11.2.1,x11.2.2.1,x11.2.2.2.1,x11.q.1,x11.q.2.1,x11.q.2.2.1,x11.q.2.2.2.1,A.aR .mono,x11.o.1,x11.o.2.2.1,x11.o.2.2.2.1,())) fun x12=>
 A.cond x12.q.1 (A.ret _ (A.mkX .tab (A.aR .atom,()),A.mkX .sym (A.aR .ev,A.aR .poly,A.lit 0,A.aR .mono,A.aR .mono,A.lit 0,()),()))<|
 A.cl YX YZ (A.mkX .tab (x12.2.2.2.1,()),()) fun x13=>
 A.cl amu amv (A.mkX .sym (x12.o.2.1,x12.o.2.2.1,x12.q.2.1,x12.q.2.2.1,x12.q.2.2.2.1,x12.o.1,()),A.arith .add .i64 (A.fI .blk 0 x12.1) (A.fI .blk 1 x12.1),()) fun x14=>
 A.l1 (.x .sym) x14.1 fun x15=>
 A.ret _ (A.mkX .tab (x13.1,()),x15.1,())) (x4.1,x5.1,A.fL .blk 2 .iop x.2.1,A.len .iop (A.fL .blk 2 .iop x.2.1),A.lit 0,x.2.1,A.lit 0,A.lit 0,x2.1,x2.2.1,A.fI .blk 3 x.2.1,A.fI .blk 6 x.2.1,x3.1,A.aR .ev,x2.2.2.1,())
def Zv (A:Alg) (lS:Pt A jL) (lT:Ft A jL) (x:Tup A.ah [.x .poly,.x .poly]):Ot A Nc:=
 A.l1 .b (A.bl false) fun x0=>
 A.cl lS lT (x.1,x.2.1,()) fun x1=>
 A.rb x1.1
def Zw (A:Alg) (amD:Pt A Nc) (amE:Ft A Nc) (x:Tup A.ah [.l .poly,.l .poly]):Ot A Ng:=
 A.l1 .b (A.bl false) fun x0=>
 A.cond (A.cmp .neq (A.len .poly x.1) (A.len .poly x.2.1)) (A.rb (A.bl false))<|
 A.iter [.l .poly,.l .poly,.i,.i] (fun x1=>
 A.cond (A.cmp .lss x1.2.2.2.1 x1.2.2.1) (A.bd .poly x1.2.1 x1.2.2.2.1<|
 A.l1 .i x1.2.2.2.1 fun x2=>
 A.l1 (.x .poly) (A.get .poly x1.2.1 x1.2.2.2.1) fun x3=>
 A.bd .poly x1.1 x2.1<|
 A.l1 (.x .poly) (A.get .poly x1.1 x2.1) fun x4=>
 A.cl amD amE (x3.1,x4.1,()) fun x5=>
 A.cond (A.aA x5.1) (A.l1 .b (A.bl false) fun x6=>
 A.inr _<|A.ret _ (x6.1,()))<|
 A.inl _ (x1.1,x1.2.1,x1.2.2.1,A.arith .add .i64 x1.2.2.2.1 (A.lit 1),()))<|
 A.inr _<|A.rb (A.bl true)) (x.2.1,x.1,A.len .poly x.1,A.lit 0,())
def Zx (A:Alg) (amF:Pt A Ng) (amG:Ft A Ng) (x:Tup A.ah [.l .poly,.l .poly]):Ot A BR:=
 A.l1 .b (A.bl false) fun x0=>
 A.cl amF amG (x.1,x.2.1,()) fun x1=>
 A.rb x1.1
def Zy (A:Alg) (lS:Pt A jL) (lT:Ft A jL) (Zz:Pt A BR) (ZA:Ft A BR) (x:Tup A.ah [.x .ev,.x .ev]):Ot A Nh:=
 A.l1 .b (A.bl false) fun x0=>
 A.cg (A.au (A.cmp .eql (A.fI .ev 0 x.1) (A.fI .ev 0 x.2.1)) (A.cmp .eql (A.fI .ev 1 x.1) (A.fI .ev 1 x.2.1)) (A.bl false)) lS lT (A.mkX .poly (A.fL .ev 2 .mono x.1,()),A.mkX .poly (A.fL .ev 2 .mono x.2.1,()),()) fun x1=>
 A.cg (A.au (A.au (A.cmp .eql (A.fI .ev 0 x.1) (A.fI .ev 0 x.2.1)) (A.cmp .eql (A.fI .ev 1 x.1) (A.fI .ev 1 x.2.1)) (A.bl false)) x1.1 (A.bl false)) lS lT (A.mkX .poly (A.fL .ev 3 .mono x.1,()),A.mkX .poly (A.fL .ev 3 .mono x.2.1,()),()) fun x2=>
 A.cg (A.au (A.au (A.au (A.cmp .eql (A.fI .ev 0 x.1) (A.fI .ev 0 x.2.1)) (A.cmp .eql (A.fI .ev 1 x.1) (A.fI .ev 1 x.2.1)) (A.bl false)) x1.1 (A.bl false)) x2.1 (A.bl false)) Zz ZA (A.fL .ev 4 .poly x.1,A.fL .ev 4 .poly x.2.1,()) fun x3=>
 A.rb (A.au (A.au (A.au (A.au (A.cmp .eql (A.fI .ev 0 x.1) (A.fI .ev 0 x.2.1)) (A.cmp .eql (A.fI .ev 1 x.1) (A.fI .ev 1 x.2.1)) (A.bl false)) x1.1 (A.bl false)) x2.1 (A.bl false)) x3.1 (A.bl false))
def ZB (A:Alg) (amH:Pt A Nh) (amI:Ft A Nh) (x:Tup A.ah [.l .ev,.l .ev]):Ot A Ni:=
 A.l1 .b (A.bl false) fun x0=>
 A.cond (A.cmp .neq (A.len .ev x.1) (A.len .ev x.2.1)) (A.rb (A.bl false))<|
 A.iter [.l .ev,.l .ev,.i,.i] (fun x1=>
 A.cond (A.cmp .lss x1.2.2.2.1 x1.2.2.1) (A.bd .ev x1.2.1 x1.2.2.2.1<|
 A.l1 .i x1.2.2.2.1 fun x2=>
 A.l1 (.x .ev) (A.get .ev x1.2.1 x1.2.2.2.1) fun x3=>
 A.bd .ev x1.1 x2.1<|
 A.l1 (.x .ev) (A.get .ev x1.1 x2.1) fun x4=>
 A.cl amH amI (x3.1,x4.1,()) fun x5=>
 A.cond (A.aA x5.1) (A.l1 .b (A.bl false) fun x6=>
 A.inr _<|A.ret _ (x6.1,()))<|
 A.inl _ (x1.1,x1.2.1,x1.2.2.1,A.arith .add .i64 x1.2.2.2.1 (A.lit 1),()))<|
 A.inr _<|A.rb (A.bl true)) (x.2.1,x.1,A.len .ev x.1,A.lit 0,())
def ZE (A:Alg) (lS:Pt A jL) (lT:Ft A jL) (Zz:Pt A BR) (ZA:Ft A BR) (amJ:Pt A Ni) (amK:Ft A Ni) (x:Tup A.ah [.x .sym,.x .sym]):Ot A Nj:=
 A.l1 .b (A.bl false) fun x0=>
 A.cl amJ amK (A.fL .sym 0 .ev x.1,A.fL .sym 0 .ev x.2.1,()) fun x1=>
 A.l1 .b x1.1 fun x2=>
 A.cg x2.1 Zz ZA (A.fL .sym 1 .poly x.1,A.fL .sym 1 .poly x.2.1,()) fun x3=>
 A.cg (A.au (A.au x2.1 x3.1 (A.bl false)) (A.cmp .eql (A.fI .sym 2 x.1) (A.fI .sym 2 x.2.1)) (A.bl false)) lS lT (A.mkX .poly (A.fL .sym 3 .mono x.1,()),A.mkX .poly (A.fL .sym 3 .mono x.2.1,()),()) fun x4=>
 A.cg (A.au (A.au (A.au x2.1 x3.1 (A.bl false)) (A.cmp .eql (A.fI .sym 2 x.1) (A.fI .sym 2 x.2.1)) (A.bl false)) x4.1 (A.bl false)) lS lT (A.mkX .poly (A.fL .sym 4 .mono x.1,()),A.mkX .poly (A.fL .sym 4 .mono x.2.1,()),()) fun x5=>
 A.rb (A.au (A.au (A.au (A.au (A.au x2.1 x3.1 (A.bl false)) (A.cmp .eql (A.fI .sym 2 x.1) (A.fI .sym 2 x.2.1)) (A.bl false)) x4.1 (A.bl false)) x5.1 (A.bl false)) (A.cmp .eql (A.fI .sym 5 x.1) (A.fI .sym 5 x.2.1)) (A.bl false))
def ZF (A:Alg) (UJ:Pt A Bz) (UK:Ft A Bz) (amL:Pt A MC) (amM:Ft A MC) (amN:Pt A MQ) (amO:Ft A MQ) (ads:Pt A Nb) (adt:Ft A Nb) (amP:Pt A Nj) (amQ:Ft A Nj) (x:Tup A.ah [.x .blk,.x .blk]):Ot A Nk:=
 A.l1 .b (A.bl false) fun x0=>
 A.cl UJ UK (x.1,()) fun x1=>
 A.cg (A.aA (A.aA x1.1)) UJ UK (x.2.1,()) fun x2=>
 A.cond (A.au (A.au (A.au (A.aA x1.1) (A.bl true) (A.aA x2.1)) (A.bl true) (A.cmp .neq (A.fI .blk 0 x.1) (A.fI .blk 0 x.2.1))) (A.bl true) (A.cmp .neq (A.fI .blk 1 x.1) (A.fI .blk 1 x.2.1))) (A.rb (A.bl false))<|
 A.cl amL amM (x.1,x.2.1,()) fun x3=>
 A.cond x3.1 (A.rb (A.bl true))<|
 A.cl amN amO () fun x4=>
 A.l1 (.x .tab) x4.1 fun x5=>
 A.l1 (.l .poly) x4.2.1 fun x6=>
 A.cl ads adt (x5.1,x.1,()) fun x7=>
 A.l1 (.x .tab) x7.1 fun x8=>
 A.l1 (.x .sym) x7.2.1 fun x9=>
 A.cl ads adt (x8.1,x.2.1,()) fun x10=>
 A.l1 (.x .tab) x10.1 fun x11=>
 A.l1 (.x .sym) x10.2.1 fun x12=>
 A.cl amP amQ (x9.1,x12.1,()) fun x13=>
 A.rb x13.1
def ZG (A:Alg) (x:Tup A.ah [.x .iop,.x .iop]):Ot A Nl:=
 A.l1 .b (A.bl false) fun x0=>
 A.cond (A.cmp .neq (A.fI .iop 0 x.1) (A.fI .iop 0 x.2.1)) (A.rb (A.bl false))<|
 A.cond (A.cmp .neq (A.fI .iop 1 x.1) (A.fI .iop 1 x.2.1)) (A.rb (A.bl false))<|
 A.cond (A.cmp .neq (A.fI .iop 2 x.1) (A.fI .iop 2 x.2.1)) (A.rb (A.bl false))<|
 A.cond (A.cmp .neq (A.fI .iop 3 x.1) (A.fI .iop 3 x.2.1)) (A.rb (A.bl false))<|
 A.cond (A.cmp .neq (A.fI .iop 4 x.1) (A.fI .iop 4 x.2.1)) (A.rb (A.bl false))<|
 A.rb (A.bl true)
def ZH (A:Alg) (amR:Pt A Nl) (amS:Ft A Nl) (x:Tup A.ah [.l .iop,.l .iop]):Ot A Nn:=
 A.l1 .b (A.bl false) fun x0=>
 A.cond (A.cmp .neq (A.len .iop x.1) (A.len .iop x.2.1)) (A.rb (A.bl false))<|
 A.l1 .i (A.lit 0) fun x1=>
 A.iter [.l .iop,.l .iop,.i] (fun x2=>
 A.cond (A.cmp .lss x2.2.2.1 (A.len .iop x2.1)) (A.bd .iop x2.1 x2.2.2.1<|
 A.bd .iop x2.2.1 x2.2.2.1<|
 A.cl amR amS (A.get .iop x2.1 x2.2.2.1,A.get .iop x2.2.1 x2.2.2.1,()) fun x3=>
 A.cond (A.aA x3.1) (A.l1 .b (A.bl false) fun x4=>
 A.inr _<|A.ret _ (x4.1,()))<|
 A.l1 .i (A.arith .add .i64 x2.2.2.1 (A.lit 1)) fun x4=>
 A.inl _ (x2.1,x2.2.1,x4.1,()))<|
 A.inr _<|A.rb (A.bl true)) (x.1,x.2.1,x1.1,())
def ZI (A:Alg) (amT:Pt A Nn) (amU:Ft A Nn) (x:Tup A.ah [.x .blk,.x .blk]):Ot A Np:=
 A.l1 .b (A.bl false) fun x0=>
 A.cond (A.cmp .neq (A.fI .blk 0 x.1) (A.fI .blk 0 x.2.1)) (A.rb (A.bl false))<|
 A.cond (A.cmp .neq (A.fI .blk 1 x.1) (A.fI .blk 1 x.2.1)) (A.rb (A.bl false))<|
 A.cl amT amU (A.fL .blk 2 .iop x.1,A.fL .blk 2 .iop x.2.1,()) fun x1=>
 A.cond (A.aA x1.1) (A.rb (A.bl false))<|
 A.cond (A.cmp .neq (A.fI .blk 3 x.1) (A.fI .blk 3 x.2.1)) (A.rb (A.bl false))<|
 A.cond (A.cmp .neq (A.fI .blk 4 x.1) (A.fI .blk 4 x.2.1)) (A.rb (A.bl false))<|
 A.cond (A.cmp .neq (A.fI .blk 5 x.1) (A.fI .blk 5 x.2.1)) (A.rb (A.bl false))<|
 A.cond (A.cmp .neq (A.fI .blk 6 x.1) (A.fI .blk 6 x.2.1)) (A.rb (A.bl false))<|
 A.rb (A.bl true)
def ZJ (A:Alg) (adu:Pt A Mq) (adw:Ft A Mq) (x:Tup A.ah [.x .cer,.i]):Ot A Nq:=
 A.l1 .i (A.lit 0) fun x0=>
 A.cl adu adw (A.mkX .blk (A.fI .cer 0 x.1,A.fI .cer 1 x.1,A.fL .cer 2 .iop x.1,A.fI .cer 3 x.1,A.fI .cer 4 x.1,A.fI .cer 5 x.1,A.fI .cer 6 x.1,()),x.2.1,()) fun x1=>
 A.l1 .i x1.1 fun x2=>
 A.cond (A.cmp .lss x2.1 (A.lit 0)) (A.l1 .i (A.lit (-1)) fun x3=>
 A.ret _ (x3.1,()))<|
 A.cl adu adw (A.mkX .blk (A.fI .cer 7 x.1,A.fI .cer 8 x.1,A.fL .cer 9 .iop x.1,A.fI .cer 10 x.1,A.fI .cer 11 x.1,A.fI .cer 12 x.1,A.fI .cer 13 x.1,()),x2.1,()) fun x3=>
 A.l1 .i x3.1 fun x4=>
 A.cond (A.cmp .lss x4.1 (A.lit 0)) (A.l1 .i (A.lit (-1)) fun x5=>
 A.ret _ (x5.1,()))<|
 A.l1 .i x4.1 fun x5=>
 A.ret _ (x5.1,())
def ZK (A:Alg) (amV:Pt A Nq) (amW:Ft A Nq) (x:Tup A.ah [.l .cer,.i]):Ot A Nr:=
 A.l1 .i (A.lit 0) fun x0=>
 A.l1 .i (A.arith .sub .i64 x.2.1 (A.len .cer x.1)) fun x1=>
 A.cond (A.cmp .lss x1.1 (A.lit 0)) (A.l1 .i (A.lit (-1)) fun x2=>
 A.ret _ (x2.1,()))<|
 A.l1 .i (A.lit 0) fun x2=>
 A.iter [.l .cer,.i,.i] (fun x3=>
 A.cond (A.cmp .lss x3.2.2.1 (A.len .cer x3.1)) (A.bd .cer x3.1 x3.2.2.1<|
 A.cl amV amW (A.get .cer x3.1 x3.2.2.1,x3.2.1,()) fun x4=>
 A.l1 .i x4.1 fun x5=>
 A.cond (A.cmp .lss x5.1 (A.lit 0)) (A.l1 .i (A.lit (-1)) fun x6=>
 A.inr _<|A.ret _ (x6.1,()))<|
 A.l1 .i (A.arith .add .i64 x3.2.2.1 (A.lit 1)) fun x6=>
 A.inl _ (x3.1,x5.1,x6.1,()))<|
 A.inr _<|A.l1 .i x3.2.1 fun x4=>
 A.ret _ (x4.1,())) (x.1,x1.1,x2.1,())
def Sg (A:Alg) (agA:Pt A ER) (agB:Ft A ER) (x:Tup A.ah [.l .cer]):Ot A FB:=
 A.l1 .b (A.bl false) fun x0=>
 A.cond (A.cmp .gtr (A.len .cer x.1) (A.lit 3)) (A.rb (A.bl false))<|
 A.l1 .i (A.lit 0) fun x1=>
 A.iter [.l .cer,.i] (fun x2=>
 A.cond (A.cmp .lss x2.2.1 (A.len .cer x2.1)) (A.bd .cer x2.1 x2.2.1<|
 A.bd .cer x2.1 x2.2.1<|
 A.cl agA agB (A.mkX .blk (A.fI .cer 0 (A.get .cer x2.1 x2.2.1),A.fI .cer 1 (A.get .cer x2.1 x2.2.1),A.fL .cer 2 .iop (A.get .cer x2.1 x2.2.1),A.fI .cer 3 (A.get .cer x2.1 x2.2.1),A.fI .cer 4 (A.get .cer x2.1 x2.2.1),A.fI .cer 5 (A.get .cer x2.1 x2.2.1),A.fI .cer 6 (A.get .cer x2.1 x2.2.1),()),A.mkX .blk (A.fI .cer 7 (A.get .cer x2.1 x2.2.1),A.fI .cer 8 (A.get .cer x2.1 x2.2.1),A.fL .cer 9 .iop (A.get .cer x2.1 x2.2.1),A.fI .cer 10 (A.get .cer x2.1 x2.2.1),A.fI .cer 11 (A.get .cer x2.1 x2.2.1),A.fI .cer 12 (A.get .cer x2.1 x2.2.1),A.fI .cer 13 (A.get .cer x2.1 x2.2.1),()),()) fun x3=>
 A.cond (A.aA x3.1) (A.l1 .b (A.bl false) fun x4=>
 A.inr _<|A.ret _ (x4.1,()))<|
 A.l1 .i (A.arith .add .i64 x2.2.1 (A.lit 1)) fun x4=>
 A.inl _ (x2.1,x4.1,()))<|
 A.inr _<|A.rb (A.bl true)) (x.1,x1.1,())
def ZL (A:Alg) (adx:Pt A Mt) (ady:Ft A Mt) (x:Tup A.ah [.x .cer]):Ot A Ns:=
 A.cl adx ady (A.mkX .blk (A.fI .cer 0 x.1,A.fI .cer 1 x.1,A.fL .cer 2 .iop x.1,A.fI .cer 3 x.1,A.fI .cer 4 x.1,A.fI .cer 5 x.1,A.fI .cer 6 x.1,()),()) fun x0=>
 A.cl adx ady (A.mkX .blk (A.fI .cer 7 x.1,A.fI .cer 8 x.1,A.fL .cer 9 .iop x.1,A.fI .cer 10 x.1,A.fI .cer 11 x.1,A.fI .cer 12 x.1,A.fI .cer 13 x.1,()),()) fun x1=>
 A.ret _ (x0.1,x0.2.1,x0.2.2.1,x0.2.2.2.1,x0.q.1,x0.q.2.1,x1.1,x1.2.1,x1.2.2.1,x1.2.2.2.1,x1.q.1,x1.q.2.1,x0.q.2.2.1,x1.q.2.2.1,())
def ZM (A:Alg) (amX:Pt A Ns) (amY:Ft A Ns) (x:Tup A.ah [.l .cer]):Ot A Nt:=
 A.chk (A.cmp .eql (A.len .cer x.1) (A.len .cer x.1))<|
 A.chk (A.cmp .leq (A.lit 0) (A.len .cer x.1))<|
 A.chk (A.cmp .leq (A.len .cer x.1) (A.lit 1073741824))<|
 A.l1 (.l .cer) (A.rep .cer (A.len .cer x.1) (A.mkX .cer (A.lit 0,A.lit 0,A.aR .iop,A.lit 0,A.lit 0,A.lit 0,A.lit 0,A.lit 0,A.lit 0,A.aR .iop,A.lit 0,A.lit 0,A.lit 0,A.lit 0,()))) fun x0=>
 A.l1 .i (A.lit 0) fun x1=>
 A.iter [.l .cer,.i,.l .cer] (fun x2=>
 A.cond (A.cmp .lss x2.2.1 (A.len .cer x2.1)) (A.bd .cer x2.1 x2.2.1<|
 A.cl amX amY (A.get .cer x2.1 x2.2.1,()) fun x3=>
 A.bd .cer x2.2.2.1 x2.2.1<|
 A.bd .cer x2.2.2.1 x2.2.1<|
 A.l1 .i (A.arith .add .i64 x2.2.1 (A.lit 1)) fun x4=>
 A.inl _ (x2.1,x4.1,A.set .cer x2.2.2.1 x2.2.1 (A.mkX .cer (x3.1,x3.2.1,x3.o.q.1,x3.2.2.1,x3.2.2.2.1,x3.q.1,x3.q.2.1,x3.q.2.2.1,x3.q.2.2.2.1,x3.o.q.2.1,x3.o.1,x3.o.2.1,x3.o.2.2.1,x3.o.2.2.2.1,())),()))<|
 A.inr _<|A.ret _ (x2.2.2.1,())) (x.1,x1.1,x0.1,())
def agC (A:Alg) (amZ:Pt A Nk) (am0:Ft A Nk) (x:Tup A.ah [.x .cer]):Ot A XF:=
 A.l1 .b (A.bl false) fun x0=>
 A.cl amZ am0 (A.mkX .blk (A.fI .cer 0 x.1,A.fI .cer 1 x.1,A.fL .cer 2 .iop x.1,A.fI .cer 3 x.1,A.fI .cer 4 x.1,A.fI .cer 5 x.1,A.fI .cer 6 x.1,()),A.mkX .blk (A.fI .cer 7 x.1,A.fI .cer 8 x.1,A.fL .cer 9 .iop x.1,A.fI .cer 10 x.1,A.fI .cer 11 x.1,A.fI .cer 12 x.1,A.fI .cer 13 x.1,()),()) fun x1=>
 A.rb (A.aA x1.1)
def Si (A:Alg) (asQ:Pt A XF) (asR:Ft A XF) (x:Tup A.ah [.l .cer]):Ot A FC:=
 A.l1 .i (A.lit 0) fun x0=>
 A.iter [.l .cer,.i,.i] (fun x1=>
 A.cond (A.cmp .lss x1.2.2.1 x1.2.1) (A.l1 .i x1.2.2.1 fun x2=>
 A.bd .cer x1.1 x2.1<|
 A.cl asQ asR (A.get .cer x1.1 x2.1,()) fun x3=>
 A.cond x3.1 (A.l1 .i x2.1 fun x4=>
 A.inr _<|A.ret _ (x4.1,()))<|
 A.inl _ (x1.1,x1.2.1,A.arith .add .i64 x1.2.2.1 (A.lit 1),()))<|
 A.inr _<|A.l1 .i (A.lit (-1)) fun x2=>
 A.ret _ (x2.1,())) (x.1,A.len .cer x.1,A.lit 0,())
def ZN (A:Alg) (agD:Pt A FC) (agE:Ft A FC) (x:Tup A.ah [.l .cer]):Ot A Nu:=
 A.l1 .b (A.bl false) fun x0=>
 A.cl agD agE (x.1,()) fun x1=>
 A.rb (A.cmp .geq x1.1 (A.lit 0))
def agF (A:Alg) (am1:Pt A Nu) (am2:Ft A Nu) (x:Tup A.ah [.l .cer]):Ot A XG:=
 A.l1 .b (A.bl false) fun x0=>
 A.cg (A.cmp .leq (A.len .cer x.1) (A.lit 3)) am1 am2 (x.1,()) fun x1=>
 A.rb (A.au (A.cmp .leq (A.len .cer x.1) (A.lit 3)) (A.aA x1.1) (A.bl false))
def ZO (A:Alg) (adz:Pt A Np) (adA:Ft A Np) (x:Tup A.ah [.x .cer,.x .cer]):Ot A Nv:=
 A.l1 .b (A.bl false) fun x0=>
 A.cl adz adA (A.mkX .blk (A.fI .cer 0 x.1,A.fI .cer 1 x.1,A.fL .cer 2 .iop x.1,A.fI .cer 3 x.1,A.fI .cer 4 x.1,A.fI .cer 5 x.1,A.fI .cer 6 x.1,()),A.mkX .blk (A.fI .cer 0 x.2.1,A.fI .cer 1 x.2.1,A.fL .cer 2 .iop x.2.1,A.fI .cer 3 x.2.1,A.fI .cer 4 x.2.1,A.fI .cer 5 x.2.1,A.fI .cer 6 x.2.1,()),()) fun x1=>
 A.cond (A.aA x1.1) (A.rb (A.bl false))<|
 A.cl adz adA (A.mkX .blk (A.fI .cer 7 x.1,A.fI .cer 8 x.1,A.fL .cer 9 .iop x.1,A.fI .cer 10 x.1,A.fI .cer 11 x.1,A.fI .cer 12 x.1,A.fI .cer 13 x.1,()),A.mkX .blk (A.fI .cer 7 x.2.1,A.fI .cer 8 x.2.1,A.fL .cer 9 .iop x.2.1,A.fI .cer 10 x.2.1,A.fI .cer 11 x.2.1,A.fI .cer 12 x.2.1,A.fI .cer 13 x.2.1,()),()) fun x2=>
 A.cond (A.aA x2.1) (A.rb (A.bl false))<|
 A.rb (A.bl true)
def ZP (A:Alg) (am3:Pt A Nv) (am4:Ft A Nv) (x:Tup A.ah [.l .cer,.l .cer]):Ot A Nw:=
 A.l1 .b (A.bl false) fun x0=>
 A.cond (A.cmp .neq (A.len .cer x.1) (A.len .cer x.2.1)) (A.rb (A.bl false))<|
 A.l1 .i (A.lit 0) fun x1=>
 A.iter [.l .cer,.l .cer,.i] (fun x2=>
 A.cond (A.cmp .lss x2.2.2.1 (A.len .cer x2.1)) (A.bd .cer x2.1 x2.2.2.1<|
 A.bd .cer x2.2.1 x2.2.2.1<|
 A.cl am3 am4 (A.get .cer x2.1 x2.2.2.1,A.get .cer x2.2.1 x2.2.2.1,()) fun x3=>
 A.cond (A.aA x3.1) (A.l1 .b (A.bl false) fun x4=>
 A.inr _<|A.ret _ (x4.1,()))<|
 A.l1 .i (A.arith .add .i64 x2.2.2.1 (A.lit 1)) fun x4=>
 A.inl _ (x2.1,x2.2.1,x4.1,()))<|
 A.inr _<|A.rb (A.bl true)) (x.1,x.2.1,x1.1,())
def ZQ (A:Alg) (asS:Pt A XG) (asT:Ft A XG) (am5:Pt A Nw) (am6:Ft A Nw) (am7:Pt A Nr) (am8:Ft A Nr) (ZR:Pt A Nt) (ZT:Ft A Nt) (agG:Pt A FB) (agH:Ft A FB) (x:Tup A.ah [.l .cer]):Ot A adn:=
 A.l1 .b (A.bl false) fun x0=>
 A.l1 .i (A.lit 1048576) fun x1=>
 A.cl am7 am8 (x.1,x1.1,()) fun x2=>
 A.l1 .i x2.1 fun x3=>
 A.cond (A.cmp .lss x3.1 (A.lit 0)) (A.rb (A.bl true))<|
 A.cl ZR ZT (x.1,()) fun x4=>
 A.cl agG agH (x4.1,()) fun x5=>
 A.l1 .b x5.1 fun x6=>
 A.cl ZR ZT (x.1,()) fun x7=>
 A.cl asS asT (x7.1,()) fun x8=>
 A.l1 .b x8.1 fun x9=>
 A.cond (A.aA (A.eqB x9.1 x6.1)) (A.rb (A.bl false))<|
 A.cl ZR ZT (x.1,()) fun x10=>
 A.cl am5 am6 (x7.1,x10.1,()) fun x11=>
 A.cond (A.aA x11.1) (A.rb (A.bl false))<|
 A.rb (A.bl true)
end Go.TX.F
