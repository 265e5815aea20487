/- Part 3 of a proof: what the last part needs. No condition. -/
import Derived.Test.YtdmoejehiedihaaGreatZb
set_option linter.all false
set_option linter.unusedSectionVars false
set_option linter.unusedVariables false
set_option linter.unusedSimpArgs false
namespace Go.TX
open Go Go.AE
variable [aL]
section
variable {n:Nat}
theorem VR {t:Slots} {r:Nat}:∀ {rs:List Nat},r∈rs→aV (cut t rs) r=aV t r
 | [],h=>by simp at h
 | x::rs,h=>by
  simp only [cut,aV]
  split
  ·rename_i e;rw [e]
  ·rename_i e
   cases h with
   | head=>exact absurd rfl e
   | tail _ h=>exact VR h
theorem abz {h:List aJ} {x:Cell} {y:SC} (hr:RC (nmh h) x y) {s:Sh} {f:Bool} {v:LV aC} (hk:dN (std n) h s y=some (f,v,[])):∃g,(f=true→g=true)∧ZC x g (lvD s v):=by
 unfold dN at hk
 split at hk
 ·rename_i f0 lf
  split at hk
  ·rename_i e;subst e;cases hk
   cases hr with | d hx hf=>
   rename_i g0 x0
   subst hx
   rw [CP]
   refine⟨g0 || (lI lf).kQ,fun h=> ?_,.d _ _⟩
   rw [iE]
   cases lf with
   | rows c xs=>simp only [Leaf.flag]at h;rcases hf h with h | h<;>simp_all [Leaf.scalar]
   | _=>simp [Leaf.scalar]
  ·cases hk
 ·cases hr
  split at hk
  ·cases hk;exact⟨true,fun _=>rfl,.nil _⟩
  ·cases hk
 ·rename_i f0 c xs
  cases hr with | clip hf=>
  split at hk
  ·rename_i e;subst e;cases hk;exact⟨_,hf,.clip _ _ _⟩
  ·cases hk
 ·split at hk
  ·split at hk
   ·cases hk
   ·cases hk
  ·cases hk
 ·cases hk
theorem Ll {h:List aJ}:∀ {ss:List Sh} {ys:List SC} {xs:List Cell} (_:F2 (RC (nmh h)) xs ys) {f:Bool} {vs:List (LV aC)},aN (std n) h ss ys=some (f,vs,[])→∃g,(f=true→g=true)∧ZCs xs g (List.zipWith lvD ss vs)
 | [],[],xs,hF,f,vs,hk=>by simp [aN]at hk;obtain⟨rfl,rfl⟩:=hk;cases hF;exact⟨true,fun _=>rfl,.nil⟩
 | [],_::_,_,_,_,_,hk=>by simp [aN]at hk
 | _::_,[],_,_,_,_,hk=>by simp [aN]at hk
 | s::ss,y::ys,xs,hF,f,vs,hk=>by
  cases hF with | cons h1 h2=>
  unfold aN at hk
  split at hk
  ·rename_i f1 v1 l1 hv1
   split at hk
   ·rename_i g2 vs2 ls2 hv2
    split at hk
    ·simp only [Option.some.injEq,Prod.mk.injEq,List.append_eq_nil_iff]at hk
     obtain⟨rfl,rfl,rfl,rfl⟩:=hk
     obtain⟨ga,a1,a2⟩:=abz h1 hv1
     obtain⟨gb,b1,b2⟩:=Ll h2 hv2
     exact⟨ga&&gb,fun h=>by simp at h;simp [a1 h.1,b1 h.2],.cons a2 b2⟩
    ·cases hk
   ·cases hk
  ·cases hk
theorem G9 {N:NM}:∀ {ys:List (Leaf aC)} {xs:List Cell} {f:Bool},F2 (RC N) xs (ys.map (.d f))→∃g,(f=true∨(∀y∈ys,y.scalar=true)→g=true)∧ZCs xs g (ys.map lI)
 | [],_,_,h=>by cases h;exact⟨true,fun _=>rfl,.nil⟩
 | y::ys,_,f,.cons h1 h2=>by
  obtain⟨g,q1,q2⟩:=G9 h2
  cases h1 with | d hx hf=>
  rename_i g0 x0
  subst hx
  refine⟨(g0 || (lI y).kQ)&&g,fun h=> ?_,.cons (.d _ _) q2⟩
  rw [iE]
  rcases h with h | h
  ·rcases hf h with h' | h'<;>simp [h',q1 (.inl h)]
  ·simp [h y (by simp),q1 (.inr fun y hy=>h y (List.mem_cons_of_mem _ hy))]
theorem aik {h:List aJ} {p:PV} {q:SVal} (hp:PVR (nmh h) p q) {c:Co} {f:Bool} {x:c.den} (hk:toX (std n) h c q=some (f,x,[])):∃g,(f=true→g=true)∧ZCs (aM p) g (c.row x):=by
 unfold toX at hk
 split at hk
 ·rename_i f' c' x'
  split at hk
  ·rename_i e;subst e;cases hk
   have hF:=hp.cells
   have hx:cellsS (.sv f' c' x')=(eB (std 0) c' x' 0 c'.fields).map (.d f'):=rfl
   rw [hx]at hF
   obtain⟨g,q1,q2⟩:=G9 hF
   rw [jQ]at q2
   refine⟨g,fun h=>q1 ?_,q2⟩
   rcases Bool.or_eq_true _ _▸h with h | h
   ·exact .inl h
   ·exact .inr (jm c' h x')
  ·cases hk
 ·cases hk
 ·split at hk
  ·rename_i f1 ys ls1 h1
   split at hk
   ·rename_i t ht
    simp only [Option.some.injEq,Prod.mk.injEq]at hk
    obtain⟨rfl,rfl,rfl⟩:=hk
    rw [cZ]at h1
    obtain⟨g,q1,q2⟩:=Ll hp.cells h1
    rw [yF c t ht]at q2
    exact⟨g,q1,q2⟩
   ·cases hk
  ·cases hk
theorem Ta {X:XT} {E:Tab} (hX:XOK X E) {t:Slots} {e:Nat→Option SVal} {c:Co} {h:List aJ} (he:EvR X E n (nmh h) t e):∀ {parts:List (Nat×Operand)} {f:Bool} {xs:List c.den} {k:List aJ},pU (std n) X e c h parts=some (f,xs,k,[])→
  ∃g,(f=true→g=true)∧xs.length=parts.length∧ZPs E t c.size parts g (aK c xs)
 | [],f,xs,k,hk=>by
  simp only [pU,Option.some.injEq,Prod.mk.injEq]at hk
  obtain⟨rfl,rfl,_⟩:=hk
  exact⟨true,fun _=>rfl,rfl,.nil⟩
 | (i,x)::r,f,xs,k,hk=>by
  simp only [pU]at hk
  split at hk
  ·rename_i v hv
   split at hk
   ·rename_i f1 y l1 hy
    split at hk
    ·rename_i g1 ys k1 l2 hys
     simp only [Option.some.injEq,Prod.mk.injEq,List.append_eq_nil_iff]at hk
     obtain⟨rfl,rfl,_,rfl,rfl⟩:=hk
     obtain⟨pv,p1,p2⟩:=dB hX he hv
     obtain⟨ga,a1,a2⟩:=aik p2 hy
     obtain⟨gb,b1,b2,b3⟩:=Ta hX he (h:=h) hys
     have hl:(aM pv).length=c.size:=by
      have:∀ {cs:List Cell} {g:Bool} {ds:List D},ZCs cs g ds→cs.length=ds.length:=by
       intro cs g ds hz
       induction hz with
       | nil=>rfl
       | cons _ _ ih=>simp [ih]
      rw [this a2,uO]
     exact⟨ga&&gb,fun h=>by simp at h;simp [a1 h.1,b1 h.2],by simp [b2],.cons p1 hl a2 b3⟩
    ·cases hk
   ·cases hk
  ·cases hk
theorem aln {X:XT} {E:Tab} (hX:XOK X E) {t:Slots} {e:Nat→Option SVal} {h:List aJ} (he:EvR X E n (nmh h) t e) {op:Op} {ps:List Bool} {v:SVal} (hk:zX (std n) X e h op=some (ps,v)):Gv (zA E op t) (nmh h) v:=by
 unfold zX at hk
 split at hk
 ·rename_i ty len parts
  rw [hX.ty]at hk
  split at hk
  ·rename_i y hy
   split at hk
   ·rename_i el hd
    split at hk
    ·rename_i z c hz hco
     split at hk
     ·rename_i hcond
      simp only [Bool.and_eq_true,Bool.not_eq_true',beq_iff_eq,beq_eq_false_iff_ne,ne_eq]at hcond
      obtain⟨⟨⟨hsz,hne⟩,hrange⟩,hbig⟩:=hcond
      have hbig:=Nat.le_of_ble_eq_true hbig
      obtain⟨z',hz',hzs⟩:=fE hX hsz
      rw [hz]at hz';cases hz'
      split at hk
      ·rename_i f xs k hps;cases hk
       obtain⟨g,q1,q2,q3⟩:=Ta hX he hps
       have hlen:xs.length=len:=by
        have:=congrArg List.length hrange
        simp at this;rw [q2];simpa using this
       refine⟨.c (.clip g c.size (aK c xs)),.ofC (.clip q1),fun K hK=> ?_⟩
       unfold zA;simp only;rw [hy];simp only [aB];rw [hd];simp only;rw [hz]
       exact⟨hne,hrange,hbig,g,aK c xs,by rw [hzs];exact q3,by rw [aP];exact hlen,by rw [hzs];exact hK⟩
      ·cases hk
     ·cases hk
    ·cases hk
   ·cases hk
  ·cases hk
 ·cases hk
theorem Lm {E:Tab} {N:NM} {h' h'':Heap} {ty:TypeId} {pv:PV} {q:SVal} (hp:PVR N pv q) (hl:∀l∈sj (std n) q,AE.look h'' l=AE.look h' l) (K:PV→Prop):jK E h'' ty pv K=jK E h' ty pv K:=by
 have key:∀l sz i j,pv= .c (.ptr l sz i j)→AE.look h'' l=AE.look h' l:=by
  intro l sz i j e
  subst e
  cases hp with | one hp=>cases hp with | c hc=>
  cases hc with
  | pb=>exact hl _ (by simp [sj])
  | pr _=>exact hl _ (by simp [sj])
 unfold jK
 cases E.ty ty with
 | none=>rfl
 | some y=>
  simp only [aB]
  split
  ·rename_i l sz i j;rw [key l sz i j rfl]
  ·rfl
  ·rfl
theorem stable {X:XT} {E:Tab} (hX:XOK X E) {N:NM} {h' h'':Heap} {t:Slots} {e:Nat→Option SVal} (he:EvR X E n N t e) {op:Op} (hl:∀l∈fZ (std n) X e op,AE.look h'' l=AE.look h' l) (hev:isLoad op=true→∃ty x q,op= .load ty x∧evX (std n) X e x=some q) (K:PV→Prop):
  fG E op t h'' K=fG E op t h' K:=by
 cases hL:isLoad op with
 | false=>rw [wX hL]
 | true=>
  obtain⟨ty,x,q,rfl,hq⟩:=hev hL
  obtain⟨pv,p1,p2⟩:=dB hX he hq
  simp only [fZ,hq]at hl
  unfold fG;simp only
  rw [p1];simp only [aO]
  exact Lm p2 hl K
def HI (E:Tab) (ops:List Oper) (h':Heap) (h:List aJ) (hs':List Held) (hs:List (Nat×List Nat)):Prop:=∀p∈hs,(∀l∈p.2,l<h.length)∧∃o t v,mG hs' p.1=some (o,t,v)∧
 ∀h'',(∀l∈p.2,AE.look h'' l=AE.look h' l)→gQ E ops o t h'' (fun v'=>v'=v)
theorem HI.turn {E:Tab} {ops:List Oper} {h' h'':Heap} {h k:List aJ} {hs':List Held} {hs:List (Nat×List Nat)} (H:HI E ops h' h hs' hs) {td:List Nat} (x:gU h' h h'' k td):HI E ops h'' k hs' (lG hs td):=by
 intro p hp
 simp only [lG,List.mem_filter]at hp
 obtain⟨hp,hn⟩:=hp
 obtain⟨h1,o,t,v,h2,h3⟩:=H p hp
 refine⟨fun l hl=>Nat.lt_of_lt_of_le (h1 l hl) x.len,o,t,v,h2,fun h3' hh=>h3 h3' fun l hl=> ?_⟩
 have:=List.all_eq_true.1 hn l hl
 rw [hh l hl,(x.keep l (h1 l hl) (by simpa using this)).2]
theorem yK (hs:List (Nat×List Nat)):lG hs []=hs:=by
 unfold lG;rw [List.filter_eq_self];intro p _;simp
theorem Bu {E:Tab} {ops:List Oper} {h' h'':Heap} {h k:List aJ} {hs':List Held} {hs:List (Nat×List Nat)} (H:HI E ops h' h hs' hs) {td:List Nat} (x:gU h' h h'' k td):∀ {cs:List Nat},cs.all (IJ hs td)=true→Ns E ops h'' hs' cs
 | [],_=>trivial
 | j::r,hc=>by
  simp only [List.all_cons,Bool.and_eq_true]at hc
  refine⟨?_,Bu H x hc.2⟩
  have hj:=hc.1
  simp only [IJ,List.any_eq_true,Bool.and_eq_true,beq_iff_eq]at hj
  obtain⟨p,hp,hpj,hall⟩:=hj
  obtain⟨h1,o,t,v,h2,h3⟩:=H p hp
  rw [←hpj,h2]
  refine h3 h'' fun l hl=>(x.keep l (h1 l hl) ?_).2
  have:=List.all_eq_true.1 hall l hl
  simpa using this
theorem HI.push {E:Tab} {ops:List Oper} {h':Heap} {h:List aJ} {hs':List Held} {hs:List (Nat×List Nat)} (H:HI E ops h' h hs' hs) {i:Nat} (hi:¬(hs.any fun p=>p.1==i)=true) {ns:List Nat} {o:Oper} {t:Slots} {v:Option PV}
  (hns:∀l∈ns,l<h.length) (hst:∀h'',(∀l∈ns,AE.look h'' l=AE.look h' l)→gQ E ops o t h'' (fun v'=>v'=v)):HI E ops h' h ((i,o,t,v)::hs') ((i,ns)::hs):=by
 intro p hp
 cases hp with
 | head=>exact⟨hns,o,t,v,by simp [mG],hst⟩
 | tail _ hp=>
  obtain⟨h1,o',t',v',h2,h3⟩:=H p hp
  have hne:i≠p.1:=fun e=>hi (by rw [List.any_eq_true];exact⟨p,hp,by simp [e]⟩)
  exact⟨h1,o',t',v',by rw [KQ hne];exact h2,h3⟩
theorem Hg {E:Tab} {X:XT} {N:NM} {t:Slots} {e:Nat→Option SVal} (he:EvR X E n N t e) {k:Int}:∀ {l:List (Int×Nat)} {b:Bool},Bq (std n) e k l=some b→∀K:Bool→Prop,K b→Ce t k l K
 | [],b,h,K,hb=>by cases h;exact hb
 | (k',r)::rest,b,h,K,hb=>by
  unfold Bq at h
  split at h
  ·rename_i f b1 hr
   split at h
   ·rename_i q hq
    cases h
    obtain⟨pv,h1,h2⟩:=he r _ hr
    obtain⟨g,rfl⟩:=h2.bool
    refine⟨g,b1,h1,?_⟩
    have hb:K (bif decide (k=k')then b1 else q):=hb
    by_cases c:k=k'
    ·rw [if_pos c];rw [decide_eq_true c]at hb;exact hb
    ·rw [if_neg c];rw [decide_eq_false c]at hb;exact Hg he hq K hb
   ·cases h
  ·cases h
theorem NS {X:XT} {ops:List Oper} {e:Nat→Option SVal} {h:List aJ} {op:Op} (hp:Ch op=true):NH (std n) X ops e h op=match zX (std n) X e h op with | some r=>some (some r) | none=>none:=by
 cases op
 case makeMap=>cases hp
 case insert=>cases hp
 case move=>cases hp
 case lookup a b q d=>cases q<;>first | rfl | cases hp
 all_goals first | rfl | (simp only [NH];generalize zX (std n) X e h _=z;cases z<;>rfl)
theorem map_ok {X:XT} {E:Tab} (hX:XOK X E) {ops:List Oper} {t:Slots} {e:Nat→Option SVal} {h:List aJ} (he:EvR X E n (nmh h) t e) {op:Op} {r:Option (List Bool×SVal)} (hk:NH (std n) X ops e h op=some r):
  match r with | none=>∀K:Option PV→Prop,K none→zM E ops op t K | some (_,v)=>∃pv,PVR (nmh h) pv v∧∀K:Option PV→Prop,K (some pv)→zM E ops op t K:=by
 by_cases hp:Ch op=true
 ·rw [NS hp]at hk
  split at hk
  ·rename_i q hq
   cases hk
   obtain⟨ps,v⟩:=q
   obtain⟨pv,p1,p2⟩:=aln hX he hq
   exact⟨pv,p1,fun K hK=>by rw [yc hp];exact p2 _ hK⟩
  ·cases hk
 ·cases op
  case makeMap=>cases hk;exact fun K h=>h
  case insert a b c v=>
   cases v with
   | tmp r=>
    simp only [NH]at hk
    cases hq:e r with
    | some q=>
     rw [hq]at hk
     cases hk
     obtain⟨pv,p1,_⟩:=he _ _ hq
     exact fun K h=>⟨⟨pv,p1⟩,h⟩
    | none=>rw [hq]at hk;cases hk
   | _=>cases hk
  case move x=>
   simp only [NH]at hk
   split at hk
   ·rename_i hs
    cases hk
    exact fun K h=>⟨hs,h⟩
   ·cases hk
  case lookup a b q d=>
   cases q with
   | tmp q=>
    simp only [NH]at hk
    split at hk
    ·rename_i f m hq
     split at hk
     ·rename_i bb hb
      cases hk
      obtain⟨pv,p1,p2⟩:=he _ _ hq
      obtain⟨g,rfl⟩:=p2.int
      exact⟨_,.ofC (.d rfl fun _=> .inl rfl),fun K hK=>⟨g,m,p1,Hg he hb _ hK⟩⟩
     ·cases hk
    ·cases hk
   | _=>exact absurd rfl hp
  all_goals exact absurd rfl hp
theorem xk {X:XT} {gs:List (GE (std n))} {lk:Nat→Option (SV (std n))} {h:List aJ} {cur:Option Nat} {op:Op} {ps:List Bool} {v:SVal} (hk:rZ (std n) X lk gs h cur op=some (ps,v)) (hl:isLoad op=true):
  (∃ty x q,op= .load ty x∧evX (std n) X (fK (std n) lk (dP (std n) gs cur)) x=some q)∧∀l∈fZ (std n) X (fK (std n) lk (dP (std n) gs cur)) op,l<h.length:=by
 cases op<;>simp only [isLoad,Bool.false_eq_true]at hl
 rename_i ty x
 simp only [rZ,Sw]at hk
 obtain⟨q,hq,hk⟩:=dK hk
 refine⟨⟨ty,x,q,rfl,hq⟩,fun l hl=> ?_⟩
 simp only [fZ,hq]at hl
 unfold KT at hk
 split at hk
 ·cases hk
 ·unfold sj at hl
  split at hl
  ·simp at hl;subst hl
   simp only at hk
   split at hk
   ·rename_i hh;exact(List.getElem?_eq_some_iff.1 hh).1
   ·cases hk
  ·simp at hl;subst hl
   simp only at hk
   split at hk
   ·rename_i hh;exact(List.getElem?_eq_some_iff.1 hh).1
   ·cases hk
  ·simp at hl
end
end Go.TX
namespace Go.TX
open Go Go.AE
variable [aL]
section
variable {n:Nat}
theorem zN (gs:List (GE (std n))):dP (std n) gs none=[]:=by unfold dP;rw [NG];simp
theorem CZ {E:Tab} {ops:List Oper} {o:Oper} (hg:o.guard=none) (t:Slots) (h:Heap) (K:Option PV→Prop):gQ E ops o t h K=fG E o.op t h fun v=>K (some v):=by unfold gQ;rw [hg]
theorem qh {E:Tab} {ops:List Oper} {o:Oper} {j d:Nat} {w:Bool} (hg:o.guard=some (j,w)) (hd:gslot ops j=some d) (t:Slots) (h:Heap) (K:Option PV→Prop):
 gQ E ops o t h K=jN (aV t d) w (fG E o.op t h fun v=>K (some v)) (K (some mh)):=by unfold gQ;rw [hg];simp only;rw [hd];rfl
theorem IW {X:XT} {E:Tab} (hX:XOK X E) {C:Calls aC} {ops:List Oper} {ρ:Type} {K:RSt (std n)→(ρ→Prop)→Prop} {r:ρ→Prop} {h0:List aJ} {m0:Nat}:∀ {rest:List eP} {hs:List (Nat×List Nat)} {hs':List Held} {s':St} {s:RSt (std n)},SR s' s→(∀k,Keep k h0 s.h)→s.m=m0→
    HI E ops s'.h s.h hs' hs→gZ (std n) X C ops rest hs K s r→
    dR E (jC C) ops rest hs' (fun s1'=>∃s1,SR s1' s1∧(∀k,Keep k h0 s1.h)∧s1.m=m0∧K s1 r) s'
  | [],hs,hs',s',s,S,hK0,hm0,HH,hk=>⟨s,S,hK0,hm0,hk⟩
  | (i,rs,cs)::rest,hs,hs',s',s,S,hK0,hm0,HH,hk=>by
    generalize hM:gZ (std n) X C ops ((i,rs,cs)::rest) hs K s=M at hk
    unfold gZ at hM
    unfold dR
    split at hM
    · (subst hM;exact hk.elim)
    · rename_i o ho
      rw [ho]
      simp only [aan]
      split at hM
      · rename_i hdst
        have hd:dOK s'.m o.dst:=by rw [S.m];exact VP hdst
        refine⟨hd,?_⟩
        simp only at hM
        have hlk:∀i sv,(if rs.contains i then dA (std n) s.t i else none)=some sv→dA (std n) s.t i=some sv:=fun i sv h=>by
          split at h
          · exact h
          · cases h
        have VT:∀d,(if rs.contains d then dA (std n) s.t d else none).isSome→aV (cut s'.t rs) d=aV s'.t d:=fun d h=>by
          split at h
          · rename_i hc;exact VR (by simpa using hc)
          · cases h
        have hev:∀ {gs:List (GE (std n))},SR s' {s with gs:=gs}→∀ {al:List Nat},(∀t∈al,∃e,gs[t]? =some e∧e.g=true)→EvR X E n (nmh s.h) (cut s'.t rs) (fK (std n) (fun i=>if rs.contains i then dA (std n) s.t i else none) al):=
          fun S1 _ hal=>pq (t':=s'.t) VT (fun i sv h=>S1.val i sv (hlk i sv h)) hal
        have go:∀ {s2':St} {s2:RSt (std n)} {tag:Option Nat} {v:SVal} {hs2:List (Nat×List Nat)} {abA:List Held},SR s2' (s2.put (std n) o.dst tag v)→(∀k,Keep k s.h s2.h)→s2.m=s.m→HI E ops s2'.h s2.h abA hs2→gZ (std n) X C ops rest hs2 K (s2.put (std n) o.dst tag v) r→
            dR E (jC C) ops rest abA (fun s1'=>∃s1,SR s1' s1∧(∀k,Keep k h0 s1.h)∧s1.m=m0∧K s1 r) s2':=by
          intro s2' s2 tag v hs2 abA S2 hkeep hm2 HI2 hk2
          have e1:=aav (n:=n) (s:=s2) (d:=o.dst) (tag:=tag) (v:=v)
          exact IW hX (rest:=rest) S2 (fun k=>by rw [e1.1];exact(hK0 k).trans (hkeep k)) (by rw [e1.2,hm2,hm0]) (by rw [e1.1];exact HI2) hk2
        have IX:∀(d:Option Nat) (v:Option PV),(s'.put d v).h=s'.h:=fun d v=>by cases d<;>rfl
        split at hM
        ·
          rename_i hkind
          split at hM
          · (subst hM;exact hk.elim)
          rename_i hnew
          split at hM
          · rename_i hguard
            rw [hkind]
            split at hM
            · rename_i ps v hv
              subst hM
              obtain⟨hps,hk⟩:=fD hk
              rw [Br]at hk
              have sH:∀i sv,(if rs.contains i then dA (std n) s.t i else none)=some sv→yI s.gs s'.t (nmh s.h) i sv:=fun i sv h=>S.val i sv (hlk i sv h)
              obtain⟨pv,p1,p2⟩:=uT hX S.heap S.gs VT sH (cur:=none) (fun t h=>by cases h) hv hps
              simp only
              rw [CZ hguard]
              have hE0:=hev S (al:=dP (std n) s.gs none) (fun t h=>by rw [zN]at h;simp at h)
              rw [zN]at hE0
              have hln:=fun hL=>xk hv hL
              rw [zN]at hln
              have hst:∀h'',(∀l∈fZ (std n) X (fK (std n) (fun i=>if rs.contains i then dA (std n) s.t i else none) []) o.op,AE.look h'' l=AE.look s'.h l)→gQ E ops o (cut s'.t rs) h'' (fun v'=>v'=some pv):=fun h'' hh=>by
                rw [CZ hguard,stable hX hE0 hh (fun hL=>(hln hL).1)]
                exact p2 _ rfl
              have hns:∀l∈fZ (std n) X (fK (std n) (fun i=>if rs.contains i then dA (std n) s.t i else none) []) o.op,l<s.h.length:=fun l hl=>by
                cases hL:isLoad o.op with
                | true=>exact(hln hL).2 l hl
                | false => unfold fZ at hl; split at hl
                           · rename_i hop;rw [hop]at hL;simp [isLoad]at hL
                           · simp at hl
              exact p2 _ (go (s2:=s) (S.put (tag:=none) ⟨pv,rfl,p1⟩) (fun _=> .refl _ _) rfl (by rw [IX];exact HH.push hnew hns hst) hk)
            · (subst hM;exact hk.elim)
          · rename_i j want hguard
            rw [hkind]
            split at hM
            · rename_i d hgs
              have hgm:=fun hb=>CX S (lk:=fun i=>if rs.contains i then dA (std n) s.t i else none) hlk (tt:=cut s'.t rs) (d:=d) (want:=want) (VT d) rfl hb
              simp only
              rw [qh hguard hgs]
              split at hM
              · rename_i hr
                rw [hr]at hgm
                subst hM
                cases hgm (by simp)with | skip h=>
                refine h _ _ (go (s2:=s) (S.put (tag:=none) ⟨mh,rfl,VQ⟩) (fun _=> .refl _ _) rfl (by rw [IX];exact HH.push hnew (fun l hl=>by simp at hl) (fun h'' _=>by rw [qh hguard hgs];exact h _ _ rfl)) hk)
              · rename_i gs t g hr
                rw [hr]at hgm
                cases hgm (by simp)with | run S1 hget hg sH hT hF=>
                rename_i e
                subst hg
                split at hM
                · rename_i ps v hv
                  subst hM
                  obtain⟨hps,hk⟩:=fD hk
                  have hns:∀l∈fZ (std n) X (fK (std n) (fun i=>if rs.contains i then dA (std n) s.t i else none) (dP (std n) gs (some t))) o.op,l<s.h.length:=fun l hl=>by
                    cases hL:isLoad o.op with
                    | true=>exact(xk hv hL).2 l hl
                    | false => unfold fZ at hl; split at hl
                               · rename_i hop;rw [hop]at hL;simp [isLoad]at hL
                               · simp at hl
                  cases hg:e.g with
                  | true=>
                    have hcur:∀t0,some t=some t0→∃e,gs[t0]? =some e∧e.g=true:=fun t0 ht=>by cases ht;exact⟨e,hget,hg⟩
                    obtain⟨pv,p1,p2⟩:=uT hX S1.heap S1.gs VT (fun i sv h=>sH i sv (hlk i sv h)) hcur hv (yJ hps hg)
                    have hE0:EvR X E n (nmh s.h) (cut s'.t rs) (fK (std n) (fun i=>if rs.contains i then dA (std n) s.t i else none) (dP (std n) gs (some t))):=hev S1 (mJ S1.gs hcur (f:=gs.length+1))
                    refine hT hg _ _ (p2 _ (go (s2:={s with gs:=gs}) (S1.put (tag:=some t) ⟨e,hget,fun _=>⟨pv,rfl,p1⟩,fun h=>by rw [hg]at h;cases h⟩) (fun _=> .refl _ _) rfl (by
                      rw [IX]
                      refine HH.push hnew hns (fun h'' hh=> ?_)
                      rw [qh hguard hgs,stable hX hE0 hh (fun hL=>(xk hv hL).1)]
                      exact hT hg _ _ (p2 _ rfl)) hk))
                  | false=>
                    exact hF hg _ _ (go (s2:={s with gs:=gs}) (S1.put (tag:=some t) ⟨e,hget,fun h=>(by rw [hg]at h;cases h),fun _=>rfl⟩) (fun _=> .refl _ _) rfl (by
                      rw [IX]
                      refine HH.push hnew hns (fun h'' hh=> ?_)
                      rw [qh hguard hgs]
                      exact hF hg _ _ rfl) hk)
                · (subst hM;exact hk.elim)
              · (subst hM;exact hk.elim)
            · (subst hM;exact hk.elim)
        · rename_i hkind
          rw [hkind]
          split at hM
          · rename_i ps v hv
            subst hM
            obtain⟨hps,hk⟩:=fD hk
            obtain⟨pv,p1,p2⟩:=map_ok hX (ops:=ops) (hev S (al:=[]) (fun t h=>by simp at h)) hv
            simp only
            exact p2 _ (go (s2:=s) (S.put (tag:=none) ⟨pv,rfl,p1⟩) (fun _=> .refl _ _) rfl (by rw [IX];exact HH) hk)
          · rename_i hv
            subst hM
            have p2:=map_ok hX (ops:=ops) (hev S (al:=[]) (fun t h=>by simp at h)) hv
            simp only
            refine p2 _ ?_
            have e1:=aii (n:=n) (s:=s) (d:=o.dst)
            exact IW hX (rest:=rest) S.del (fun k=>by rw [e1.1];exact hK0 k) (by rw [e1.2,hm0]) (by rw [e1.1,IX];exact HH) hk
          · (subst hM;exact hk.elim)
        · rename_i hkind
          rw [hkind]
          split at hM
          · rename_i hr hv
            subst hM
            obtain⟨hps,hk⟩:=fD hk
            have he0:EvR X E n (nmh s.h) [] (fun _=>none):=fun i v h=>by cases h
            obtain⟨pv,h'',j,q1,q2,q3,q4,q5⟩:=IU hX S.heap S.len he0 hv hps
            simp only
            have S2:=S.xg q3.same q2 q4
            have htd:hr.touched=[]:=by
              unfold kindOf at hkind
              split at hkind
              · rename_i ty hop
                rw [hop]at hv
                simp only [Cy]at hv
                split at hv
                · split at hv
                  · split at hv<;>(cases hv;rfl)
                  · cases hv;rfl
                  · cases hv
                · cases hv
              all_goals first | cases hkind | (split at hkind<;>cases hkind)
            have HI2:=HH.turn q3
            rw [htd,yK]at HI2
            exact q5 _ (go (s2:={s with h:=hr.h}) (S2.put (tag:=none) ⟨pv,rfl,q1⟩) q3.Li rfl (by cases o.dst<;>exact HI2) hk)
          · (subst hM;exact hk.elim)
        · rename_i hk0 hk1 hk2
          split at hM
          · rename_i hguard
            split at hM
            · rename_i cr hcr
              split at hM
              · rename_i hcs
                subst hM
                obtain⟨hps,hk⟩:=fD hk
                obtain⟨v,k,hvk,hk⟩:=zL hk
                obtain⟨v',k',e1,_,e3⟩:=zK hX S.heap S.len (hev S (al:=[]) (fun t h=>by simp at h)) hcr hps ⟨v,k,hvk⟩
                rw [hvk]at e1;cases e1
                split
                · rename_i h;exact absurd h hk0
                · rename_i h;exact absurd h hk1
                · rename_i h;exact absurd h hk2
                · rw [hguard]
                  refine e3 _ fun pv h'' j a1 a2 a3 a4=>⟨Bu HH a3 hcs,?_⟩
                  have S2:=S.xg a3.same a2 a4
                  exact go (s2:={s with h:=k}) (S2.put (tag:=none) ⟨pv,rfl,a1⟩) a3.Li rfl (by cases o.dst<;>exact HH.turn a3) hk
              · (subst hM;exact hk.elim)
            · (subst hM;exact hk.elim)
          · rename_i j want hguard
            split at hM
            · rename_i d hgs
              have hgm:=fun hb=>CX S (lk:=fun i=>if rs.contains i then dA (std n) s.t i else none) hlk (tt:=cut s'.t rs) (d:=d) (want:=want) (VT d) rfl hb
              have goal:jN (aV (cut s'.t rs) d) want
                  (Ul E (jC C) o (cut s'.t rs) s' fun v h k=>Ns E ops h hs' cs∧dR E (jC C) ops rest hs' (fun s1'=>∃s1,SR s1' s1∧(∀k,Keep k h0 s1.h)∧s1.m=m0∧K s1 r) (St.put {s' with h:=h,k:=k} o.dst (some v)))
                  (dR E (jC C) ops rest hs' (fun s1'=>∃s1,SR s1' s1∧(∀k,Keep k h0 s1.h)∧s1.m=m0∧K s1 r) (s'.put o.dst (some mh))):=by
                split at hM
                · rename_i hr
                  rw [hr]at hgm
                  subst hM
                  cases hgm (by simp)with | skip h=>
                  exact h _ _ (go (s2:=s) (S.put (tag:=none) ⟨mh,rfl,VQ⟩) (fun _=> .refl _ _) rfl (by rw [IX];exact HH) hk)
                · rename_i gs t g hr
                  rw [hr]at hgm
                  cases hgm (by simp)with | run S1 hget hg sH hT hF=>
                  rename_i e
                  subst hg
                  have hcur:e.g=true→∀t0,some t=some t0→∃e,gs[t0]? =some e∧e.g=true:=fun h t0 ht=>by cases ht;exact⟨e,hget,h⟩
                  split at hM
                  · rename_i cr hcr
                    split at hM
                    · rename_i hcs
                      split at hM
                      · rename_i hpure
                        subst hM
                        obtain⟨hps,hk⟩:=fD hk
                        obtain⟨v,k,hvk,hk⟩:=zL hk
                        cases hg:e.g with
                        | true=>
                          obtain⟨v',k',e1,e2,e3⟩:=zK hX S1.heap S1.len (hev S1 (mJ S1.gs (hcur hg) (f:=gs.length+1))) hcr (yJ hps hg) ⟨v,k,hvk⟩
                          rw [hvk]at e1;cases e1
                          obtain⟨rfl,htd⟩:=e2 hpure
                          refine hT hg _ _ (e3 _ fun pv h'' j a1 a2 a3 a4=>⟨Bu HH a3 hcs,?_⟩)
                          have S2:=S1.xg (Same.refl _) a2 a4
                          have HI2:=HH.turn a3
                          rw [htd,yK]at HI2
                          exact go (s2:={s with gs:=gs}) (S2.put (tag:=some t) ⟨e,hget,fun _=>⟨pv,rfl,a1⟩,fun h=>by rw [hg]at h;cases h⟩) (fun _=> .refl _ _) rfl (by cases o.dst<;>exact HI2) hk
                        | false=>
                          exact hF hg _ _ (go (s2:={s with gs:=gs}) (S1.put (tag:=some t) ⟨e,hget,fun h=>(by rw [hg]at h;cases h),fun _=>rfl⟩) (fun _=> .refl _ _) rfl (by rw [IX];exact HH) hk)
                      · subst hM
                        obtain⟨hkT,hkF⟩:(e.g=true→fM (std n) cr.ck (qN (std n) cr fun v h=>gZ (std n) X C ops rest (lG hs cr.touched) K (RSt.put (std n) {s with h:=h,gs:=gs} o.dst none v)) r)∧(e.g=false→gZ (std n) X C ops rest hs K (RSt.put (std n) {s with gs:=yB (std n) gs t} o.dst none (.tup [])) r):=hk
                        cases hg:e.g with
                        | true=>
                          obtain⟨hps,hk⟩:=fD (hkT hg)
                          obtain⟨v,k,hvk,hk⟩:=zL hk
                          obtain⟨v',k',e1,e2,e3⟩:=zK hX S1.heap S1.len (hev S1 (mJ S1.gs (hcur hg) (f:=gs.length+1))) hcr hps ⟨v,k,hvk⟩
                          rw [hvk]at e1;cases e1
                          refine hT hg _ _ (e3 _ fun pv h'' j a1 a2 a3 a4=>⟨Bu HH a3 hcs,?_⟩)
                          have S2:=S1.xg a3.same a2 a4
                          exact go (s2:={s with h:=k,gs:=gs}) (S2.put (tag:=none) ⟨pv,rfl,a1⟩) a3.Li rfl (by cases o.dst<;>exact HH.turn a3) hk
                        | false=>
                          have hk:=hkF hg
                          have S2:=S1.kill hget hg
                          exact hF hg _ _ (go (s2:={s with gs:=yB (std n) gs t}) (S2.put (tag:=none) ⟨mh,rfl,VQ⟩) (fun _=> .refl _ _) rfl (by rw [IX];exact HH) hk)
                    · (subst hM;exact hk.elim)
                  · (subst hM;exact hk.elim)
                · (subst hM;exact hk.elim)
              split
              · rename_i h;exact absurd h hk0
              · rename_i h;exact absurd h hk1
              · rename_i h;exact absurd h hk2
              · rw [hguard];simp only;rw [hgs];exact goal
            · (subst hM;exact hk.elim)
      · (subst hM;exact hk.elim)
end
end Go.TX
namespace Go.TX
open Go Go.AE
variable [aL]
section
variable {n:Nat}
theorem Hl {s:RSt (std n)}:∀ {l:List (Nat×SkV)} {e0 e:ES (std n)},su (std n) s.t s.h l e0=some e→
  ∃vs,F2 (fun i v=>dA (std n) s.t i=some ⟨none,v⟩) (l.map (·.1)) vs∧vK (std n) s.h (l.map (·.2)) vs e0=some e
 | [],e0,e,h=>by simp only [su,Option.some.injEq]at h;subst h;exact⟨[],.nil,rfl⟩
 | p::l,e0,e,h=>by
  simp only [su]at h
  split at h
  ·rename_i v hl
   split at h
   ·rename_i e1 h1
    obtain⟨vs,q1,q2⟩:=Hl (l:=l) h
    exact⟨v::vs,.cons hl q1,by simp only [List.map_cons,vK];rw [h1];exact q2⟩
   ·cases h
  ·cases h
theorem IY {k:Nat} {os:List SkO} {i:Nat} (hi:i<k) (hik:i<os.length):(es0 (std n) k os).ren[i]? =some (if pX os[i]? then none else some (some i)):=by
 have hb:Nat.blt i k=true:=by simpa using hi
 simp only [es0,List.getElem?_map,List.getElem?_range hik,Option.map_some,hb,Bool.true_and]
 cases pX os[i]? <;>rfl
theorem IZ (k:Nat) (os:List SkO):(es0 (std n) k os).ren.length=os.length:=by simp [es0]
theorem I4 {c:Ctx} {w:World} {N:NM} {us:List Value} {vs:List SVal} (h:F2 (WV c w N) us vs):∃pvs,F2 (bD c w) us pvs∧F2 (PVR N) pvs vs:=by
 induction h with
 | nil=>exact⟨[],.nil,.nil⟩
 | cons h1 _ ih=>
  obtain⟨p,a,b⟩:=h1
  obtain⟨pvs,q1,q2⟩:=ih
  exact⟨p::pvs,.cons a q1,.cons b q2⟩
theorem C8 {N:NM}:∀ {ids:List Nat} {vs:List SVal} {pvs:List PV},F2 (PVR N) pvs vs→∀i sv,dA (std n) (ids.zip (vs.map fun v=>(⟨none,v⟩:SV (std n)))) i=some sv→sv.tag=none∧∃pv,aV (ids.zip (pvs.map some)) i=some pv∧PVR N pv sv.v
 | [],vs,pvs,_,i,sv,h=>by simp [dA]at h
 | j::ids,[],pvs,hF,i,sv,h=>by simp [dA]at h
 | j::ids,v::vs,pvs,hF,i,sv,h=>by
  cases hF with | cons h1 h2=>
  simp only [List.map_cons,List.zip_cons_cons,lK]at h ⊢
  simp only [aV]
  split at h
  ·rename_i e;cases h;rw [if_pos e];exact⟨rfl,_,rfl,h1⟩
  ·rename_i e;rw [if_neg e];exact C8 h2 i sv h
theorem C9 {c:Ctx} {w:World} {a:Act}:∀ {ids:List Nat} {us:List Value} {pvs:List PV},F2 (bD c w) us pvs→F2 (fun i u=>a.tmps[i]? =some u) ids us→∀i v,aV (ids.zip (pvs.map some)) i=some v→∃u,a.tmps[i]? =some u∧bD c w u v
 | [],us,pvs,_,_,i,v,h=>by simp [aV]at h
 | j::ids,us,pvs,hF,hI,i,v,h=>by
  cases hI with | cons h3 h4=>
  cases hF with | cons h1 h2=>
  simp only [List.map_cons,List.zip_cons_cons,aV]at h
  split at h
  ·rename_i e;subst e;cases h;exact⟨_,h3,h1⟩
  ·exact C9 h2 h4 i v h
theorem Da {E:Tab} {s':St} {s:RSt (std n)} (S:SR s' s) {c:Ctx} {w:World} {a:Act} (A:iV E s' c w a):∀ {ids:List Nat} {vs:List SVal},F2 (fun i v=>dA (std n) s.t i=some ⟨none,v⟩) ids vs→∃us,F2 (fun i u=>a.tmps[i]? =some u) ids us∧F2 (WV c w (nmh s.h)) us vs
 | [],_,h=>by cases h;exact⟨[],.nil,.nil⟩
 | i::ids,_,.cons h1 h2=>by
  obtain⟨us,q1,q2⟩:=Da S A h2
  obtain⟨pv,p1,p2⟩:=S.val i _ h1
  obtain⟨u,hu,hr⟩:=A.abs.slot i pv p1
  exact⟨u::us,.cons hu q1,.cons ⟨pv,hr,p2⟩ q2⟩
def μX (e:ES (std n)) (c:Ctx) (i:Nat):Option Nat:=match e.ren[i]? with | some (some (some l))=>c.μ l | some (some none)=>none | _=>c.μ i
theorem Lp (w:World) (K:Bool→Nat→Prop) (μ:Nat→Option Nat) (k:Nat) (hlow:∀f b,K f b→b<w.heap.size) (hsub:∀b,K true b→K false b):bF {K:=K,μ:=μ,n:=k} w []:=
 ⟨fun l o h=>by simp [AE.look]at h,fun l o l' o' b h=>by simp [AE.look]at h,fun f b ⟨l,o,hl,_⟩=>by simp [AE.look]at hl,hlow,hsub⟩
theorem I5 {E:Tab} {k:Nat} {sk:Gs} {s:RSt (std n)} {ck:List Bool} {x:gM sk.tys} (hx:CF (std n) k sk s=some (ck,x)) (hck:∀b∈ck,b=true) {s':St} (S:SR s' s) {c:Ctx} {w:World} {a:Act} (A:iV E s' c w a)
  {c0:Ctx} {w0:World} {h0:Heap} (hc0:c0.n=k) (g:Grow c0 w0 h0 c w s'.h) {m:Nat} (hm:s.m=m):
  ∃c2 s2',Grow c0 w0 h0 c2 w s2'.h∧iV E s2' c2 w a∧SR s2' (qO (std n) sk m x)∧Keep k s.h (qO (std n) sk m x).h∧(qO (std n) sk m x).m=m:=by
 unfold CF at hx
 split at hx
 ·cases hx
 rename_i hkl
 have hkl:k≤sk.objs.length:=by
  have:Nat.ble k sk.objs.length=true:=by simpa using hkl
  exact Nat.le_of_ble_eq_true this
 split at hx
 ·rename_i e1 he1
  split at hx
  ·rename_i e he
   split at hx
   ·rename_i iK
    split at hx
    ·rename_i x' hx';cases hx
     have iK:=IV iK
     obtain⟨vs,v1,v2⟩:=Hl he1
     obtain⟨us,u1,u2⟩:=Da S A v1
     obtain⟨new1,vs2,a1,a2,a3,a4⟩:=sF (fun i=>i) v2
     obtain⟨new2,os2,b1,b2,b3,b4,b5⟩:=o8 (fun i=>i) (fun _=>(.gone .i64 0:aJ)) (fun _=>⟨.i64,0,rfl⟩) he
     have hlv:e.lv.reverse=new1++new2:=by rw [b1,a1];simp [es0]
     have hun:=unpack_pack hx'
     rw [hlv]at hun
     have hrl:e.ren.length=sk.objs.length:=by rw [b2.len,a2.len,IZ]
     have hof:∀(j:Nat) (kk:SkO),sk.objs[j]? =some kk→∃o2,os2[j]? =some o2∧OF e s.h (fun i=>i) j kk (.gone .i64 0) o2:=fun j kk hj=>by
      obtain⟨o2,q1,q2⟩:=b5 e (.refl _) j kk hj
      exact⟨o2,q1,by simpa using q2⟩
     have Aj:qO (std n) sk m x={t:=(sk.slots.map (·.1)).zip (vs2.map fun v=>(⟨none,v⟩:SV (std n))),gs:=[],h:=os2,m:=m}:=by
      unfold qO
      rw [hun,a3]
      simp only
      have:=b3 []
      rw [List.append_nil]at this
      rw [show qb aC (fun i=>i) (fun _=>dI.gone Co.i64 ((std n).lit 0)) 0 sk.objs new2=some (os2,[])from this]
     have H:=A.abs.heap
     obtain⟨o',m1,m2,m3,m4,m5,_⟩:=w9 (ks:=sk.objs) (nm:=fun i=>i) (old:=fun _=>(.gone .i64 0:aJ)) H S.heap hck iK hrl b4 hof (cb:={K:=fun _ _=>False,μ:=μX e c,n:=k}) (hb':=[])
      (Lp w _ _ _ (fun _ _ h=>h.elim) (fun _ h=>h)) false (fun h=>by cases h) (μ2:=μX e c) (n2:=sk.objs.length) hkl (fun _ _=>rfl) (fun i hi=>hi) (fun i j _ _ h=>h)
      (fun i l hi=>by simp only [μX];rw [hi]) (fun i hi=>by simp only [μX];rw [hi]) (h2:=os2) (fun i _=>rfl)
      (fun l o hl ho=>by
       have:sk.objs.length≤l:=by
        rcases Nat.lt_or_ge l sk.objs.length with h | h
        ·exact absurd rfl (hl l h)
        ·exact h
       rw [List.getElem?_eq_none (by omega)]at ho;cases ho) (fun _ _=>rfl)
      (fun b ⟨l,o,hl,_⟩ _=>by simp [AE.look]at hl) (fun f b h _=>h) (fun f b ⟨l,o,hl,_⟩ _=>by simp [AE.look]at hl)
     have hmu:∀l,l<k→μX e c l=c.μ l:=fun l hl=>by
      have h0:=IY (n:=n) hl (Nat.lt_of_lt_of_le hl hkl) (os:=sk.objs)
      unfold μX
      by_cases hg:pX sk.objs[l]? =true
      ·have hgo:sk.objs[l]? =some .gone:=by
        unfold pX at hg;split at hg
        ·assumption
        ·cases hg
       cases hr:e.ren[l]? with
       | none=>rfl
       | some q=>
        cases q with
        | none=>rfl
        | some v=>exact absurd hgo (iK.gone hr)
      ·rw [if_neg hg]at h0
       have:=b2.ren l _ (a2.ren l _ h0)
       rw [this]
     have hgr:Grow c0 w0 h0 {K:=fun f b=>False∨KX e c false f b,μ:=μX e c,n:=sk.objs.length} w (qR (fun i=>i) o' (List.range sk.objs.length) []):=by
      refine⟨⟨fun f b hb=> .inr (.inl (by simpa using g.le.K f b hb)),by rw [hc0];exact hkl,fun l hl=> ?_⟩,g.size,g.stays,g.kept,fun f b hb=> ?_,fun b hb=> ?_,g.os,g.tape,g.output⟩
      ·show μX e c l=c0.μ l
       rw [hmu l (by rw [←hc0];exact hl)];exact g.le.μ l hl
      ·rcases hb with hb | hb | ⟨l,f',q1,q2,q3⟩
       ·exact hb.elim
       ·exact g.vo f b (by simpa using hb)
       ·obtain⟨_,g',cc,xs,hl⟩:=iK.fro l f' q1
        obtain⟨o2,ho2,hO⟩:=S.heap.old l _ hl
        cases hO with | rows _=>
        exact .inr ((g.mU b ⟨l,_,ho2,trivial,q2⟩).elim .inr .inl)
      ·rcases m4 b hb with⟨l,o,hl,_⟩ | ⟨i,lq,q,_,q1,q2,q3⟩
       ·simp [AE.look]at hl
       ·exact g.mU b ⟨lq,q,q1,q2,q3⟩
     obtain⟨pvs,p1,p2⟩:=I4 (a4 H S.heap (b2) hck m3 (fun h=>by cases h) u2)
     refine⟨_,{t:=(sk.slots.map (·.1)).zip (pvs.map some),h:=qR (fun i=>i) o' (List.range sk.objs.length) [],n:=sk.objs.length,k:=0,m:=m},hgr,⟨⟨fun i v hv=>C9 p1 u1 i v hv,m1,?_⟩,rfl,A.defers,by rw [A.size,S.m,hm]⟩,?_,?_,by rw [Aj]⟩
     ·intro gg d hd
      obtain⟨q1,u,q2,q3⟩:=A.abs.glob gg d hd
      exact⟨.inr (.inl (by simpa using q1)),u,q2,q3.mono' fun b hb=> .inr (.inl (by simpa using hb))⟩
     ·rw [Aj]
      refine⟨m2,by simp [nm,b4],rfl,fun i sv hi=> ?_,fun t e he=>by simp at he⟩
      obtain⟨q1,q2⟩:=C8 p2 i sv hi
      unfold yI
      rw [q1];exact q2
     ·rw [Aj]
      intro i hi
      have hik:i<sk.objs.length:=Nat.lt_of_lt_of_le hi hkl
      have hsk:sk.objs[i]? =some sk.objs[i]:=List.getElem?_eq_getElem hik
      obtain⟨o2,q1,q2⟩:=hof i _ hsk
      have h0:=IY (n:=n) hi hik
      by_cases hg:sk.objs[i]= .gone
      ·have:Gone os2 i:=⟨.i64,0,by rw [q1,q2.gone hg]⟩
       exact⟨fun _=>this,fun _ _=> .inl this⟩
      ·have hig:pX sk.objs[i]? =false:=by
        rw [hsk];unfold pX;split
        ·rename_i hh;exact absurd (Option.some.inj hh) hg
        ·rfl
       rw [hig]at h0
       have h0:(es0 (std n) k sk.objs).ren[i]? =some (some (some i)):=by simpa using h0
       have hre:=b2.ren i _ (a2.ren i _ h0)
       have htr:pW (std n) e i=none:=by rw [b2.tr i _ (a2.ren i _ h0),a2.tr i _ h0];rfl
       refine⟨fun⟨cc,nn,hgo⟩=> ?_,fun x hx=> .inr ?_⟩
       ·obtain⟨oo,r1,r2,r3,r4⟩:=q2.rel H S.heap hck m3 (fun h=>by cases h)
        obtain⟨o3,h3,h4⟩:=r4 i hg hre
        obtain⟨o4,h5,h6⟩:=S.heap.old i _ hgo
        rw [h3]at h5;cases h5
        cases h6;exact h4.elim
       ·have:=q2.s1 i x.1 x.2 hg hre (by rw [hx])
        rw [htr]at this
        simp only [nmh,q1]
        simpa [nmh]using this
    ·cases hx
   ·cases hx
  ·cases hx
 ·cases hx
end
end Go.TX
namespace Go.TX
open Go Go.AE
variable [aL]
section
variable {n:Nat}
def LX (E:Tab) (c0:Ctx) (w0:World) (h0:Heap) (k:Nat) (H0:List aJ) (m0:Nat) {ρ:Type} (K:Exit→RSt (std n)→(ρ→Prop)→Prop) (r:ρ→Prop):Exit→Act→World→Prop
 | .outgrown,_,_=>False
 | .panic _,_,_=>False
 | .goto _,_,_=>False
 | e,a,w=>∃c s' s,Grow c0 w0 h0 c w s'.h∧iV E s' c w a∧SR s' s∧Keep k H0 s.h∧s.m=m0∧K e s r
theorem NT {E:Tab} {c0:Ctx} {w0:World} {h0:Heap} {k:Nat} {H0:List aJ} {m0:Nat} (hc0:c0.n=k) {code:Code} {a:Act} {w:World} {sk:Gs} {pl:Bool} {s:RSt (std n)} (hs:s.m=m0) {ρ:Type} {K:Exit→RSt (std n)→(ρ→Prop)→Prop} {r:ρ→Prop}
  {W: {σ:Type}→(Exit→RSt (std n)→(σ→Prop)→Prop)→(σ→Prop)→Prop} (hW:∀ {σ:Type} {K':Exit→RSt (std n)→(σ→Prop)→Prop} {r':σ→Prop},W K' r'→code.wp E.P (LX E c0 w0 h0 k H0 m0 K' r') a w)
  (h:NI (std n) k sk pl s K W r):code.wp E.P (LX E c0 w0 h0 k H0 m0 K r) a w:=by
 have step:∀ {t:gM sk.tys} {s1:RSt (std n)} {ck:List Bool},CF (std n) k sk s1=some (ck,t)→(∀b∈ck,b=true)→K .normal (qO (std n) sk s.m t) r→∀ {c s' a w},Grow c0 w0 h0 c w s'.h→iV E s' c w a→SR s' s1→Keep k H0 s1.h→s1.m=m0→LX E c0 w0 h0 k H0 m0 K r .normal a w:=by
  intro t s1 ck h1 h2 h3 c s' a w g A S hK hm
  obtain⟨c2,s2',g2,A2,S2,K2,hm2⟩:=I5 h1 h2 S A hc0 g hm
  rw [hs]at h3
  exact⟨c2,s2',_,g2,A2,S2,hK.trans K2,hm2,h3⟩
 unfold NI at h
 split at h
 ·refine wp_mono (hW h) ?_
  intro e a' w' he
  cases e with
  | outgrown=>exact he.elim
  | panic _=>exact he
  | goto _=>exact he
  | normal=>
   obtain⟨c,s',s1,a1,a2,a3,a4,a5,a6⟩:=he
   simp only at a6
   rcases hx:CF (std n) k sk s1 with _ | ⟨ck,t'⟩
   ·rw [hx]at a6;exact a6.elim
   ·rw [hx]at a6
    obtain⟨q1,q2⟩:=fD a6
    exact step hx q1 q2 a1 a2 a3 a4 a5
  | ret=>obtain⟨c,s',s1,a1,a2,a3,a4,a5,a6⟩:=he;exact a6.elim
  | exit i=>obtain⟨c,s',s1,a1,a2,a3,a4,a5,a6⟩:=he;exact a6.elim
 ·refine wp_mono (hW h) ?_
  intro e a' w' he
  cases e with
  | outgrown=>exact he.elim
  | panic _=>exact he
  | goto _=>exact he
  | normal=>
   obtain⟨c,s',s1,a1,a2,a3,a4,a5,a6⟩:=he
   simp only at a6
   rcases hx:CF (std n) k sk s1 with _ | ⟨ck,t'⟩
   ·rw [hx]at a6;exact a6.elim
   ·rw [hx]at a6
    obtain⟨q1,q2⟩:=fD a6
    exact step hx q1 q2 a1 a2 a3 a4 a5
  | ret=>obtain⟨c,s',s1,a1,a2,a3,a4,a5,a6⟩:=he;exact⟨c,s',s1,a1,a2,a3,a4,a5,a6⟩
  | exit i=>obtain⟨c,s',s1,a1,a2,a3,a4,a5,a6⟩:=he;exact⟨c,s',s1,a1,a2,a3,a4,a5,a6⟩
section
variable {X:XT} {E:Tab} (hE:aF E) (hX:XOK X E) {C:Calls aC} (hG:mW E (jC C)) (hm:E.P.follows .mixedOrders=true) {ord:Nat→List eP} {chk:Nat→Array Oper→Nat→Bool} (Lr:∀id ops m,chk id ops m=true→Static E ord id ops m)
 {c0:Ctx} {w0:World} {h0:Heap} {k:Nat} {H0:List aJ} {m0:Nat} (hc0:c0.n=k)
include hE hX hG hm Lr
theorem abB {id:Nat} {ops:Array Oper} {draw:Bool} {s:RSt (std n)} {ρ:Type} {K:Exit→RSt (std n)→(ρ→Prop)→Prop} {r:ρ→Prop}
  (h:(if draw then(if chk id ops s.m then gZ (std n) X C ops.toList (ord id) [] (fun s=>K .normal s) s else(std n).fail)else dS (std n) X C ops.toList ops.toList (fun s=>K .normal s) s:(std n).M ρ) r)
  {s':St} {c:Ctx} {w:World} {a:Act} (A:iV E s' c w a) (g:Grow c0 w0 h0 c w s'.h) (S:SR s' s) (hK:Keep k H0 s.h) (hs:s.m=m0):(Code.region id ops draw).wp E.P (LX E c0 w0 h0 k H0 m0 K r) a w:=by
 have fin:∀ {e:Exit} {a:Act} {w:World},vG E c0 w0 h0 (fun e s1'=>e= .normal∧∃s1,SR s1' s1∧(∀k,Keep k s.h s1.h)∧s1.m=m0∧K .normal s1 r) e a w→LX E c0 w0 h0 k H0 m0 K r e a w:=by
  intro e a w he
  cases e with
  | outgrown=>exact he.elim
  | panic _=>exact he
  | goto _=>exact he
  | normal=>obtain⟨c,s1',a1,a2,_,s1,a3,a4,a5,a6⟩:=he;exact⟨c,s1',s1,a1,a2,a3,hK.trans (a4 k),a5,a6⟩
  | ret=>obtain⟨c,s1',a1,a2,q,_⟩:=he;cases q
  | exit i=>obtain⟨c,s1',a1,a2,q,_⟩:=he;cases q
 split at h
 ·rename_i hd;subst hd
  split at h
  ·rename_i hc
   have hst:=Lr _ _ _ hc
   have hr:=IW hX (h0:=s.h) (m0:=m0) (hs':=[]) S (fun _=> .refl _ _) hs (fun p hp=>by simp at hp) h
   refine wp_mono (abh hE hG hm ord id ops (fun e s1'=>e= .normal∧∃s1,SR s1' s1∧(∀k,Keep k s.h s1.h)∧s1.m=m0∧K .normal s1 r) s' c0 w0 h0 c w a A g ⟨by rw [S.m];exact hst,?_⟩) fun e a w=>fin
   simpa using hr
  ·exact h.elim
 ·rename_i hd
  have:draw=false:=by simpa using hd
  subst this
  have hr:=G8 hX (h0:=s.h) (m0:=m0) S (fun _=> .refl _ _) hs h
  refine wp_mono (wp_region_list (xZ hE hG (Q:=fun e s1'=>e= .normal∧∃s1,SR s1' s1∧(∀k,Keep k s.h s1.h)∧s1.m=m0∧K .normal s1 r) ops ops.toList A g ?_)) fun e a w=>fin
  simpa using hr
end
end
end Go.TX
namespace Go.TX
open Go Go.AE
variable [aL]
section
variable {n:Nat}
variable {X:XT} {E:Tab} (hE:aF E) (hX:XOK X E) {C:Calls aC} (hG:mW E (jC C)) (hm:E.P.follows .mixedOrders=true) {ord:Nat→List eP} {chk:Nat→Array Oper→Nat→Bool} (Lr:∀id ops m,chk id ops m=true→Static E ord id ops m)
 {c0:Ctx} {w0:World} {h0:Heap} {k:Nat} {H0:List aJ} {m0:Nat} (hc0:c0.n=k)
include hE hX hG hm Lr hc0
theorem ql:∀(code:Code) {ρ:Type} {an:Ann} {s:RSt (std n)} {K:Exit→RSt (std n)→(ρ→Prop)→Prop} {r:ρ→Prop},bI (std n) X C ord chk k an code s K r→∀ {s':St} {c:Ctx} {w:World} {a:Act},iV E s' c w a→Grow c0 w0 h0 c w s'.h→SR s' s→Keep k H0 s.h→s.m=m0→
  code.wp E.P (LX E c0 w0 h0 k H0 m0 K r) a w
 | .skip,ρ,an,s,K,r,h,s',c,w,a,A,g,S,hK,hs=>by
  have h:K .normal s r:=by cases an<;>exact h
  exact wp_skip ⟨c,s',s,g,A,S,hK,hs,h⟩
 | .region id ops draw,ρ,an,s,K,r,h,s',c,w,a,A,g,S,hK,hs=>by
  have base:∀ {σ:Type} {K':Exit→RSt (std n)→(σ→Prop)→Prop} {r':σ→Prop},(if draw then(if chk id ops s.m then gZ (std n) X C ops.toList (ord id) [] (fun s=>K' .normal s) s else(std n).fail)else dS (std n) X C ops.toList ops.toList (fun s=>K' .normal s) s:(std n).M σ) r'→
    (Code.region id ops draw).wp E.P (LX E c0 w0 h0 k H0 m0 K' r') a w:=fun h=>abB hE hX hG hm Lr h A g S hK hs
  generalize hM:bI (std n) X C ord chk k an (.region id ops draw) s K=M at h
  simp only [bI]at hM
  split at hM
  ·subst hM;exact NT hc0 hs base h
  ·subst hM;exact base h
 | .seq x y,ρ,an,s,K,r,h,s',c,w,a,A,g,S,hK,hs=>by
  have main:∀(a1 a2:Ann) (K1:Exit→RSt (std n)→(ρ→Prop)→Prop),(∀s',K1 .normal s'=bI (std n) X C ord chk k a2 y s' K)→(∀s',K1 .ret s'=K .ret s')→(∀i s',K1 (.exit i) s'=K (.exit i) s')→bI (std n) X C ord chk k a1 x s K1 r→
    (Code.seq x y).wp E.P (LX E c0 w0 h0 k H0 m0 K r) a w:=by
   intro a1 a2 K1 e1 e2 e3 h
   refine wp_seq (wp_mono (ql x h A g S hK hs) ?_)
   intro e a' w' he
   cases e with
   | outgrown=>exact he.elim
   | panic _=>exact he
   | goto _=>exact he
   | normal=>obtain⟨c,s',s1,b1,b2,b3,b4,b5,b6⟩:=he;rw [e1]at b6;exact ql y b6 b2 b1 b3 b4 b5
   | ret=>obtain⟨c,s',s1,b1,b2,b3,b4,b5,b6⟩:=he;rw [e2]at b6;exact⟨c,s',s1,b1,b2,b3,b4,b5,b6⟩
   | exit i=>obtain⟨c,s',s1,b1,b2,b3,b4,b5,b6⟩:=he;rw [e3]at b6;exact⟨c,s',s1,b1,b2,b3,b4,b5,b6⟩
  cases an with
  | seq a1 a2=>rw [bI]at h;refine main a1 a2 _ ?_ ?_ ?_ h<;>intros<;>rfl
  | u=>rw [bI]at h;refine main .u .u _ ?_ ?_ ?_ h<;>intros<;>rfl
  | _=>simp [bI]at h
 | .cond cd x y,ρ,an,s,K,r,h,s',c,w,a,A,g,S,hK,hs=>by
  have he:EvR X E n (nmh s.h) s'.t (fK (std n) (dA (std n) s.t) []):=pq (fun _ _=>rfl) S.val (fun t h=>by simp at h)
  generalize hM:bI (std n) X C ord chk k an (.cond cd x y) s K=M at h
  simp only [bI]at hM
  split at hM
  ·rename_i f b hb
   obtain⟨pv,p1,p2⟩:=dB hX he hb
   obtain⟨gf,rfl⟩:=p2.bool
   have hbv:=jq (Kl A.abs p1)
   have main:∀(a1 a2:Ann) {σ:Type} {K':Exit→RSt (std n)→(σ→Prop)→Prop} {r':σ→Prop},((b=true→bI (std n) X C ord chk k a1 x s K' r')∧(b=false→bI (std n) X C ord chk k a2 y s K' r'))→(Code.cond cd x y).wp E.P (LX E c0 w0 h0 k H0 m0 K' r') a w:=by
    intro a1 a2 σ K' r' h
    refine wp_cond hbv ?_
    obtain⟨b,rfl⟩:∃b':Bool,b'=b:=⟨b,rfl⟩
    cases b with
    | true=>exact ql x (h.1 rfl) A g S hK hs
    | false=>exact ql y (h.2 rfl) A g S hK hs
   split at hM
   ·subst hM;exact main _ _ h
   ·subst hM;exact main _ _ h
   ·rename_i sk a1 a2
    subst hM;exact NT hc0 hs (fun {σ K' r'} h=>main a1 a2 h) h
   ·subst hM;exact h.elim
  ·subst hM;exact h.elim
 | .block id b,ρ,an,s,K,r,h,s',c,w,a,A,g,S,hK,hs=>by
  have main:∀(a1:Ann) {σ:Type} {K':Exit→RSt (std n)→(σ→Prop)→Prop} {r':σ→Prop} (K1:Exit→RSt (std n)→(σ→Prop)→Prop),(∀s',K1 .normal s'=K' .normal s')→(∀s',K1 .ret s'=K' .ret s')→(∀i s',K1 (.exit i) s'=if i==id then K' .normal s' else K' (.exit i) s')→
    bI (std n) X C ord chk k a1 b s K1 r'→(Code.block id b).wp E.P (LX E c0 w0 h0 k H0 m0 K' r') a w:=by
   intro a1 σ K' r' K1 e1 e2 e3 h
   refine wp_block (wp_mono (ql b h A g S hK hs) ?_)
   intro e a' w' he
   cases e with
   | outgrown=>exact he.elim
   | panic _=>exact he
   | goto _=>exact he
   | normal=>obtain⟨c,s',s1,b1,b2,b3,b4,b5,b6⟩:=he;rw [e1]at b6;exact⟨c,s',s1,b1,b2,b3,b4,b5,b6⟩
   | ret=>obtain⟨c,s',s1,b1,b2,b3,b4,b5,b6⟩:=he;rw [e2]at b6;exact⟨c,s',s1,b1,b2,b3,b4,b5,b6⟩
   | exit i=>
    obtain⟨c,s',s1,b1,b2,b3,b4,b5,b6⟩:=he
    rw [e3]at b6
    simp only [Exit.inBlock]
    simp only [beq_iff_eq]at b6
    split
    ·rename_i e;rw [if_pos e]at b6;exact⟨c,s',s1,b1,b2,b3,b4,b5,b6⟩
    ·rename_i e;rw [if_neg e]at b6;exact⟨c,s',s1,b1,b2,b3,b4,b5,b6⟩
  generalize hM:bI (std n) X C ord chk k an (.block id b) s K=M at h
  simp only [bI]at hM
  split at hM
  ·subst hM;refine main _ _ ?_ ?_ ?_ h<;>intros<;>rfl
  ·subst hM;refine main _ _ ?_ ?_ ?_ h<;>intros<;>rfl
  ·rename_i sk a1
   subst hM
   exact NT hc0 hs (fun {σ K' r'} h=>by refine main a1 _ ?_ ?_ ?_ h<;>intros<;>rfl) h
  ·subst hM;exact h.elim
 | .loop b,ρ,an,s,K,r,h,s',c,w,a,A,g,S,hK,hs=>by
  cases an with
  | loop sk a1=>
   rw [bI]at h
   rcases hx0:CF (std n) k sk s with _ | ⟨ck,x0⟩
   ·rw [hx0]at h;exact h.elim
   ·rw [hx0]at h
    obtain⟨hck,h⟩:=fD h
    obtain⟨I,μ,hI0,h⟩:=h
    obtain⟨c1,s1',g1,A1,S1,K1,hm1⟩:=I5 hx0 hck S A hc0 g hs
    rw [hs]at h
    refine wp_loop_ghost (fun N a' w'=>∃c s' x,Grow c0 w0 h0 c w' s'.h∧iV E s' c w' a'∧SR s' (qO (std n) sk m0 x)∧Keep k H0 (qO (std n) sk m0 x).h∧(qO (std n) sk m0 x).m=m0∧I x∧μ x=N) (μ x0) ⟨c1,s1',x0,g1,A1,S1,hK.trans K1,hm1,hI0,rfl⟩ ?_
    rintro N a' w' ⟨c2,s2',x,g2,A2,S2,K2,hm2,hi,rfl⟩
    have hq:=h x hi
    refine wp_mono (ql b hq A2 g2 S2 K2 hm2) ?_
    intro e a3 w3 he
    cases e with
    | outgrown=>exact he.elim
    | panic _=>exact he
    | goto _=>exact he
    | normal=>
     obtain⟨c4,s4',s4,b1,b2,b3,b4,b5,b6⟩:=he
     simp only at b6
     rcases hx4:CF (std n) k sk s4 with _ | ⟨ck4,t4⟩
     ·rw [hx4]at b6;exact b6.elim
     ·rw [hx4]at b6
      obtain⟨alo,b6⟩:=fD b6
      obtain⟨c5,s5',g5,A5,S5,K5,hm5⟩:=I5 hx4 alo b3 b2 hc0 b1 b5
      exact⟨μ t4,b6.2,c5,s5',_,g5,A5,S5,b4.trans K5,hm5,b6.1,rfl⟩
    | ret=>obtain⟨c4,s4',s4,b1,b2,b3,b4,b5,b6⟩:=he;exact⟨c4,s4',s4,b1,b2,b3,b4,b5,b6⟩
    | exit i=>obtain⟨c4,s4',s4,b1,b2,b3,b4,b5,b6⟩:=he;exact⟨c4,s4',s4,b1,b2,b3,b4,b5,b6⟩
  | _=>simp [bI]at h
 | .exit i,ρ,an,s,K,r,h,s',c,w,a,A,g,S,hK,hs=>by
  have h:K (.exit i) s r:=by cases an<;>exact h
  exact wp_exit ⟨c,s',s,g,A,S,hK,hs,h⟩
 | .ret,ρ,an,s,K,r,h,s',c,w,a,A,g,S,hK,hs=>by
  have h:K .ret s r:=by cases an<;>exact h
  exact wp_ret ⟨c,s',s,g,A,S,hK,hs,h⟩
 | .rangeFunc ..,ρ,an,s,K,r,h,_,_,_,_,_,_,_,_,_=>by cases an<;>simp [bI]at h
 | .scope _,ρ,an,s,K,r,h,_,_,_,_,_,_,_,_,_=>by cases an<;>simp [bI]at h
 | .label _,ρ,an,s,K,r,h,_,_,_,_,_,_,_,_,_=>by cases an<;>simp [bI]at h
 | .goto _,ρ,an,s,K,r,h,_,_,_,_,_,_,_,_,_=>by cases an<;>simp [bI]at h
 | .refuse _,ρ,an,s,K,r,h,_,_,_,_,_,_,_,_,_=>by cases an<;>simp [bI]at h
end
end Go.TX
namespace Go.TX
open Go Go.AE
variable [aL]
section
variable {n:Nat}
theorem gN:∀(r:List (Option (Option Nat))) (m k:Nat),(newNames r m k).length=k
 | _,_,0=>by simp [newNames]
 | [],m,k+1=>by simp [newNames,gN [] (m+1) k]
 | some (some l)::r,m,k+1=>by simp [newNames,gN r m k]
 | some none::r,m,k+1=>by simp [newNames,gN r (m+1) k]
 | none::r,m,k+1=>by simp [newNames,gN r (m+1) k]
structure VU (r:List (Option (Option Nat))) (h:List aJ) (os:List aJ) (nms:List Nat) (kT:List aJ):Prop where
 len:h.length≤kT.length
 at_:∀(i:Nat),i<os.length→∃l,nms[i]? =some l∧kT[l]? =os[i]? ∧(r[i]? =some (some (some l))∨(h.length≤l∧∀q:Nat,r[i]? ≠some (some (some q))))
 old:∀l,l<h.length→(∀i:Nat,i<os.length→r[i]? ≠some (some (some l)))→kT[l]? =h[l]?
 inj:∀(i j l:Nat),nms[i]? =some l→nms[j]? =some l→i=j
 new:∀l,h.length≤l→l<kT.length→∃i:Nat,i<os.length∧nms[i]? =some l
theorem NU:∀(os:List aJ) (r:List (Option (Option Nat))) (h:List aJ),(∀i l:Nat,r[i]? =some (some (some l))→i<os.length→l<h.length)→(∀i j l:Nat,r[i]? =some (some (some l))→r[j]? =some (some (some l))→i=j)→
  VU r h os (newNames r h.length os.length) (gL (std n) h (newNames r h.length os.length) os)
 | [],r,h,h1,h2=>by
  refine⟨?_,fun i hi=>by simp at hi,fun l _ _=> ?_,fun i j l hi=>by simp [newNames]at hi,fun l a b=> ?_⟩<;>simp only [List.length_nil,newNames,gL]at* <;>first | exact Nat.le_refl _ | rfl | omega
 | o::os,r,h,h1,h2=>by
  have fresh:∀r',(∀(i:Nat),r'[i]? =r[i+1]?)→(∀q:Nat,r[0]? ≠some (some (some q)))→newNames r h.length (os.length+1)=h.length::newNames r' (h.length+1) os.length→VU r h (o::os) (newNames r h.length (os.length+1)) (gL (std n) h (newNames r h.length (os.length+1)) (o::os)):=by
   intro r' hr h0 e
   rw [e]
   have hl:(h++ [o]).length=h.length+1:=by simp
   have P:=NU os r' (h++ [o]) (fun i l hi hi2=>by rw [hl];have:=h1 (i+1) l (by rw [←hr];exact hi) (by simp;omega);omega) (fun i j l hi hj=>by have:=h2 (i+1) (j+1) l (by rw [←hr];exact hi) (by rw [←hr];exact hj);omega)
   rw [hl]at P
   have hput:gL (std n) h (h.length::newNames r' (h.length+1) os.length) (o::os)=gL (std n) (h++ [o]) (newNames r' (h.length+1) os.length) os:=by
    simp [gL]
   rw [hput]
   have hcur:(gL (std n) (h++ [o]) (newNames r' (h.length+1) os.length) os)[h.length]? =some o:=by
    rw [P.old h.length (by simp) (fun i hi hh=>by have:=h1 (i+1) h.length (by rw [←hr];exact hh) (by simp;omega);omega)]
    simp
   refine⟨by have:=P.len;simp at this;omega,fun i hi=> ?_,fun l hl2 hn=> ?_,fun i j l hi hj=> ?_,fun l ha hb=> ?_⟩
   ·cases i with
    | zero=>exact⟨h.length,rfl,by rw [hcur];rfl,.inr ⟨Nat.le_refl _,h0⟩⟩
    | succ i=>
     obtain⟨l,q1,q2,q3⟩:=P.at_ i (by simpa using hi)
     refine⟨l,by simpa using q1,by rw [q2];simp,?_⟩
     rw [←hr]
     rcases q3 with q3 | ⟨q3,q4⟩
     ·exact .inl q3
     ·exact .inr ⟨by simp at q3;omega,q4⟩
   ·rw [P.old l (by simp;omega) (fun i hi hh=>hn (i+1) (by simp;omega) (by rw [←hr];exact hh))]
    exact List.getElem?_append_left hl2
   ·have ne:∀(j:Nat),(newNames r' (h.length+1) os.length)[j]? =some h.length→False:=by
     intro j hj
     have hj2:j<os.length:=by have:=(List.getElem?_eq_some_iff.1 hj).1;rw [gN]at this;exact this
     obtain⟨l,q1,q2,q3⟩:=P.at_ j hj2
     rw [hj]at q1;cases q1
     rcases q3 with q3 | ⟨q3,q4⟩
     ·have:=h1 (j+1) h.length (by rw [←hr];exact q3) (by simp;omega);omega
     ·simp at q3;omega
    cases i with
    | zero=>
     simp at hi;subst hi
     cases j with
     | zero=>rfl
     | succ j=>exact(ne j (by simpa using hj)).elim
    | succ i=>
     cases j with
     | zero=>simp at hj;subst hj;exact(ne i (by simpa using hi)).elim
     | succ j=>rw [P.inj i j l (by simpa using hi) (by simpa using hj)]
   ·by_cases e:l=h.length
    ·subst e;exact⟨0,by simp,rfl⟩
    ·obtain⟨i,q1,q2⟩:=P.new l (by simp;omega) hb
     exact⟨i+1,by simp;omega,by simpa using q2⟩
  match r,h1,h2,fresh with
  | [],h1,h2,fresh=>exact fresh [] (fun i=>by simp) (fun q=>by simp) rfl
  | none::r',h1,h2,fresh=>exact fresh r' (fun i=>by simp) (fun q=>by simp) rfl
  | some none::r',h1,h2,fresh=>exact fresh r' (fun i=>by simp) (fun q=>by simp) rfl
  | some (some l0)::r',h1,h2,_=>
   have hl0:l0<h.length:=h1 0 l0 rfl (by simp)
   have e:newNames (some (some l0)::r') h.length (os.length+1)=l0::newNames r' h.length os.length:=rfl
   show VU _ _ _ (newNames (some (some l0)::r') h.length (os.length+1)) (gL (std n) h (newNames (some (some l0)::r') h.length (os.length+1)) (o::os))
   rw [e]
   have hl:(h.set l0 o).length=h.length:=by simp
   have P:=NU os r' (h.set l0 o) (fun i l hi hi2=>by rw [hl];exact h1 (i+1) l (by simpa using hi) (by simp;omega)) (fun i j l hi hj=>by have:=h2 (i+1) (j+1) l (by simpa using hi) (by simpa using hj);omega)
   rw [hl]at P
   have hput:gL (std n) h (l0::newNames r' h.length os.length) (o::os)=gL (std n) (h.set l0 o) (newNames r' h.length os.length) os:=by
    have:Nat.blt l0 h.length=true:=by simpa using hl0
    simp [gL,hl0]
   rw [hput]
   have hcur:(gL (std n) (h.set l0 o) (newNames r' h.length os.length) os)[l0]? =some o:=by
    rw [P.old l0 (by simpa using hl0) (fun i hi hh=>by have:=h2 0 (i+1) l0 rfl (by simpa using hh);omega)]
    rw [List.getElem?_set_self hl0]
   refine⟨by have:=P.len;rw [hl]at this;exact this,fun i hi=> ?_,fun l hl2 hn=> ?_,fun i j l hi hj=> ?_,fun l ha hb=> ?_⟩
   ·cases i with
    | zero=>exact⟨l0,rfl,by rw [hcur];rfl,.inl rfl⟩
    | succ i=>
     obtain⟨l,q1,q2,q3⟩:=P.at_ i (by simpa using hi)
     refine⟨l,by simpa using q1,by rw [q2];simp,?_⟩
     simp only [List.getElem?_cons_succ]
     rcases q3 with q3 | ⟨q3,q4⟩
     ·exact .inl q3
     ·exact .inr ⟨by rw [hl]at q3;exact q3,q4⟩
   ·rw [P.old l (by rw [hl];exact hl2) (fun i hi hh=>hn (i+1) (by simp;omega) (by simpa using hh))]
    have:l0≠l:=fun e=>hn 0 (by simp) (by rw [e];rfl)
    exact List.getElem?_set_ne this
   ·have ne:∀(j:Nat),(newNames r' h.length os.length)[j]? =some l0→False:=by
     intro j hj
     have hj2:j<os.length:=by have:=(List.getElem?_eq_some_iff.1 hj).1;rw [gN]at this;exact this
     obtain⟨l,q1,q2,q3⟩:=P.at_ j hj2
     rw [hj]at q1;cases q1
     rcases q3 with q3 | ⟨q3,q4⟩
     ·have:=h2 0 (j+1) l0 rfl (by simpa using q3);omega
     ·rw [hl]at q3;omega
    cases i with
    | zero=>
     simp at hi;subst hi
     cases j with
     | zero=>rfl
     | succ j=>exact(ne j (by simpa using hj)).elim
    | succ i=>
     cases j with
     | zero=>simp at hj;subst hj;exact(ne i (by simpa using hi)).elim
     | succ j=>rw [P.inj i j l (by simpa using hi) (by simpa using hj)]
   ·obtain⟨i,q1,q2⟩:=P.new l (by rw [hl];exact ha) hb
    exact⟨i+1,by simp;omega,by simpa using q2⟩
theorem UE {nm:Nat→Nat} {k:SkV} {r r':List (LV aC)} {v:SVal} (h:yA aC nm k r=some (v,r')):mI v=false:=by
 cases k with
 | c k=>simp only [yA]at h;split at h<;>cases h;rfl
 | agg ks=>simp only [yA]at h;split at h<;>cases h;rfl
 | sv f c=>
  unfold yA at h
  split at h<;>first | (cases h;rfl) | (split at h<;>cases h<;>rfl) | cases h
theorem Db {nm:Nat→Nat}:∀ {ks:List SkV} {r r':List (LV aC)} {vs:List SVal},pY aC nm ks r=some (vs,r')→∀v∈vs,mI v=false
 | [],r,r',vs,h=>by simp only [pY,Option.some.injEq,Prod.mk.injEq]at h;obtain⟨rfl,_⟩:=h;simp
 | k::ks,r,r',vs,h=>by
  simp only [pY]at h
  split at h
  ·rename_i x r1 hx
   split at h
   ·rename_i xs r2 hxs;cases h
    intro v hv
    cases hv with
    | head=>exact UE hx
    | tail _ hv=>exact Db hxs v hv
   ·cases h
  ·cases h
theorem yL:∀ {ls:List Nat} {h:List aJ} {l:Nat} {g:Bool} {c:Co} {xs:List c.den},l∈ls→h[l]? =some (.rows g c xs)→Gone (bg (std n) h ls) l
 | [],_,_,_,_,_,hm,_=>by simp at hm
 | a::ls,h,l,g,c,xs,hm,hl=>by
  rw [fH]
  have stays:∀(ls:List Nat) (h:List aJ),Gone h l→Gone (bg (std n) h ls) l:=by
   intro ls
   induction ls with
   | nil=>intro h hg;exact hg
   | cons b ls ih=>
    intro h ⟨cc,nn,hg⟩
    rw [fH]
    refine ih _ ⟨cc,nn,?_⟩
    by_cases e:b=l
    ·subst e;unfold dU;split
     ·rename_i hh;rw [hg]at hh;cases hh
     ·exact hg
    ·rw [uQ e];exact hg
  by_cases e:a=l
  ·subst e
   refine stays ls _ ⟨c,(xs.length:Int),?_⟩
   unfold dU;rw [hl];simp only
   rw [List.getElem?_set_self (List.getElem?_eq_some_iff.1 hl).1]
  ·refine yL (g:=g) (c:=c) (xs:=xs) ?_ (by rw [uQ e];exact hl)
   cases hm with
   | head=>exact absurd rfl e
   | tail _ h=>exact h
theorem Ho {h:List aJ}:∀ {ks:List SkO} {j:Nat} {s s':ES (std n)},yx (std n) h j ks s=some s'→∀ {i:Nat} {k:SkO},ks[i]? =some k→k≠ .gone→∀ {l:Nat} (_:s'.ren[j+i]? =some (some (some l))),∃o,h[l]? =some o∧¬Gone [o] 0
 | [],_,_,_,_,i,k,hk,_,_,_=>by simp at hk
 | q::ks,j,s,s',hx,i,k,hk,hg,l,h5=>by
  simp only [yx]at hx
  split at hx
  ·rename_i s1 h1
   cases i with
   | succ i=>
    have:=Ho hx (i:=i) (k:=k) (by simpa using hk) hg (l:=l) (by rw [show j+1+i=j+(i+1) by omega];exact h5)
    exact this
   | zero=>
    simp at hk;subst hk
    rw [Nat.add_zero]at h5
    have e1:ELe s s':=by
     obtain⟨_,_,_,a2,_⟩:=SY (m:=n) (fun i=>i) h1 (.gone .i64 0) ⟨.i64,0,rfl⟩
     obtain⟨_,_,_,b2,_⟩:=o8 (m:=n) (fun i=>i) (fun _=> .gone .i64 0) (fun _=>⟨.i64,0,rfl⟩) hx
     exact a2.trans b2
    cases q with
    | gone=>exact absurd rfl hg
    | box kk=>
     rcases hr:s.ren[j]? with _ | _ | _ | l0<;>simp only [ND,hr,reduceCtorEq]at h1
     have:=e1.ren j _ hr
     rw [h5]at this;cases this
     split at h1
     ·rename_i v hv;exact⟨_,hv,fun⟨c,m,hgo⟩=>by simp at hgo⟩
     ·cases h1
    | rows f c=>
     rcases hr:s.ren[j]? with _ | _ | _ | l0<;>simp only [ND,hr,reduceCtorEq]at h1
     ·have:=e1.ren j _ hr
      rw [h5]at this;cases this
     ·have:=e1.ren j _ hr
      rw [h5]at this;cases this
      split at h1
      ·rename_i g c' xs hv;exact⟨_,hv,fun⟨c,m,hgo⟩=>by simp at hgo⟩
      ·cases h1
  ·cases hx
end
end Go.TX
namespace Go.TX
open Go Go.AE
variable [aL]
section
variable {n:Nat}
theorem I6 {X:XT} {E:Tab} (hX:XOK X E) {s':St} {s:RSt (std n)} (S:SR s' s):∀ {rs:List ResultVar} {qs:List SVal},NJ (std n) X s rs=some qs→∃ps,F2 (PVR (nmh s.h)) ps qs∧∀K,K ps→KG E s' rs K
 | [],qs,h=>by simp only [NJ,Option.some.injEq]at h;subst h;exact⟨[],.nil,fun K hK=>hK⟩
 | .tmp t::r,qs,h=>by
  simp only [NJ]at h
  split at h
  ·rename_i v hv
   split at h
   ·rename_i vs hvs;cases h
    obtain⟨pv,p1,p2⟩:=S.val t _ hv
    obtain⟨ps,q1,q2⟩:=I6 hX S hvs
    exact⟨pv::ps,.cons p2 q1,fun K hK=>by unfold KG;exact gT p1 _ (q2 _ hK)⟩
   ·cases h
  ·cases h
 | .cell t ty::r,qs,h=>by
  simp only [NJ]at h
  split at h
  ·rename_i p hp
   split at h
   ·rename_i v hv
    split at h
    ·rename_i vs hvs;cases h
     obtain⟨pv,p1,p2⟩:=S.val t _ hp
     obtain⟨pr,r1,r2⟩:=K6 hX S.heap p2 hv (fun b hb=>by simp at hb)
     obtain⟨ps,q1,q2⟩:=I6 hX S hvs
     exact⟨pr::ps,.cons r1 q1,fun K hK=>by unfold KG;exact gT p1 _ (r2 _ (q2 _ hK))⟩
    ·cases h
   ·cases h
  ·cases h
theorem abC {N:NM}:∀ {ps:List PV} {vs:List SVal},F2 (PVR N) ps vs→(∀v∈vs,mI v=false)→PVR N (one ps) (ahW (std n) vs)
 | [],_,h,_=>by cases h;exact .tup .nil
 | [p],_,.cons h1 h2,_=>by cases h2;exact h1
 | p::q::ps,_,.cons h1 (.cons h2 h3),ht=>by
  have up:∀ {p v},PVR N p v→mI v=false→PV0 N p v:=fun h hv=>by
   cases h with
   | one h=>exact h
   | tup _=>simp [mI]at hv
  have all:∀ {ps:List PV} {vs:List SVal},F2 (PVR N) ps vs→(∀v∈vs,mI v=false)→F2 (PV0 N) ps vs:=by
   intro ps vs h
   induction h with
   | nil=>intro _;exact .nil
   | cons a _ ih=>intro ht;exact .cons (up a (ht _ (by simp))) (ih fun v hv=>ht v (List.mem_cons_of_mem _ hv))
  exact .tup (all (.cons h1 (.cons h2 h3)) ht)
theorem ZA {c:Ctx} {w:World} {us:List Value} {ps:List PV} (h:F2 (bD c w) us ps):bD c w (if h:us.toArray.size=1 then us.toArray[0]else .tuple us.toArray) (one ps):=by
 cases h with
 | nil=>exact KE _ _
 | cons q1 q2=>
  cases q2 with
  | nil=>simpa [one]using q1
  | cons q3 q4=>
   have hl:=(F2.cons q1 (F2.cons q3 q4)).length
   rw [dif_neg (by simp)]
   refine .tup _ _ hl (fun i hi=> ?_)
   have hx:∀(l:List PV),i<l.length→l[i]? =some (l.getD i default):=fun l hl=>by simp [List.getD,List.getElem?_eq_getElem hl]
   obtain⟨u,hu,hr⟩:=(F2.cons q1 (F2.cons q3 q4)).get (hx _ hi)
   rw [kR hu];exact hr
theorem Ls (h:List aJ) (l:Nat):Gone [r9 (std n) h l] 0:=by
 unfold r9;split
 ·exact⟨_,_,rfl⟩
 ·exact⟨_,_,rfl⟩
 ·exact⟨_,_,rfl⟩
def yM (D:List Nat) (h:Heap):Heap:=D.map (fun l=>(l,dW.gone))++h
theorem Dc {D:List Nat} {h:Heap} {l:Nat} (hl:l∈D):AE.look (yM D h) l=some .gone:=by
 induction D with
 | nil=>simp at hl
 | cons d D ih=>
  show AE.look ((d,.gone)::yM D h) l=_
  by_cases e:d=l
  ·subst e;rw [aH]
  ·rw [ak _ _ e]
   exact ih (by cases hl with | head=>exact absurd rfl e | tail _ h=>exact h)
theorem pz {D:List Nat} {h:Heap} {l:Nat} (hl:l∉D):AE.look (yM D h) l=AE.look h l:=by
 induction D with
 | nil=>rfl
 | cons d D ih=>
  show AE.look ((d,.gone)::yM D h) l=_
  rw [ak _ _ (fun e=>hl (by simp [e]))]
  exact ih (fun h=>hl (List.mem_cons_of_mem _ h))
section
variable {X:XT} {E:Tab} (hE:aF E) (hX:XOK X E) {C:Calls aC} (hG:mW E (jC C)) (hm:E.P.follows .mixedOrders=true) {ord:Nat→List eP} {chk:Nat→Array Oper→Nat→Bool} (Lr:∀id ops m,chk id ops m=true→Static E ord id ops m)
include hE hX hG hm Lr
theorem ail {f:FuncId} {fn:Func} {code:Code} (hf:E.P.funcs[f]? =some fn) (hb:fn.body=some code) (hent:Enters E.P f) {sg:Sig} {an:Ann} {ct:Ct aC sg}
  (hrun:∀x,ct.pre x=true→NK (std 0) X C ord chk an sg fn code x (fun y=>y=ct.fn x)):iR E f (iF ct) where
 enters:=hent
 calls:=by
  rintro args h nn K ⟨m,qs,hs,hargs,HR,hlen,cr,hcall,ain,v,kT,hvk,hK⟩ c w vs hcn sH H Gl
  subst hlen
  unfold zF at hcall
  split at hcall
  ·rename_i e1 he1
   split at hcall
   ·rename_i e he
    split at hcall
    ·rename_i iK
     simp only [Bool.and_eq_true,List.isEmpty_iff]at iK
     obtain⟨iK,htr⟩:=iK
     have iK:=IV iK
     split at hcall
     ·rename_i x hx
      simp only [Option.some.injEq]at hcall
      subst hcall
      have hck:∀b∈e.ck,b=true:=fun b hb=>ain b (List.mem_append_left _ hb)
      have hpre:ct.pre x=true:=ain _ (List.mem_append_right _ (by simp))
      obtain⟨N,hrun⟩:∃N:Nat,NK (std N) X C ord chk an sg fn code x (fun y=>y=ct.fn x):=⟨0,hrun x hpre⟩
      simp only at hvk hK
      obtain⟨new1,qs1,a1,a2,a3,a4⟩:=sF (fun i=>i) he1
      obtain⟨new2,os1,b1,b2,b3,b4,b5⟩:=o8 (fun i=>i) (fun _=>(.gone .i64 0:aJ)) (fun _=>⟨.i64,0,rfl⟩) he
      have hlv:e.lv.reverse=new1++new2:=by rw [b1,a1];simp [es0]
      have hun:=unpack_pack hx
      rw [hlv]at hun
      have hrl:e.ren.length=sg.objs.length:=by rw [b2.len,a2.len,IZ]
      have hof:∀(j:Nat) (kk:SkO),sg.objs[j]? =some kk→∃o2,os1[j]? =some o2∧OF e hs (fun i=>i) j kk (.gone .i64 0) o2:=fun j kk hj=>by
       obtain⟨o2,q1,q2⟩:=b5 e (.refl _) j kk hj
       exact⟨o2,q1,by simpa using q2⟩
      obtain⟨o1,m1,m2,m3,m4,_,_⟩:=w9 (ks:=sg.objs) (nm:=fun i=>i) (old:=fun _=>(.gone .i64 0:aJ)) H HR hck iK hrl b4 hof (cb:={K:=fun _ _=>False,μ:=μX e c,n:=0}) (hb':=[])
       (Lp w _ _ _ (fun _ _ h=>h.elim) (fun _ h=>h)) false (fun h=>by cases h) (μ2:=μX e c) (n2:=sg.objs.length) (Nat.zero_le _) (fun _ _=>rfl) (fun i hi=>hi) (fun i j _ _ h=>h)
       (fun i l hi=>by simp only [μX];rw [hi]) (fun i hi=>by simp only [μX];rw [hi]) (h2:=os1) (fun i _=>rfl)
       (fun l o hl ho=>by
        have:sg.objs.length≤l:=by
         rcases Nat.lt_or_ge l sg.objs.length with h | h
         ·exact absurd rfl (hl l h)
         ·exact h
        rw [List.getElem?_eq_none (by omega)]at ho;cases ho) (fun _ _=>rfl)
       (fun b ⟨l,o,hl,_⟩ _=>by simp [AE.look]at hl) (fun f b h _=>h) (fun f b ⟨l,o,hl,_⟩ _=>by simp [AE.look]at hl)
      generalize hc1:({K:=fun f b=>False∨KX e c false f b,μ:=μX e c,n:=sg.objs.length}:Ctx)=c1 at m1 m2 m3 m4
      generalize hh1:qR (fun i=>i) o1 (List.range sg.objs.length) []=h1' at m1 m2 m4
      have c1n:c1.n=sg.objs.length:=by rw [←hc1]
      have c1K:∀f b,c1.K f b→c.K f b∨∃l g,(l,g)∈e.fro∧c.μ l=some b∧(f=true→g=true):=fun f b hb=>by
       rw [←hc1]at hb
       rcases hb with hb | hb | ⟨l,g,q1,q2,q3⟩
       ·exact hb.elim
       ·exact .inl (by simpa using hb)
       ·exact .inr ⟨l,g,q1,q2,fun h=>q3 (by simp [h])⟩
      have abD:∀f b,c.K f b→c1.K f b:=fun f b hb=>by rw [←hc1];exact .inr (.inl (by simpa using hb))
      have aio:∀b,dM c1 h1' b→∃(i lq:Nat) (q:dW),e.ren[i]? =some (some (some lq))∧AE.look h lq=some q∧q.live∧c.μ lq=some b:=fun b hb=>by
       rcases m4 b hb with⟨l,o,hl,_⟩ | hb
       ·simp [AE.look]at hl
       ·exact hb
      have aip:F2 (WV c w (nmh hs)) vs qs:=by
       clear he1 a1 a2 a3 a4 hvk hrun
       induction sH generalizing qs with
       | nil=>cases hargs;exact .nil
       | cons q1 _ ih=>cases hargs with | cons q3 q4=>exact .cons ⟨_,q1,q3⟩ (ih _ q4)
      obtain⟨aiq,p1,p2⟩:=I4 (a4 H HR b2 hck m3 (fun h=>by cases h) aip)
      unfold NK at hrun
      split at hrun
      ·exact hrun.elim
      rename_i hkk
      have hkk:sg.objs.length≤sg.dO.length:=by
       have:Nat.ble sg.objs.length sg.dO.length=true:=by simpa using hkk
       exact Nat.le_of_ble_eq_true this
      rw [show unpack (std N).ah sg.inp x=new1++new2 from hun,a3]at hrun
      simp only at hrun
      have hb3:=b3 []
      rw [List.append_nil]at hb3
      rw [show qb (std N).ah (fun i=>i) (fun _=>dI.gone Co.i64 ((std N).lit 0)) 0 sg.objs new2=some (os1,[])from hb3]at hrun
      simp only at hrun
      have hql:qs1.length=vs.length:=by rw [←p2.length,←p1.length]
      refine calls_of_wp hf hb ?_
      have A1:iV E {t:=(List.range qs1.length).zip (aiq.map some),h:=h1',n:=sg.objs.length,k:=0,m:=qs1.length+(fn.ntmps-qs1.length)} c1 w {tmps:=vs.toArray++Array.replicate (fn.ntmps-vs.toArray.size) undef,defers:=[]}:=by
       refine⟨⟨fun i u hu=>C9 p1 ?_ i u hu,m1,?_⟩,c1n,rfl,by simp [hql]⟩
       ·refine F2.BF (by simp [hql]) fun j i u hj hu=> ?_
        have:i=j:=by
         have h3:=(List.getElem?_eq_some_iff.1 hj).1
         simp at h3
         rw [List.getElem?_range h3]at hj;cases hj;rfl
        subst this
        have hlt:i<vs.length:=(List.getElem?_eq_some_iff.1 hu).1
        simp only
        rw [Array.getElem?_append_left (by simpa using hlt)]
        simpa using hu
       ·intro gg d hd
        obtain⟨q1,u,q2,q3⟩:=Gl gg d hd
        exact⟨abD _ _ q1,u,q2,q3.mono' fun b hb=>abD _ _ hb⟩
      have S1:SR {t:=(List.range qs1.length).zip (aiq.map some),h:=h1',n:=sg.objs.length,k:=0,m:=qs1.length+(fn.ntmps-qs1.length)}
        ({t:=(List.range qs1.length).zip (qs1.map fun v=>⟨none,v⟩),gs:=[],h:=os1,m:=qs1.length+(fn.ntmps-qs1.length)}:RSt (std N)):=by
       refine⟨m2,by simp [nm,b4],rfl,fun i sv hi=> ?_,fun t e he=>by simp at he⟩
       obtain⟨q1,q2⟩:=C8 p2 i sv hi
       unfold yI
       rw [q1];exact q2
      refine wp_mono (ql hE hX hG hm Lr c1n code hrun A1 (.refl _ _ _) S1 (.refl _ os1) rfl) ?_
      have fin:∀ {c3:Ctx} {s3':St} {s3:RSt (std N)} {a3x:Act} {w3:World},Grow c1 w h1' c3 w3 s3'.h→iV E s3' c3 w3 a3x→SR s3' s3→Keep sg.objs.length os1 s3.h→
        Uv (std N) X sg fn s3 (fun y=>y=ct.fn x)→
        a3x.defers=[]∧∃v,(results fn a3x.tmps).run E.P w3= .ok v w3∧
         Post (fun v w'=>∃c' r h' j,Grow c w h c' w' h'∧bF c' w' h'∧c'.n=nm hs.length j∧bD c' w' v r∧K r h' j) (.returned v) w3:=by
       intro c3 s3' s3 amF w3 g3 A3 S3 K3 hfin
       refine⟨A3.defers,?_⟩
       generalize hM:Uv (std N) X sg fn s3=M at hfin
       unfold Uv at hM
       split at hM
       ·rename_i rs hrs
        split at hM
        ·rename_i e2 he2
         split at hM
         ·rename_i e3 he3
          split at hM
          ·rename_i Df
           have Df:=IV Df
           split at hM
           ·rename_i y hy
            subst hM
            obtain⟨air,hfin⟩:=fD hfin
            have hfin:y=ct.fn x:=hfin
            subst hfin
            obtain⟨ps,rp1,rp2⟩:=I6 (E:=E) hX S3 hrs
            obtain⟨us,ps',u1,u2,u3⟩:=zu hE A3 _ (fun q=>q=ps) (rp2 _ rfl)
            subst u3
            refine⟨_,KH u1,?_⟩
            generalize hbr:(sg.fresh&&e.fro.all fun p=> !p.2)=br at hvk hK
            generalize UF:(if br=true then hs else bg (std m) hs (e.fro.map (·.1)))=h1T at hvk
            have Dh:h1T.length=hs.length:=by
             rw [←UF];split
             ·rfl
             ·exact kE _ _ _
            have ais:nmh h1T=nmh hs:=by
             rw [←UF];split
             ·rfl
             ·exact sw _ _ _
            obtain⟨nms,abE⟩:∃nms,newNames e.ren h1T.length sg.dO.length=nms:=⟨_,rfl⟩
            rw [abE]at hvk
            have ait:nms.length=sg.dO.length:=by rw [←abE];exact gN _ _ _
            obtain⟨aiu,qs3,x1,x2,x3,x4⟩:=sF (fun i=>nms.getD i 0) he2
            obtain⟨abF,os3,y1,y2,y3,y4,y5⟩:=o8 (fun i=>nms.getD i 0) (fun i=>r9 (std m) h1T (nms.getD i 0)) (fun j=>Ls h1T _) he3
            have hlv3:e3.lv.reverse=aiu++abF:=by rw [y1,x1];simp [es0]
            have aiv:=unpack_pack hy
            rw [hlv3]at aiv
            rw [show unpack (std m).ah sg.out (ct.fn x)=aiu++abF from aiv,x3]at hvk
            simp only at hvk
            have hy3:=y3 []
            rw [List.append_nil]at hy3
            rw [hy3]at hvk
            simp only [Option.some.injEq,Prod.mk.injEq]at hvk
            obtain⟨hv,hkT⟩:=hvk
            have hrl3:e3.ren.length=sg.dO.length:=by rw [y2.len,x2.len,IZ]
            have Hq:∀(i l:Nat),e.ren[i]? =some (some (some l))→i<sg.objs.length:=fun i l hi=>by rw [←hrl];exact(List.getElem?_eq_some_iff.1 hi).1
            have passed:∀(i l:Nat),e.ren[i]? =some (some (some l))→∃o',AE.look h l=some o'∧o'.live:=fun i l hi=>by
             have hik:=Hq i l hi
             obtain⟨o2,q1,q2⟩:=hof i _ (List.getElem?_eq_getElem hik)
             obtain⟨_,_,_,_,q3⟩:=q2.rel H HR hck m3 (fun h=>by cases h)
             exact q3 l (fun hg=>iK.gone hi (by rw [List.getElem?_eq_getElem hik,hg])) hi
            have hlh:∀l o',AE.look h l=some o'→l<hs.length:=fun l o' hl=>by rw [←hcn];exact(H.obj l o' hl).1
            have P:=NU (n:=m) os3 e.ren h1T (fun i l hi _=>by rw [Dh];obtain⟨o',q,_⟩:=passed i l hi;exact hlh l o' q) (fun i j l hi hj=>iK.dist hi hj)
            rw [y4,abE,hkT]at P
            have ZB:∀i,i<sg.dO.length→nms[i]? =some (nms.getD i 0):=fun i hi=>by
             have:i<nms.length:=by rw [ait];exact hi
             simp [List.getD,List.getElem?_eq_getElem this]
            have nmP:∀i,i<sg.dO.length→kT[nms.getD i 0]? =os3[i]? ∧(e.ren[i]? =some (some (some (nms.getD i 0)))∨(hs.length≤nms.getD i 0∧∀q:Nat,e.ren[i]? ≠some (some (some q)))):=fun i hi=>by
             obtain⟨l,q1,q2,q3⟩:=P.at_ i (by rw [y4];exact hi)
             rw [ZB i hi]at q1
             have q1:=Option.some.inj q1
             subst q1
             rw [Dh]at q3
             exact⟨q2,q3⟩
            have VW:∀i j,i<sg.dO.length→j<sg.dO.length→nms.getD i 0=nms.getD j 0→i=j:=fun i j hi hj hij=>P.inj i j _ (ZB i hi) (by rw [hij];exact ZB j hj)
            have alp:∀i,i<sg.dO.length→nms.getD i 0<kT.length:=fun i hi=>by
             have h3:=(nmP i hi).1
             rw [List.getElem?_eq_getElem (show i<os3.length by rw [y4];exact hi)]at h3
             exact(List.getElem?_eq_some_iff.1 h3).1
            have Tc:∀(i l:Nat),e.ren[i]? =some (some (some l))→nms.getD i 0=l:=fun i l hi=>by
             have hik:=Nat.lt_of_lt_of_le (Hq i l hi) hkk
             rcases(nmP i hik).2 with q | ⟨_,q⟩
             ·rw [hi]at q;cases q;rfl
             ·exact absurd hi (q l)
            have hD:∀l,l∈bG e.ren→∃i,i<sg.dO.length∧nms.getD i 0=l∧e.ren[i]? =some (some (some l)):=fun l hl=>by
             obtain⟨i,hi⟩:=uS hl
             exact⟨i,Nat.lt_of_lt_of_le (Hq i l hi) hkk,Tc i l hi,hi⟩
            obtain⟨D,aaw⟩:∃D,bG e.ren++(if br=true then []else e.fro.map (·.1))=D:=⟨_,rfl⟩
            rw [aaw]at hK
            have Lu:∀l,l∈D↔l∈bG e.ren∨(br=false∧∃f,(l,f)∈e.fro):=fun l=>by
             rw [←aaw];cases br<;>simp
            have uU:∀l f,(l,f)∈e.fro→(∃g cc xs,hs[l]? =some (.rows g cc xs))∧∃o',AE.look h l=some o'∧o'.live:=fun l f hl=>by
             obtain⟨_,g,cc,xs,q⟩:=iK.fro l f hl
             obtain⟨o',q1,q2⟩:=HR.old l _ q
             cases q2 with | rows _=>exact⟨⟨g,cc,xs,q⟩,_,q1,trivial⟩
            have Hr:∀l o,AE.look (yM D h) l=some o→o.live→l∉D∧AE.look h l=some o:=fun l o hl hlv=>by
             by_cases hd:l∈D
             ·rw [Dc hd]at hl;cases hl;exact hlv.elim
             ·rw [pz hd]at hl;exact⟨hd,hl⟩
            have I7:∀l o b,l∉D→AE.look h l=some o→o.live→c.μ l=some b→¬dM c1 h1' b:=fun l o b hd hl hlv hb ho=>by
             obtain⟨i,lq,q,q1,q2,q3,q4⟩:=aio b ho
             have:=H.inj l o lq q b hl hlv q2 q3 hb q4
             subst this
             exact hd ((Lu l).2 (.inl (o9 q1)))
            have Td:∀b,dM c1 h1' b→dM c h b:=fun b hb=>by
             obtain⟨i,lq,q,_,q2,q3,q4⟩:=aio b hb
             exact⟨lq,q,q2,q3,q4⟩
            have kept:∀f b,c.K f b→w3.heap[b]? =w.heap[b]? :=fun f b hb=>g3.kept b (H.low f b hb) (fun ho=>H.own f b (Td b ho) hb)
            have Hb:bF c w3 (yM D h):=by
             refine⟨fun l o hl=> ?_,fun l o l' o' b q1 q2 q3 q4 q5 q6=> ?_,?_,fun f b hb=>Nat.lt_of_lt_of_le (H.low f b hb) g3.size,H.sub⟩
             ·by_cases hd:l∈D
              ·rw [Dc hd]at hl;cases hl
               refine⟨?_,trivial⟩
               rcases(Lu l).1 hd with h3 | ⟨_,f,h3⟩
               ·obtain⟨i,hi⟩:=uS h3
                obtain⟨o',q,_⟩:=passed i l hi
                exact(H.obj l o' q).1
               ·obtain⟨_,o',q,_⟩:=uU l f h3
                exact(H.obj l o' q).1
              ·rw [pz hd]at hl
               obtain⟨q1,q2⟩:=H.obj l o hl
               exact⟨q1,q2.mono (.refl c) kept g3.stays q1 (fun b hlv hb=>g3.kept b (q2.lt hlv hb) (I7 l o b hd hl hlv hb))⟩
             ·obtain⟨_,r1⟩:=Hr l o q1 q2
              obtain⟨_,r2⟩:=Hr l' o' q3 q4
              exact H.inj l o l' o' b r1 q2 r2 q4 q5 q6
             ·rintro f b ⟨l,o,hl,hlv,hb⟩ hk
              obtain⟨_,r1⟩:=Hr l o hl hlv
              exact H.own f b ⟨l,o,r1,hlv,hb⟩ hk
            have VX:∀l o b,AE.look h l=some o→o.live→c.μ l=some b→b<w.heap.size:=fun l o b hl hlv hb=>(H.obj l o hl).2.lt hlv hb
            have aax:∀l o b,l∉D→AE.look h l=some o→o.live→c.μ l=some b→¬dM c3 s3'.h b:=fun l o b hd hl hlv hb ho=>by
             rcases g3.mU b ho with h3 | h3
             ·exact I7 l o b hd hl hlv hb h3
             ·have:=VX l o b hl hlv hb;omega
            have Te:∀q g b,(q,g)∈e3.fro→c3.μ q=some b→dM c3 s3'.h b:=fun q g b hq hb=>by
             obtain⟨_,g',cc,xs,hl⟩:=Df.fro q g hq
             obtain⟨o',q1,q2⟩:=S3.heap.old q _ hl
             cases q2 with | rows _=>exact⟨q,_,q1,trivial,hb⟩
            have aiw:br=true→∀l f,(l,f)∈e.fro→f=false:=fun hb l f hl=>by
             rw [←hbr]at hb
             simp only [Bool.and_eq_true]at hb
             have:=List.all_eq_true.1 hb.2 _ hl
             simpa using this
            have abx:∀f b,dM c (yM D h) b→KX e3 c3 br f b→False:=by
             rintro f b ⟨l,o,hl,hlv,hb⟩ hk
             obtain⟨hd,hl⟩:=Hr l o hl hlv
             rcases hk with hk | ⟨q,g,q1,q2,_⟩
             ·rcases g3.vo _ b hk with h3 | h3 | h3
              ·rcases c1K _ b h3 with h3 | ⟨l2,g2,q1,q2,q3⟩
               ·exact H.own _ b ⟨l,o,hl,hlv,hb⟩ h3
               ·obtain⟨_,o2,r1,r2⟩:=uU l2 g2 q1
                have:=H.inj l o l2 o2 b hl hlv r1 r2 hb q2
                subst this
                cases hbb:br with
                | false=>exact hd ((Lu l).2 (.inr ⟨hbb,g2,q1⟩))
                | true=>
                 have h5:=q3 (by rw [hbb];simp)
                 have h6:=aiw hbb l g2 q1
                 rw [h5]at h6;cases h6
              ·have:=VX l o b hl hlv hb;omega
              ·exact I7 l o b hd hl hlv hb h3
             ·exact aax l o b hd hl hlv hb (Te q g b q1 q2)
            have alq:∃μ2:Nat→Option Nat,(∀l,l<hs.length→μ2 l=c.μ l)∧(∀(i q:Nat),i<sg.dO.length→hs.length≤nms.getD i 0→e3.ren[i]? =some (some (some q))→μ2 (nms.getD i 0)=c3.μ q)∧
              (∀i:Nat,i<sg.dO.length→hs.length≤nms.getD i 0→e3.ren[i]? =some (some none)→μ2 (nms.getD i 0)=none):=by
             have hch:∀l,∃ob:Option Nat,(l<hs.length→ob=c.μ l)∧(∀(i q:Nat),i<sg.dO.length→hs.length≤l→nms.getD i 0=l→e3.ren[i]? =some (some (some q))→ob=c3.μ q)∧
               (∀i:Nat,i<sg.dO.length→hs.length≤l→nms.getD i 0=l→e3.ren[i]? =some (some none)→ob=none):=by
              intro l
              by_cases hl:l<hs.length
              ·exact⟨c.μ l,fun _=>rfl,fun i q _ h4=>by omega,fun i _ h4=>by omega⟩
              ·by_cases hx:∃i q:Nat,i<sg.dO.length∧nms.getD i 0=l∧e3.ren[i]? =some (some (some q))
               ·obtain⟨i,q,h4,h5,h6⟩:=hx
                refine⟨c3.μ q,fun h=>absurd h hl,fun j q' h7 _ h9 h10=> ?_,fun j h7 _ h9 h10=> ?_⟩
                ·have:=VW i j h4 h7 (h5.trans h9.symm);subst this
                 rw [h6]at h10;cases h10;rfl
                ·have:=VW i j h4 h7 (h5.trans h9.symm);subst this
                 rw [h6]at h10;cases h10
               ·exact⟨none,fun h=>absurd h hl,fun j q' h7 _ h9 h10=>absurd ⟨j,q',h7,h9,h10⟩ hx,fun _ _ _ _ _=>rfl⟩
             obtain⟨μ2,abG⟩:=Classical.axiomOfChoice hch
             exact⟨μ2,fun l hl=>(abG l).1 hl,fun i q h4 h5 h6=>(abG _).2.1 i q h4 h5 rfl h6,fun i h4 h5 h6=>(abG _).2.2 i h4 h5 rfl h6⟩
            obtain⟨μ2,μa,μb,μc⟩:=alq
            have NV:∀(i:Nat) (v:Option Nat),i<sg.objs.length→e3.ren[i]? =some (some v)→v=some i∧(es0 (std N) sg.objs.length sg.dO).ren[i]? =some (some (some i)):=fun i v hi hv=>by
             have hik:=Nat.lt_of_lt_of_le hi hkk
             have h0:=IY (n:=N) hi hik
             have hg:pX sg.dO[i]? =false:=by
              unfold pX;split
              ·rename_i hh;exact absurd hh (Df.gone hv)
              ·rfl
             rw [hg]at h0
             have h0:(es0 (std N) sg.objs.length sg.dO).ren[i]? =some (some (some i)):=by simpa using h0
             have:=y2.ren i _ (x2.ren i _ h0)
             rw [hv]at this;cases this
             exact⟨rfl,h0⟩
            have hname:∀(i q:Nat),e3.ren[i]? =some (some (some q))→μ2 (nms.getD i 0)=c3.μ q:=fun i q hi=>by
             have hik:i<sg.dO.length:=by rw [←hrl3];exact(List.getElem?_eq_some_iff.1 hi).1
             rcases(nmP i hik).2 with h4 | ⟨h4,_⟩
             ·have hio:=Hq i _ h4
              obtain⟨h5,_⟩:=NV i _ hio hi
              cases h5
              obtain⟨o',h6,_⟩:=passed i _ h4
              rw [μa _ (hlh _ o' h6),g3.le.μ i (by rw [c1n];exact hio)]
              exact(m3.name i _ h4).2.symm
             ·exact μb i q hik h4 hi
            have hnil:∀(i:Nat),e3.ren[i]? =some (some none)→μ2 (nms.getD i 0)=none:=fun i hi=>by
             have hik:i<sg.dO.length:=by rw [←hrl3];exact(List.getElem?_eq_some_iff.1 hi).1
             rcases Nat.lt_or_ge i sg.objs.length with h4 | h4
             ·obtain⟨h5,_⟩:=NV i _ h4 hi;cases h5
             ·rcases(nmP i hik).2 with h5 | ⟨h5,_⟩
              ·have:=Hq i _ h5;omega
              ·exact μc i hik h5 hi
            have hsame:Same hs kT:=fun l z hz=>by
             have hll:l<hs.length:=by
              rcases Nat.lt_or_ge l hs.length with hl | hl
              ·exact hl
              ·simp [nmh,List.getElem?_eq_none hl]at hz
             by_cases hp:∃i:Nat,e.ren[i]? =some (some (some l))
             ·obtain⟨i,hi⟩:=hp
              have hio:=Hq i l hi
              have hik:=Nat.lt_of_lt_of_le hio hkk
              have hn:=Tc i l hi
              have hat:=(nmP i hik).1
              rw [hn]at hat
              obtain⟨k3,hk3⟩:∃k3,sg.dO[i]? =some k3:=⟨_,List.getElem?_eq_getElem hik⟩
              obtain⟨o3,r1,r2⟩:=y5 e3 (.refl _) i k3 hk3
              rw [Nat.zero_add]at r2
              have goal:nmh [o3] 0=some z→nmh kT l=some z:=fun hh=>by
               simp only [nmh,hat,r1];simpa [nmh]using hh
              by_cases hg:k3= .gone
              ·refine goal ?_
               rw [r2.gone hg]
               show nmh [r9 (std m) h1T (nms.getD i 0)] 0=some z
               rw [hn]
               rw [←ais]at hz
               unfold r9
               simp only [nmh]at hz ⊢
               split at hz
               ·rename_i hh;rw [hh];simpa using hz
               ·rename_i hh;rw [hh];simpa using hz
               ·cases hz
              ·obtain⟨v3,hv3⟩:=r2.live hg
               obtain⟨h5,h6⟩:=NV i _ hio hv3
               subst h5
               obtain⟨o1',s1,s2⟩:=hof i _ (List.getElem?_eq_getElem hio)
               have alr:sg.objs[i]≠ .gone:=fun hh=>iK.gone hi (by rw [List.getElem?_eq_getElem hio,hh])
               have t1:=s2.s1 l z.1 z.2 alr hi (by rw [hz])
               have als:pW (std m) e i=none:=by simp [pW,htr]
               rw [als]at t1
               have t2:nmh os1 i=some z:=by simp only [nmh,s1];simpa [nmh]using t1
               rcases(K3 i hio).2 z t2 with⟨cc,nn,hgo⟩ | t3
               ·exfalso
                obtain⟨v3',amG⟩:=r2.live hg
                have:=Ho he3 (i:=i) hk3 hg (l:=i) (by rw [Nat.zero_add];exact hv3)
                obtain⟨o4,ho4,alu⟩:=this
                rw [hgo]at ho4;cases ho4
                exact alu ⟨_,_,rfl⟩
               ·have alv:pW (std N) e3 i=none:=by rw [y2.tr i _ (x2.ren i _ h6),x2.tr i _ h6];rfl
                have t4:=r2.s1 i z.1 z.2 hg hv3 (by rw [t3])
                rw [alv]at t4
                exact goal t4
             ·have hp':∀i:Nat,i<os3.length→e.ren[i]? ≠some (some (some l)):=fun i _ hi=>hp ⟨i,hi⟩
              have:=P.old l (by rw [Dh];exact hll) hp'
              rw [←ais]at hz
              simp only [nmh,this]
              exact hz
            have alx:∀(j:Nat) (kk:SkO),sg.dO[j]? =some kk→∃o2,os3[j]? =some o2∧OF e3 s3.h (fun i=>nms.getD i 0) j kk (r9 (std m) h1T (nms.getD j 0)) o2:=fun j kk hj=>by
             obtain⟨o2,q1,q2⟩:=y5 e3 (.refl _) j kk hj
             exact⟨o2,q1,by simpa using q2⟩
            have aly:br=true→sg.dO.all SkO.fresh=true:=fun hb=>by
             rw [←hbr]at hb
             simp only [Bool.and_eq_true,Sig.fresh]at hb
             exact hb.1.2
            have alz:br=true→sg.res.all SkV.fresh=true:=fun hb=>by
             rw [←hbr]at hb
             simp only [Bool.and_eq_true,Sig.fresh]at hb
             exact hb.1.1
            obtain⟨o3f,z1,z2,z3,z4,z5,z6⟩:=w9 (ks:=sg.dO) (nm:=fun i=>nms.getD i 0) (old:=fun i=>r9 (std m) h1T (nms.getD i 0)) A3.abs.heap S3.heap air Df hrl3 y4 alx (cb:=c) (hb':=yM D h)
             Hb br aly (μ2:=μ2) (n2:=kT.length) (by rw [hcn,←Dh];exact P.len) (fun l hl=>μa l (by rw [←hcn];exact hl)) alp VW hname hnil (h2:=kT) (fun i hi=>(nmP i hi).1)
             (fun l o hl ho=>by
              have hll:l<hs.length:=by
               rcases Nat.lt_or_ge l hs.length with h4 | h4
               ·exact h4
               ·obtain⟨i,q1,q2⟩:=P.new l (by rw [Dh];exact h4) (List.getElem?_eq_some_iff.1 ho).1
                rw [y4]at q1
                rw [ZB i q1]at q2
                exact absurd (Option.some.inj q2) (hl i q1)
              have hnp:l∉bG e.ren:=fun hp=>by
               obtain⟨i,q1,q2,_⟩:=hD l hp
               exact hl i q1 q2
              have h5:=P.old l (by rw [Dh];exact hll) (fun i hi hh=>hnp (o9 hh))
              rw [h5]at ho
              by_cases hd:l∈D
              ·rcases(Lu l).1 hd with h6 | ⟨hb0,f,h6⟩
               ·exact absurd h6 hnp
               ·rw [←UF,hb0]at ho
                simp only [Bool.false_eq_true,if_false]at ho
                obtain⟨⟨g,cc,xs,h7⟩,_⟩:=uU l f h6
                have:Gone (bg (std m) hs (e.fro.map (·.1))) l:=yL (List.mem_map.2 ⟨_,h6,rfl⟩) h7
                obtain⟨c5,n5,h8⟩:=this
                rw [h8]at ho;cases ho
                exact⟨.gone,Dc hd,.gone⟩
              ·have h7:hs[l]? =some o:=by
                rw [←UF]at ho
                split at ho
                ·exact ho
                ·rename_i hb0
                 rw [jl m _ _ (fun h8=>hd ((Lu l).2 (.inr ⟨by simpa using hb0,by
                  obtain⟨p,hp,rfl⟩:=List.mem_map.1 h8
                  exact⟨p.2,hp⟩⟩)))]at ho
                 exact ho
               obtain⟨o',r1,r2⟩:=HR.old l _ h7
               exact⟨o',by rw [pz hd];exact r1,r2.mono hsame⟩)
             (fun l hl=>by
              have hll:hs.length≤l:=by have:=P.len;rw [Dh]at this;omega
              have hnd:l∉D:=fun hd=>by
               rcases(Lu l).1 hd with h4 | ⟨_,f,h4⟩
               ·obtain⟨i,hi⟩:=uS h4
                obtain⟨o',q,_⟩:=passed i l hi
                have:=hlh l o' q;omega
               ·obtain⟨_,o',q,_⟩:=uU l f h4
                have:=hlh l o' q;omega
              rw [pz hnd]
              exact HR.new l hll)
             (fun b ⟨l,o,hl,hlv,hb⟩ ho=>by
              obtain⟨hd,hl⟩:=Hr l o hl hlv
              exact aax l o b hd hl hlv hb ho)
             (fun f b hk ho=>A3.abs.heap.own f b ho (g3.le.K f b (abD f b hk))) abx
            have wvs:F2 (WV c3 w3 (nmh s3.h)) us rs:=by
             clear he2 x1 x2 x3 x4 hrs u1 rp2
             induction u2 generalizing rs with
             | nil=>cases rp1;exact .nil
             | cons q1 _ ih=>cases rp1 with | cons q3 q4=>exact .cons ⟨_,q1,q3⟩ (ih _ q4)
            obtain⟨alA,w1,w2⟩:=I4 (x4 A3.abs.heap S3.heap y2 air z3 alz wvs)
            have hv3:PVR (nmh kT) (one alA) v:=by rw [←hv];exact abC w2 (Db (x3 abF))
            have hkl:kT.length=nm hs.length (kT.length-hs.length):=by have:=P.len;rw [Dh]at this;simp [nm];omega
            have alB:∀b,dM c (yM D h) b→dM c h b:=fun b ⟨l,o,hl,hlv,hb⟩=>⟨l,o,(Hr l o hl hlv).2,hlv,hb⟩
            have aay:∀b,dM c3 s3'.h b→dM c h b∨w.heap.size≤b:=fun b hb=>(g3.mU b hb).imp (Td b) id
            refine⟨_,_,_,kT.length-hs.length,?_,z1,hkl,ZA w1,hK _ _ _ hv3 z2 ?_ hkl⟩
            ·refine⟨z5,g3.size,g3.stays,fun b hb hno=>g3.kept b hb (fun ho=>hno (Td b ho)),fun f b hb=> ?_,fun b hb=> ?_,g3.os,g3.tape,g3.output⟩
             ·rcases hb with hb | hb | ⟨q,g,q1,q2,_⟩
              ·exact .inl hb
              ·rcases g3.vo _ b hb with h4 | h4 | h4
               ·rcases c1K _ b h4 with h5 | ⟨l2,g2,q1,q2,q3⟩
                ·left
                 cases f with
                 | true=>simpa using h5
                 | false=>cases br with
                  | true=>exact H.sub b (by simpa using h5)
                  | false=>simpa using h5
                ·obtain⟨_,o2,r1,r2⟩:=uU l2 g2 q1
                 exact .inr (.inr ⟨l2,o2,r1,r2,q2⟩)
               ·exact .inr (.inl h4)
               ·exact .inr (.inr (Td b h4))
              ·rcases aay b (Te q g b q1 q2)with h4 | h4
               ·exact .inr (.inr h4)
               ·exact .inr (.inl h4)
             ·rcases z4 b hb with h4 | ⟨i,lq,q,_,q2,q3,q4⟩
              ·exact .inl (alB b h4)
              ·exact aay b ⟨lq,q,q2,q3,q4⟩
            ·refine⟨hsame,by have:=P.len;rw [Dh]at this;exact this,fun l ⟨cc,nn,hgo⟩=> ?_,fun l hl hnd=> ?_⟩
             ·have hll:=(List.getElem?_eq_some_iff.1 hgo).1
              have hnp:∀i:Nat,e.ren[i]? ≠some (some (some l)):=fun i hi=>by
               obtain⟨o',q1,q2⟩:=passed i l hi
               obtain⟨o2,q3,q4⟩:=HR.old l _ hgo
               rw [q1]at q3;cases q3;cases q4;exact q2.elim
              have hnf:∀f,(l,f)∉e.fro:=fun f hf=>by
               obtain⟨⟨g,c5,xs,h7⟩,_⟩:=uU l f hf
               rw [hgo]at h7;cases h7
              refine⟨cc,nn,?_⟩
              rw [P.old l (by rw [Dh];exact hll) (fun i _=>hnp i),←UF]
              split
              ·exact hgo
              ·rw [jl m _ _ (fun h8=>by
                obtain⟨p,hp,rfl⟩:=List.mem_map.1 h8
                exact hnf p.2 hp)]
               exact hgo
             ·have hnp:∀i:Nat,e.ren[i]? ≠some (some (some l)):=fun i hi=>hnd ((Lu l).2 (.inl (o9 hi)))
              refine⟨?_,?_⟩
              ·rw [P.old l (by rw [Dh];exact hl) (fun i _=>hnp i),←UF]
               split
               ·rfl
               ·rename_i hb0
                exact jl m _ _ (fun h8=>hnd ((Lu l).2 (.inr ⟨by simpa using hb0,by
                 obtain⟨p,hp,rfl⟩:=List.mem_map.1 h8
                 exact⟨p.2,hp⟩⟩)))
              ·rw [z6 l (fun i hi hh=>by
                rcases(nmP i hi).2 with h4 | ⟨h4,_⟩
                ·rw [hh]at h4;exact hnp i h4
                ·omega),pz hnd]
           ·(subst hM;exact hfin.elim)
          ·(subst hM;exact hfin.elim)
         ·(subst hM;exact hfin.elim)
        ·(subst hM;exact hfin.elim)
       ·(subst hM;exact hfin.elim)
      intro ex a' w' he
      cases ex with
      | outgrown=>exact he.elim
      | panic _=>exact he.elim
      | goto _=>exact he.elim
      | normal=>obtain⟨c3,s3',s3,g1,g2,g3,g4,_,g6⟩:=he;exact fin g1 g2 g3 g4 g6
      | ret=>obtain⟨c3,s3',s3,g1,g2,g3,g4,_,g6⟩:=he;exact fin g1 g2 g3 g4 g6
      | exit i=>obtain⟨c3,s3',s3,g1,g2,g3,g4,_,g6⟩:=he;exact g6.elim
     ·cases hcall
    ·cases hcall
   ·cases hcall
  ·cases hcall
end
end
end Go.TX
namespace Go.TX
open Go Go.AE
structure FM {ρ:Type} (m:(ρ→Prop)→Prop):Prop where
 mono:∀Q Q':ρ→Prop,(∀y,Q y→Q' y)→m Q→m Q'
 one:∀Q:ρ→Prop,m Q→∃y,Q y∧m (fun z=>z=y)
 two:∀Q Q':ρ→Prop,m Q→m Q'→∃y,Q y∧Q' y
section
variable {n:Nat} {ρ:Type}
theorem FM.fail:FM (fun _:ρ→Prop=>False):=⟨fun _ _ _ h=>h,fun _ h=>h.elim,fun _ _ h=>h.elim⟩
theorem FM.ret (t:ρ):FM (fun Q:ρ→Prop=>Q t):=⟨fun _ _ h hq=>h _ hq,fun _ hq=>⟨t,hq,rfl⟩,fun _ _ h g=>⟨t,h,g⟩⟩
theorem FM.bind {α:Type} {m:(α→Prop)→Prop} {k:α→(ρ→Prop)→Prop} (hm:FM m) (hk:∀t,FM (k t)):FM (fun Q=>m fun t=>k t Q):=
 ⟨fun Q Q' h hq=>hm.mono _ _ (fun t ht=>(hk t).mono _ _ h ht) hq,fun Q hq=>by
  obtain⟨t,h1,h2⟩:=hm.one _ hq
  obtain⟨y,h3,h4⟩:=(hk t).one _ h1
  exact⟨y,h3,hm.mono _ _ (fun t' e=>by subst e;exact h4) h2⟩,fun Q Q' h g=>by
  obtain⟨t,h1,h2⟩:=hm.two _ _ h g
  exact(hk t).two _ _ h1 h2⟩
theorem FM.vJ {α:Type} {m:(α ⊕ ρ→Prop)→Prop} {k:α→(ρ→Prop)→Prop} (hm:FM m) (hk:∀t,FM (k t)):FM (fun Q=>m (Bj k Q)):=
 ⟨fun Q Q' h hq=>hm.mono _ _ (fun t ht=>by
  cases t with
  | inl x=>exact(hk x).mono _ _ h ht
  | inr r=>exact h _ ht) hq,fun Q hq=>by
  obtain⟨t,h1,h2⟩:=hm.one _ hq
  cases t with
  | inl x=>
   obtain⟨y,h3,h4⟩:=(hk x).one _ h1
   exact⟨y,h3,hm.mono _ _ (fun t' e=>by subst e;exact h4) h2⟩
  | inr r=>exact⟨r,h1,hm.mono _ _ (fun t' e=>by subst e;rfl) h2⟩,fun Q Q' h g=>by
  obtain⟨t,h1,h2⟩:=hm.two _ _ h g
  cases t with
  | inl x=>exact(hk x).two _ _ h1 h2
  | inr r=>exact⟨r,h1,h2⟩⟩
theorem FM.itW {α:Type} {f:α→(α ⊕ ρ→Prop)→Prop} (hf:∀x,FM (f x)):∀(N:Nat) (x:α),FM (TX.itW N f x)
 | 0,x=>by
  have e:TX.itW 0 f x=fun _=>False:=by funext Q;rw [TX.itW]
  rw [e];exact .fail
 | N+1,x=>by
  have e:TX.itW (N+1) f x=fun Q=>f x (Bj (TX.itW N f) Q):=by funext Q;rw [TX.itW]
  rw [e];exact .vJ (hf x) (FM.itW hf N)
theorem zO {α:Type} {k k':α→(ρ→Prop)→Prop} {Q Q':ρ→Prop} (hk:∀x,k x Q→k' x Q') (hq:∀y,Q y→Q' y):∀s,Bj k Q s→Bj k' Q' s
 | .inl x=>hk x
 | .inr r=>hq r
theorem NW {α:Type} {f:α→(α ⊕ ρ→Prop)→Prop} (hf:∀x,FM (f x)) {Q:ρ→Prop}:∀ {N M:Nat} {x:α},N≤M→TX.itW N f x Q→TX.itW M f x Q
 | 0,_,_,_,h=>by rw [TX.itW]at h;exact h.elim
 | N+1,0,_,h,_=>absurd h (by omega)
 | N+1,M+1,x,h,g=>by
  rw [TX.itW]at g ⊢
  exact(hf x).mono _ _ (zO (fun y k=>NW hf (by omega) k) (fun _ k=>k)) g
theorem Di {α:Type} {f:α→(α ⊕ ρ→Prop)→Prop} (hf:∀x,FM (f x)) {x:α} {Q:ρ→Prop} (h:SE f x Q):∃r,Q r∧∃N,TX.itW N f x (fun z=>z=r):=by
 obtain⟨I,μ,h0,hs⟩:=h
 have key:∀(n:Nat) (y:α),μ y<n→I y→∃r,Q r∧∃N,TX.itW N f y (fun z=>z=r):=by
  intro n
  induction n with
  | zero=>intro y h;omega
  | succ n ih=>
   intro y hy hI
   obtain⟨s,h1,h2⟩:=(hf y).one _ (hs y hI)
   cases s with
   | inl z=>
    obtain⟨r,q1,N,q2⟩:=ih z (by have:=h1.2;omega) h1.1
    refine⟨r,q1,N+1,?_⟩
    rw [TX.itW]
    exact(hf y).mono _ _ (fun s e=>by subst e;exact q2) h2
   | inr r=>
    refine⟨r,h1,1,?_⟩
    rw [TX.itW]
    exact(hf y).mono _ _ (fun s e=>by subst e;rfl) h2
 exact key _ x (Nat.lt_succ_self _) h0
theorem FM.iter {α:Type} {f:α→(α ⊕ ρ→Prop)→Prop} (hf:∀x,FM (f x)) (x:α):FM (fun Q=>SE f x Q):=by
 refine⟨fun Q Q' h ⟨I,μ,h0,hs⟩=>⟨I,μ,h0,fun y hy=>(hf y).mono _ _ (zO (fun _ h=>h) h) (hs y hy)⟩,fun Q h=> ?_,fun Q Q' h g=> ?_⟩
 rotate_left
 ·obtain⟨r,q1,N,q2⟩:=Di hf h
  obtain⟨t,g1,M,g2⟩:=Di hf g
  obtain⟨z,rfl,rfl⟩:=(FM.itW hf (max N M) x).two _ _ (NW hf (Nat.le_max_left ..) q2) (NW hf (Nat.le_max_right ..) g2)
  exact⟨_,q1,g1⟩
 obtain⟨r,q1,N,q2⟩:=Di hf h
 refine⟨r,q1,?_⟩
 have least:∀y,(∃N,TX.itW N f y (fun z=>z=r))→∃N,TX.itW N f y (fun z=>z=r)∧∀M,M<N→¬TX.itW M f y (fun z=>z=r):=by
  intro y ⟨N,hN⟩
  induction N using Nat.strongRecOn with
  | ind N ih=>
   by_cases h:∃M,M<N∧TX.itW M f y (fun z=>z=r)
   ·obtain⟨M,h1,h2⟩:=h;exact ih M h1 h2
   ·exact⟨N,hN,fun M hM hh=>h ⟨M,hM,hh⟩⟩
 have pick:∀y,∃N,(∃N,TX.itW N f y (fun z=>z=r))→TX.itW N f y (fun z=>z=r)∧∀M,M<N→¬TX.itW M f y (fun z=>z=r):=fun y=>by
  by_cases h:∃N,TX.itW N f y (fun z=>z=r)
  ·obtain⟨N,hN⟩:=least y h;exact⟨N,fun _=>hN⟩
  ·exact⟨0,fun hh=>absurd hh h⟩
 obtain⟨ν,hν⟩:=Classical.axiomOfChoice pick
 refine⟨fun y=>∃N,TX.itW N f y (fun z=>z=r),ν,⟨N,q2⟩,fun y hy=> ?_⟩
 obtain⟨h1,h2⟩:=hν y hy
 cases hn:ν y with
 | zero=>rw [hn]at h1;rw [TX.itW]at h1;exact h1.elim
 | succ k=>
  rw [hn]at h1
  rw [TX.itW]at h1
  refine(hf y).mono _ _ (zO (fun z hz=> ?_) (fun _ h=>h)) h1
  refine⟨⟨k,hz⟩,?_⟩
  have hz':=hν z ⟨k,hz⟩
  by_cases hlt:ν z<k+1
  ·exact hlt
  ·exact absurd hz (hz'.2 k (by omega))
theorem FM.chk {b:Bool} {m:(ρ→Prop)→Prop} (h:FM m):FM (fun Q=>b=true∧m Q):=
 ⟨fun _ _ hq ⟨a,c⟩=>⟨a,h.mono _ _ hq c⟩,fun _ ⟨a,c⟩=>let⟨y,q1,q2⟩:=h.one _ c;⟨y,q1,a,q2⟩,fun _ _ ⟨_,c⟩ ⟨_,d⟩=>h.two _ _ c d⟩
theorem FM.fM {m:(ρ→Prop)→Prop} (h:FM m):∀(ps:List Bool),FM (TX.fM (std n) ps m)
 | []=>h
 | _::ps=> .chk (FM.fM h ps)
theorem FM.cond {b:Bool} {x y:(ρ→Prop)→Prop} (hx:FM x) (hy:FM y):FM (fun Q=>(b=true→x Q)∧(b=false→y Q)):=
 ⟨fun _ _ hq ⟨a,c⟩=>⟨fun h=>hx.mono _ _ hq (a h),fun h=>hy.mono _ _ hq (c h)⟩,fun _ ⟨a,c⟩=>by
  cases b with
  | true=>obtain⟨y,q1,q2⟩:=hx.one _ (a rfl);exact⟨y,q1,fun _=>q2,fun h=>by cases h⟩
  | false=>obtain⟨y,q1,q2⟩:=hy.one _ (c rfl);exact⟨y,q1,fun h=>(by cases h),fun _=>q2⟩,fun _ _ ⟨a,c⟩ ⟨a',c'⟩=>by
  cases b with
  | true=>exact hx.two _ _ (a rfl) (a' rfl)
  | false=>exact hy.two _ _ (c rfl) (c' rfl)⟩
theorem FM.bind' {ts:List LTy} {m:(gM ts→Prop)→Prop} {k:gM ts→(ρ→Prop)→Prop} (hm:FM m) (hk:∀t,FM (k t)):FM ((std n).bind ts m k):=by
 have:=FM.bind hm hk
 exact this
theorem FM.abH {ts:List LTy} {m:(gM ts ⊕ ρ→Prop)→Prop} {k:gM ts→(ρ→Prop)→Prop} (hm:FM m) (hk:∀t,FM (k t)):FM ((std n).vJ ts m k):=by
 have:=FM.vJ hm hk
 exact this
theorem FM.inl' {ts:List LTy} (t:gM ts):FM ((std n).inl (ρ:=ρ) ts t):=FM.ret _
theorem FM.inr' {ts:List LTy} {m:(ρ→Prop)→Prop} (h:FM m):FM ((std n).inr (ρ:=ρ) ts m):=by
 have:=FM.bind (k:=fun(r:ρ) (Q:gM ts ⊕ ρ→Prop)=>Q (Sum.inr r)) h fun r=>FM.ret _
 exact this
theorem FM.iter' {ts:List LTy} {f:gM ts→(gM ts ⊕ ρ→Prop)→Prop} (hf:∀x,FM (f x)) (x:gM ts):FM ((std n).iter ts f x):=FM.iter hf x
theorem FM.ret' {ts:List LTy} (t:gM ts):FM ((std n).ret ts t):=FM.ret t
theorem FM.use {cr:CR (std n)} {K:SVal→List aJ→(ρ→Prop)→Prop} (h:∀v k,FM (K v k)):FM (qN (std n) cr K):=by
  obtain⟨ck,ts,y,k,td,p⟩:=cr
  unfold qN
  cases ts with
  | nil => simp only; split
           · exact h _ _
           · exact .fail
  | cons a b=>
    simp only
    split
    · exact h _ _
    · exact .fail
end
theorem Aw:∀(ts:List LTy),Nonempty (gM ts)
 | []=>⟨()⟩
 | t::r=>by
  obtain⟨y⟩:=Aw r
  have x:Nonempty (LT aC t):=by
   cases t with
   | i=>exact⟨(0:Int)⟩
   | b=>exact⟨false⟩
   | s=>exact⟨(default:ByteArray)⟩
   | l c=>exact⟨([]:List c.den)⟩
   | x c=>exact⟨(default:c.den)⟩
  obtain⟨x⟩:=x
  exact⟨(x,y)⟩
noncomputable def cn {s:Sig} (F:gM s.inp→(gM s.out→Prop)→Prop):Ct aC s:=
 {pre:=fun x=> @decide (∃y,F x fun z=>z=y) (Classical.propDecidable _)
  fn:=fun x=> @Classical.epsilon _ (Aw _) fun y=>F x fun z=>z=y}
structure Fn (E:Tab) (f:FuncId) {s:Sig} (F:gM s.inp→(gM s.out→Prop)→Prop) (c:Ct aC s):Prop where
 e:c=cn F
 fm:∀x,FM (F x)
 ok:iR E f (iF c)
theorem Fn.cs {E:Tab} {f:FuncId} {s:Sig} {F:gM s.inp→(gM s.out→Prop)→Prop} {c:Ct aC s} (h:Fn E f F c) {x:gM s.inp} {Q:gM s.out→Prop} (g:F x Q):c.pre x=true∧Q (c.fn x):=by
 rw [h.e]
 obtain⟨y,h1,h2⟩:=(h.fm x).one _ g
 have e:∃y,F x fun z=>z=y:=⟨y,h2⟩
 refine⟨by simp only [cn];exact @decide_eq_true _ (Classical.propDecidable _) e,?_⟩
 obtain⟨z,k1,k2⟩:=(h.fm x).two _ _ g (@Classical.epsilon_spec _ (fun y=>F x fun z=>z=y) e)
 have k2:z=(cn F).fn x:=k2
 rw [←k2];exact k1
variable [aL]
section
variable {n:Nat} {ρ:Type}
theorem FM.region {X:XT} {C:Calls aC} {ops:List Oper} {K:RSt (std n)→(ρ→Prop)→Prop} (hK:∀s,FM (K s)):∀(rest:List Oper) (s:RSt (std n)),FM (dS (std n) X C ops rest K s)
 | [],s=>by unfold dS;exact hK s
 | o::rest,s=>by
  have ih:=FM.region (X:=X) (C:=C) (ops:=ops) hK rest
  unfold dS
  split
  ·split
   ·split
    ·split
     ·refine FM.fM ?_ _
      rw [Br];exact ih _
     ·exact .fail
    ·split
     ·exact FM.fM (FM.use fun v k=>ih _) _
     ·exact .fail
   ·split
    ·split
     ·exact ih _
     ·split
      ·split
       ·exact FM.fM (ih _) _
       ·exact .fail
      ·split
       ·split
        ·exact FM.fM (FM.use fun v k=>ih _) _
        ·exact .cond (FM.fM (FM.use fun v k=>ih _) _) (ih _)
       ·exact .fail
     ·exact .fail
    ·exact .fail
  ·exact .fail
theorem FM.draw {X:XT} {C:Calls aC} {ops:List Oper} {K:RSt (std n)→(ρ→Prop)→Prop} (hK:∀s,FM (K s)):∀(rest:List eP) (hs:List (Nat×List Nat)) (s:RSt (std n)),FM (gZ (std n) X C ops rest hs K s)
 | [],hs,s=>by unfold gZ;exact hK s
 | (i,rs,cs)::rest,hs,s=>by
  have ih:=FM.draw (X:=X) (C:=C) (ops:=ops) hK rest
  unfold gZ
  split
  ·exact .fail
  ·split
   ·simp only
    split
    ·split
     ·exact .fail
     ·split
      ·split
       ·refine FM.fM ?_ _
        rw [Br];exact ih _ _
       ·exact .fail
      ·split
       ·split
        ·exact ih _ _
        ·split
         ·exact FM.fM (ih _ _) _
         ·exact .fail
        ·exact .fail
       ·exact .fail
    ·split
     ·exact FM.fM (ih _ _) _
     ·exact ih _ _
     ·exact .fail
    ·split
     ·exact FM.fM (ih _ _) _
     ·exact .fail
    ·split
     ·split
      ·split
       ·exact FM.fM (FM.use fun v k=>ih _ _) _
       ·exact .fail
      ·exact .fail
     ·split
      ·split
       ·exact ih _ _
       ·split
        ·split
         ·split
          ·exact FM.fM (FM.use fun v k=>ih _ _) _
          ·exact .cond (FM.fM (FM.use fun v k=>ih _ _) _) (ih _ _)
         ·exact .fail
        ·exact .fail
       ·exact .fail
      ·exact .fail
   ·exact .fail
theorem FM.cut {k:Nat} {sk:Gs} {pl:Bool} {s:RSt (std n)} {K:Exit→RSt (std n)→(ρ→Prop)→Prop} (hK:∀e s,FM (K e s)) {W: {σ:Type}→(Exit→RSt (std n)→(σ→Prop)→Prop)→(σ→Prop)→Prop}
  (hW:∀ {σ:Type} {K':Exit→RSt (std n)→(σ→Prop)→Prop},(∀e s,FM (K' e s))→FM (W K')):FM (NI (std n) k sk pl s K W):=by
 unfold NI
 split
 ·refine FM.bind' (hW fun e s=> ?_) (fun t=>hK _ _)
  split
  ·split
   ·exact FM.fM (FM.ret' _) _
   ·exact .fail
  ·exact .fail
 ·refine FM.abH (hW fun e s=> ?_) (fun t=>hK _ _)
  split
  ·split
   ·exact FM.fM (FM.inl' _) _
   ·exact .fail
  ·exact FM.inr' (hK _ _)
theorem FM.reg {X:XT} {C:Calls aC} {ord:Nat→List eP} {chk:Nat→Array Oper→Nat→Bool} {id:Nat} {ops:Array Oper} {draw:Bool} {s:RSt (std n)} {K:Exit→RSt (std n)→(ρ→Prop)→Prop} (hK:∀e s,FM (K e s)):
  FM ((if draw then(if chk id ops s.m then gZ (std n) X C ops.toList (ord id) [] (fun s=>K .normal s) s else(std n).fail)else dS (std n) X C ops.toList ops.toList (fun s=>K .normal s) s:(std n).M ρ)):=by
 split
 ·split
  ·exact FM.draw (fun s=>hK _ s) _ _ _
  ·exact .fail
 ·exact FM.region (fun s=>hK _ s) _ _
end
theorem FM.exec {n:Nat} {X:XT} {C:Calls aC} {ord:Nat→List eP} {chk:Nat→Array Oper→Nat→Bool} {k:Nat}:∀(code:Code) {ρ:Type} (an:Ann) (s:RSt (std n)) (K:Exit→RSt (std n)→(ρ→Prop)→Prop),(∀e s,FM (K e s))→FM (bI (std n) X C ord chk k an code s K)
  | .skip,ρ,an,s,K,hK=>by cases an<;>exact hK _ _
  | .region id ops draw,ρ,an,s,K,hK=>by
    simp only [bI]
    split
    · exact FM.cut hK fun hK'=>FM.reg hK'
    · exact FM.reg hK
  | .seq x y,ρ,an,s,K,hK=>by
    have main:∀a1 a2 (K1:Exit→RSt (std n)→(ρ→Prop)→Prop),(∀s',K1 .normal s'=bI (std n) X C ord chk k a2 y s' K)→(∀e s',e≠ .normal→K1 e s'=K e s')→FM (bI (std n) X C ord chk k a1 x s K1):=by
      intro a1 a2 K1 h1 h2
      refine FM.exec x a1 s K1 fun e s'=> ?_
      by_cases he:e= .normal
      · subst he;rw [h1];exact FM.exec y a2 s' K hK
      · rw [h2 e s' he];exact hK _ _
    cases an with
    | seq a1 a2=>rw [bI];exact main a1 a2 _ (fun _=>rfl) (fun e s' he=>by cases e<;>first | rfl | exact absurd rfl he)
    | u=>rw [bI];exact main .u .u _ (fun _=>rfl) (fun e s' he=>by cases e<;>first | rfl | exact absurd rfl he)
    | _=>simp only [bI];exact .fail
  | .cond cd x y,ρ,an,s,K,hK=>by
    simp only [bI]
    split
    · split
      · exact .cond (FM.exec x _ s K hK) (FM.exec y _ s K hK)
      · exact .cond (FM.exec x _ s K hK) (FM.exec y _ s K hK)
      · exact FM.cut hK fun hK'=> .cond (FM.exec x _ s _ hK') (FM.exec y _ s _ hK')
      · exact .fail
    · exact .fail
  | .block id b,ρ,an,s,K,hK=>by
    have main:∀ {σ:Type} {K':Exit→RSt (std n)→(σ→Prop)→Prop},(∀e s,FM (K' e s))→∀a1 (K1:Exit→RSt (std n)→(σ→Prop)→Prop),(∀e s',K1 e s'=K' e s'∨K1 e s'=K' .normal s')→FM (bI (std n) X C ord chk k a1 b s K1):=by
      intro σ K' hK' a1 K1 h1
      refine FM.exec b a1 s K1 fun e s'=> ?_
      rcases h1 e s' with h | h<;>rw [h]<;>exact hK' _ _
    have alt:∀ {σ:Type} {K':Exit→RSt (std n)→(σ→Prop)→Prop} (e:Exit) (s':RSt (std n)),(match e with | .exit i=>if i==id then K' .normal s' else K' (.exit i) s' | e=>K' e s':(std n).M σ)=K' e s'∨(match e with | .exit i=>if i==id then K' .normal s' else K' (.exit i) s' | e=>K' e s':(std n).M σ)=K' .normal s':=by
      intro σ K' e s'
      cases e with
      | exit i => simp only; split
                  · exact .inr rfl
                  · exact .inl rfl
      | _=>exact .inl rfl
    simp only [bI]
    split
    · exact main hK _ _ alt
    · exact main hK _ _ alt
    · exact FM.cut hK fun hK'=>main hK' _ _ alt
    · exact .fail
  | .loop b,ρ,an,s,K,hK=>by
    cases an with
    | loop sk a1=>
      rw [bI]
      split
      · refine FM.fM (FM.iter' (fun x=>FM.exec b a1 _ _ fun e s'=> ?_) _) _
        split
        · split
          · exact FM.fM (FM.inl' _) _
          · exact .fail
        · exact FM.inr' (hK _ _)
      · exact .fail
    | _=>simp only [bI];exact .fail
  | .exit i,ρ,an,s,K,hK=>by cases an<;>exact hK _ _
  | .ret,ρ,an,s,K,hK=>by cases an<;>exact hK _ _
  | .rangeFunc ..,ρ,an,s,K,hK=>by cases an<;>(simp only [bI];exact .fail)
  | .scope _,ρ,an,s,K,hK=>by cases an<;>(simp only [bI];exact .fail)
  | .label _,ρ,an,s,K,hK=>by cases an<;>(simp only [bI];exact .fail)
  | .goto _,ρ,an,s,K,hK=>by cases an<;>(simp only [bI];exact .fail)
  | .refuse _,ρ,an,s,K,hK=>by cases an<;>(simp only [bI];exact .fail)
theorem FM.run {n:Nat} {X:XT} {C:Calls aC} {ord:Nat→List eP} {chk:Nat→Array Oper→Nat→Bool} {an:Ann} {sg:Sig} {fn:Func} {code:Code} (x:gM sg.inp):FM (NK (std n) X C ord chk an sg fn code x):=by
 unfold NK
 split
 ·exact .fail
 ·split
  ·split
   ·refine FM.exec code an _ _ fun e s=> ?_
    have he:FM (Uv (std n) X sg fn s):=by
     unfold Uv
     split
     ·split
      ·split
       ·split
        ·split
         ·exact FM.fM (FM.ret' _) _
         ·exact .fail
        ·exact .fail
       ·exact .fail
      ·exact .fail
     ·exact .fail
    split
    ·exact he
    ·exact he
    ·exact .fail
   ·exact .fail
  ·exact .fail
def ofL (C:Car) (l:List (FuncId×Sigma (Ct C))):Calls C:=fun f=>(l.filter fun p=>p.1==f).map (·.2)
def VY (l:List (Nat×List eP)) (i:Nat):List eP:=match l.find? fun p=>p.1==i with | some p=>p.2 | none=> []
def ZE (E:Tab) (l:List (Nat×List eP)) (id:Nat) (ops:Array Oper) (m:Nat):Bool:=Ir ops.toList (VY l id)&&yu E m ops.toList&&Iw E.P ops.toList
theorem ZF {E:Tab} {l:List (Nat×List eP)}:∀id ops m,ZE E l id ops m=true→Static E (VY l) id ops m:=fun _ _ _ h=>h
theorem abI {E:Tab} {l:List (FuncId×Sigma (Ct aC))} (h:∀p∈l,iR E p.1 (iF p.2.2)):mW E (jC (ofL aC l)):=by
 intro f R hR
 unfold jC at hR
 split at hR
 ·cases hR
 ·cases hR
  rename_i hne
  have hall:∀ct∈ofL aC l f,iR E f (iF ct.2):=fun ct hct=>by
   obtain⟨p,hp,rfl⟩:=List.mem_map.1 hct
   obtain⟨hp1,hp2⟩:=List.mem_filter.1 hp
   have:p.1=f:=by simpa using hp2
   rw [←this];exact h p hp1
  obtain⟨ct,hct⟩:=List.exists_mem_of_ne_nil _ hne
  exact⟨(hall ct hct).enters,fun args h n K ⟨ct,hct,hk⟩=>(hall ct hct).calls args h n K hk⟩
def Ru (X:XT) (E:Tab) (A:Alg) (ord:List (Nat×List eP)) (an:Ann) (s:Sig) (fn:Func) (l:List (FuncId×Sigma (Ct A.ah))) (F:Tup A.ah s.inp→A.M (Tup A.ah s.out)):Prop:=
 ∀x,NK A X (ofL A.ah l) (VY ord) (ZE E ord) an s fn (fn.body.getD .skip) x=F x
section
variable {X:XT} {E:Tab} (hE:aF E) (hX:XOK X E) (hm:E.P.follows .mixedOrders=true)
include hE hX hm
theorem alC {f:FuncId} {fn:Func} (hf:E.P.funcs[f]? =some fn) (hb:fn.body.isSome=true) (hent:∀c,fn.body=some c→Enters E.P f) {l:List (FuncId×Sigma (Ct aC))} (hl:∀p∈l,iR E p.1 (iF p.2.2)) {ord:List (Nat×List eP)} {sg:Sig} {an:Ann}
  {F:gM sg.inp→(gM sg.out→Prop)→Prop} (hrun:Ru X E (std 0) ord an sg fn l F):Fn E f F (cn F):=by
 obtain⟨code,hb⟩:=Option.isSome_iff_exists.1 hb
 have hr:∀x,NK (std 0) X (ofL aC l) (VY ord) (ZE E ord) an sg fn code x=F x:=fun x=>by have:=hrun x;rw [hb]at this;exact this
 have hFM:∀x,FM (F x):=fun x=>by rw [←hr x];exact FM.run x
 refine⟨rfl,hFM,ail hE hX (abI hl) hm (ord:=VY ord) (chk:=ZE E ord) ZF hf hb (hent _ hb) (an:=an) (fun x hx=> ?_)⟩
 rw [hr x]
 simp only [cn]at hx
 exact @Classical.epsilon_spec _ (fun y=>F x fun z=>z=y) (@of_decide_eq_true _ (Classical.propDecidable _) hx)
end
@[reducible] def aL.z : aL := ⟨[], []⟩
@[reducible] def Alg.cl (A : Alg) {ρ : Type} {i o : List LTy} (p : Tup A.ah i → A.B) (f : Tup A.ah i → Tup A.ah o) (a : Tup A.ah i) (k : Tup A.ah o → A.M ρ) : A.M ρ := A.chk (p a) (A.IB _ (f a) k)
@[reducible] def Alg.cg (A : Alg) {ρ : Type} {i o : List LTy} (b : A.B) (p : Tup A.ah i → A.B) (f : Tup A.ah i → Tup A.ah o) (a : Tup A.ah i) (k : Tup A.ah o → A.M ρ) : A.M ρ := A.chk (A.orB (A.aA b) (p a)) (A.IB _ (f a) k)
@[reducible] def Alg.rb (A : Alg) (v : A.B) : A.M (Tup A.ah [.b]) := A.IB [.b] (v, ()) fun x => A.ret [.b] (x.1, ())
@[reducible] def Alg.bd (A : Alg) {ρ : Type} (c : Co) (l : A.L c) (i : A.I) (m : A.M ρ) : A.M ρ := A.chk (A.cmp .leq (A.lit 0) i) (A.chk (A.cmp .lss i (A.len c l)) m)
@[reducible] def Alg.l1 (A : Alg) {ρ : Type} (t : LTy) (v : LT A.ah t) (k : Tup A.ah [t] → A.M ρ) : A.M ρ := A.IB [t] (v, ()) k
@[reducible] def Tup.q {C : Car} {a b c d : LTy} {ts : List LTy} (x : Tup C (a :: b :: c :: d :: ts)) : Tup C ts := x.2.2.2.2
@[reducible] def Tup.o {C : Car} {a b c d e f g h : LTy} {ts : List LTy} (x : Tup C (a :: b :: c :: d :: e :: f :: g :: h :: ts)) : Tup C ts := x.2.2.2.2.2.2.2.2
@[reducible] def Pt (A : Alg) (s : Sig) : Type := Tup A.ah s.inp → A.B
@[reducible] def Ft (A : Alg) (s : Sig) : Type := Tup A.ah s.inp → Tup A.ah s.out
@[reducible] def Ot (A : Alg) (s : Sig) : Type := A.M (Tup A.ah s.out)
end Go.TX
namespace Go.TX.F
open Go Go.AE Go.TX
set_option maxRecDepth 100000
@[reducible] def Dj : Sig := ⟨[.c (.rows true .u8)], [], [.c (.pb 0 2 0)], [.box (.agg [.rows true .u8, .int .i64])]⟩
@[reducible] def cO : Sig := ⟨[.c (.pb 0 2 0), .c (.int .i64)], [.box (.agg [.rows true .u8, .int .i64])], [.c (.int .i64)], [.box (.agg [.rows true .u8, .int .i64])]⟩
@[reducible] def bS : Sig := ⟨[.c (.int .i64), .c (.int .i64), .c (.int .i64)], [], [.c .bool], []⟩
@[reducible] def iw : Sig := ⟨[.c (.int .i64)], [], [.agg [.own 0]], [.rows true .mono]⟩
@[reducible] def lM : Sig := ⟨[.c (.pb 0 2 0)], [.box (.agg [.rows true .u8, .int .i64])], [.c (.int .i64)], [.box (.agg [.rows true .u8, .int .i64])]⟩
@[reducible] def Dk : Sig := ⟨[.sv false .mono], [], [.c .bool], []⟩
@[reducible] def lN : Sig := ⟨[.c (.rows false .i64), .c (.rows false .i64)], [], [.c (.int .i64)], []⟩
@[reducible] def eU : Sig := ⟨[.sv false .poly], [], [.c .bool], []⟩
@[reducible] def jD : Sig := ⟨[.c (.int .i64)], [], [.c (.int .i64)], []⟩
@[reducible] def sI : Sig := ⟨[.c (.rows false .mono), .sv false .mono], [], [.c (.own 0)], [.rows false .mono]⟩
@[reducible] def dD : Sig := ⟨[.c (.rows false .mono)], [], [.agg [.own 0]], [.rows true .mono]⟩
@[reducible] def sJ : Sig := ⟨[.c (.rows false .mono)], [], [.agg [.own 0], .c .bool], [.rows true .mono]⟩
@[reducible] def lQ : Sig := ⟨[.sv false .poly, .sv false .poly], [], [.agg [.own 0], .c .bool], [.rows true .mono]⟩
@[reducible] def iy : Sig := ⟨[.c (.int .i64)], [], [.agg [.own 0]], [.rows true .mono]⟩
@[reducible] def Dl : Sig := ⟨[.c (.rows false .i64), .c (.rows false .i64)], [], [.c (.own 0)], [.rows true .i64]⟩
@[reducible] def sK : Sig := ⟨[.sv false .poly, .sv false .poly], [], [.agg [.own 0], .c .bool], [.rows true .mono]⟩
@[reducible] def Dm : Sig := ⟨[.c (.pb 0 2 0), .c (.int .i64)], [.box (.agg [.rows true .u8, .int .i64])], [.agg [.own 1]], [.box (.agg [.rows true .u8, .int .i64]), .rows true .mono]⟩
@[reducible] def Dn : Sig := ⟨[.c (.pb 0 2 0), .c (.int .i64)], [.box (.agg [.rows true .u8, .int .i64])], [.c .bool], [.box (.agg [.rows true .u8, .int .i64])]⟩
@[reducible] def Dp : Sig := ⟨[.c (.pb 0 2 0), .c (.int .i64)], [.box (.agg [.rows true .u8, .int .i64])], [.sv true .poly], [.box (.agg [.rows true .u8, .int .i64])]⟩
@[reducible] def jE : Sig := ⟨[.c (.int .i64)], [], [.c .bool], []⟩
@[reducible] def sM : Sig := ⟨[.sv false .poly, .c (.int .i64)], [], [.agg [.own 0]], [.rows true .mono]⟩
@[reducible] def Dq : Sig := ⟨[.c (.pb 0 2 0), .c (.int .i64)], [.box (.agg [.rows true .u8, .int .i64])], [.sv true .poly, .sv true .poly], [.box (.agg [.rows true .u8, .int .i64])]⟩
@[reducible] def sN : Sig := ⟨[], [], [.agg [.own 0], .c (.own 1)], [.rows true .atom, .rows true .poly]⟩
@[reducible] def lS : Sig := ⟨[.c (.rows false .poly)], [], [.c (.own 0)], [.rows true .poly]⟩
@[reducible] def lT : Sig := ⟨[.sv false .poly], [], [.c (.int .i64), .c .bool], []⟩
@[reducible] def sO : Sig := ⟨[.sv false .sym, .c (.int .i64)], [], [.agg [.rows false .ev, .rows false .poly, .int .i64, .nil, .nil, .int .i64]], []⟩
@[reducible] def jF : Sig := ⟨[.sv false .poly, .sv false .poly], [], [.c (.int .i64)], []⟩
@[reducible] def Dr : Sig := ⟨[.sv false .sym, .c (.int .i64)], [], [.sv false .sym], []⟩
@[reducible] def sP : Sig := ⟨[.sv false .sym, .c (.int .i64)], [], [.sv false .sym], []⟩
@[reducible] def Dt : Sig := ⟨[.c (.int .i64)], [], [.c .bool], []⟩
@[reducible] def sQ : Sig := ⟨[.c (.rows false .iop), .c (.int .i64), .c (.int .i64)], [], [.c .bool], []⟩
@[reducible] def Du : Sig := ⟨[.c (.rows false .iop), .c (.int .i64), .c (.int .i64)], [], [.c .bool], []⟩
@[reducible] def Dv : Sig := ⟨[.sv false .blk], [], [.c .bool], []⟩
@[reducible] def gq : Sig := ⟨[.sv false .blk], [], [.c .bool], []⟩
@[reducible] def Dw : Sig := ⟨[.sv false .atom], [], [.c .bool], []⟩
@[reducible] def Dx : Sig := ⟨[.sv false .poly, .c (.int .i64)], [], [.c .bool], []⟩
@[reducible] def sS : Sig := ⟨[.sv false .atom, .c (.int .i64)], [], [.c .bool], []⟩
@[reducible] def sU : Sig := ⟨[.sv false .atom, .sv false .atom], [], [.c .bool], []⟩
@[reducible] def Dy : Sig := ⟨[.sv false .tab], [], [.c .bool], []⟩
@[reducible] def sV : Sig := ⟨[.sv false .atom], [], [.agg [.int .i64, .int .i64, .own 0, .own 1]], [.rows true .mono, .rows true .mono]⟩
@[reducible] def Dz : Sig := ⟨[.sv false .tab], [], [.agg [.own 0]], [.rows true .atom]⟩
@[reducible] def lU : Sig := ⟨[.agg [.own 0], .sv false .atom], [.rows true .atom], [.agg [.own 1], .c (.int .i64)], [.gone, .rows true .atom]⟩
@[reducible] def DC : Sig := ⟨[.c (.own 0), .c (.int .i64)], [.rows false .poly], [.sv false .poly], [.rows false .poly]⟩
@[reducible] def DF : Sig := ⟨[.c (.int .i64), .sv false .poly, .sv false .poly], [], [.agg [.own 0], .c .bool], [.rows true .mono]⟩
@[reducible] def sW : Sig := ⟨[.c (.int .i64), .c (.int .i64), .c (.int .i64)], [], [.c (.int .i64)], []⟩
@[reducible] def DJ : Sig := ⟨[.c (.int .i64), .c (.int .i64), .sv false .poly], [], [.agg [.own 0], .c .bool], [.rows true .mono]⟩
@[reducible] def DK : Sig := ⟨[.c (.int .i64), .sv false .poly, .sv false .poly], [], [.agg [.own 0], .c .bool], [.rows true .mono]⟩
@[reducible] def DL : Sig := ⟨[.agg [.own 0], .c (.int .i64), .sv false .poly, .sv false .poly], [.rows true .atom], [.agg [.own 1], .agg [.own 2]], [.gone, .rows true .atom, .rows true .mono]⟩
@[reducible] def DN : Sig := ⟨[.c (.rows false .ev), .c (.int .i64)], [], [.c (.int .i64)], []⟩
@[reducible] def DR : Sig := ⟨[.agg [.own 0], .c (.rows false .ev), .c (.int .i64)], [.rows true .atom], [.agg [.own 1], .agg [.own 2]], [.gone, .rows true .atom, .rows true .mono]⟩
@[reducible] def DT : Sig := ⟨[.sv false .iop, .sv false .poly, .sv false .poly, .c (.rows false .poly)], [], [.agg [.int .i64, .int .i64, .own 0, .own 1, .own 2]], [.rows true .mono, .rows true .mono, .rows true .poly]⟩
@[reducible] def DU : Sig := ⟨[.sv false .blk], [], [.c (.int .i64)], []⟩
@[reducible] def DV : Sig := ⟨[.sv false .blk], [], [.c (.int .i64)], []⟩
@[reducible] def DW : Sig := ⟨[.sv false .tab, .sv false .blk], [], [.sv false .tab, .sv false .sym], []⟩
@[reducible] def DX : Sig := ⟨[.c (.pb 0 2 0)], [.box (.agg [.rows true .u8, .int .i64])], [.agg [.int .i64, .int .i64, .int .i64, .int .i64]], [.box (.agg [.rows true .u8, .int .i64])]⟩
@[reducible] def DY : Sig := ⟨[.sv false .ins], [], [.c .bool], []⟩
@[reducible] def sZ : Sig := ⟨[.sv false .ins], [], [.c .bool], []⟩
@[reducible] def tq : Sig := ⟨[.c (.int .i64)], [], [.c .bool], []⟩
@[reducible] def tu : Sig := ⟨[.sv false .ins], [], [.c .bool], []⟩
@[reducible] def DZ : Sig := ⟨[.c (.pb 0 2 0)], [.box (.agg [.rows true .u8, .int .i64])], [.agg [.int .i64, .int .i64, .int .i64, .int .i64]], [.box (.agg [.rows true .u8, .int .i64])]⟩
@[reducible] def D5 : Sig := ⟨[.c (.pb 0 2 0)], [.box (.agg [.rows true .u8, .int .i64])], [.c (.own 1)], [.box (.agg [.rows true .u8, .int .i64]), .rows true .ins]⟩
@[reducible] def D6 : Sig := ⟨[.c (.int .i64), .c (.rows false .ins)], [], [.c .bool], []⟩
@[reducible] def iA : Sig := ⟨[.agg [.int .i64, .int .i64, .own 0, .int .i64, .int .i64, .int .i64, .int .i64], .sv false .iop], [.rows true .iop], [.agg [.int .i64, .int .i64, .own 1, .int .i64, .int .i64, .int .i64, .int .i64], .c (.int .i64)], [.gone, .rows true .iop]⟩
@[reducible] def tC : Sig := ⟨[.agg [.int .i64, .int .i64, .own 0, .int .i64, .int .i64, .int .i64, .int .i64], .c (.int .i64), .c (.int .i64)], [.rows true .iop], [.agg [.int .i64, .int .i64, .own 1, .int .i64, .int .i64, .int .i64, .int .i64]], [.gone, .rows true .iop]⟩
@[reducible] def jG : Sig := ⟨[.agg [.int .i64, .int .i64, .own 0, .int .i64, .int .i64, .int .i64, .int .i64], .c (.int .i64)], [.rows true .iop], [.agg [.int .i64, .int .i64, .own 1, .int .i64, .int .i64, .int .i64, .int .i64], .c (.int .i64)], [.gone, .rows true .iop]⟩
@[reducible] def tF : Sig := ⟨[.agg [.int .i64, .int .i64, .own 0, .int .i64, .int .i64, .int .i64, .int .i64], .c (.int .i64), .c (.int .i64), .sv false .iop], [.rows true .iop], [.agg [.int .i64, .int .i64, .own 1, .int .i64, .int .i64, .int .i64, .int .i64], .c (.int .i64)], [.gone, .rows true .iop]⟩
@[reducible] def D7 : Sig := ⟨[.c (.int .i64)], [], [.c (.int .i64)], []⟩
@[reducible] def D8 : Sig := ⟨[.agg [.int .i64, .int .i64, .own 0, .int .i64, .int .i64, .int .i64, .int .i64], .sv false .ins, .c (.int .i64)], [.rows true .iop], [.agg [.int .i64, .int .i64, .own 1, .int .i64, .int .i64, .int .i64, .int .i64]], [.gone, .rows true .iop]⟩
@[reducible] def D9 : Sig := ⟨[.agg [.int .i64, .int .i64, .own 0, .int .i64, .int .i64, .int .i64, .int .i64], .sv false .ins], [.rows true .iop], [.agg [.int .i64, .int .i64, .own 1, .int .i64, .int .i64, .int .i64, .int .i64]], [.gone, .rows true .iop]⟩
@[reducible] def Ea : Sig := ⟨[.agg [.int .i64, .int .i64, .own 0, .int .i64, .int .i64, .int .i64, .int .i64], .sv false .ins, .c (.int .i64)], [.rows true .iop], [.agg [.int .i64, .int .i64, .own 1, .int .i64, .int .i64, .int .i64, .int .i64]], [.gone, .rows true .iop]⟩
@[reducible] def Eb : Sig := ⟨[.c (.int .i64), .c (.rows false .ins)], [], [.agg [.int .i64, .int .i64, .own 0, .int .i64, .int .i64, .int .i64, .int .i64]], [.rows true .iop]⟩
@[reducible] def tH : Sig := ⟨[.sv false .blk], [], [.agg [.int .i64, .int .i64, .own 0, .int .i64, .int .i64, .int .i64, .int .i64]], [.rows true .iop]⟩
@[reducible] def tJ : Sig := ⟨[.sv false .iop, .c (.rows false .i64)], [], [.sv true .iop], []⟩
@[reducible] def tK : Sig := ⟨[.sv false .blk], [], [.agg [.int .i64, .int .i64, .own 0, .int .i64, .int .i64, .int .i64, .int .i64]], [.rows true .iop]⟩
@[reducible] def tL : Sig := ⟨[.sv false .blk, .c (.rows false .bool)], [], [.agg [.int .i64, .int .i64, .own 0, .int .i64, .int .i64, .int .i64, .int .i64]], [.rows true .iop]⟩
@[reducible] def Ec : Sig := ⟨[.sv false .blk], [], [.c (.own 0)], [.rows true .bool]⟩
@[reducible] def Ed : Sig := ⟨[.sv false .blk], [], [.agg [.int .i64, .int .i64, .own 0, .int .i64, .int .i64, .int .i64, .int .i64]], [.rows true .iop]⟩
@[reducible] def Ee : Sig := ⟨[.c (.rows false .iop), .c (.int .i64)], [], [.c .bool], []⟩
@[reducible] def Ef : Sig := ⟨[.sv false .blk], [], [.agg [.int .i64, .int .i64, .own 0, .int .i64, .int .i64, .int .i64, .int .i64]], [.rows true .iop]⟩
@[reducible] def tN : Sig := ⟨[.c (.rows false .iop), .c (.int .i64)], [], [.c (.int .i64), .c .bool], []⟩
@[reducible] def Eh : Sig := ⟨[.sv false .blk, .c (.int .i64)], [], [.agg [.int .i64, .int .i64, .rows false .iop, .int .i64, .int .i64, .int .i64, .int .i64]], []⟩
@[reducible] def Ei : Sig := ⟨[.sv false .blk], [], [.sv false .blk], []⟩
@[reducible] def Ej : Sig := ⟨[.sv false .blk], [], [.sv false .blk], []⟩
@[reducible] def El : Sig := ⟨[.sv false .blk], [], [.agg [.int .i64, .int .i64, .own 0, .int .i64, .int .i64, .int .i64, .int .i64]], [.rows true .iop]⟩
@[reducible] def Em : Sig := ⟨[.c (.pb 0 2 0)], [.box (.agg [.rows true .u8, .int .i64])], [.agg [.int .i64, .int .i64, .own 1, .int .i64, .int .i64, .int .i64, .int .i64]], [.box (.agg [.rows true .u8, .int .i64]), .rows true .iop]⟩
@[reducible] def En : Sig := ⟨[.c (.rows true .u8)], [], [.sv false .sym, .c (.int .i64)], []⟩
@[reducible] def Lv : Sig := ⟨[.c (.int .i64)], [], [.c .bool], []⟩
@[reducible] def Eo : Sig := ⟨[.c (.int .i64), .c (.int .i64)], [], [.c (.int .i64)], []⟩
@[reducible] def Lx : Sig := ⟨[.c (.rows false .i64)], [], [.c (.int .i64)], []⟩
@[reducible] def LA : Sig := ⟨[.c (.rows false .i64), .c (.rows false .i64)], [], [.c (.int .i64)], []⟩
@[reducible] def Ay : Sig := ⟨[.c (.rows false .i64), .c (.rows false .i64)], [], [.c (.int .i64)], []⟩
@[reducible] def Az : Sig := ⟨[.c (.int .i64), .c (.int .i64), .c (.int .i64)], [], [.c .bool], []⟩
@[reducible] def VZ : Sig := ⟨[.c (.int .i64), .c (.int .i64)], [], [.c .bool], []⟩
@[reducible] def LB : Sig := ⟨[.c (.rows false .i64)], [], [.c .bool], []⟩
@[reducible] def LC : Sig := ⟨[.c (.int .i64), .c (.pb 0 1 0)], [.box (.c (.int .i64))], [.c .bool], [.box (.c (.int .i64))]⟩
@[reducible] def LD : Sig := ⟨[.c (.rows false .i64), .c (.fn 124 [(0, 1)])], [.box (.c (.int .i64))], [.c (.int .i64)], [.box (.c (.int .i64))]⟩
@[reducible] def LG : Sig := ⟨[.c (.rows false .i64), .c (.fn 124 [(0, 1)])], [.box (.c (.int .i64))], [.c .bool], [.box (.c (.int .i64))]⟩
@[reducible] def LH : Sig := ⟨[.sv false .poly, .c (.int .i64)], [], [.c .bool], []⟩
@[reducible] def LJ : Sig := ⟨[.sv false .mono], [], [.c .bool], []⟩
@[reducible] def LK : Sig := ⟨[.c (.rows false .mono), .c (.fn 76 [])], [], [.c (.int .i64)], []⟩
@[reducible] def LM : Sig := ⟨[.c (.rows false .mono), .c (.fn 76 [])], [], [.c .bool], []⟩
@[reducible] def AA : Sig := ⟨[.sv false .poly], [], [.c .bool], []⟩
@[reducible] def AB : Sig := ⟨[.sv false .poly], [], [.c (.int .i64), .c .bool], []⟩
@[reducible] def tO : Sig := ⟨[.sv false .poly, .sv false .poly], [], [.c (.int .i64)], []⟩
@[reducible] def LP : Sig := ⟨[.c (.rows false .i64)], [], [.c (.own 0)], [.rows true .i64]⟩
@[reducible] def AJ : Sig := ⟨[.sv false .poly], [], [.agg [.own 0]], [.rows true .mono]⟩
@[reducible] def LQ : Sig := ⟨[.c (.rows false .poly)], [], [.c (.own 0)], [.rows true .poly]⟩
@[reducible] def LU : Sig := ⟨[.sv false .sym], [], [.agg [.own 0, .own 1, .int .i64, .own 2, .own 3, .int .i64]], [.rows true .ev, .rows true .poly, .rows true .mono, .rows true .mono]⟩
@[reducible] def LW : Sig := ⟨[.sv false .poly, .sv false .poly], [], [.c .bool], []⟩
@[reducible] def AL : Sig := ⟨[.c (.int .i64)], [], [.c .bool], []⟩
@[reducible] def LY : Sig := ⟨[.c (.int .i64), .c (.int .i64), .c (.int .i64)], [], [.c .bool], []⟩
@[reducible] def LZ : Sig := ⟨[.sv false .sym, .c (.int .i64)], [], [.sv true .sym], []⟩
@[reducible] def L6 : Sig := ⟨[.c (.rows false .i64), .c (.rows false .i64)], [], [.c .bool], []⟩
@[reducible] def tQ : Sig := ⟨[.sv false .poly, .sv false .poly], [], [.c .bool], []⟩
@[reducible] def AO : Sig := ⟨[.c (.rows false .poly), .c (.rows false .poly)], [], [.c .bool], []⟩
@[reducible] def L8 : Sig := ⟨[.sv false .sym, .sv false .sym], [], [.c .bool], []⟩
@[reducible] def L9 : Sig := ⟨[], [], [.c .bool], []⟩
@[reducible] def aaz : Sig := ⟨[.c (.rows true .u8)], [], [.c .bool], []⟩
def NY (A:Alg) (x:Tup A.ah [.l .u8]):Ot A Dj:=
 A.bind [.l .u8] (A.cond (A.cmp .gtr (A.len .u8 x.1) (A.lit 2000)) (A.chk (A.cmp .leq (A.lit 0) (A.lit 0))<|
 A.chk (A.cmp .leq (A.lit 0) (A.lit 2000))<|
 A.chk (A.cmp .leq (A.lit 2000) (A.len .u8 x.1))<|
 A.l1 (.l .u8) (A.sub .u8 x.1 (A.lit 0) (A.lit 2000)) fun x0=>
 A.ret _ (x0.1,()))<|
 A.ret _ (x.1,())) fun x0=>
 A.ret _ (x0.1,A.lit 0,())
def NZ (A:Alg) (x:Tup A.ah [.i,.l .u8,.i]):Ot A cO:=
 A.l1 .i (A.lit 0) fun x0=>
 A.l1 .i (A.arith .add .i64 x.2.2.1 (A.lit 1)) fun x1=>
 A.cond (A.au (A.cmp .lss x.1 (A.lit 1)) (A.bl true) (A.cmp .eql (A.len .u8 x.2.1) (A.lit 0))) (A.l1 .i (A.lit 0) fun x2=>
 A.ret _ (x2.1,x.2.1,x1.1,()))<|
 A.l1 .i (A.arith .sub .i64 x1.1 (A.lit 1)) fun x2=>
 A.cond (A.cmp .lss x2.1 (A.len .u8 x.2.1)) (A.bd .u8 x.2.1 x2.1<|
 A.chk (A.cmp .neq x.1 (A.lit 0))<|
 A.l1 .i (A.arith .rem .i64 (A.conv .i64 (A.fI .u8 0 (A.get .u8 x.2.1 x2.1))) x.1) fun x3=>
 A.ret _ (x3.1,x.2.1,x1.1,()))<|
 A.chk (A.cmp .neq (A.len .u8 x.2.1) (A.lit 0))<|
 A.bd .u8 x.2.1 (A.arith .rem .i64 x2.1 (A.len .u8 x.2.1))<|
 A.chk (A.cmp .neq (A.len .u8 x.2.1) (A.lit 0))<|
 A.bd .u8 x.2.1 (A.arith .rem .i64 (A.arith .add .i64 (A.arith .mul .i64 x2.1 (A.lit 7)) (A.lit 3)) (A.len .u8 x.2.1))<|
 A.chk (A.cmp .neq (A.len .u8 x.2.1) (A.lit 0))<|
 A.l1 .i (A.arith .add .i64 (A.arith .add .i64 (A.arith .add .i64 (A.arith .mul .i64 (A.conv .i64 (A.fI .u8 0 (A.get .u8 x.2.1 (A.arith .rem .i64 x2.1 (A.len .u8 x.2.1))))) (A.lit 131)) (A.arith .mul .i64 (A.conv .i64 (A.fI .u8 0 (A.get .u8 x.2.1 (A.arith .rem .i64 (A.arith .add .i64 (A.arith .mul .i64 x2.1 (A.lit 7)) (A.lit 3)) (A.len .u8 x.2.1))))) (A.lit 1117))) (A.arith .mul .i64 x2.1 (A.lit 29))) (A.arith .mul .i64 (A.arith .quo .i64 x2.1 (A.len .u8 x.2.1)) (A.lit 53))) fun x3=>
 A.chk (A.cmp .neq (A.lit 64) (A.lit 0))<|
 A.l1 .i (A.arith .xor .i64 x3.1 (A.arith .quo .i64 x3.1 (A.lit 64))) fun x4=>
 A.chk (A.cmp .neq x.1 (A.lit 0))<|
 A.l1 .i (A.arith .rem .i64 x4.1 x.1) fun x5=>
 A.ret _ (x5.1,x.2.1,x1.1,())
def N7 (A:Alg) (x:Tup A.ah [.i,.i,.i]):Ot A bS:=
 A.l1 .b (A.bl false) fun x0=>
 A.rb (A.au (A.cmp .geq x.1 x.2.1) (A.cmp .leq x.1 x.2.2.1) (A.bl false))
def N8 (A:Alg) (bX:Pt A bS) (bY:Ft A bS) (x:Tup A.ah [.i]):Ot A iw:=
 A.cl bX bY (x.1,A.lit 1,A.lit 65535,()) fun x0=>
 A.cond (A.aA x0.1) (A.ret _ (A.bQ .mono,()))<|
 A.l1 (.l .mono) (A.lst .mono [A.mkX .mono (x.1,A.bQ .i64,())]) fun x1=>
 A.ret _ (x1.1,())
def N9 (A:Alg) (aR:Pt A cO) (aT:Ft A cO) (x:Tup A.ah [.l .u8,.i]):Ot A lM:=
 A.l1 .i (A.lit 0) fun x0=>
 A.cl aR aT (A.lit 4,x.1,x.2.1,()) fun x1=>
 A.l1 .b (A.cmp .eql x1.1 (A.lit 0)) fun x2=>
 A.cond x2.1 (A.l1 (.l .i64) (A.lst .i64 [A.mkX .i64 (A.lit 0,()),A.mkX .i64 (A.lit 1,()),A.mkX .i64 (A.lit 2,()),A.mkX .i64 (A.lit 3,()),A.mkX .i64 (A.lit 65535,()),A.mkX .i64 (A.lit 32768,()),A.mkX .i64 (A.lit 255,()),A.mkX .i64 (A.lit 256,()),A.mkX .i64 (A.lit 65534,())]) fun x3=>
 A.cl aR aT (A.lit 9,x1.2.1,x1.2.2.1,()) fun x4=>
 A.bd .i64 x3.1 x4.1<|
 A.bd .i64 x3.1 x4.1<|
 A.l1 .i (A.fI .i64 0 (A.get .i64 x3.1 x4.1)) fun x5=>
 A.ret _ (x5.1,x4.2.1,x4.2.2.1,()))<|
 A.l1 .b (A.cmp .eql x1.1 (A.lit 1)) fun x3=>
 A.cond x3.1 (A.cl aR aT (A.lit 70,x1.2.1,x1.2.2.1,()) fun x4=>
 A.l1 .i x4.1 fun x5=>
 A.ret _ (x5.1,x4.2.1,x4.2.2.1,()))<|
 A.cl aR aT (A.lit 256,x1.2.1,x1.2.2.1,()) fun x4=>
 A.cl aR aT (A.lit 256,x4.2.1,x4.2.2.1,()) fun x5=>
 A.l1 .i (A.arith .add .i64 (A.arith .mul .i64 x4.1 (A.lit 256)) x5.1) fun x6=>
 A.ret _ (x6.1,x5.2.1,x5.2.2.1,())
def Oa (A:Alg) (bX:Pt A bS) (bY:Ft A bS) (x:Tup A.ah [.x .mono]):Ot A Dk:=
 A.l1 .b (A.bl false) fun x0=>
 A.cl bX bY (A.fI .mono 0 x.1,A.lit 1,A.lit 65535,()) fun x1=>
 A.cond (A.au (A.aA x1.1) (A.bl true) (A.cmp .gtr (A.len .i64 (A.fL .mono 1 .i64 x.1)) (A.lit 4))) (A.rb (A.bl false))<|
 A.l1 .i (A.lit 0) fun x2=>
 A.iter [.i,.x .mono] (fun x3=>
 A.cond (A.cmp .lss x3.1 (A.len .i64 (A.fL .mono 1 .i64 x3.2.1))) (A.bd .i64 (A.fL .mono 1 .i64 x3.2.1) x3.1<|
 A.cl bX bY (A.fI .i64 0 (A.get .i64 (A.fL .mono 1 .i64 x3.2.1) x3.1),A.lit 0,A.lit 199,()) fun x4=>
 A.chk (A.orB (A.aA (A.jy (A.aA (A.aA x4.1)) (A.cmp .gtr x3.1 (A.lit 0)))) (A.cmp .leq (A.lit 0) (A.arith .sub .i64 x3.1 (A.lit 1))))<|
 A.chk (A.orB (A.aA (A.jy (A.aA (A.aA x4.1)) (A.cmp .gtr x3.1 (A.lit 0)))) (A.cmp .lss (A.arith .sub .i64 x3.1 (A.lit 1)) (A.len .i64 (A.fL .mono 1 .i64 x3.2.1))))<|
 A.chk (A.orB (A.aA (A.jy (A.aA (A.aA x4.1)) (A.cmp .gtr x3.1 (A.lit 0)))) (A.cmp .leq (A.lit 0) x3.1))<|
 A.chk (A.orB (A.aA (A.jy (A.aA (A.aA x4.1)) (A.cmp .gtr x3.1 (A.lit 0)))) (A.cmp .lss x3.1 (A.len .i64 (A.fL .mono 1 .i64 x3.2.1))))<|
 A.cond (A.au (A.aA x4.1) (A.bl true) (A.au (A.cmp .gtr x3.1 (A.lit 0)) (A.cmp .gtr (A.fI .i64 0 (A.get .i64 (A.fL .mono 1 .i64 x3.2.1) (A.arith .sub .i64 x3.1 (A.lit 1)))) (A.fI .i64 0 (A.get .i64 (A.fL .mono 1 .i64 x3.2.1) x3.1))) (A.bl false))) (A.l1 .b (A.bl false) fun x5=>
 A.inr _<|A.ret _ (x5.1,()))<|
 A.l1 .i (A.arith .add .i64 x3.1 (A.lit 1)) fun x5=>
 A.inl _ (x5.1,x3.2.1,()))<|
 A.inr _<|A.rb (A.bl true)) (x2.1,x.1,())
def Ob (A:Alg) (x:Tup A.ah [.l .i64,.l .i64]):Ot A lN:=
 A.l1 .i (A.lit 0) fun x0=>
 A.cond (A.cmp .neq (A.len .i64 x.1) (A.len .i64 x.2.1)) (A.cond (A.cmp .lss (A.len .i64 x.1) (A.len .i64 x.2.1)) (A.l1 .i (A.lit (-1)) fun x1=>
 A.ret _ (x1.1,()))<|
 A.l1 .i (A.lit 1) fun x1=>
 A.ret _ (x1.1,()))<|
 A.l1 .i (A.lit 0) fun x1=>
 A.iter [.l .i64,.l .i64,.i] (fun x2=>
 A.cond (A.cmp .lss x2.2.2.1 (A.len .i64 x2.1)) (A.bd .i64 x2.1 x2.2.2.1<|
 A.bd .i64 x2.2.1 x2.2.2.1<|
 A.cond (A.cmp .lss (A.fI .i64 0 (A.get .i64 x2.1 x2.2.2.1)) (A.fI .i64 0 (A.get .i64 x2.2.1 x2.2.2.1))) (A.l1 .i (A.lit (-1)) fun x3=>
 A.inr _<|A.ret _ (x3.1,()))<|
 A.bd .i64 x2.1 x2.2.2.1<|
 A.bd .i64 x2.2.1 x2.2.2.1<|
 A.cond (A.cmp .gtr (A.fI .i64 0 (A.get .i64 x2.1 x2.2.2.1)) (A.fI .i64 0 (A.get .i64 x2.2.1 x2.2.2.1))) (A.l1 .i (A.lit 1) fun x3=>
 A.inr _<|A.ret _ (x3.1,()))<|
 A.l1 .i (A.arith .add .i64 x2.2.2.1 (A.lit 1)) fun x3=>
 A.inl _ (x2.1,x2.2.1,x3.1,()))<|
 A.inr _<|A.l1 .i (A.lit 0) fun x3=>
 A.ret _ (x3.1,())) (x.1,x.2.1,x1.1,())
def Oc (A:Alg) (abJ:Pt A Dk) (abK:Ft A Dk) (Ep:Pt A lN) (Er:Ft A lN) (x:Tup A.ah [.x .poly]):Ot A eU:=
 A.l1 .b (A.bl false) fun x0=>
 A.cond (A.cmp .gtr (A.len .mono (A.fL .poly 0 .mono x.1)) (A.lit 12)) (A.rb (A.bl false))<|
 A.l1 .i (A.lit 0) fun x1=>
 A.iter [.i,.x .poly] (fun x2=>
 A.cond (A.cmp .lss x2.1 (A.len .mono (A.fL .poly 0 .mono x2.2.1))) (A.bd .mono (A.fL .poly 0 .mono x2.2.1) x2.1<|
 A.cl abJ abK (A.get .mono (A.fL .poly 0 .mono x2.2.1) x2.1,()) fun x3=>
 A.chk (A.orB (A.aA (A.jy (A.aA (A.aA x3.1)) (A.cmp .gtr x2.1 (A.lit 0)))) (A.cmp .leq (A.lit 0) (A.arith .sub .i64 x2.1 (A.lit 1))))<|
 A.chk (A.orB (A.aA (A.jy (A.aA (A.aA x3.1)) (A.cmp .gtr x2.1 (A.lit 0)))) (A.cmp .lss (A.arith .sub .i64 x2.1 (A.lit 1)) (A.len .mono (A.fL .poly 0 .mono x2.2.1))))<|
 A.chk (A.orB (A.aA (A.jy (A.aA (A.aA x3.1)) (A.cmp .gtr x2.1 (A.lit 0)))) (A.cmp .leq (A.lit 0) x2.1))<|
 A.chk (A.orB (A.aA (A.jy (A.aA (A.aA x3.1)) (A.cmp .gtr x2.1 (A.lit 0)))) (A.cmp .lss x2.1 (A.len .mono (A.fL .poly 0 .mono x2.2.1))))<|
 A.cg (A.jy (A.aA (A.aA x3.1)) (A.cmp .gtr x2.1 (A.lit 0))) Ep Er (A.fL .mono 1 .i64 (A.get .mono (A.fL .poly 0 .mono x2.2.1) (A.arith .sub .i64 x2.1 (A.lit 1))),A.fL .mono 1 .i64 (A.get .mono (A.fL .poly 0 .mono x2.2.1) x2.1),()) fun x4=>
 A.cond (A.au (A.aA x3.1) (A.bl true) (A.au (A.cmp .gtr x2.1 (A.lit 0)) (A.cmp .geq x4.1 (A.lit 0)) (A.bl false))) (A.l1 .b (A.bl false) fun x5=>
 A.inr _<|A.ret _ (x5.1,()))<|
 A.l1 .i (A.arith .add .i64 x2.1 (A.lit 1)) fun x5=>
 A.inl _ (x5.1,x2.2.1,()))<|
 A.inr _<|A.rb (A.bl true)) (x1.1,x.1,())
def Od (A:Alg) (x:Tup A.ah [.i]):Ot A jD:=
 A.l1 .i (A.lit 0) fun x0=>
 A.chk (A.cmp .neq (A.lit 65536) (A.lit 0))<|
 A.l1 .i (A.arith .rem .i64 x.1 (A.lit 65536)) fun x1=>
 A.bind [.i] (A.cond (A.cmp .lss x1.1 (A.lit 0)) (A.l1 .i (A.arith .add .i64 x1.1 (A.lit 65536)) fun x2=>
 A.ret _ (x2.1,()))<|
 A.ret _ (x1.1,())) fun x2=>
 A.l1 .i x2.1 fun x3=>
 A.ret _ (x3.1,())
def Oe (A:Alg) (Ep:Pt A lN) (Er:Ft A lN) (qm:Pt A jD) (qo:Ft A jD) (x:Tup A.ah [.l .mono,.x .mono]):Ot A sI:=
 A.l1 (.l .mono) (A.lst .mono []) fun x0=>
 A.l1 .b (A.bl false) fun x1=>
 A.l1 .i (A.lit 0) fun x2=>
 A.iter [.l .mono,.b,.i,.x .mono,.l .mono] (fun x3=>
 A.cond (A.cmp .lss x3.2.2.1 (A.len .mono x3.1)) (A.bd .mono x3.1 x3.2.2.1<|
 A.cl Ep Er (A.fL .mono 1 .i64 x3.2.2.2.1,A.fL .mono 1 .i64 (A.get .mono x3.1 x3.2.2.1),()) fun x4=>
 A.l1 .i x4.1 fun x5=>
 A.bind [.l .mono,.b,.i,.i,.x .mono,.l .mono] (A.cond (A.au (A.aA x3.2.1) (A.cmp .lss x5.1 (A.lit 0)) (A.bl false)) (A.l1 (.l .mono) (A.lst .mono [x3.2.2.2.1]) fun x6=>
 A.chk (A.cmp .leq (A.addN (A.len .mono x3.q.1) (A.len .mono x6.1)) (A.lit 1073741824))<|
 A.l1 (.l .mono) (A.app .mono x3.q.1 x6.1) fun x7=>
 A.l1 .b (A.bl true) fun x8=>
 A.ret _ (x3.1,x8.1,x3.2.2.1,x5.1,x3.2.2.2.1,x7.1,()))<|
 A.ret _ (x3.1,x3.2.1,x3.2.2.1,x5.1,x3.2.2.2.1,x3.q.1,())) fun x6=>
 A.bind [.l .mono,.b,.i,.x .mono,.l .mono] (A.cond (A.cmp .eql x6.2.2.2.1 (A.lit 0)) (A.l1 .b (A.bl true) fun x7=>
 A.bd .mono x6.1 x6.2.2.1<|
 A.cl qm qo (A.arith .add .i64 (A.fI .mono 0 (A.get .mono x6.1 x6.2.2.1)) (A.fI .mono 0 x6.q.1),()) fun x8=>
 A.l1 .i x8.1 fun x9=>
 A.bind [.l .mono,.b,.i,.x .mono,.l .mono] (A.cond (A.cmp .gtr x9.1 (A.lit 0)) (A.bd .mono x6.1 x6.2.2.1<|
 A.l1 (.l .mono) (A.lst .mono [A.mkX .mono (x9.1,A.fL .mono 1 .i64 (A.get .mono x6.1 x6.2.2.1),())]) fun x10=>
 A.chk (A.cmp .leq (A.addN (A.len .mono x6.q.2.1) (A.len .mono x10.1)) (A.lit 1073741824))<|
 A.l1 (.l .mono) (A.app .mono x6.q.2.1 x10.1) fun x11=>
 A.ret _ (x6.1,x7.1,x6.2.2.1,x6.q.1,x11.1,()))<|
 A.ret _ (x6.1,x7.1,x6.2.2.1,x6.q.1,x6.q.2.1,())) fun x10=>
 A.ret _ (x10.1,x10.2.1,x10.2.2.1,x10.2.2.2.1,x10.q.1,()))<|
 A.bd .mono x6.1 x6.2.2.1<|
 A.l1 (.l .mono) (A.lst .mono [A.get .mono x6.1 x6.2.2.1]) fun x7=>
 A.chk (A.cmp .leq (A.addN (A.len .mono x6.q.2.1) (A.len .mono x7.1)) (A.lit 1073741824))<|
 A.l1 (.l .mono) (A.app .mono x6.q.2.1 x7.1) fun x8=>
 A.ret _ (x6.1,x6.2.1,x6.2.2.1,x6.q.1,x8.1,())) fun x7=>
 A.l1 .i (A.arith .add .i64 x7.2.2.1 (A.lit 1)) fun x8=>
 A.inl _ (x7.1,x7.2.1,x8.1,x7.2.2.2.1,x7.q.1,()))<|
 A.inr _<|A.bind [.l .mono] (A.cond (A.aA x3.2.1) (A.l1 (.l .mono) (A.lst .mono [x3.2.2.2.1]) fun x4=>
 A.chk (A.cmp .leq (A.addN (A.len .mono x3.q.1) (A.len .mono x4.1)) (A.lit 1073741824))<|
 A.l1 (.l .mono) (A.app .mono x3.q.1 x4.1) fun x5=>
 A.ret _ (x5.1,()))<|
 A.ret _ (x3.q.1,())) fun x4=>
 A.ret _ (x4.1,())) (x.1,x1.1,x2.1,x.2.1,x0.1,())
def Og (A:Alg) (x:Tup A.ah [.l .mono]):Ot A dD:=
 A.l1 .i (A.lit 0) fun x0=>
 A.iter [.l .mono,.i,.l .mono] (fun x1=>
 A.cond (A.cmp .lss x1.2.1 (A.len .mono x1.1)) (A.bd .mono x1.1 x1.2.1<|
 A.bd .mono x1.1 x1.2.1<|
 A.chk (A.orB (A.cmp .lss (A.lit 0) (A.len .i64 (A.fL .mono 1 .i64 (A.get .mono x1.1 x1.2.1)))) (A.cmp .eql (A.len .i64 (A.lst .i64 [])) (A.lit 0)))<|
 A.chk (A.cmp .leq (A.addN (A.len .i64 (A.lst .i64 [])) (A.len .i64 (A.fL .mono 1 .i64 (A.get .mono x1.1 x1.2.1)))) (A.lit 1073741824))<|
 A.l1 (.l .i64) (A.app .i64 (A.lst .i64 []) (A.fL .mono 1 .i64 (A.get .mono x1.1 x1.2.1))) fun x2=>
 A.l1 (.l .mono) (A.lst .mono [A.mkX .mono (A.fI .mono 0 (A.get .mono x1.1 x1.2.1),x2.1,())]) fun x3=>
 A.chk (A.cmp .leq (A.addN (A.len .mono x1.2.2.1) (A.len .mono x3.1)) (A.lit 1073741824))<|
 A.l1 (.l .mono) (A.app .mono x1.2.2.1 x3.1) fun x4=>
 A.l1 .i (A.arith .add .i64 x1.2.1 (A.lit 1)) fun x5=>
 A.inl _ (x1.1,x5.1,x4.1,()))<|
 A.inr _<|A.ret _ (x1.2.2.1,())) (x.1,x0.1,A.bQ .mono,())
def Oh (A:Alg) (eZ:Pt A dD) (fA:Ft A dD) (x:Tup A.ah [.l .mono]):Ot A sJ:=
 A.l1 .b (A.bl false) fun x0=>
 A.cond (A.cmp .gtr (A.len .mono x.1) (A.lit 12)) (A.l1 .b (A.bl false) fun x1=>
 A.ret _ (x1.1,A.bQ .mono,()))<|
 A.l1 .i (A.lit 0) fun x1=>
 A.iter [.l .mono,.i] (fun x2=>
 A.cond (A.cmp .lss x2.2.1 (A.len .mono x2.1)) (A.bd .mono x2.1 x2.2.1<|
 A.cond (A.cmp .gtr (A.len .i64 (A.fL .mono 1 .i64 (A.get .mono x2.1 x2.2.1))) (A.lit 4)) (A.l1 .b (A.bl false) fun x3=>
 A.inr _<|A.ret _ (x3.1,A.bQ .mono,()))<|
 A.l1 .i (A.arith .add .i64 x2.2.1 (A.lit 1)) fun x3=>
 A.inl _ (x2.1,x3.1,()))<|
 A.inr _<|A.cl eZ fA (x2.1,()) fun x3=>
 A.l1 .b (A.bl true) fun x4=>
 A.ret _ (x4.1,x3.1,())) (x.1,x1.1,())
def Oi (A:Alg) (gW:Pt A eU) (gX:Ft A eU) (Oj:Pt A sI) (Ol:Ft A sI) (Om:Pt A sJ) (Oo:Ft A sJ) (x:Tup A.ah [.x .poly,.x .poly]):Ot A lQ:=
 A.l1 .b (A.bl false) fun x0=>
 A.cl gW gX (x.1,()) fun x1=>
 A.cg (A.aA (A.aA x1.1)) gW gX (x.2.1,()) fun x2=>
 A.cond (A.au (A.aA x1.1) (A.bl true) (A.aA x2.1)) (A.l1 .b (A.bl false) fun x3=>
 A.ret _ (x3.1,A.bQ .mono,()))<|
 A.l1 (.l .mono) (A.fL .poly 0 .mono x.1) fun x3=>
 A.l1 .i (A.lit 0) fun x4=>
 A.iter [.l .mono,.i,.x .poly] (fun x5=>
 A.cond (A.cmp .lss x5.2.1 (A.len .mono (A.fL .poly 0 .mono x5.2.2.1))) (A.bd .mono (A.fL .poly 0 .mono x5.2.2.1) x5.2.1<|
 A.cl Oj Ol (x5.1,A.get .mono (A.fL .poly 0 .mono x5.2.2.1) x5.2.1,()) fun x6=>
 A.l1 .i (A.arith .add .i64 x5.2.1 (A.lit 1)) fun x7=>
 A.inl _ (x6.1,x7.1,x5.2.2.1,()))<|
 A.inr _<|A.cl Om Oo (x5.1,()) fun x6=>
 A.l1 .b x6.1 fun x7=>
 A.ret _ (x7.1,x6.2.1,())) (x3.1,x4.1,x.2.1,())
def Oq (A:Alg) (bX:Pt A bS) (bY:Ft A bS) (x:Tup A.ah [.i]):Ot A iy:=
 A.cl bX bY (x.1,A.lit 0,A.lit 199,()) fun x0=>
 A.cond (A.aA x0.1) (A.ret _ (A.bQ .mono,()))<|
 A.l1 (.l .i64) (A.lst .i64 [A.mkX .i64 (x.1,())]) fun x1=>
 A.l1 (.l .mono) (A.lst .mono [A.mkX .mono (A.lit 1,x1.1,())]) fun x2=>
 A.ret _ (x2.1,())
def Ou (A:Alg) (x:Tup A.ah [.l .i64,.l .i64]):Ot A Dl:=
 A.l1 (.l .i64) (A.lst .i64 []) fun x0=>
 A.l1 .i (A.lit 0) fun x1=>
 A.l1 .i (A.lit 0) fun x2=>
 A.iter [.l .i64,.l .i64,.i,.i,.l .i64] (fun x3=>
 A.cond (A.cmp .lss x3.2.2.2.1 (A.len .i64 x3.2.1)) (A.iter [.l .i64,.l .i64,.i,.i,.l .i64] (fun x4=>
 A.chk (A.orB (A.aA (A.cmp .lss x4.2.2.1 (A.len .i64 x4.1))) (A.cmp .leq (A.lit 0) x4.2.2.1))<|
 A.chk (A.orB (A.aA (A.cmp .lss x4.2.2.1 (A.len .i64 x4.1))) (A.cmp .lss x4.2.2.1 (A.len .i64 x4.1)))<|
 A.chk (A.orB (A.aA (A.cmp .lss x4.2.2.1 (A.len .i64 x4.1))) (A.cmp .leq (A.lit 0) x4.2.2.2.1))<|
 A.chk (A.orB (A.aA (A.cmp .lss x4.2.2.1 (A.len .i64 x4.1))) (A.cmp .lss x4.2.2.2.1 (A.len .i64 x4.2.1)))<|
 A.cond (A.au (A.cmp .lss x4.2.2.1 (A.len .i64 x4.1)) (A.cmp .leq (A.fI .i64 0 (A.get .i64 x4.1 x4.2.2.1)) (A.fI .i64 0 (A.get .i64 x4.2.1 x4.2.2.2.1))) (A.bl false)) (A.bd .i64 x4.1 x4.2.2.1<|
 A.l1 (.l .i64) (A.lst .i64 [A.mkX .i64 (A.fI .i64 0 (A.get .i64 x4.1 x4.2.2.1),())]) fun x5=>
 A.chk (A.cmp .leq (A.addN (A.len .i64 x4.q.1) (A.len .i64 x5.1)) (A.lit 1073741824))<|
 A.l1 (.l .i64) (A.app .i64 x4.q.1 x5.1) fun x6=>
 A.l1 .i (A.arith .add .i64 x4.2.2.1 (A.lit 1)) fun x7=>
 A.inl _ (x4.1,x4.2.1,x7.1,x4.2.2.2.1,x6.1,()))<|
 A.inr _<|A.bd .i64 x4.2.1 x4.2.2.2.1<|
 A.l1 (.l .i64) (A.lst .i64 [A.mkX .i64 (A.fI .i64 0 (A.get .i64 x4.2.1 x4.2.2.2.1),())]) fun x5=>
 A.chk (A.cmp .leq (A.addN (A.len .i64 x4.q.1) (A.len .i64 x5.1)) (A.lit 1073741824))<|
 A.l1 (.l .i64) (A.app .i64 x4.q.1 x5.1) fun x6=>
 A.l1 .i (A.arith .add .i64 x4.2.2.2.1 (A.lit 1)) fun x7=>
 A.inl _ (x4.1,x4.2.1,x4.2.2.1,x7.1,x6.1,())) (x3.1,x3.2.1,x3.2.2.1,x3.2.2.2.1,x3.q.1,()))<|
 A.inr _<|A.chk (A.cmp .leq (A.lit 0) x3.2.2.1)<|
 A.chk (A.cmp .leq x3.2.2.1 (A.len .i64 x3.1))<|
 A.chk (A.cmp .leq (A.len .i64 x3.1) (A.len .i64 x3.1))<|
 A.chk (A.cmp .leq (A.addN (A.len .i64 x3.q.1) (A.len .i64 (A.sub .i64 x3.1 x3.2.2.1 (A.len .i64 x3.1)))) (A.lit 1073741824))<|
 A.l1 (.l .i64) (A.app .i64 x3.q.1 (A.sub .i64 x3.1 x3.2.2.1 (A.len .i64 x3.1))) fun x4=>
 A.ret _ (x4.1,())) (x.1,x.2.1,x1.1,x2.1,x0.1,())
def Ov (A:Alg) (gW:Pt A eU) (gX:Ft A eU) (qm:Pt A jD) (qo:Ft A jD) (Oj:Pt A sI) (Ol:Ft A sI) (abL:Pt A Dl) (abM:Ft A Dl) (Om:Pt A sJ) (Oo:Ft A sJ) (x:Tup A.ah [.x .poly,.x .poly]):Ot A sK:=
 A.l1 .b (A.bl false) fun x0=>
 A.cl gW gX (x.1,()) fun x1=>
 A.cg (A.aA (A.aA x1.1)) gW gX (x.2.1,()) fun x2=>
 A.cond (A.au (A.aA x1.1) (A.bl true) (A.aA x2.1)) (A.l1 .b (A.bl false) fun x3=>
 A.ret _ (x3.1,A.bQ .mono,()))<|
 A.l1 (.l .mono) (A.lst .mono []) fun x3=>
 A.l1 .i (A.lit 0) fun x4=>
 A.iter [.i,.x .poly,.x .poly,.l .mono] (fun x5=>
 A.cond (A.cmp .lss x5.1 (A.len .mono (A.fL .poly 0 .mono x5.2.1))) (A.l1 .i (A.lit 0) fun x6=>
 A.iter [.i,.i,.x .poly,.x .poly,.l .mono] (fun x7=>
 A.cond (A.cmp .lss x7.2.1 (A.len .mono (A.fL .poly 0 .mono x7.2.2.2.1))) (A.bd .mono (A.fL .poly 0 .mono x7.2.2.1) x7.1<|
 A.bd .mono (A.fL .poly 0 .mono x7.2.2.2.1) x7.2.1<|
 A.cl qm qo (A.arith .mul .i64 (A.fI .mono 0 (A.get .mono (A.fL .poly 0 .mono x7.2.2.1) x7.1)) (A.fI .mono 0 (A.get .mono (A.fL .poly 0 .mono x7.2.2.2.1) x7.2.1)),()) fun x8=>
 A.l1 .i x8.1 fun x9=>
 A.bind [.i,.i,.x .poly,.x .poly,.l .mono] (A.cond (A.cmp .gtr x9.1 (A.lit 0)) (A.bd .mono (A.fL .poly 0 .mono x7.2.2.1) x7.1<|
 A.bd .mono (A.fL .poly 0 .mono x7.2.2.2.1) x7.2.1<|
 A.cl abL abM (A.fL .mono 1 .i64 (A.get .mono (A.fL .poly 0 .mono x7.2.2.1) x7.1),A.fL .mono 1 .i64 (A.get .mono (A.fL .poly 0 .mono x7.2.2.2.1) x7.2.1),()) fun x10=>
 A.cl Oj Ol (x7.q.1,A.mkX .mono (x9.1,x10.1,()),()) fun x11=>
 A.ret _ (x7.1,x7.2.1,x7.2.2.1,x7.2.2.2.1,x11.1,()))<|
 A.ret _ (x7.1,x7.2.1,x7.2.2.1,x7.2.2.2.1,x7.q.1,())) fun x10=>
 A.l1 .i (A.arith .add .i64 x10.2.1 (A.lit 1)) fun x11=>
 A.inl _ (x10.1,x11.1,x10.2.2.1,x10.2.2.2.1,x10.q.1,()))<|
 A.inr _<|A.l1 .i (A.arith .add .i64 x7.1 (A.lit 1)) fun x8=>
 A.inl _ (x8.1,x7.2.2.1,x7.2.2.2.1,x7.q.1,())) (x5.1,x6.1,x5.2.1,x5.2.2.1,x5.2.2.2.1,()))<|
 A.inr _<|A.cl Om Oo (x5.2.2.2.1,()) fun x6=>
 A.l1 .b x6.1 fun x7=>
 A.ret _ (x7.1,x6.2.1,())) (x4.1,x.1,x.2.1,x3.1,())
def Ow (A:Alg) (aR:Pt A cO) (aT:Ft A cO) (qp:Pt A iy) (qw:Ft A iy) (Ox:Pt A sK) (Oy:Ft A sK) (zP:Pt A lQ) (zQ:Ft A lQ) (nu:Pt A iw) (nA:Ft A iw) (xq:Pt A lM) (xu:Ft A lM) (x:Tup A.ah [.i,.l .u8,.i]):Ot A Dm:=
 A.cl xq xu (x.2.1,x.2.2.1,()) fun x0=>
 A.l1 (.l .i64) (A.lst .i64 [A.mkX .i64 (A.lit 0,()),A.mkX .i64 (A.lit 1,()),A.mkX .i64 (x0.1,())]) fun x1=>
 A.cl aR aT (A.lit 3,x0.2.1,x0.2.2.1,()) fun x2=>
 A.bd .i64 x1.1 x2.1<|
 A.bd .i64 x1.1 x2.1<|
 A.cl nu nA (A.fI .i64 0 (A.get .i64 x1.1 x2.1),()) fun x3=>
 A.l1 (.l .i64) (A.lst .i64 [A.mkX .i64 (A.lit 0,()),A.mkX .i64 (A.lit 1,()),A.mkX .i64 (A.lit 2,()),A.mkX .i64 (A.lit 3,()),A.mkX .i64 (A.lit 6,()),A.mkX .i64 (A.lit 12,())]) fun x4=>
 A.cl aR aT (A.lit 6,x2.2.1,x2.2.2.1,()) fun x5=>
 A.bd .i64 x4.1 x5.1<|
 A.bd .i64 x4.1 x5.1<|
 A.l1 .i (A.fI .i64 0 (A.get .i64 x4.1 x5.1)) fun x6=>
 A.iter [.i,.i,.l .u8,.i,.l .mono] (fun x7=>
 A.cond (A.cmp .gtr x7.2.1 (A.lit 0)) (A.cl xq xu (x7.2.2.1,x7.2.2.2.1,()) fun x8=>
 A.chk (A.cmp .neq (A.lit 65535) (A.lit 0))<|
 A.l1 (.l .mono) (A.lst .mono [A.mkX .mono (A.arith .add .i64 (A.lit 1) (A.arith .rem .i64 x8.1 (A.lit 65535)),A.bQ .i64,())]) fun x9=>
 A.cl aR aT (A.lit 3,x8.2.1,x8.2.2.1,()) fun x10=>
 A.l1 .i x10.1 fun x11=>
 A.iter [.i,.i,.i,.l .u8,.i,.l .mono,.l .mono] (fun x12=>
 A.cond (A.au (A.cmp .gtr x12.2.2.1 (A.lit 0)) (A.cmp .gtr x12.1 (A.lit 0)) (A.bl false)) (A.cl aR aT (x12.1,x12.2.2.2.1,x12.q.1,()) fun x13=>
 A.cl qp qw (x13.1,()) fun x14=>
 A.cl Ox Oy (A.mkX .poly (x12.q.2.2.1,()),A.mkX .poly (x14.1,()),()) fun x15=>
 A.l1 .b x15.1 fun x16=>
 A.bind [.i,.i,.i,.l .u8,.i,.l .mono,.l .mono] (A.cond x16.1 (A.ret _ (x12.1,x12.2.1,x12.2.2.1,x13.2.1,x13.2.2.1,x12.q.2.1,x15.2.1,()))<|
 A.ret _ (x12.1,x12.2.1,x12.2.2.1,x13.2.1,x13.2.2.1,x12.q.2.1,x12.q.2.2.1,())) fun x17=>
 A.l1 .i (A.arith .sub .i64 x17.2.2.1 (A.lit 1)) fun x18=>
 A.inl _ (x17.1,x17.2.1,x18.1,x17.2.2.2.1,x17.q.1,x17.q.2.1,x17.q.2.2.1,()))<|
 A.inr _<|A.cl zP zQ (A.mkX .poly (x12.q.2.1,()),A.mkX .poly (x12.q.2.2.1,()),()) fun x13=>
 A.l1 .b x13.1 fun x14=>
 A.bind [.i,.i,.l .u8,.i,.l .mono] (A.cond x14.1 (A.ret _ (x12.1,x12.2.1,x12.2.2.2.1,x12.q.1,x13.2.1,()))<|
 A.ret _ (x12.1,x12.2.1,x12.2.2.2.1,x12.q.1,x12.q.2.1,())) fun x15=>
 A.l1 .i (A.arith .sub .i64 x15.2.1 (A.lit 1)) fun x16=>
 A.inl _ (x15.1,x16.1,x15.2.2.1,x15.2.2.2.1,x15.q.1,())) (x7.1,x7.2.1,x11.1,x10.2.1,x10.2.2.1,x7.q.1,x9.1,()))<|
 A.inr _<|A.ret _ (x7.2.2.1,x7.2.2.2.1,x7.q.1,())) (x.1,x6.1,x5.2.1,x5.2.2.1,x3.1,())
def Oz (A:Alg) (aR:Pt A cO) (aT:Ft A cO) (x:Tup A.ah [.i,.l .u8,.i]):Ot A Dn:=
 A.l1 .b (A.bl false) fun x0=>
 A.cl aR aT (x.1,x.2.1,x.2.2.1,()) fun x1=>
 A.l1 .b (A.cmp .eql x1.1 (A.arith .sub .i64 x.1 (A.lit 1))) fun x2=>
 A.ret _ (x2.1,x1.2.1,x1.2.2.1,())
def OA (A:Alg) (abN:Pt A Dn) (abO:Ft A Dn) (aR:Pt A cO) (aT:Ft A cO) (abP:Pt A Dm) (abQ:Ft A Dm) (x:Tup A.ah [.i,.l .u8,.i]):Ot A Dp:=
 A.cl abP abQ (A.lit 5,x.2.1,x.2.2.1,()) fun x0=>
 A.cl abN abO (x.1,x0.1,x0.2.1,()) fun x1=>
 A.vJ [.l .u8,.i,.l .mono] (A.cond x1.1 (A.cl aR aT (A.lit 5,x1.2.1,x1.2.2.1,()) fun x2=>
 A.l1 .b (A.cmp .eql x2.1 (A.lit 0)) fun x3=>
 A.cond x3.1 (A.l1 (.l .mono) (A.lst .mono [A.mkX .mono (A.lit 0,A.bQ .i64,())]) fun x4=>
 A.chk (A.cmp .leq (A.addN (A.len .mono x0.2.2.1) (A.len .mono x4.1)) (A.lit 1073741824))<|
 A.l1 (.l .mono) (A.app .mono x0.2.2.1 x4.1) fun x5=>
 A.inr _<|A.ret _ (A.mkX .poly (x5.1,()),x2.2.1,x2.2.2.1,()))<|
 A.l1 .b (A.cmp .eql x2.1 (A.lit 1)) fun x4=>
 A.cond x4.1 (A.l1 (.l .i64) (A.lst .i64 [A.mkX .i64 (A.lit 2,()),A.mkX .i64 (A.lit 1,())]) fun x5=>
 A.l1 (.l .mono) (A.lst .mono [A.mkX .mono (A.lit 3,x5.1,())]) fun x6=>
 A.inr _<|A.ret _ (A.mkX .poly (x6.1,()),x2.2.1,x2.2.2.1,()))<|
 A.l1 .b (A.cmp .eql x2.1 (A.lit 2)) fun x5=>
 A.cond x5.1 (A.l1 (.l .i64) (A.lst .i64 [A.mkX .i64 (A.lit 0,()),A.mkX .i64 (A.lit 0,()),A.mkX .i64 (A.lit 0,()),A.mkX .i64 (A.lit 0,()),A.mkX .i64 (A.lit 0,())]) fun x6=>
 A.l1 (.l .mono) (A.lst .mono [A.mkX .mono (A.lit 3,x6.1,())]) fun x7=>
 A.inr _<|A.ret _ (A.mkX .poly (x7.1,()),x2.2.1,x2.2.2.1,()))<|
 A.l1 .b (A.cmp .eql x2.1 (A.lit 3)) fun x6=>
 A.cond x6.1 (A.l1 (.l .mono) (A.lst .mono [A.mkX .mono (A.lit 3,A.bQ .i64,()),A.mkX .mono (A.lit 4,A.bQ .i64,())]) fun x7=>
 A.inr _<|A.ret _ (A.mkX .poly (x7.1,()),x2.2.1,x2.2.2.1,()))<|
 A.iter [.l .u8,.i,.l .mono] (fun x7=>
 A.cond (A.cmp .leq (A.len .mono x7.2.2.1) (A.lit 12)) (A.l1 (.l .i64) (A.lst .i64 [A.mkX .i64 (A.lit 7,()),A.mkX .i64 (A.lit 7,()),A.mkX .i64 (A.lit 7,()),A.mkX .i64 (A.arith .add .i64 (A.lit 7) (A.len .mono x7.2.2.1),())]) fun x8=>
 A.l1 (.l .mono) (A.lst .mono [A.mkX .mono (A.lit 1,x8.1,())]) fun x9=>
 A.chk (A.cmp .leq (A.addN (A.len .mono x7.2.2.1) (A.len .mono x9.1)) (A.lit 1073741824))<|
 A.l1 (.l .mono) (A.app .mono x7.2.2.1 x9.1) fun x10=>
 A.inl _ (x7.1,x7.2.1,x10.1,()))<|
 A.inr _<|A.inl _ (x7.1,x7.2.1,x7.2.2.1,())) (x2.2.1,x2.2.2.1,x0.2.2.1,()))<|
 A.inl _ (x1.2.1,x1.2.2.1,x0.2.2.1,())) fun x2=>
 A.ret _ (A.mkX .poly (x2.2.2.1,()),x2.1,x2.2.1,())
def OB (A:Alg) (x:Tup A.ah [.i]):Ot A jE:=
 A.l1 .b (A.bl false) fun x0=>
 A.rb (A.au (A.cmp .geq x.1 (A.lit 0)) (A.cmp .lss x.1 (A.lit 65536)) (A.bl false))
def OC (A:Alg) (gW:Pt A eU) (gX:Ft A eU) (qm:Pt A jD) (qo:Ft A jD) (eZ:Pt A dD) (fA:Ft A dD) (qx:Pt A jE) (qy:Ft A jE) (x:Tup A.ah [.x .poly,.i]):Ot A sM:=
 A.cl gW gX (x.1,()) fun x0=>
 A.cg (A.aA (A.aA x0.1)) qx qy (x.2.1,()) fun x1=>
 A.cond (A.au (A.aA x0.1) (A.bl true) (A.aA x1.1)) (A.ret _ (A.bQ .mono,()))<|
 A.l1 (.l .mono) (A.lst .mono []) fun x2=>
 A.l1 .i (A.lit 0) fun x3=>
 A.iter [.i,.i,.x .poly,.l .mono] (fun x4=>
 A.cond (A.cmp .lss x4.2.1 (A.len .mono (A.fL .poly 0 .mono x4.2.2.1))) (A.bd .mono (A.fL .poly 0 .mono x4.2.2.1) x4.2.1<|
 A.cl qm qo (A.arith .mul .i64 (A.fI .mono 0 (A.get .mono (A.fL .poly 0 .mono x4.2.2.1) x4.2.1)) x4.1,()) fun x5=>
 A.l1 .i x5.1 fun x6=>
 A.bind [.i,.i,.x .poly,.l .mono] (A.cond (A.cmp .gtr x6.1 (A.lit 0)) (A.bd .mono (A.fL .poly 0 .mono x4.2.2.1) x4.2.1<|
 A.l1 (.l .mono) (A.lst .mono [A.mkX .mono (x6.1,A.fL .mono 1 .i64 (A.get .mono (A.fL .poly 0 .mono x4.2.2.1) x4.2.1),())]) fun x7=>
 A.chk (A.cmp .leq (A.addN (A.len .mono x4.2.2.2.1) (A.len .mono x7.1)) (A.lit 1073741824))<|
 A.l1 (.l .mono) (A.app .mono x4.2.2.2.1 x7.1) fun x8=>
 A.ret _ (x4.1,x4.2.1,x4.2.2.1,x8.1,()))<|
 A.ret _ (x4.1,x4.2.1,x4.2.2.1,x4.2.2.2.1,())) fun x7=>
 A.l1 .i (A.arith .add .i64 x7.2.1 (A.lit 1)) fun x8=>
 A.inl _ (x7.1,x8.1,x7.2.2.1,x7.2.2.2.1,()))<|
 A.inr _<|A.cl eZ fA (x4.2.2.2.1,()) fun x5=>
 A.ret _ (x5.1,())) (x.2.1,x3.1,x.1,x2.1,())
def OD (A:Alg) (zP:Pt A lQ) (zQ:Ft A lQ) (nu:Pt A iw) (nA:Ft A iw) (I8:Pt A sM) (I9:Ft A sM) (aR:Pt A cO) (aT:Ft A cO) (xq:Pt A lM) (xu:Ft A lM) (V3:Pt A Dp) (V4:Ft A Dp) (x:Tup A.ah [.i,.l .u8,.i]):Ot A Dq:=
 A.cl V3 V4 (x.1,x.2.1,x.2.2.1,()) fun x0=>
 A.l1 (.x .poly) x0.1 fun x1=>
 A.cl V3 V4 (x.1,x0.2.1,x0.2.2.1,()) fun x2=>
 A.l1 (.x .poly) x2.1 fun x3=>
 A.cl aR aT (A.lit 5,x2.2.1,x2.2.2.1,()) fun x4=>
 A.l1 .b (A.cmp .eql x4.1 (A.lit 0)) fun x5=>
 A.cond x5.1 (A.l1 (.x .poly) x1.1 fun x6=>
 A.l1 (.x .poly) x1.1 fun x7=>
 A.ret _ (x6.1,x7.1,x4.2.1,x4.2.2.1,()))<|
 A.l1 .b (A.cmp .eql x4.1 (A.lit 1)) fun x6=>
 A.cond x6.1 (A.cl I8 I9 (x1.1,A.lit 65535,()) fun x7=>
 A.l1 (.x .poly) x1.1 fun x8=>
 A.ret _ (x8.1,A.mkX .poly (x7.1,()),x4.2.1,x4.2.2.1,()))<|
 A.l1 .b (A.cmp .eql x4.1 (A.lit 2)) fun x7=>
 A.vJ [.l .u8,.i,.x .poly,.x .poly] (A.cond x7.1 (A.cl I8 I9 (x1.1,A.lit 65535,()) fun x8=>
 A.cl xq xu (x4.2.1,x4.2.2.1,()) fun x9=>
 A.cl nu nA (x9.1,()) fun x10=>
 A.cl zP zQ (A.mkX .poly (x8.1,()),A.mkX .poly (x10.1,()),()) fun x11=>
 A.l1 .b x11.1 fun x12=>
 A.cond x12.1 (A.l1 (.x .poly) x1.1 fun x13=>
 A.inr _<|A.ret _ (x13.1,A.mkX .poly (x11.2.1,()),x9.2.1,x9.2.2.1,()))<|
 A.inl _ (x9.2.1,x9.2.2.1,x1.1,x3.1,()))<|
 A.inl _ (x4.2.1,x4.2.2.1,x1.1,x3.1,())) fun x8=>
 A.l1 (.x .poly) x8.2.2.1 fun x9=>
 A.l1 (.x .poly) x8.2.2.2.1 fun x10=>
 A.ret _ (x9.1,x10.1,x8.1,x8.2.1,())
def OE (A:Alg) (qp:Pt A iy) (qw:Ft A iy) (x:Tup A.ah []):Ot A sN:=
 A.l1 (.l .poly) (A.lst .poly []) fun x0=>
 A.l1 .i (A.lit 0) fun x1=>
 A.iter [.i,.l .poly,.l .atom] (fun x2=>
 A.cond (A.cmp .lss x2.1 (A.lit 4)) (A.l1 (.l .atom) (A.lst .atom [A.mkX .atom (A.lit 1,x2.1,A.bQ .mono,A.bQ .mono,())]) fun x3=>
 A.chk (A.cmp .leq (A.addN (A.len .atom x2.2.2.1) (A.len .atom x3.1)) (A.lit 1073741824))<|
 A.l1 (.l .atom) (A.app .atom x2.2.2.1 x3.1) fun x4=>
 A.cl qp qw (x2.1,()) fun x5=>
 A.l1 (.l .poly) (A.lst .poly [A.mkX .poly (x5.1,())]) fun x6=>
 A.chk (A.cmp .leq (A.addN (A.len .poly x2.2.1) (A.len .poly x6.1)) (A.lit 1073741824))<|
 A.l1 (.l .poly) (A.app .poly x2.2.1 x6.1) fun x7=>
 A.l1 .i (A.arith .add .i64 x2.1 (A.lit 1)) fun x8=>
 A.inl _ (x8.1,x7.1,x4.1,()))<|
 A.inr _<|A.ret _ (x2.2.2.1,x2.2.1,())) (x1.1,x0.1,A.bQ .atom,())
def OG (A:Alg) (eZ:Pt A dD) (fA:Ft A dD) (x:Tup A.ah [.l .poly]):Ot A lS:=
 A.l1 (.l .poly) (A.lst .poly []) fun x0=>
 A.l1 .i (A.lit 0) fun x1=>
 A.iter [.l .poly,.i,.l .poly] (fun x2=>
 A.cond (A.cmp .lss x2.2.1 (A.len .poly x2.1)) (A.bd .poly x2.1 x2.2.1<|
 A.cl eZ fA (A.fL .poly 0 .mono (A.get .poly x2.1 x2.2.1),()) fun x3=>
 A.l1 (.l .poly) (A.lst .poly [A.mkX .poly (x3.1,())]) fun x4=>
 A.chk (A.cmp .leq (A.addN (A.len .poly x2.2.2.1) (A.len .poly x4.1)) (A.lit 1073741824))<|
 A.l1 (.l .poly) (A.app .poly x2.2.2.1 x4.1) fun x5=>
 A.l1 .i (A.arith .add .i64 x2.2.1 (A.lit 1)) fun x6=>
 A.inl _ (x2.1,x6.1,x5.1,()))<|
 A.inr _<|A.ret _ (x2.2.2.1,())) (x.1,x1.1,x0.1,())
def OH (A:Alg) (gW:Pt A eU) (gX:Ft A eU) (x:Tup A.ah [.x .poly]):Ot A lT:=
 A.l1 .i (A.lit 0) fun x0=>
 A.l1 .b (A.bl false) fun x1=>
 A.cl gW gX (x.1,()) fun x2=>
 A.cond (A.aA x2.1) (A.l1 .i (A.lit 0) fun x3=>
 A.l1 .b (A.bl false) fun x4=>
 A.ret _ (x3.1,x4.1,()))<|
 A.cond (A.cmp .eql (A.len .mono (A.fL .poly 0 .mono x.1)) (A.lit 0)) (A.l1 .i (A.lit 0) fun x3=>
 A.l1 .b (A.bl true) fun x4=>
 A.ret _ (x3.1,x4.1,()))<|
 A.chk (A.orB (A.aA (A.aA (A.cmp .gtr (A.len .mono (A.fL .poly 0 .mono x.1)) (A.lit 1)))) (A.cmp .leq (A.lit 0) (A.lit 0)))<|
 A.chk (A.orB (A.aA (A.aA (A.cmp .gtr (A.len .mono (A.fL .poly 0 .mono x.1)) (A.lit 1)))) (A.cmp .lss (A.lit 0) (A.len .mono (A.fL .poly 0 .mono x.1))))<|
 A.cond (A.au (A.cmp .gtr (A.len .mono (A.fL .poly 0 .mono x.1)) (A.lit 1)) (A.bl true) (A.cmp .gtr (A.len .i64 (A.fL .mono 1 .i64 (A.get .mono (A.fL .poly 0 .mono x.1) (A.lit 0)))) (A.lit 0))) (A.l1 .i (A.lit 0) fun x3=>
 A.l1 .b (A.bl false) fun x4=>
 A.ret _ (x3.1,x4.1,()))<|
 A.bd .mono (A.fL .poly 0 .mono x.1) (A.lit 0)<|
 A.l1 .i (A.fI .mono 0 (A.get .mono (A.fL .poly 0 .mono x.1) (A.lit 0))) fun x3=>
 A.l1 .b (A.bl true) fun x4=>
 A.ret _ (x3.1,x4.1,())
def OI (A:Alg) (x:Tup A.ah [.x .sym,.i]):Ot A sO:=
 A.l1 .i (A.lit 1) fun x0=>
 A.l1 .i x.2.1 fun x1=>
 A.ret _ (A.fL .sym 0 .ev x.1,A.fL .sym 1 .poly x.1,x0.1,x1.1,())
def OJ (A:Alg) (Ep:Pt A lN) (Er:Ft A lN) (x:Tup A.ah [.x .poly,.x .poly]):Ot A jF:=
 A.l1 .i (A.lit 0) fun x0=>
 A.cond (A.cmp .neq (A.len .mono (A.fL .poly 0 .mono x.1)) (A.len .mono (A.fL .poly 0 .mono x.2.1))) (A.cond (A.cmp .lss (A.len .mono (A.fL .poly 0 .mono x.1)) (A.len .mono (A.fL .poly 0 .mono x.2.1))) (A.l1 .i (A.lit (-1)) fun x1=>
 A.ret _ (x1.1,()))<|
 A.l1 .i (A.lit 1) fun x1=>
 A.ret _ (x1.1,()))<|
 A.l1 .i (A.lit 0) fun x1=>
 A.iter [.i,.x .poly,.x .poly] (fun x2=>
 A.cond (A.cmp .lss x2.1 (A.len .mono (A.fL .poly 0 .mono x2.2.1))) (A.bd .mono (A.fL .poly 0 .mono x2.2.1) x2.1<|
 A.bd .mono (A.fL .poly 0 .mono x2.2.2.1) x2.1<|
 A.cl Ep Er (A.fL .mono 1 .i64 (A.get .mono (A.fL .poly 0 .mono x2.2.1) x2.1),A.fL .mono 1 .i64 (A.get .mono (A.fL .poly 0 .mono x2.2.2.1) x2.1),()) fun x3=>
 A.l1 .i x3.1 fun x4=>
 A.cond (A.cmp .neq x4.1 (A.lit 0)) (A.l1 .i x4.1 fun x5=>
 A.inr _<|A.ret _ (x5.1,()))<|
 A.bd .mono (A.fL .poly 0 .mono x2.2.1) x2.1<|
 A.bd .mono (A.fL .poly 0 .mono x2.2.2.1) x2.1<|
 A.cond (A.cmp .neq (A.fI .mono 0 (A.get .mono (A.fL .poly 0 .mono x2.2.1) x2.1)) (A.fI .mono 0 (A.get .mono (A.fL .poly 0 .mono x2.2.2.1) x2.1))) (A.bd .mono (A.fL .poly 0 .mono x2.2.1) x2.1<|
 A.bd .mono (A.fL .poly 0 .mono x2.2.2.1) x2.1<|
 A.cond (A.cmp .lss (A.fI .mono 0 (A.get .mono (A.fL .poly 0 .mono x2.2.1) x2.1)) (A.fI .mono 0 (A.get .mono (A.fL .poly 0 .mono x2.2.2.1) x2.1))) (A.l1 .i (A.lit (-1)) fun x5=>
 A.inr _<|A.ret _ (x5.1,()))<|
 A.l1 .i (A.lit 1) fun x5=>
 A.inr _<|A.ret _ (x5.1,()))<|
 A.l1 .i (A.arith .add .i64 x2.1 (A.lit 1)) fun x5=>
 A.inl _ (x5.1,x2.2.1,x2.2.2.1,()))<|
 A.inr _<|A.l1 .i (A.lit 0) fun x3=>
 A.ret _ (x3.1,())) (x1.1,x.1,x.2.1,())
def OL (A:Alg) (xw:Pt A lT) (xA:Ft A lT) (qz:Pt A jF) (qA:Ft A jF) (Ja:Pt A sO) (Jb:Ft A sO) (x:Tup A.ah [.x .sym,.i]):Ot A Dr:=
 A.cl xw xA (A.mkX .poly (A.fL .sym 3 .mono x.1,()),()) fun x0=>
 A.l1 .i x0.1 fun x1=>
 A.l1 .b x0.2.1 fun x2=>
 A.cl xw xA (A.mkX .poly (A.fL .sym 4 .mono x.1,()),()) fun x3=>
 A.l1 .i x3.1 fun x4=>
 A.l1 .b x3.2.1 fun x5=>
 A.cl qz qA (A.mkX .poly (A.fL .sym 3 .mono x.1,()),A.mkX .poly (A.fL .sym 4 .mono x.1,()),()) fun x6=>
 A.l1 .b (A.cmp .eql x6.1 (A.lit 0)) fun x7=>
 A.l1 .b (A.au x7.1 (A.cmp .eql (A.fI .sym 2 x.1) (A.lit 3)) (A.bl false)) fun x8=>
 A.bind [.i,.b,.b,.b,.b,.x .sym,.i,.i] (A.cond x8.1 (A.ret _ (x.2.1,x2.1,x5.1,x7.1,x8.1,x.1,A.lit 0,A.lit 0,()))<|
 A.l1 .b (A.au (A.au (A.au x2.1 x5.1 (A.bl false)) (A.cmp .eql (A.fI .sym 2 x.1) (A.lit 4)) (A.bl false)) (A.cmp .lss x1.1 x4.1) (A.bl false)) fun x9=>
 A.ret _ (x.2.1,x2.1,x5.1,x7.1,x9.1,x.1,A.lit 0,A.lit 0,())) fun x9=>
 A.cond x9.q.1 (A.cl Ja Jb (x9.q.2.1,A.fI .sym 5 x9.q.2.1,()) fun x10=>
 A.ret _ (A.mkX .sym (x10.1,x10.2.1,x10.2.2.1,A.bQ .mono,A.bQ .mono,x10.2.2.2.1,()),()))<|
 A.l1 .b x9.2.2.2.1 fun x10=>
 A.bind [.i,.b,.x .sym,.i,.i] (A.cond x10.1 (A.ret _ (x9.1,x10.1,x9.q.2.1,x9.q.2.2.1,x9.q.2.2.2.1,()))<|
 A.l1 .b (A.au x9.2.1 x9.2.2.1 (A.bl false)) fun x11=>
 A.ret _ (x9.1,x11.1,x9.q.2.1,x9.q.2.2.1,x9.q.2.2.2.1,())) fun x11=>
 A.cond x11.2.1 (A.cl Ja Jb (x11.2.2.1,x11.1,()) fun x12=>
 A.ret _ (A.mkX .sym (x12.1,x12.2.1,x12.2.2.1,A.bQ .mono,A.bQ .mono,x12.2.2.2.1,()),()))<|
 A.cg (A.cmp .eql (A.fI .sym 2 x11.2.2.1) (A.lit 3)) qz qA (A.mkX .poly (A.fL .sym 3 .mono x11.2.2.1,()),A.mkX .poly (A.fL .sym 4 .mono x11.2.2.1,()),()) fun x12=>
 A.bind [.x .sym,.i,.i] (A.cond (A.au (A.cmp .eql (A.fI .sym 2 x11.2.2.1) (A.lit 3)) (A.cmp .gtr x12.1 (A.lit 0)) (A.bl false)) (A.ret _ (A.mkX .sym (A.fL .sym 0 .ev x11.2.2.1,A.fL .sym 1 .poly x11.2.2.1,A.fI .sym 2 x11.2.2.1,A.fL .sym 4 .mono x11.2.2.1,A.fL .sym 3 .mono x11.2.2.1,A.fI .sym 5 x11.2.2.1,()),x11.2.2.2.1,x11.q.1,()))<|
 A.ret _ (x11.2.2.1,x11.2.2.2.1,x11.q.1,())) fun x13=>
 A.l1 (.x .sym) x13.1 fun x14=>
 A.ret _ (x14.1,())
def OM (A:Alg) (xw:Pt A lT) (xA:Ft A lT) (gW:Pt A eU) (gX:Ft A eU) (eZ:Pt A dD) (fA:Ft A dD) (Ja:Pt A sO) (Jb:Ft A sO) (abR:Pt A Dr) (abS:Ft A Dr) (zR:Pt A lS) (zS:Ft A lS) (x:Tup A.ah [.x .sym,.i]):Ot A sP:=
 A.cl gW gX (A.mkX .poly (A.fL .sym 3 .mono x.1,()),()) fun x0=>
 A.cg (A.aA (A.aA x0.1)) gW gX (A.mkX .poly (A.fL .sym 4 .mono x.1,()),()) fun x1=>
 A.cond (A.au (A.aA x0.1) (A.bl true) (A.aA x1.1)) (A.ret _ (A.mkX .sym (A.bQ .ev,A.bQ .poly,A.lit 0,A.bQ .mono,A.bQ .mono,A.lit 0,()),()))<|
 A.l1 (.x .sym) x.1 fun x2=>
 A.l1 (.l .ev) (A.lst .ev []) fun x3=>
 A.l1 .i (A.lit 0) fun x4=>
 A.iter [.i,.i,.x .sym,.i,.i,.l .poly,.i,.l .mono,.l .mono,.i,.l .ev] (fun x5=>
 A.cond (A.cmp .lss x5.2.1 (A.len .ev (A.fL .sym 0 .ev x5.2.2.1))) (A.bd .ev (A.fL .sym 0 .ev x5.2.2.1) x5.2.1<|
 A.l1 (.x .ev) (A.get .ev (A.fL .sym 0 .ev x5.2.2.1) x5.2.1) fun x6=>
 A.cl eZ fA (A.fL .ev 2 .mono x6.1,()) fun x7=>
 A.cl eZ fA (A.fL .ev 3 .mono x6.1,()) fun x8=>
 A.cl zR zS (A.fL .ev 4 .poly x6.1,()) fun x9=>
 A.l1 (.l .ev) (A.lst .ev [A.mkX .ev (A.fI .ev 0 x6.1,A.fI .ev 1 x6.1,x7.1,x8.1,x9.1,())]) fun x10=>
 A.chk (A.cmp .leq (A.addN (A.len .ev x5.o.2.2.1) (A.len .ev x10.1)) (A.lit 1073741824))<|
 A.l1 (.l .ev) (A.app .ev x5.o.2.2.1 x10.1) fun x11=>
 A.l1 .i (A.arith .add .i64 x5.2.1 (A.lit 1)) fun x12=>
 A.inl _ (x5.1,x12.1,x5.2.2.1,x5.2.2.2.1,x5.q.1,x5.q.2.1,x5.q.2.2.1,x5.q.2.2.2.1,x5.o.1,x5.o.2.1,x11.1,()))<|
 A.inr _<|A.cl zR zS (A.fL .sym 1 .poly x5.2.2.1,()) fun x6=>
 A.cl eZ fA (A.fL .sym 3 .mono x5.2.2.1,()) fun x7=>
 A.cl eZ fA (A.fL .sym 4 .mono x5.2.2.1,()) fun x8=>
 A.l1 .b (A.cmp .eql (A.fI .sym 2 x5.2.2.1) (A.lit 2)) fun x9=>
 A.vJ [.i,.i,.i,.i,.l .ev,.l .poly,.l .mono,.l .mono] (A.cond x9.1 (A.cl xw xA (A.mkX .poly (A.fL .sym 3 .mono x5.2.2.1,()),()) fun x10=>
 A.l1 .i x10.1 fun x11=>
 A.l1 .b x10.2.1 fun x12=>
 A.cond x12.1 (A.cl Ja Jb (A.mkX .sym (x5.o.2.2.1,x6.1,x5.q.2.2.1,x7.1,x8.1,x5.o.2.1,()),x11.1,()) fun x13=>
 A.inr _<|A.ret _ (A.mkX .sym (x13.1,x13.2.1,x13.2.2.1,A.bQ .mono,A.bQ .mono,x13.2.2.2.1,()),()))<|
 A.inl _ (x5.2.2.2.1,x5.q.1,x5.q.2.2.1,x5.o.2.1,x5.o.2.2.1,x6.1,x7.1,x8.1,()))<|
 A.l1 .b (A.cmp .eql (A.fI .sym 2 x5.2.2.1) (A.lit 3)) fun x10=>
 A.bind [.i,.b,.i,.i,.i,.i,.l .ev,.l .poly,.l .mono,.l .mono] (A.cond x10.1 (A.ret _ (x5.1,x10.1,x5.2.2.2.1,x5.q.1,x5.q.2.2.1,x5.o.2.1,x5.o.2.2.1,x6.1,x7.1,x8.1,()))<|
 A.l1 .b (A.cmp .eql (A.fI .sym 2 x5.2.2.1) (A.lit 4)) fun x11=>
 A.ret _ (x5.1,x11.1,x5.2.2.2.1,x5.q.1,x5.q.2.2.1,x5.o.2.1,x5.o.2.2.1,x6.1,x7.1,x8.1,())) fun x11=>
 A.cond x11.2.1 (A.cl abR abS (A.mkX .sym (x11.q.2.2.1,x11.q.2.2.2.1,x11.q.1,x11.o.1,x11.o.2.1,x11.q.2.1,()),x11.1,()) fun x12=>
 A.l1 (.x .sym) x12.1 fun x13=>
 A.inr _<|A.ret _ (x13.1,()))<|
 A.inl _ (x11.2.2.1,x11.2.2.2.1,x11.q.1,x11.q.2.1,x11.q.2.2.1,x11.q.2.2.2.1,x11.o.1,x11.o.2.1,())) fun x10=>
 A.ret _ (A.mkX .sym (x10.q.1,x10.q.2.1,x10.2.2.1,x10.q.2.2.1,x10.q.2.2.2.1,x10.2.2.2.1,()),())) (x.2.1,x4.1,x.1,A.lit 0,A.lit 0,A.fL .sym 1 .poly x2.1,A.fI .sym 2 x2.1,A.fL .sym 3 .mono x2.1,A.fL .sym 4 .mono x2.1,A.fI .sym 5 x2.1,x3.1,())
def OO (A:Alg) (bX:Pt A bS) (bY:Ft A bS) (x:Tup A.ah [.i]):Ot A Dt:=
 A.l1 .b (A.bl false) fun x0=>
 A.cl bX bY (x.1,A.lit 1,A.lit 4,()) fun x1=>
 A.rb (A.au x1.1 (A.bl true) (A.cmp .eql x.1 (A.lit 6)))
def OP (A:Alg) (abT:Pt A Dt) (abU:Ft A Dt) (x:Tup A.ah [.l .iop,.i,.i]):Ot A sQ:=
 A.l1 .b (A.bl false) fun x0=>
 A.chk (A.orB (A.aA (A.au (A.cmp .geq x.2.1 (A.lit 0)) (A.cmp .lss x.2.1 x.2.2.1) (A.bl false))) (A.cmp .leq (A.lit 0) x.2.1))<|
 A.chk (A.orB (A.aA (A.au (A.cmp .geq x.2.1 (A.lit 0)) (A.cmp .lss x.2.1 x.2.2.1) (A.bl false))) (A.cmp .lss x.2.1 (A.len .iop x.1)))<|
 A.cg (A.au (A.cmp .geq x.2.1 (A.lit 0)) (A.cmp .lss x.2.1 x.2.2.1) (A.bl false)) abT abU (A.fI .iop 0 (A.get .iop x.1 x.2.1),()) fun x1=>
 A.rb (A.au (A.au (A.cmp .geq x.2.1 (A.lit 0)) (A.cmp .lss x.2.1 x.2.2.1) (A.bl false)) x1.1 (A.bl false))
def OQ (A:Alg) (qx:Pt A jE) (qy:Ft A jE) (bX:Pt A bS) (bY:Ft A bS) (nC:Pt A sQ) (nD:Ft A sQ) (x:Tup A.ah [.l .iop,.i,.i]):Ot A Du:=
 A.l1 .b (A.bl false) fun x0=>
 A.bd .iop x.1 x.2.1<|
 A.l1 (.x .iop) (A.get .iop x.1 x.2.1) fun x1=>
 A.l1 .b (A.cmp .eql (A.fI .iop 0 x1.1) (A.lit 1)) fun x2=>
 A.cond x2.1 (A.cg (A.au (A.cmp .eql (A.fI .iop 1 x1.1) (A.lit 0)) (A.cmp .eql (A.fI .iop 2 x1.1) (A.lit 0)) (A.bl false)) qx qy (A.fI .iop 3 x1.1,()) fun x3=>
 A.rb (A.au (A.au (A.au (A.cmp .eql (A.fI .iop 1 x1.1) (A.lit 0)) (A.cmp .eql (A.fI .iop 2 x1.1) (A.lit 0)) (A.bl false)) x3.1 (A.bl false)) (A.cmp .eql (A.fI .iop 4 x1.1) (A.lit 0)) (A.bl false)))<|
 A.l1 .b (A.cmp .eql (A.fI .iop 0 x1.1) (A.lit 2)) fun x3=>
 A.cond x3.1 (A.cg (A.au (A.cmp .eql (A.fI .iop 1 x1.1) (A.lit 0)) (A.cmp .eql (A.fI .iop 2 x1.1) (A.lit 0)) (A.bl false)) bX bY (A.fI .iop 3 x1.1,A.lit 0,A.lit 3,()) fun x4=>
 A.rb (A.au (A.au (A.au (A.cmp .eql (A.fI .iop 1 x1.1) (A.lit 0)) (A.cmp .eql (A.fI .iop 2 x1.1) (A.lit 0)) (A.bl false)) x4.1 (A.bl false)) (A.cmp .eql (A.fI .iop 4 x1.1) (A.lit 0)) (A.bl false)))<|
 A.l1 .b (A.cmp .eql (A.fI .iop 0 x1.1) (A.lit 3)) fun x4=>
 A.cond x4.1 (A.cl nC nD (x.1,A.fI .iop 1 x1.1,x.2.1,()) fun x5=>
 A.cg x5.1 nC nD (x.1,A.fI .iop 2 x1.1,x.2.1,()) fun x6=>
 A.cg (A.au x5.1 x6.1 (A.bl false)) bX bY (A.fI .iop 3 x1.1,A.lit 1,A.lit 5,()) fun x7=>
 A.rb (A.au (A.au (A.au x5.1 x6.1 (A.bl false)) x7.1 (A.bl false)) (A.cmp .eql (A.fI .iop 4 x1.1) (A.lit 0)) (A.bl false)))<|
 A.l1 .b (A.cmp .eql (A.fI .iop 0 x1.1) (A.lit 4)) fun x5=>
 A.bind [.l .iop,.i,.i,.i,.b,.x .iop] (A.cond x5.1 (A.ret _ (x.1,x.2.1,x.2.2.1,A.fI .iop 0 x1.1,x5.1,x1.1,()))<|
 A.l1 .b (A.cmp .eql (A.fI .iop 0 x1.1) (A.lit 7)) fun x6=>
 A.ret _ (x.1,x.2.1,x.2.2.1,A.fI .iop 0 x1.1,x6.1,x1.1,())) fun x6=>
 A.cond x6.q.1 (A.cl nC nD (x6.1,A.fI .iop 1 x6.q.2.1,x6.2.1,()) fun x7=>
 A.cg (A.au (A.au x7.1 (A.cmp .eql (A.fI .iop 2 x6.q.2.1) (A.lit 0)) (A.bl false)) (A.cmp .eql (A.fI .iop 3 x6.q.2.1) (A.lit 0)) (A.bl false)) bX bY (A.fI .iop 4 x6.q.2.1,A.lit 0,A.arith .sub .i64 x6.2.2.1 (A.lit 1),()) fun x8=>
 A.rb (A.au (A.au (A.au x7.1 (A.cmp .eql (A.fI .iop 2 x6.q.2.1) (A.lit 0)) (A.bl false)) (A.cmp .eql (A.fI .iop 3 x6.q.2.1) (A.lit 0)) (A.bl false)) x8.1 (A.bl false)))<|
 A.l1 .b (A.cmp .eql x6.2.2.2.1 (A.lit 5)) fun x7=>
 A.cond x7.1 (A.cl nC nD (x6.1,A.fI .iop 1 x6.q.2.1,x6.2.1,()) fun x8=>
 A.cg x8.1 nC nD (x6.1,A.fI .iop 2 x6.q.2.1,x6.2.1,()) fun x9=>
 A.cg (A.au (A.au x8.1 x9.1 (A.bl false)) (A.cmp .eql (A.fI .iop 3 x6.q.2.1) (A.lit 0)) (A.bl false)) bX bY (A.fI .iop 4 x6.q.2.1,A.lit 0,A.arith .sub .i64 x6.2.2.1 (A.lit 1),()) fun x10=>
 A.rb (A.au (A.au (A.au x8.1 x9.1 (A.bl false)) (A.cmp .eql (A.fI .iop 3 x6.q.2.1) (A.lit 0)) (A.bl false)) x10.1 (A.bl false)))<|
 A.l1 .b (A.cmp .eql x6.2.2.2.1 (A.lit 6)) fun x8=>
 A.cond x8.1 (A.cg (A.au (A.au (A.cmp .eql (A.fI .iop 1 x6.q.2.1) (A.lit 0)) (A.cmp .eql (A.fI .iop 2 x6.q.2.1) (A.lit 0)) (A.bl false)) (A.cmp .eql (A.fI .iop 3 x6.q.2.1) (A.lit 0)) (A.bl false)) bX bY (A.fI .iop 4 x6.q.2.1,A.lit 0,A.arith .sub .i64 x6.2.2.1 (A.lit 1),()) fun x9=>
 A.rb (A.au (A.au (A.au (A.cmp .eql (A.fI .iop 1 x6.q.2.1) (A.lit 0)) (A.cmp .eql (A.fI .iop 2 x6.q.2.1) (A.lit 0)) (A.bl false)) (A.cmp .eql (A.fI .iop 3 x6.q.2.1) (A.lit 0)) (A.bl false)) x9.1 (A.bl false)))<|
 A.l1 .b (A.cmp .eql x6.2.2.2.1 (A.lit 8)) fun x9=>
 A.cond x9.1 (A.cl nC nD (x6.1,A.fI .iop 1 x6.q.2.1,x6.2.1,()) fun x10=>
 A.cg (A.au x10.1 (A.cmp .eql (A.fI .iop 2 x6.q.2.1) (A.lit 0)) (A.bl false)) bX bY (A.fI .iop 3 x6.q.2.1,A.lit 0,A.lit 3,()) fun x11=>
 A.rb (A.au (A.au (A.au x10.1 (A.cmp .eql (A.fI .iop 2 x6.q.2.1) (A.lit 0)) (A.bl false)) x11.1 (A.bl false)) (A.cmp .eql (A.fI .iop 4 x6.q.2.1) (A.lit 0)) (A.bl false)))<|
 A.rb (A.bl false)
def OT (A:Alg) (qx:Pt A jE) (qy:Ft A jE) (nC:Pt A sQ) (nD:Ft A sQ) (x:Tup A.ah [.x .blk]):Ot A Dv:=
 A.l1 .b (A.bl false) fun x0=>
 A.l1 .i (A.len .iop (A.fL .blk 2 .iop x.1)) fun x1=>
 A.l1 .b (A.cmp .eql (A.fI .blk 3 x.1) (A.lit 1)) fun x2=>
 A.cond x2.1 (A.cg (A.au (A.cmp .eql (A.fI .blk 4 x.1) (A.lit 0)) (A.cmp .eql (A.fI .blk 5 x.1) (A.lit 0)) (A.bl false)) qx qy (A.fI .blk 6 x.1,()) fun x3=>
 A.rb (A.au (A.au (A.cmp .eql (A.fI .blk 4 x.1) (A.lit 0)) (A.cmp .eql (A.fI .blk 5 x.1) (A.lit 0)) (A.bl false)) x3.1 (A.bl false)))<|
 A.l1 .b (A.cmp .eql (A.fI .blk 3 x.1) (A.lit 2)) fun x3=>
 A.cond x3.1 (A.cl nC nD (A.fL .blk 2 .iop x.1,A.fI .blk 4 x.1,x1.1,()) fun x4=>
 A.rb (A.au (A.au x4.1 (A.cmp .eql (A.fI .blk 5 x.1) (A.lit 0)) (A.bl false)) (A.cmp .eql (A.fI .blk 6 x.1) (A.lit 0)) (A.bl false)))<|
 A.l1 .b (A.cmp .eql (A.fI .blk 3 x.1) (A.lit 3)) fun x4=>
 A.bind [.i,.b,.x .blk] (A.cond x4.1 (A.ret _ (x1.1,x4.1,x.1,()))<|
 A.l1 .b (A.cmp .eql (A.fI .blk 3 x.1) (A.lit 4)) fun x5=>
 A.ret _ (x1.1,x5.1,x.1,())) fun x5=>
 A.cond x5.2.1 (A.cl nC nD (A.fL .blk 2 .iop x5.2.2.1,A.fI .blk 4 x5.2.2.1,x5.1,()) fun x6=>
 A.cg x6.1 nC nD (A.fL .blk 2 .iop x5.2.2.1,A.fI .blk 5 x5.2.2.1,x5.1,()) fun x7=>
 A.cg (A.au x6.1 x7.1 (A.bl false)) qx qy (A.fI .blk 6 x5.2.2.1,()) fun x8=>
 A.rb (A.au (A.au x6.1 x7.1 (A.bl false)) x8.1 (A.bl false)))<|
 A.rb (A.bl false)
def OU (A:Alg) (bX:Pt A bS) (bY:Ft A bS) (abV:Pt A Dv) (abW:Ft A Dv) (abX:Pt A Du) (abY:Ft A Du) (x:Tup A.ah [.x .blk]):Ot A gq:=
 A.l1 .b (A.bl false) fun x0=>
 A.cl bX bY (A.fI .blk 1 x.1,A.lit 1,A.lit 8,()) fun x1=>
 A.cg (A.aA (A.aA x1.1)) bX bY (A.fI .blk 0 x.1,A.lit 0,A.arith .sub .i64 (A.lit 64) (A.fI .blk 1 x.1),()) fun x2=>
 A.cond (A.au (A.au (A.aA x1.1) (A.bl true) (A.aA x2.1)) (A.bl true) (A.cmp .gtr (A.len .iop (A.fL .blk 2 .iop x.1)) (A.lit 48))) (A.rb (A.bl false))<|
 A.l1 .i (A.lit 0) fun x3=>
 A.iter [.i,.x .blk] (fun x4=>
 A.cond (A.cmp .lss x4.1 (A.len .iop (A.fL .blk 2 .iop x4.2.1))) (A.cl abX abY (A.fL .blk 2 .iop x4.2.1,x4.1,A.fI .blk 1 x4.2.1,()) fun x5=>
 A.cond (A.aA x5.1) (A.l1 .b (A.bl false) fun x6=>
 A.inr _<|A.ret _ (x6.1,()))<|
 A.l1 .i (A.arith .add .i64 x4.1 (A.lit 1)) fun x6=>
 A.inl _ (x6.1,x4.2.1,()))<|
 A.inr _<|A.cl abV abW (x4.2.1,()) fun x5=>
 A.rb x5.1) (x3.1,x.1,())
def OV (A:Alg) (x:Tup A.ah [.x .atom]):Ot A Dw:=
 A.l1 .b (A.bl false) fun x0=>
 A.rb (A.au (A.cmp .eql (A.len .mono (A.fL .atom 2 .mono x.1)) (A.lit 0)) (A.cmp .eql (A.len .mono (A.fL .atom 3 .mono x.1)) (A.lit 0)) (A.bl false))
def OW (A:Alg) (x:Tup A.ah [.x .poly,.i]):Ot A Dx:=
 A.l1 .b (A.bl false) fun x0=>
 A.l1 .i (A.lit 0) fun x1=>
 A.iter [.i,.i,.x .poly] (fun x2=>
 A.cond (A.cmp .lss x2.2.1 (A.len .mono (A.fL .poly 0 .mono x2.2.2.1))) (A.l1 .i (A.lit 0) fun x3=>
 A.iter [.i,.i,.i,.x .poly] (fun x4=>
 A.bd .mono (A.fL .poly 0 .mono x4.2.2.2.1) x4.2.1<|
 A.cond (A.cmp .lss x4.2.2.1 (A.len .i64 (A.fL .mono 1 .i64 (A.get .mono (A.fL .poly 0 .mono x4.2.2.2.1) x4.2.1)))) (A.bd .mono (A.fL .poly 0 .mono x4.2.2.2.1) x4.2.1<|
 A.bd .i64 (A.fL .mono 1 .i64 (A.get .mono (A.fL .poly 0 .mono x4.2.2.2.1) x4.2.1)) x4.2.2.1<|
 A.cond (A.cmp .geq (A.fI .i64 0 (A.get .i64 (A.fL .mono 1 .i64 (A.get .mono (A.fL .poly 0 .mono x4.2.2.2.1) x4.2.1)) x4.2.2.1)) x4.1) (A.l1 .b (A.bl false) fun x5=>
 A.inr _<|A.inr _<|A.ret _ (x5.1,()))<|
 A.l1 .i (A.arith .add .i64 x4.2.2.1 (A.lit 1)) fun x5=>
 A.inl _ (x4.1,x4.2.1,x5.1,x4.2.2.2.1,()))<|
 A.inr _<|A.l1 .i (A.arith .add .i64 x4.2.1 (A.lit 1)) fun x5=>
 A.inl _ (x4.1,x5.1,x4.2.2.2.1,())) (x2.1,x2.2.1,x3.1,x2.2.2.1,()))<|
 A.inr _<|A.rb (A.bl true)) (x.2.1,x1.1,x.1,())
def OX (A:Alg) (bX:Pt A bS) (bY:Ft A bS) (gW:Pt A eU) (gX:Ft A eU) (V5:Pt A Dx) (V6:Ft A Dx) (V7:Pt A Dw) (V8:Ft A Dw) (x:Tup A.ah [.x .atom,.i]):Ot A sS:=
 A.l1 .b (A.bl false) fun x0=>
 A.l1 .b (A.cmp .eql (A.fI .atom 0 x.1) (A.lit 1)) fun x1=>
 A.cond x1.1 (A.cl bX bY (A.fI .atom 1 x.1,A.lit 0,A.lit 3,()) fun x2=>
 A.cg x2.1 V7 V8 (x.1,()) fun x3=>
 A.rb (A.au x2.1 x3.1 (A.bl false)))<|
 A.l1 .b (A.cmp .eql (A.fI .atom 0 x.1) (A.lit 2)) fun x2=>
 A.bind [.i,.i,.b,.x .atom] (A.cond x2.1 (A.ret _ (x.2.1,A.fI .atom 0 x.1,x2.1,x.1,()))<|
 A.l1 .b (A.cmp .eql (A.fI .atom 0 x.1) (A.lit 3)) fun x3=>
 A.ret _ (x.2.1,A.fI .atom 0 x.1,x3.1,x.1,())) fun x3=>
 A.cond x3.2.2.1 (A.cl bX bY (A.fI .atom 1 x3.2.2.2.1,A.lit 0,A.lit 199,()) fun x4=>
 A.cg x4.1 V7 V8 (x3.2.2.2.1,()) fun x5=>
 A.rb (A.au x4.1 x5.1 (A.bl false)))<|
 A.l1 .b (A.cmp .eql x3.2.1 (A.lit 4)) fun x4=>
 A.cond x4.1 (A.cl bX bY (A.fI .atom 1 x3.2.2.2.1,A.lit 1,A.lit 5,()) fun x5=>
 A.cg x5.1 gW gX (A.mkX .poly (A.fL .atom 2 .mono x3.2.2.2.1,()),()) fun x6=>
 A.cg (A.au x5.1 x6.1 (A.bl false)) gW gX (A.mkX .poly (A.fL .atom 3 .mono x3.2.2.2.1,()),()) fun x7=>
 A.cg (A.au (A.au x5.1 x6.1 (A.bl false)) x7.1 (A.bl false)) V5 V6 (A.mkX .poly (A.fL .atom 2 .mono x3.2.2.2.1,()),x3.1,()) fun x8=>
 A.cg (A.au (A.au (A.au x5.1 x6.1 (A.bl false)) x7.1 (A.bl false)) x8.1 (A.bl false)) V5 V6 (A.mkX .poly (A.fL .atom 3 .mono x3.2.2.2.1,()),x3.1,()) fun x9=>
 A.rb (A.au (A.au (A.au (A.au x5.1 x6.1 (A.bl false)) x7.1 (A.bl false)) x8.1 (A.bl false)) x9.1 (A.bl false)))<|
 A.rb (A.bl false)
def OY (A:Alg) (qz:Pt A jF) (qA:Ft A jF) (x:Tup A.ah [.x .atom,.x .atom]):Ot A sU:=
 A.l1 .b (A.bl false) fun x0=>
 A.cg (A.au (A.cmp .eql (A.fI .atom 0 x.1) (A.fI .atom 0 x.2.1)) (A.cmp .eql (A.fI .atom 1 x.1) (A.fI .atom 1 x.2.1)) (A.bl false)) qz qA (A.mkX .poly (A.fL .atom 2 .mono x.1,()),A.mkX .poly (A.fL .atom 2 .mono x.2.1,()),()) fun x1=>
 A.cg (A.au (A.au (A.cmp .eql (A.fI .atom 0 x.1) (A.fI .atom 0 x.2.1)) (A.cmp .eql (A.fI .atom 1 x.1) (A.fI .atom 1 x.2.1)) (A.bl false)) (A.cmp .eql x1.1 (A.lit 0)) (A.bl false)) qz qA (A.mkX .poly (A.fL .atom 3 .mono x.1,()),A.mkX .poly (A.fL .atom 3 .mono x.2.1,()),()) fun x2=>
 A.rb (A.au (A.au (A.au (A.cmp .eql (A.fI .atom 0 x.1) (A.fI .atom 0 x.2.1)) (A.cmp .eql (A.fI .atom 1 x.1) (A.fI .atom 1 x.2.1)) (A.bl false)) (A.cmp .eql x1.1 (A.lit 0)) (A.bl false)) (A.cmp .eql x2.1 (A.lit 0)) (A.bl false))
def OZ (A:Alg) (O5:Pt A sS) (O6:Ft A sS) (O7:Pt A sU) (O8:Ft A sU) (x:Tup A.ah [.x .tab]):Ot A Dy:=
 A.l1 .b (A.bl false) fun x0=>
 A.cond (A.cmp .gtr (A.len .atom (A.fL .tab 0 .atom x.1)) (A.lit 200)) (A.rb (A.bl false))<|
 A.l1 .i (A.lit 0) fun x1=>
 A.iter [.i,.x .tab] (fun x2=>
 A.cond (A.cmp .lss x2.1 (A.len .atom (A.fL .tab 0 .atom x2.2.1))) (A.bd .atom (A.fL .tab 0 .atom x2.2.1) x2.1<|
 A.cl O5 O6 (A.get .atom (A.fL .tab 0 .atom x2.2.1) x2.1,x2.1,()) fun x3=>
 A.cond (A.aA x3.1) (A.l1 .b (A.bl false) fun x4=>
 A.inr _<|A.ret _ (x4.1,()))<|
 A.l1 .i (A.lit 0) fun x4=>
 A.iter [.i,.i,.x .tab] (fun x5=>
 A.cond (A.cmp .lss x5.2.1 x5.1) (A.bd .atom (A.fL .tab 0 .atom x5.2.2.1) x5.2.1<|
 A.bd .atom (A.fL .tab 0 .atom x5.2.2.1) x5.1<|
 A.cl O7 O8 (A.get .atom (A.fL .tab 0 .atom x5.2.2.1) x5.2.1,A.get .atom (A.fL .tab 0 .atom x5.2.2.1) x5.1,()) fun x6=>
 A.cond x6.1 (A.l1 .b (A.bl false) fun x7=>
 A.inr _<|A.inr _<|A.ret _ (x7.1,()))<|
 A.l1 .i (A.arith .add .i64 x5.2.1 (A.lit 1)) fun x7=>
 A.inl _ (x5.1,x7.1,x5.2.2.1,()))<|
 A.inr _<|A.l1 .i (A.arith .add .i64 x5.1 (A.lit 1)) fun x6=>
 A.inl _ (x6.1,x5.2.2.1,())) (x2.1,x4.1,x2.2.1,()))<|
 A.inr _<|A.rb (A.bl true)) (x1.1,x.1,())
def O9 (A:Alg) (eZ:Pt A dD) (fA:Ft A dD) (x:Tup A.ah [.x .atom]):Ot A sV:=
 A.cl eZ fA (A.fL .atom 2 .mono x.1,()) fun x0=>
 A.cl eZ fA (A.fL .atom 3 .mono x.1,()) fun x1=>
 A.ret _ (A.fI .atom 0 x.1,A.fI .atom 1 x.1,x0.1,x1.1,())
def Pb (A:Alg) (Pf:Pt A sV) (Pg:Ft A sV) (x:Tup A.ah [.x .tab]):Ot A Dz:=
 A.l1 .i (A.lit 0) fun x0=>
 A.iter [.i,.x .tab,.l .atom] (fun x1=>
 A.cond (A.cmp .lss x1.1 (A.len .atom (A.fL .tab 0 .atom x1.2.1))) (A.bd .atom (A.fL .tab 0 .atom x1.2.1) x1.1<|
 A.cl Pf Pg (A.get .atom (A.fL .tab 0 .atom x1.2.1) x1.1,()) fun x2=>
 A.l1 (.l .atom) (A.lst .atom [A.mkX .atom (x2.1,x2.2.1,x2.2.2.1,x2.2.2.2.1,())]) fun x3=>
 A.chk (A.cmp .leq (A.addN (A.len .atom x1.2.2.1) (A.len .atom x3.1)) (A.lit 1073741824))<|
 A.l1 (.l .atom) (A.app .atom x1.2.2.1 x3.1) fun x4=>
 A.l1 .i (A.arith .add .i64 x1.1 (A.lit 1)) fun x5=>
 A.inl _ (x5.1,x1.2.1,x4.1,()))<|
 A.inr _<|A.ret _ (x1.2.2.1,())) (x0.1,x.1,A.bQ .atom,())
def Ph (A:Alg) (O5:Pt A sS) (O6:Ft A sS) (O7:Pt A sU) (O8:Ft A sU) (Pf:Pt A sV) (Pg:Ft A sV) (x:Tup A.ah [.x .atom,.l .atom]):Ot A lU:=
 A.l1 .i (A.lit 0) fun x0=>
 A.cl O5 O6 (x.1,A.len .atom x.2.1,()) fun x1=>
 A.cond (A.aA x1.1) (A.l1 .i (A.lit (-1)) fun x2=>
 A.ret _ (x2.1,x.2.1,()))<|
 A.l1 .i (A.lit 0) fun x2=>
 A.iter [.i,.l .atom,.x .atom] (fun x3=>
 A.cond (A.cmp .lss x3.1 (A.len .atom x3.2.1)) (A.bd .atom x3.2.1 x3.1<|
 A.bd .atom x3.2.1 x3.1<|
 A.cl O7 O8 (A.get .atom x3.2.1 x3.1,x3.2.2.1,()) fun x4=>
 A.cond x4.1 (A.l1 .i x3.1 fun x5=>
 A.inr _<|A.ret _ (x5.1,x3.2.1,()))<|
 A.l1 .i (A.arith .add .i64 x3.1 (A.lit 1)) fun x5=>
 A.inl _ (x5.1,x3.2.1,x3.2.2.1,()))<|
 A.inr _<|A.cond (A.cmp .eql (A.len .atom x3.2.1) (A.lit 200)) (A.l1 .i (A.lit (-1)) fun x4=>
 A.ret _ (x4.1,x3.2.1,()))<|
 A.cl Pf Pg (x3.2.2.1,()) fun x4=>
 A.l1 (.l .atom) (A.lst .atom [A.mkX .atom (x4.1,x4.2.1,x4.2.2.1,x4.2.2.2.1,())]) fun x5=>
 A.chk (A.cmp .leq (A.addN (A.len .atom x3.2.1) (A.len .atom x5.1)) (A.lit 1073741824))<|
 A.l1 (.l .atom) (A.app .atom x3.2.1 x5.1) fun x6=>
 A.l1 .i (A.arith .sub .i64 (A.len .atom x6.1) (A.lit 1)) fun x7=>
 A.ret _ (x7.1,x6.1,())) (x2.1,x.2.1,x.1,())
def Pj (A:Alg) (x:Tup A.ah [.i,.l .poly]):Ot A DC:=
 A.cond (A.au (A.cmp .lss x.1 (A.lit 0)) (A.bl true) (A.cmp .geq x.1 (A.len .poly x.2.1))) (A.ret _ (A.mkX .poly (A.bQ .mono,()),x.2.1,()))<|
 A.bd .poly x.2.1 x.1<|
 A.bd .poly x.2.1 x.1<|
 A.l1 (.x .poly) (A.get .poly x.2.1 x.1) fun x0=>
 A.ret _ (x0.1,x.2.1,())
def Pm (A:Alg) (Ox:Pt A sK) (Oy:Ft A sK) (zP:Pt A lQ) (zQ:Ft A lQ) (I8:Pt A sM) (I9:Ft A sM) (x:Tup A.ah [.i,.x .poly,.x .poly]):Ot A DF:=
 A.l1 .b (A.bl false) fun x0=>
 A.l1 .b (A.cmp .eql x.1 (A.lit 1)) fun x1=>
 A.cond x1.1 (A.cl zP zQ (x.2.1,x.2.2.1,()) fun x2=>
 A.l1 .b x2.1 fun x3=>
 A.ret _ (x3.1,x2.2.1,()))<|
 A.l1 .b (A.cmp .eql x.1 (A.lit 2)) fun x2=>
 A.cond x2.1 (A.cl I8 I9 (x.2.2.1,A.lit 65535,()) fun x3=>
 A.cl zP zQ (x.2.1,A.mkX .poly (x3.1,()),()) fun x4=>
 A.l1 .b x4.1 fun x5=>
 A.ret _ (x5.1,x4.2.1,()))<|
 A.l1 .b (A.cmp .eql x.1 (A.lit 3)) fun x3=>
 A.cond x3.1 (A.cl Ox Oy (x.2.1,x.2.2.1,()) fun x4=>
 A.l1 .b x4.1 fun x5=>
 A.ret _ (x5.1,x4.2.1,()))<|
 A.l1 .b (A.bl false) fun x4=>
 A.ret _ (x4.1,A.bQ .mono,())
def Pn (A:Alg) (qm:Pt A jD) (qo:Ft A jD) (qx:Pt A jE) (qy:Ft A jE) (x:Tup A.ah [.i,.i,.i]):Ot A sW:=
 A.l1 .i (A.lit 0) fun x0=>
 A.cl qx qy (x.2.1,()) fun x1=>
 A.cg (A.aA (A.aA x1.1)) qx qy (x.2.2.1,()) fun x2=>
 A.cond (A.au (A.aA x1.1) (A.bl true) (A.aA x2.1)) (A.l1 .i (A.lit 0) fun x3=>
 A.ret _ (x3.1,()))<|
 A.l1 .b (A.cmp .eql x.1 (A.lit 1)) fun x3=>
 A.cond x3.1 (A.cl qm qo (A.arith .add .i64 x.2.1 x.2.2.1,()) fun x4=>
 A.l1 .i x4.1 fun x5=>
 A.ret _ (x5.1,()))<|
 A.l1 .b (A.cmp .eql x.1 (A.lit 2)) fun x4=>
 A.cond x4.1 (A.cl qm qo (A.arith .sub .i64 x.2.1 x.2.2.1,()) fun x5=>
 A.l1 .i x5.1 fun x6=>
 A.ret _ (x6.1,()))<|
 A.l1 .b (A.cmp .eql x.1 (A.lit 3)) fun x5=>
 A.cond x5.1 (A.cl qm qo (A.arith .mul .i64 x.2.1 x.2.2.1,()) fun x6=>
 A.l1 .i x6.1 fun x7=>
 A.ret _ (x7.1,()))<|
 A.l1 .b (A.cmp .eql x.1 (A.lit 4)) fun x6=>
 A.cond x6.1 (A.l1 .i (A.arith .and .i64 x.2.1 x.2.2.1) fun x7=>
 A.ret _ (x7.1,()))<|
 A.l1 .b (A.cmp .eql x.1 (A.lit 5)) fun x7=>
 A.cond x7.1 (A.l1 .i (A.arith .xor .i64 x.2.1 x.2.2.1) fun x8=>
 A.ret _ (x8.1,()))<|
 A.l1 .i (A.lit 0) fun x8=>
 A.ret _ (x8.1,())
def Po (A:Alg) (eZ:Pt A dD) (fA:Ft A dD) (x:Tup A.ah [.i,.i,.x .poly]):Ot A DJ:=
 A.l1 .b (A.bl false) fun x0=>
 A.cond (A.au (A.cmp .eql x.1 (A.lit 4)) (A.cmp .eql x.2.1 (A.lit 0)) (A.bl false)) (A.l1 .b (A.bl true) fun x1=>
 A.ret _ (x1.1,A.bQ .mono,()))<|
 A.cond (A.au (A.au (A.cmp .eql x.1 (A.lit 4)) (A.cmp .eql x.2.1 (A.lit 65535)) (A.bl false)) (A.bl true) (A.au (A.cmp .eql x.1 (A.lit 5)) (A.cmp .eql x.2.1 (A.lit 0)) (A.bl false))) (A.cl eZ fA (A.fL .poly 0 .mono x.2.2.1,()) fun x1=>
 A.l1 .b (A.bl true) fun x2=>
 A.ret _ (x2.1,x1.1,()))<|
 A.l1 .b (A.bl false) fun x1=>
 A.ret _ (x1.1,A.bQ .mono,())
def Pp (A:Alg) (qz:Pt A jF) (qA:Ft A jF) (eZ:Pt A dD) (fA:Ft A dD) (Pq:Pt A sW) (Pv:Ft A sW) (nu:Pt A iw) (nA:Ft A iw) (xw:Pt A lT) (xA:Ft A lT) (V9:Pt A DJ) (Wh:Ft A DJ) (x:Tup A.ah [.i,.x .poly,.x .poly]):Ot A DK:=
 A.l1 .b (A.bl false) fun x0=>
 A.cl xw xA (x.2.1,()) fun x1=>
 A.l1 .i x1.1 fun x2=>
 A.l1 .b x1.2.1 fun x3=>
 A.cl xw xA (x.2.2.1,()) fun x4=>
 A.l1 .i x4.1 fun x5=>
 A.l1 .b x4.2.1 fun x6=>
 A.cond (A.au x3.1 x6.1 (A.bl false)) (A.cl Pq Pv (x.1,x2.1,x5.1,()) fun x7=>
 A.cl nu nA (x7.1,()) fun x8=>
 A.l1 .b (A.bl true) fun x9=>
 A.ret _ (x9.1,x8.1,()))<|
 A.cl qz qA (x.2.1,x.2.2.1,()) fun x7=>
 A.cond (A.cmp .eql x7.1 (A.lit 0)) (A.cond (A.cmp .eql x.1 (A.lit 4)) (A.cl eZ fA (A.fL .poly 0 .mono x.2.1,()) fun x8=>
 A.l1 .b (A.bl true) fun x9=>
 A.ret _ (x9.1,x8.1,()))<|
 A.l1 .b (A.bl true) fun x8=>
 A.ret _ (x8.1,A.bQ .mono,()))<|
 A.cond x3.1 (A.cl V9 Wh (x.1,x2.1,x.2.2.1,()) fun x8=>
 A.l1 .b x8.1 fun x9=>
 A.ret _ (x9.1,x8.2.1,()))<|
 A.cond x6.1 (A.cl V9 Wh (x.1,x5.1,x.2.1,()) fun x8=>
 A.l1 .b x8.1 fun x9=>
 A.ret _ (x9.1,x8.2.1,()))<|
 A.l1 .b (A.bl false) fun x8=>
 A.ret _ (x8.1,A.bQ .mono,())
def Pw (A:Alg) (qp:Pt A iy) (qw:Ft A iy) (qz:Pt A jF) (qA:Ft A jF) (abZ:Pt A DF) (ab0:Ft A DF) (ab1:Pt A DK) (ab2:Ft A DK) (Es:Pt A lU) (Eu:Ft A lU) (x:Tup A.ah [.i,.x .poly,.x .poly,.l .atom]):Ot A DL:=
 A.cl abZ ab0 (x.1,x.2.1,x.2.2.1,()) fun x0=>
 A.l1 .b x0.1 fun x1=>
 A.bind [.i,.b,.l .atom,.x .poly,.x .poly,.l .mono] (A.cond (A.au (A.cmp .eql x.1 (A.lit 4)) (A.bl true) (A.cmp .eql x.1 (A.lit 5))) (A.cl ab1 ab2 (x.1,x.2.1,x.2.2.1,()) fun x2=>
 A.l1 .b x2.1 fun x3=>
 A.ret _ (x.1,x3.1,x.2.2.2.1,x.2.1,x.2.2.1,x2.2.1,()))<|
 A.ret _ (x.1,x1.1,x.2.2.2.1,x.2.1,x.2.2.1,x0.2.1,())) fun x2=>
 A.cond x2.2.1 (A.ret _ (x2.2.2.1,x2.q.2.1,()))<|
 A.cg (A.cmp .neq x2.1 (A.lit 2)) qz qA (x2.2.2.2.1,x2.q.1,()) fun x3=>
 A.bind [.l .atom,.i,.i,.l .mono,.l .mono] (A.cond (A.au (A.cmp .neq x2.1 (A.lit 2)) (A.cmp .gtr x3.1 (A.lit 0)) (A.bl false)) (A.ret _ (x2.2.2.1,A.lit 4,x2.1,A.fL .poly 0 .mono x2.q.1,A.fL .poly 0 .mono x2.2.2.2.1,()))<|
 A.ret _ (x2.2.2.1,A.lit 4,x2.1,A.fL .poly 0 .mono x2.2.2.2.1,A.fL .poly 0 .mono x2.q.1,())) fun x4=>
 A.cl Es Eu (A.mkX .atom (x4.2.1,x4.2.2.1,x4.2.2.2.1,x4.q.1,()),x4.1,()) fun x5=>
 A.l1 .i x5.1 fun x6=>
 A.cond (A.cmp .lss x6.1 (A.lit 0)) (A.ret _ (A.bQ .atom,A.bQ .mono,()))<|
 A.cl qp qw (x6.1,()) fun x7=>
 A.ret _ (x5.2.1,x7.1,())
def Px (A:Alg) (x:Tup A.ah [.l .ev,.i]):Ot A DN:=
 A.l1 .i (A.lit 0) fun x0=>
 A.l1 .i (A.lit 0) fun x1=>
 A.l1 .i (A.lit 0) fun x2=>
 A.iter [.l .ev,.i,.i,.i] (fun x3=>
 A.cond (A.cmp .lss x3.2.2.2.1 (A.len .ev x3.1)) (A.bd .ev x3.1 x3.2.2.2.1<|
 A.bind [.l .ev,.i,.i,.i] (A.cond (A.cmp .eql (A.fI .ev 0 (A.get .ev x3.1 x3.2.2.2.1)) x3.2.1) (A.l1 .i (A.arith .add .i64 x3.2.2.1 (A.lit 1)) fun x4=>
 A.ret _ (x3.1,x3.2.1,x4.1,x3.2.2.2.1,()))<|
 A.ret _ (x3.1,x3.2.1,x3.2.2.1,x3.2.2.2.1,())) fun x4=>
 A.l1 .i (A.arith .add .i64 x4.2.2.2.1 (A.lit 1)) fun x5=>
 A.inl _ (x4.1,x4.2.1,x4.2.2.1,x5.1,()))<|
 A.inr _<|A.l1 .i x3.2.2.1 fun x4=>
 A.ret _ (x4.1,())) (x.1,x.2.1,x1.1,x2.1,())
def Py (A:Alg) (qp:Pt A iy) (qw:Ft A iy) (Es:Pt A lU) (Eu:Ft A lU) (ab3:Pt A DN) (ab4:Ft A DN) (x:Tup A.ah [.l .ev,.i,.l .atom]):Ot A DR:=
 A.cl ab3 ab4 (x.1,x.2.1,()) fun x0=>
 A.bind [.l .atom,.i,.i] (A.cond (A.cmp .eql x.2.1 (A.lit 6)) (A.l1 .i (A.lit 3) fun x1=>
 A.ret _ (x.2.2.1,x1.1,x0.1,()))<|
 A.ret _ (x.2.2.1,A.lit 2,x0.1,())) fun x1=>
 A.cl Es Eu (A.mkX .atom (x1.2.1,x1.2.2.1,A.bQ .mono,A.bQ .mono,()),x1.1,()) fun x2=>
 A.l1 .i x2.1 fun x3=>
 A.cl qp qw (x3.1,()) fun x4=>
 A.ret _ (x2.2.1,x4.1,())
def Pz (A:Alg) (eZ:Pt A dD) (fA:Ft A dD) (zR:Pt A lS) (zS:Ft A lS) (x:Tup A.ah [.x .iop,.x .poly,.x .poly,.l .poly]):Ot A DT:=
 A.bind [.l .poly,.x .iop,.x .poly,.i,.i,.i,.i,.l .mono] (A.cond (A.cmp .neq (A.fI .iop 0 x.1) (A.lit 6)) (A.cl eZ fA (A.fL .poly 0 .mono x.2.1,()) fun x0=>
 A.ret _ (x.2.2.2.1,x.1,x.2.2.1,A.lit 0,A.lit 0,A.fI .iop 0 x.1,A.fI .iop 4 x.1,x0.1,()))<|
 A.ret _ (x.2.2.2.1,x.1,x.2.2.1,A.lit 0,A.lit 0,A.fI .iop 0 x.1,A.fI .iop 4 x.1,A.bQ .mono,())) fun x0=>
 A.bind [.l .poly,.x .iop,.i,.i,.i,.i,.l .mono,.l .mono] (A.cond (A.cmp .eql (A.fI .iop 0 x0.2.1) (A.lit 5)) (A.cl eZ fA (A.fL .poly 0 .mono x0.2.2.1,()) fun x1=>
 A.ret _ (x0.1,x0.2.1,x0.2.2.2.1,x0.q.1,x0.q.2.1,x0.q.2.2.1,x0.q.2.2.2.1,x1.1,()))<|
 A.ret _ (x0.1,x0.2.1,x0.2.2.2.1,x0.q.1,x0.q.2.1,x0.q.2.2.1,x0.q.2.2.2.1,A.bQ .mono,())) fun x1=>
 A.bind [.i,.i,.i,.i,.l .mono,.l .mono,.l .poly] (A.cond (A.au (A.cmp .eql (A.fI .iop 0 x1.2.1) (A.lit 4)) (A.bl true) (A.cmp .eql (A.fI .iop 0 x1.2.1) (A.lit 5))) (A.cl zR zS (x1.1,()) fun x2=>
 A.ret _ (x1.2.2.1,x1.2.2.2.1,x1.q.1,x1.q.2.1,x1.q.2.2.1,x1.q.2.2.2.1,x2.1,()))<|
 A.ret _ (x1.2.2.1,x1.2.2.2.1,x1.q.1,x1.q.2.1,x1.q.2.2.1,x1.q.2.2.2.1,A.bQ .poly,())) fun x2=>
 A.ret _ (x2.2.2.1,x2.2.2.2.1,x2.q.1,x2.q.2.1,x2.q.2.2.1,())
def PD (A:Alg) (x:Tup A.ah [.x .blk]):Ot A DU:=
 A.l1 .i (A.lit 0) fun x0=>
 A.cond (A.cmp .eql (A.fI .blk 3 x.1) (A.lit 1)) (A.l1 .i (A.lit (-1)) fun x1=>
 A.ret _ (x1.1,()))<|
 A.l1 .i (A.fI .blk 4 x.1) fun x1=>
 A.ret _ (x1.1,())
def PE (A:Alg) (x:Tup A.ah [.x .blk]):Ot A DV:=
 A.l1 .i (A.lit 0) fun x0=>
 A.cond (A.au (A.cmp .eql (A.fI .blk 3 x.1) (A.lit 1)) (A.bl true) (A.cmp .eql (A.fI .blk 3 x.1) (A.lit 2))) (A.l1 .i (A.lit (-1)) fun x1=>
 A.ret _ (x1.1,()))<|
 A.l1 .i (A.fI .blk 5 x.1) fun x1=>
 A.ret _ (x1.1,())
def PG (A:Alg) (lV:Pt A gq) (lW:Ft A gq) (qp:Pt A iy) (qw:Ft A iy) (nu:Pt A iw) (nA:Ft A iw) (PI:Pt A sP) (PK:Ft A sP) (PL:Pt A sN) (PN:Ft A sN) (ab5:Pt A Dy) (ab6:Ft A Dy) (eZ:Pt A dD) (fA:Ft A dD) (ab7:Pt A Dz) (ab8:Ft A Dz) (ab9:Pt A DL) (acd:Ft A DL) (Es:Pt A lU) (Eu:Ft A lU) (ace:Pt A DR) (acf:Ft A DR) (acg:Pt A DT) (ach:Ft A DT) (Jc:Pt A DC) (Jd:Ft A DC) (zR:Pt A lS) (zS:Ft A lS) (aci:Pt A DU) (acj:Ft A DU) (acn:Pt A DV) (aco:Ft A DV) (x:Tup A.ah [.x .tab,.x .blk]):Ot A DW:=
 A.cl ab5 ab6 (x.1,()) fun x0=>
 A.cg (A.aA (A.aA x0.1)) lV lW (x.2.1,()) fun x1=>
 A.cond (A.au (A.au (A.aA x0.1) (A.bl true) (A.aA x1.1)) (A.bl true) (A.cmp .gtr (A.len .atom (A.fL .tab 0 .atom x.1)) (A.lit 100))) (A.ret _ (A.mkX .tab (A.bQ .atom,()),A.mkX .sym (A.bQ .ev,A.bQ .poly,A.lit 0,A.bQ .mono,A.bQ .mono,A.lit 0,()),()))<|
 A.cl ab7 ab8 (x.1,()) fun x2=>
 A.cl PL PN () fun x3=>
 A.l1 .i (A.lit 0) fun x4=>
 A.iter [.i,.x .blk,.i,.i,.i,.i,.l .poly,.l .atom] (fun x5=>
 A.cond (A.cmp .lss x5.1 (A.lit 4)) (A.cl Es Eu (A.mkX .atom (A.lit 1,x5.1,A.bQ .mono,A.bQ .mono,()),x5.q.2.2.2.1,()) fun x6=>
 A.l1 .i x6.1 fun x7=>
 A.cl qp qw (x7.1,()) fun x8=>
 A.bd .poly x5.q.2.2.1 x5.1<|
 A.bd .poly x5.q.2.2.1 x5.1<|
 A.l1 .i (A.arith .add .i64 x5.1 (A.lit 1)) fun x9=>
 A.inl _ (x9.1,x5.2.1,x5.2.2.1,x5.2.2.2.1,x5.q.1,x5.q.2.1,A.set .poly x5.q.2.2.1 x5.1 (A.mkX .poly (x8.1,())),x6.2.1,()))<|
 A.inr _<|A.l1 (.l .poly) (A.lst .poly []) fun x6=>
 A.l1 .i (A.lit 0) fun x7=>
 A.iter [.i,.x .blk,.i,.i,.i,.i,.l .poly,.l .poly,.l .atom,.l .ev] (fun x8=>
 A.cond (A.cmp .lss x8.1 (A.len .iop (A.fL .blk 2 .iop x8.2.1))) (A.bd .iop (A.fL .blk 2 .iop x8.2.1) x8.1<|
 A.l1 (.x .iop) (A.get .iop (A.fL .blk 2 .iop x8.2.1) x8.1) fun x9=>
 A.cl Jc Jd (A.fI .iop 1 x9.1,x8.q.2.2.2.1,()) fun x10=>
 A.l1 (.x .poly) x10.1 fun x11=>
 A.cl Jc Jd (A.fI .iop 2 x9.1,x10.2.1,()) fun x12=>
 A.l1 (.x .poly) x12.1 fun x13=>
 A.l1 .b (A.cmp .eql (A.fI .iop 0 x9.1) (A.lit 1)) fun x14=>
 A.bind [.i,.x .blk,.i,.i,.i,.i,.l .poly,.l .poly,.x .poly,.l .atom,.l .ev] (A.cond x14.1 (A.cl nu nA (A.fI .iop 3 x9.1,()) fun x15=>
 A.ret _ (x8.1,x8.2.1,x8.2.2.1,x8.2.2.2.1,x8.q.1,x8.q.2.1,x8.q.2.2.1,x12.2.1,A.mkX .poly (x15.1,()),x8.o.1,x8.o.2.1,()))<|
 A.l1 .b (A.cmp .eql (A.fI .iop 0 x9.1) (A.lit 2)) fun x15=>
 A.bind [.i,.x .blk,.i,.i,.i,.i,.l .poly,.l .poly,.x .poly,.l .atom,.l .ev] (A.cond x15.1 (A.bd .poly x8.q.2.2.1 (A.fI .iop 3 x9.1)<|
 A.bd .poly x8.q.2.2.1 (A.fI .iop 3 x9.1)<|
 A.l1 (.x .poly) (A.get .poly x8.q.2.2.1 (A.fI .iop 3 x9.1)) fun x16=>
 A.ret _ (x8.1,x8.2.1,x8.2.2.1,x8.2.2.2.1,x8.q.1,x8.q.2.1,x8.q.2.2.1,x12.2.1,x16.1,x8.o.1,x8.o.2.1,()))<|
 A.l1 .b (A.cmp .eql (A.fI .iop 0 x9.1) (A.lit 8)) fun x16=>
 A.bind [.i,.x .blk,.i,.i,.i,.i,.l .poly,.l .poly,.l .atom,.l .ev,.l .mono] (A.cond x16.1 (A.bd .poly x8.q.2.2.1 (A.fI .iop 3 x9.1)<|
 A.bd .poly x8.q.2.2.1 (A.fI .iop 3 x9.1)<|
 A.l1 (.x .poly) x11.1 fun x17=>
 A.ret _ (x8.1,x8.2.1,x8.2.2.1,x8.2.2.2.1,x8.q.1,x8.q.2.1,A.set .poly x8.q.2.2.1 (A.fI .iop 3 x9.1) x17.1,x12.2.1,x8.o.1,x8.o.2.1,A.bQ .mono,()))<|
 A.l1 .b (A.cmp .eql (A.fI .iop 0 x9.1) (A.lit 3)) fun x17=>
 A.bind [.i,.x .blk,.i,.i,.i,.i,.l .poly,.l .poly,.l .atom,.l .ev,.l .mono] (A.cond x17.1 (A.cl ab9 acd (A.fI .iop 3 x9.1,x11.1,x13.1,x8.o.1,()) fun x18=>
 A.ret _ (x8.1,x8.2.1,x8.2.2.1,x8.2.2.2.1,x8.q.1,x8.q.2.1,x8.q.2.2.1,x12.2.1,x18.1,x8.o.2.1,x18.2.1,()))<|
 A.bind [.i,.x .blk,.i,.i,.i,.i,.l .poly,.l .poly,.x .iop,.x .poly,.x .poly,.l .atom,.l .ev,.l .mono] (A.cond (A.au (A.cmp .eql (A.fI .iop 0 x9.1) (A.lit 4)) (A.bl true) (A.cmp .eql (A.fI .iop 0 x9.1) (A.lit 6))) (A.cl ace acf (x8.o.2.1,A.fI .iop 0 x9.1,x8.o.1,()) fun x18=>
 A.ret _ (x8.1,x8.2.1,x8.2.2.1,x8.2.2.2.1,x8.q.1,x8.q.2.1,x8.q.2.2.1,x12.2.1,x9.1,x11.1,x13.1,x18.1,x8.o.2.1,x18.2.1,()))<|
 A.ret _ (x8.1,x8.2.1,x8.2.2.1,x8.2.2.2.1,x8.q.1,x8.q.2.1,x8.q.2.2.1,x12.2.1,x9.1,x11.1,x13.1,x8.o.1,x8.o.2.1,A.bQ .mono,())) fun x18=>
 A.cl acg ach (x18.o.1,x18.o.2.1,x18.o.2.2.1,x18.q.2.2.1,()) fun x19=>
 A.l1 (.l .ev) (A.lst .ev [A.mkX .ev (x19.1,x19.2.1,x19.2.2.1,x19.2.2.2.1,x19.q.1,())]) fun x20=>
 A.chk (A.cmp .leq (A.addN (A.len .ev x18.o.q.1) (A.len .ev x20.1)) (A.lit 1073741824))<|
 A.l1 (.l .ev) (A.app .ev x18.o.q.1 x20.1) fun x21=>
 A.ret _ (x18.1,x18.2.1,x18.2.2.1,x18.2.2.2.1,x18.q.1,x18.q.2.1,x18.q.2.2.1,x18.q.2.2.2.1,x18.o.2.2.2.1,x21.1,x18.o.q.2.1,())) fun x18=>
 A.ret _ (x18.1,x18.2.1,x18.2.2.1,x18.2.2.2.1,x18.q.1,x18.q.2.1,x18.q.2.2.1,x18.q.2.2.2.1,x18.o.1,x18.o.2.1,x18.o.2.2.1,())) fun x17=>
 A.ret _ (x17.1,x17.2.1,x17.2.2.1,x17.2.2.2.1,x17.q.1,x17.q.2.1,x17.q.2.2.1,x17.q.2.2.2.1,A.mkX .poly (x17.o.2.2.1,()),x17.o.1,x17.o.2.1,())) fun x16=>
 A.ret _ (x16.1,x16.2.1,x16.2.2.1,x16.2.2.2.1,x16.q.1,x16.q.2.1,x16.q.2.2.1,x16.q.2.2.2.1,x16.o.1,x16.o.2.1,x16.o.2.2.1,())) fun x15=>
 A.l1 (.l .poly) (A.lst .poly [x15.o.1]) fun x16=>
 A.chk (A.cmp .leq (A.addN (A.len .poly x15.q.2.2.2.1) (A.len .poly x16.1)) (A.lit 1073741824))<|
 A.l1 (.l .poly) (A.app .poly x15.q.2.2.2.1 x16.1) fun x17=>
 A.l1 .i (A.arith .add .i64 x15.1 (A.lit 1)) fun x18=>
 A.inl _ (x18.1,x15.2.1,x15.2.2.1,x15.2.2.2.1,x15.q.1,x15.q.2.1,x15.q.2.2.1,x17.1,x15.o.2.1,x15.o.2.2.1,()))<|
 A.inr _<|A.cl zR zS (x8.q.2.2.1,()) fun x9=>
 A.cl aci acj (x8.2.1,()) fun x10=>
 A.cl Jc Jd (x10.1,x8.q.2.2.2.1,()) fun x11=>
 A.cl eZ fA (A.fL .poly 0 .mono x11.1,()) fun x12=>
 A.cl acn aco (x8.2.1,()) fun x13=>
 A.cl Jc Jd (x13.1,x11.2.1,()) fun x14=>
 A.cl eZ fA (A.fL .poly 0 .mono x14.1,()) fun x15=>
 A.cl PI PK (A.mkX .sym (x8.o.2.1,x9.1,x8.q.1,x12.1,x15.1,x8.q.2.1,()),A.arith .add .i64 (A.fI .blk 0 x8.2.1) (A.fI .blk 1 x8.2.1),()) fun x16=>
 A.l1 (.x .sym) x16.1 fun x17=>
 A.ret _ (A.mkX .tab (x8.o.1,()),x17.1,())) (x7.1,x5.2.1,x5.2.2.1,x5.2.2.2.1,x5.q.1,x5.q.2.1,x5.q.2.2.1,x6.1,x5.q.2.2.2.1,A.bQ .ev,())) (x4.1,x.2.1,A.lit 0,A.lit 0,A.fI .blk 3 x.2.1,A.fI .blk 6 x.2.1,x3.2.1,x2.1,())
def PO (A:Alg) (aR:Pt A cO) (aT:Ft A cO) (x:Tup A.ah [.l .u8,.i]):Ot A DX:=
 A.cl aR aT (A.lit 4,x.1,x.2.1,()) fun x0=>
 A.l1 .i x0.1 fun x1=>
 A.cl aR aT (A.lit 4,x0.2.1,x0.2.2.1,()) fun x2=>
 A.l1 .i x2.1 fun x3=>
 A.cl aR aT (A.lit 14,x2.2.1,x2.2.2.1,()) fun x4=>
 A.l1 .b (A.cmp .eql x4.1 (A.lit 0)) fun x5=>
 A.bind [.i,.i,.i,.b,.l .u8,.i,.i,.i,.i,.i] (A.cond x5.1 (A.ret _ (x1.1,x3.1,x4.1,x5.1,x4.2.1,x4.2.2.1,A.lit 0,A.lit 0,A.lit 0,A.lit 0,()))<|
 A.l1 .b (A.cmp .eql x4.1 (A.lit 1)) fun x6=>
 A.ret _ (x1.1,x3.1,x4.1,x6.1,x4.2.1,x4.2.2.1,A.lit 0,A.lit 0,A.lit 0,A.lit 0,())) fun x6=>
 A.cond x6.2.2.2.1 (A.cl aR aT (A.lit 64,x6.q.1,x6.q.2.1,()) fun x7=>
 A.cl aR aT (A.lit 256,x7.2.1,x7.2.2.1,()) fun x8=>
 A.l1 (.l .i64) (A.lst .i64 [A.mkX .i64 (A.lit 0,()),A.mkX .i64 (A.lit 1,()),A.mkX .i64 (A.lit 2,()),A.mkX .i64 (x7.1,()),A.mkX .i64 (x8.1,()),A.mkX .i64 (A.lit 255,())]) fun x9=>
 A.cl aR aT (A.lit 6,x8.2.1,x8.2.2.1,()) fun x10=>
 A.bd .i64 x9.1 x10.1<|
 A.bd .i64 x9.1 x10.1<|
 A.ret _ (A.lit 1,x6.1,A.lit 0,A.fI .i64 0 (A.get .i64 x9.1 x10.1),x10.2.1,x10.2.2.1,()))<|
 A.l1 .b (A.cmp .eql x6.2.2.1 (A.lit 2)) fun x7=>
 A.cond x7.1 (A.ret _ (A.lit 2,x6.1,x6.2.1,A.lit 0,x6.q.1,x6.q.2.1,()))<|
 A.l1 .b (A.cmp .eql x6.2.2.1 (A.lit 3)) fun x8=>
 A.bind [.i,.i,.i,.b,.l .u8,.i,.i,.i,.i,.i] (A.cond x8.1 (A.ret _ (x6.1,x6.2.1,x6.2.2.1,x8.1,x6.q.1,x6.q.2.1,x6.q.2.2.1,x6.q.2.2.2.1,x6.o.1,x6.o.2.1,()))<|
 A.l1 .b (A.cmp .eql x6.2.2.1 (A.lit 4)) fun x9=>
 A.bind [.i,.i,.i,.b,.l .u8,.i,.i,.i,.i,.i] (A.cond x9.1 (A.ret _ (x6.1,x6.2.1,x6.2.2.1,x9.1,x6.q.1,x6.q.2.1,x6.q.2.2.1,x6.q.2.2.2.1,x6.o.1,x6.o.2.1,()))<|
 A.l1 .b (A.cmp .eql x6.2.2.1 (A.lit 5)) fun x10=>
 A.ret _ (x6.1,x6.2.1,x6.2.2.1,x10.1,x6.q.1,x6.q.2.1,x6.q.2.2.1,x6.q.2.2.2.1,x6.o.1,x6.o.2.1,())) fun x10=>
 A.ret _ (x10.1,x10.2.1,x10.2.2.1,x10.2.2.2.1,x10.q.1,x10.q.2.1,x10.q.2.2.1,x10.q.2.2.2.1,x10.o.1,x10.o.2.1,())) fun x9=>
 A.cond x9.2.2.2.1 (A.cl aR aT (A.lit 5,x9.q.1,x9.q.2.1,()) fun x10=>
 A.cl aR aT (A.lit 4,x10.2.1,x10.2.2.1,()) fun x11=>
 A.ret _ (A.arith .add .i64 (A.lit 3) x10.1,x9.1,x9.2.1,x11.1,x11.2.1,x11.2.2.1,()))<|
 A.l1 .b (A.cmp .eql x9.2.2.1 (A.lit 6)) fun x10=>
 A.cond x10.1 (A.cl aR aT (A.lit 16,x9.q.1,x9.q.2.1,()) fun x11=>
 A.l1 (.l .i64) (A.lst .i64 [A.mkX .i64 (A.lit 0,()),A.mkX .i64 (A.lit 1,()),A.mkX .i64 (A.lit 8,()),A.mkX .i64 (A.lit 15,()),A.mkX .i64 (x11.1,())]) fun x12=>
 A.cl aR aT (A.lit 5,x11.2.1,x11.2.2.1,()) fun x13=>
 A.bd .i64 x12.1 x13.1<|
 A.bd .i64 x12.1 x13.1<|
 A.ret _ (A.lit 8,x9.1,x9.2.1,A.fI .i64 0 (A.get .i64 x12.1 x13.1),x13.2.1,x13.2.2.1,()))<|
 A.l1 .b (A.cmp .eql x9.2.2.1 (A.lit 7)) fun x11=>
 A.bind [.i,.i,.i,.b,.l .u8,.i,.i,.i,.i,.i] (A.cond x11.1 (A.ret _ (x9.1,x9.2.1,x9.2.2.1,x11.1,x9.q.1,x9.q.2.1,x9.q.2.2.1,x9.q.2.2.2.1,x9.o.1,x9.o.2.1,()))<|
 A.l1 .b (A.cmp .eql x9.2.2.1 (A.lit 8)) fun x12=>
 A.ret _ (x9.1,x9.2.1,x9.2.2.1,x12.1,x9.q.1,x9.q.2.1,x9.q.2.2.1,x9.q.2.2.2.1,x9.o.1,x9.o.2.1,())) fun x12=>
 A.cond x12.2.2.2.1 (A.cl aR aT (A.lit 2,x12.q.1,x12.q.2.1,()) fun x13=>
 A.cl aR aT (A.lit 64,x13.2.1,x13.2.2.1,()) fun x14=>
 A.l1 (.l .i64) (A.lst .i64 [A.mkX .i64 (A.lit 0,()),A.mkX .i64 (A.lit 1,()),A.mkX .i64 (x14.1,()),A.mkX .i64 (A.lit 63,()),A.mkX .i64 (A.lit 64,()),A.mkX .i64 (A.lit 255,())]) fun x15=>
 A.cl aR aT (A.lit 6,x14.2.1,x14.2.2.1,()) fun x16=>
 A.bd .i64 x15.1 x16.1<|
 A.bd .i64 x15.1 x16.1<|
 A.ret _ (A.arith .add .i64 (A.lit 9) x13.1,x12.1,x12.2.1,A.fI .i64 0 (A.get .i64 x15.1 x16.1),x16.2.1,x16.2.2.1,()))<|
 A.l1 .b (A.cmp .eql x12.2.2.1 (A.lit 9)) fun x13=>
 A.cond x13.1 (A.cl aR aT (A.lit 2,x12.q.1,x12.q.2.1,()) fun x14=>
 A.cl aR aT (A.lit 20,x14.2.1,x14.2.2.1,()) fun x15=>
 A.cl aR aT (A.lit 64,x15.2.1,x15.2.2.1,()) fun x16=>
 A.l1 (.l .i64) (A.lst .i64 [A.mkX .i64 (x15.1,()),A.mkX .i64 (x16.1,()),A.mkX .i64 (A.lit 200,())]) fun x17=>
 A.cl aR aT (A.lit 3,x16.2.1,x16.2.2.1,()) fun x18=>
 A.bd .i64 x17.1 x18.1<|
 A.bd .i64 x17.1 x18.1<|
 A.ret _ (A.arith .add .i64 (A.lit 11) x14.1,x12.1,x12.2.1,A.fI .i64 0 (A.get .i64 x17.1 x18.1),x18.2.1,x18.2.2.1,()))<|
 A.l1 .b (A.cmp .eql x12.2.2.1 (A.lit 10)) fun x14=>
 A.cond x14.1 (A.cl aR aT (A.lit 2,x12.q.1,x12.q.2.1,()) fun x15=>
 A.ret _ (A.arith .add .i64 (A.lit 14) x15.1,x12.1,A.lit 0,A.lit 0,x15.2.1,x15.2.2.1,()))<|
 A.l1 .b (A.cmp .eql x12.2.2.1 (A.lit 11)) fun x15=>
 A.cond x15.1 (A.cl aR aT (A.lit 4,x12.q.1,x12.q.2.1,()) fun x16=>
 A.ret _ (A.lit 0,A.lit 0,A.lit 0,x16.1,x16.2.1,x16.2.2.1,()))<|
 A.l1 .b (A.cmp .eql x12.2.2.1 (A.lit 12)) fun x16=>
 A.cond x16.1 (A.ret _ (A.lit 13,A.lit 0,x12.2.1,A.lit 0,x12.q.1,x12.q.2.1,()))<|
 A.ret _ (A.lit 14,x12.1,A.lit 0,A.lit 0,x12.q.1,x12.q.2.1,())
def PS (A:Alg) (x:Tup A.ah [.x .ins]):Ot A DY:=
 A.l1 .b (A.bl false) fun x0=>
 A.l1 .b (A.cmp .eql (A.fI .ins 0 x.1) (A.lit 0)) fun x1=>
 A.cond x1.1 (A.rb (A.au (A.au (A.cmp .eql (A.fI .ins 1 x.1) (A.lit 0)) (A.cmp .eql (A.fI .ins 2 x.1) (A.lit 0)) (A.bl false)) (A.cmp .leq (A.fI .ins 3 x.1) (A.lit 3)) (A.bl false)))<|
 A.l1 .b (A.cmp .eql (A.fI .ins 0 x.1) (A.lit 1)) fun x2=>
 A.cond x2.1 (A.rb (A.cmp .eql (A.fI .ins 2 x.1) (A.lit 0)))<|
 A.l1 .b (A.cmp .eql (A.fI .ins 0 x.1) (A.lit 2)) fun x3=>
 A.cond x3.1 (A.rb (A.cmp .eql (A.fI .ins 3 x.1) (A.lit 0)))<|
 A.l1 .b (A.cmp .eql (A.fI .ins 0 x.1) (A.lit 3)) fun x4=>
 A.bind [.i,.b,.x .ins] (A.cond x4.1 (A.ret _ (A.fI .ins 0 x.1,x4.1,x.1,()))<|
 A.l1 .b (A.cmp .eql (A.fI .ins 0 x.1) (A.lit 4)) fun x5=>
 A.bind [.i,.b,.x .ins] (A.cond x5.1 (A.ret _ (A.fI .ins 0 x.1,x5.1,x.1,()))<|
 A.l1 .b (A.cmp .eql (A.fI .ins 0 x.1) (A.lit 5)) fun x6=>
 A.bind [.i,.b,.x .ins] (A.cond x6.1 (A.ret _ (A.fI .ins 0 x.1,x6.1,x.1,()))<|
 A.l1 .b (A.cmp .eql (A.fI .ins 0 x.1) (A.lit 6)) fun x7=>
 A.bind [.i,.b,.x .ins] (A.cond x7.1 (A.ret _ (A.fI .ins 0 x.1,x7.1,x.1,()))<|
 A.l1 .b (A.cmp .eql (A.fI .ins 0 x.1) (A.lit 7)) fun x8=>
 A.ret _ (A.fI .ins 0 x.1,x8.1,x.1,())) fun x8=>
 A.ret _ (x8.1,x8.2.1,x8.2.2.1,())) fun x7=>
 A.ret _ (x7.1,x7.2.1,x7.2.2.1,())) fun x6=>
 A.ret _ (x6.1,x6.2.1,x6.2.2.1,())) fun x5=>
 A.cond x5.2.1 (A.rb (A.cmp .lss (A.fI .ins 3 x5.2.2.1) (A.lit 4)))<|
 A.l1 .b (A.cmp .eql x5.1 (A.lit 8)) fun x6=>
 A.cond x6.1 (A.rb (A.cmp .lss (A.fI .ins 3 x5.2.2.1) (A.lit 16)))<|
 A.l1 .b (A.cmp .eql x5.1 (A.lit 13)) fun x7=>
 A.cond x7.1 (A.rb (A.au (A.cmp .eql (A.fI .ins 1 x5.2.2.1) (A.lit 0)) (A.cmp .eql (A.fI .ins 3 x5.2.2.1) (A.lit 0)) (A.bl false)))<|
 A.l1 .b (A.cmp .eql x5.1 (A.lit 14)) fun x8=>
 A.bind [.b,.x .ins] (A.cond x8.1 (A.ret _ (x8.1,x5.2.2.1,()))<|
 A.l1 .b (A.cmp .eql x5.1 (A.lit 15)) fun x9=>
 A.ret _ (x9.1,x5.2.2.1,())) fun x9=>
 A.cond x9.1 (A.rb (A.au (A.cmp .eql (A.fI .ins 2 x9.2.1) (A.lit 0)) (A.cmp .eql (A.fI .ins 3 x9.2.1) (A.lit 0)) (A.bl false)))<|
 A.rb (A.bl true)
def PU (A:Alg) (bX:Pt A bS) (bY:Ft A bS) (acp:Pt A DY) (acr:Ft A DY) (x:Tup A.ah [.x .ins]):Ot A sZ:=
 A.l1 .b (A.bl false) fun x0=>
 A.cl bX bY (A.fI .ins 0 x.1,A.lit 0,A.lit 15,()) fun x1=>
 A.cg x1.1 bX bY (A.fI .ins 1 x.1,A.lit 0,A.lit 3,()) fun x2=>
 A.cg (A.au x1.1 x2.1 (A.bl false)) bX bY (A.fI .ins 2 x.1,A.lit 0,A.lit 3,()) fun x3=>
 A.cg (A.au (A.au x1.1 x2.1 (A.bl false)) x3.1 (A.bl false)) bX bY (A.fI .ins 3 x.1,A.lit 0,A.lit 255,()) fun x4=>
 A.cg (A.au (A.au (A.au x1.1 x2.1 (A.bl false)) x3.1 (A.bl false)) x4.1 (A.bl false)) acp acr (x.1,()) fun x5=>
 A.rb (A.au (A.au (A.au (A.au x1.1 x2.1 (A.bl false)) x3.1 (A.bl false)) x4.1 (A.bl false)) x5.1 (A.bl false))
def PW (A:Alg) (x:Tup A.ah [.i]):Ot A tq:=
 A.l1 .b (A.bl false) fun x0=>
 A.rb (A.au (A.au (A.cmp .eql x.1 (A.lit 11)) (A.bl true) (A.cmp .eql x.1 (A.lit 12))) (A.bl true) (A.cmp .eql x.1 (A.lit 13)))
def PX (A:Alg) (PY:Pt A tq) (PZ:Ft A tq) (P5:Pt A sZ) (P6:Ft A sZ) (x:Tup A.ah [.x .ins]):Ot A tu:=
 A.l1 .b (A.bl false) fun x0=>
 A.cl P5 P6 (x.1,()) fun x1=>
 A.cg (A.au x1.1 (A.cmp .neq (A.fI .ins 0 x.1) (A.lit 0)) (A.bl false)) PY PZ (A.fI .ins 0 x.1,()) fun x2=>
 A.rb (A.au (A.au x1.1 (A.cmp .neq (A.fI .ins 0 x.1) (A.lit 0)) (A.bl false)) (A.aA x2.1) (A.bl false))
def P7 (A:Alg) (acs:Pt A DX) (acu:Ft A DX) (aR:Pt A cO) (aT:Ft A cO) (P8:Pt A tu) (P9:Ft A tu) (x:Tup A.ah [.l .u8,.i]):Ot A DZ:=
 A.cl acs acu (x.1,x.2.1,()) fun x0=>
 A.cl P8 P9 (A.mkX .ins (x0.1,x0.2.1,x0.2.2.1,x0.2.2.2.1,()),()) fun x1=>
 A.cond (A.aA x1.1) (A.cl aR aT (A.lit 4,x0.q.1,x0.q.2.1,()) fun x2=>
 A.ret _ (A.lit 3,x0.2.1,x0.2.2.1,x2.1,x2.2.1,x2.2.2.1,()))<|
 A.ret _ (x0.1,x0.2.1,x0.2.2.1,x0.2.2.2.1,x0.q.1,x0.q.2.1,())
def Qa (A:Alg) (Wi:Pt A DZ) (Wj:Ft A DZ) (aR:Pt A cO) (aT:Ft A cO) (x:Tup A.ah [.l .u8,.i]):Ot A D5:=
 A.l1 (.l .ins) (A.lst .ins []) fun x0=>
 A.cl aR aT (A.lit 8,x.1,x.2.1,()) fun x1=>
 A.l1 .i x1.1 fun x2=>
 A.iter [.i,.l .u8,.i,.l .ins] (fun x3=>
 A.cond (A.cmp .gtr x3.1 (A.lit 0)) (A.cl Wi Wj (x3.2.1,x3.2.2.1,()) fun x4=>
 A.l1 (.l .ins) (A.lst .ins [A.mkX .ins (x4.1,x4.2.1,x4.2.2.1,x4.2.2.2.1,())]) fun x5=>
 A.chk (A.cmp .leq (A.addN (A.len .ins x3.2.2.2.1) (A.len .ins x5.1)) (A.lit 1073741824))<|
 A.l1 (.l .ins) (A.app .ins x3.2.2.2.1 x5.1) fun x6=>
 A.l1 .i (A.arith .sub .i64 x3.1 (A.lit 1)) fun x7=>
 A.inl _ (x7.1,x4.q.1,x4.q.2.1,x6.1,()))<|
 A.inr _<|A.cl aR aT (A.lit 3,x3.2.1,x3.2.2.1,()) fun x4=>
 A.l1 .b (A.cmp .eql x4.1 (A.lit 0)) fun x5=>
 A.cond x5.1 (A.cl aR aT (A.lit 2,x4.2.1,x4.2.2.1,()) fun x6=>
 A.cl aR aT (A.lit 4,x6.2.1,x6.2.2.1,()) fun x7=>
 A.cl aR aT (A.lit 4,x7.2.1,x7.2.2.1,()) fun x8=>
 A.cl aR aT (A.lit 64,x8.2.1,x8.2.2.1,()) fun x9=>
 A.l1 (.l .ins) (A.lst .ins [A.mkX .ins (A.arith .add .i64 (A.lit 11) x6.1,x7.1,x8.1,x9.1,())]) fun x10=>
 A.chk (A.cmp .leq (A.addN (A.len .ins x3.2.2.2.1) (A.len .ins x10.1)) (A.lit 1073741824))<|
 A.l1 (.l .ins) (A.app .ins x3.2.2.2.1 x10.1) fun x11=>
 A.ret _ (x9.2.1,x9.2.2.1,x11.1,()))<|
 A.l1 .b (A.cmp .eql x4.1 (A.lit 1)) fun x6=>
 A.cond x6.1 (A.cl aR aT (A.lit 4,x4.2.1,x4.2.2.1,()) fun x7=>
 A.l1 (.l .ins) (A.lst .ins [A.mkX .ins (A.lit 13,A.lit 0,x7.1,A.lit 0,())]) fun x8=>
 A.chk (A.cmp .leq (A.addN (A.len .ins x3.2.2.2.1) (A.len .ins x8.1)) (A.lit 1073741824))<|
 A.l1 (.l .ins) (A.app .ins x3.2.2.2.1 x8.1) fun x9=>
 A.ret _ (x7.2.1,x7.2.2.1,x9.1,()))<|
 A.cl Wi Wj (x4.2.1,x4.2.2.1,()) fun x7=>
 A.l1 (.l .ins) (A.lst .ins [A.mkX .ins (x7.1,x7.2.1,x7.2.2.1,x7.2.2.2.1,())]) fun x8=>
 A.chk (A.cmp .leq (A.addN (A.len .ins x3.2.2.2.1) (A.len .ins x8.1)) (A.lit 1073741824))<|
 A.l1 (.l .ins) (A.app .ins x3.2.2.2.1 x8.1) fun x9=>
 A.ret _ (x7.q.1,x7.q.2.1,x9.1,())) (x2.1,x1.2.1,x1.2.2.1,x0.1,())
def Qb (A:Alg) (PY:Pt A tq) (PZ:Ft A tq) (P5:Pt A sZ) (P6:Ft A sZ) (bX:Pt A bS) (bY:Ft A bS) (P8:Pt A tu) (P9:Ft A tu) (x:Tup A.ah [.i,.l .ins]):Ot A D6:=
 A.l1 .b (A.bl false) fun x0=>
 A.cl bX bY (A.len .ins x.2.1,A.lit 1,A.lit 8,()) fun x1=>
 A.cg (A.aA (A.aA x1.1)) bX bY (x.1,A.lit 0,A.arith .sub .i64 (A.lit 64) (A.len .ins x.2.1),()) fun x2=>
 A.cond (A.au (A.aA x1.1) (A.bl true) (A.aA x2.1)) (A.rb (A.bl false))<|
 A.l1 .i (A.lit 0) fun x3=>
 A.iter [.l .ins,.i] (fun x4=>
 A.cond (A.cmp .lss x4.2.1 (A.len .ins x4.1)) (A.bd .ins x4.1 x4.2.1<|
 A.cl P8 P9 (A.get .ins x4.1 x4.2.1,()) fun x5=>
 A.chk (A.orB (A.aA (A.jy (A.aA x5.1) (A.aA (A.cmp .lss x4.2.1 (A.arith .sub .i64 (A.len .ins x4.1) (A.lit 1)))))) (A.cmp .leq (A.lit 0) x4.2.1))<|
 A.chk (A.orB (A.aA (A.jy (A.aA x5.1) (A.aA (A.cmp .lss x4.2.1 (A.arith .sub .i64 (A.len .ins x4.1) (A.lit 1)))))) (A.cmp .lss x4.2.1 (A.len .ins x4.1)))<|
 A.cg (A.jy (A.aA x5.1) (A.aA (A.cmp .lss x4.2.1 (A.arith .sub .i64 (A.len .ins x4.1) (A.lit 1))))) P5 P6 (A.get .ins x4.1 x4.2.1,()) fun x6=>
 A.chk (A.orB (A.aA (A.jy (A.aA x5.1) (A.aA (A.au (A.cmp .lss x4.2.1 (A.arith .sub .i64 (A.len .ins x4.1) (A.lit 1))) (A.bl true) (A.aA x6.1))))) (A.cmp .leq (A.lit 0) x4.2.1))<|
 A.chk (A.orB (A.aA (A.jy (A.aA x5.1) (A.aA (A.au (A.cmp .lss x4.2.1 (A.arith .sub .i64 (A.len .ins x4.1) (A.lit 1))) (A.bl true) (A.aA x6.1))))) (A.cmp .lss x4.2.1 (A.len .ins x4.1)))<|
 A.cg (A.jy (A.aA x5.1) (A.aA (A.au (A.cmp .lss x4.2.1 (A.arith .sub .i64 (A.len .ins x4.1) (A.lit 1))) (A.bl true) (A.aA x6.1)))) PY PZ (A.fI .ins 0 (A.get .ins x4.1 x4.2.1),()) fun x7=>
 A.cond (A.au (A.aA x5.1) (A.au (A.au (A.cmp .lss x4.2.1 (A.arith .sub .i64 (A.len .ins x4.1) (A.lit 1))) (A.bl true) (A.aA x6.1)) (A.bl true) (A.aA x7.1)) (A.bl false)) (A.l1 .b (A.bl false) fun x8=>
 A.inr _<|A.ret _ (x8.1,()))<|
 A.l1 .i (A.arith .add .i64 x4.2.1 (A.lit 1)) fun x8=>
 A.inl _ (x4.1,x8.1,()))<|
 A.inr _<|A.rb (A.bl true)) (x.2.1,x3.1,())
def Qc (A:Alg) (x:Tup A.ah [.i,.i,.i,.i,.i,.i,.x .iop,.l .iop]):Ot A iA:=
 A.l1 .i (A.lit 0) fun x0=>
 A.l1 (.l .iop) (A.lst .iop [x.q.2.2.1]) fun x1=>
 A.chk (A.cmp .leq (A.addN (A.len .iop x.q.2.2.2.1) (A.len .iop x1.1)) (A.lit 1073741824))<|
 A.l1 (.l .iop) (A.app .iop x.q.2.2.2.1 x1.1) fun x2=>
 A.l1 .i (A.arith .sub .i64 (A.len .iop x2.1) (A.lit 1)) fun x3=>
 A.ret _ (x.1,x.2.1,x.2.2.1,x.2.2.2.1,x.q.1,x.q.2.1,x3.1,x2.1,())
def Qd (A:Alg) (jS:Pt A iA) (jT:Ft A iA) (x:Tup A.ah [.i,.i,.i,.i,.i,.i,.i,.i,.l .iop]):Ot A tC:=
 A.cl jS jT (x.1,x.2.1,x.2.2.1,x.2.2.2.1,x.q.1,x.q.2.1,A.mkX .iop (A.lit 8,x.q.2.2.2.1,A.lit 0,x.q.2.2.1,A.lit 0,()),x.o.1,()) fun x0=>
 A.l1 .i x0.q.2.2.1 fun x1=>
 A.ret _ (x0.1,x0.2.1,x0.2.2.1,x0.2.2.2.1,x0.q.1,x0.q.2.1,x0.q.2.2.2.1,())
def Qe (A:Alg) (jS:Pt A iA) (jT:Ft A iA) (x:Tup A.ah [.i,.i,.i,.i,.i,.i,.i,.l .iop]):Ot A jG:=
 A.l1 .i (A.lit 0) fun x0=>
 A.cl jS jT (x.1,x.2.1,x.2.2.1,x.2.2.2.1,x.q.1,x.q.2.1,A.mkX .iop (A.lit 2,A.lit 0,A.lit 0,x.q.2.2.1,A.lit 0,()),x.q.2.2.2.1,()) fun x1=>
 A.l1 .i x1.q.2.2.1 fun x2=>
 A.ret _ (x1.1,x1.2.1,x1.2.2.1,x1.2.2.2.1,x1.q.1,x1.q.2.1,x2.1,x1.q.2.2.2.1,())
def Qf (A:Alg) (nG:Pt A jG) (nH:Ft A jG) (jS:Pt A iA) (jT:Ft A iA) (x:Tup A.ah [.i,.i,.i,.i,.i,.i,.i,.i,.x .iop,.l .iop]):Ot A tF:=
 A.l1 .i (A.lit 0) fun x0=>
 A.cl nG nH (x.1,x.2.1,x.2.2.1,x.2.2.2.1,x.q.1,x.q.2.1,x.q.2.2.2.1,x.o.2.1,()) fun x1=>
 A.l1 .i x1.q.2.2.1 fun x2=>
 A.cl jS jT (x1.1,x1.2.1,x1.2.2.1,x1.2.2.2.1,x1.q.1,x1.q.2.1,x.o.1,x1.q.2.2.2.1,()) fun x3=>
 A.l1 .i x3.q.2.2.1 fun x4=>
 A.cl jS jT (x3.1,x3.2.1,x3.2.2.1,x3.2.2.2.1,x3.q.1,x3.q.2.1,A.mkX .iop (A.lit 3,x2.1,x4.1,x.q.2.2.1,A.lit 0,()),x3.q.2.2.2.1,()) fun x5=>
 A.l1 .i x5.q.2.2.1 fun x6=>
 A.ret _ (x5.1,x5.2.1,x5.2.2.1,x5.2.2.2.1,x5.q.1,x5.q.2.1,x6.1,x5.q.2.2.2.1,())
def Qg (A:Alg) (x:Tup A.ah [.i]):Ot A D7:=
 A.l1 .i (A.lit 0) fun x0=>
 A.l1 .i (A.lit 1) fun x1=>
 A.l1 .i (A.lit 0) fun x2=>
 A.iter [.i,.i,.i] (fun x3=>
 A.cond (A.cmp .lss x3.2.2.1 x3.1) (A.l1 .i (A.arith .add .i64 x3.2.1 x3.2.1) fun x4=>
 A.l1 .i (A.arith .add .i64 x3.2.2.1 (A.lit 1)) fun x5=>
 A.inl _ (x3.1,x4.1,x5.1,()))<|
 A.inr _<|A.l1 .i x3.2.1 fun x4=>
 A.ret _ (x4.1,())) (x.1,x1.1,x2.1,())
def Qh (A:Alg) (nG:Pt A jG) (nH:Ft A jG) (jS:Pt A iA) (jT:Ft A iA) (Je:Pt A tF) (Jf:Ft A tF) (xB:Pt A tC) (xC:Ft A tC) (x:Tup A.ah [.i,.i,.i,.i,.i,.i,.x .ins,.i,.l .iop]):Ot A D8:=
 A.cl Je Jf (x.1,x.2.1,x.2.2.1,x.2.2.2.1,x.q.1,x.q.2.1,A.lit 1,A.fI .ins 2 x.q.2.2.1,A.mkX .iop (A.lit 1,A.lit 0,A.lit 0,A.fI .ins 3 x.q.2.2.1,A.lit 0,()),x.o.1,()) fun x0=>
 A.l1 .i x0.q.2.2.1 fun x1=>
 A.cond (A.cmp .eql (A.fI .ins 0 x.q.2.2.1) (A.lit 9)) (A.cl jS jT (x0.1,x0.2.1,x0.2.2.1,x0.2.2.2.1,x0.q.1,x0.q.2.1,A.mkX .iop (A.lit 4,x1.1,A.lit 0,A.lit 0,x.q.2.2.2.1,()),x0.q.2.2.2.1,()) fun x2=>
 A.l1 .i x2.q.2.2.1 fun x3=>
 A.cl xB xC (x2.1,x2.2.1,x2.2.2.1,x2.2.2.2.1,x2.q.1,x2.q.2.1,A.fI .ins 1 x.q.2.2.1,x3.1,x2.q.2.2.2.1,()) fun x4=>
 A.ret _ (x4.1,x4.2.1,x4.2.2.1,x4.2.2.2.1,x4.q.1,x4.q.2.1,x4.q.2.2.1,()))<|
 A.cl nG nH (x0.1,x0.2.1,x0.2.2.1,x0.2.2.2.1,x0.q.1,x0.q.2.1,A.fI .ins 1 x.q.2.2.1,x0.q.2.2.2.1,()) fun x2=>
 A.l1 .i x2.q.2.2.1 fun x3=>
 A.cl jS jT (x2.1,x2.2.1,x2.2.2.1,x2.2.2.2.1,x2.q.1,x2.q.2.1,A.mkX .iop (A.lit 5,x1.1,x3.1,A.lit 0,x.q.2.2.2.1,()),x2.q.2.2.2.1,()) fun x4=>
 A.l1 .i x4.q.2.2.1 fun x5=>
 A.ret _ (x4.1,x4.2.1,x4.2.2.1,x4.2.2.2.1,x4.q.1,x4.q.2.1,x4.q.2.2.2.1,())
def Qi (A:Alg) (nG:Pt A jG) (nH:Ft A jG) (x:Tup A.ah [.i,.i,.i,.i,.i,.i,.x .ins,.l .iop]):Ot A D9:=
 A.cond (A.cmp .eql (A.fI .ins 0 x.q.2.2.1) (A.lit 13)) (A.cl nG nH (x.1,x.2.1,x.2.2.1,x.2.2.2.1,x.q.1,x.q.2.1,A.fI .ins 2 x.q.2.2.1,x.q.2.2.2.1,()) fun x0=>
 A.l1 .i x0.q.2.2.1 fun x1=>
 A.l1 .i (A.lit 2) fun x2=>
 A.l1 .i x1.1 fun x3=>
 A.l1 .i (A.lit 0) fun x4=>
 A.ret _ (x0.1,x0.2.1,x2.1,x3.1,x0.q.1,x4.1,x0.q.2.2.2.1,()))<|
 A.cl nG nH (x.1,x.2.1,x.2.2.1,x.2.2.2.1,x.q.1,x.q.2.1,A.fI .ins 1 x.q.2.2.1,x.q.2.2.2.1,()) fun x0=>
 A.l1 .i x0.q.2.2.1 fun x1=>
 A.cl nG nH (x0.1,x0.2.1,x0.2.2.1,x0.2.2.2.1,x0.q.1,x0.q.2.1,A.fI .ins 2 x.q.2.2.1,x0.q.2.2.2.1,()) fun x2=>
 A.l1 .i x2.q.2.2.1 fun x3=>
 A.l1 .i (A.lit 3) fun x4=>
 A.bind [.i,.i,.x .ins,.i,.i,.i,.i,.i,.i,.i,.i,.i,.i,.i,.i,.l .iop] (A.cond (A.cmp .eql (A.fI .ins 0 x.q.2.2.1) (A.lit 12)) (A.l1 .i (A.lit 4) fun x5=>
 A.ret _ (x1.1,x3.1,x.q.2.2.1,A.lit 0,A.lit 0,A.lit 0,A.lit 0,A.lit 0,A.lit 0,x2.1,x2.2.1,x5.1,x2.2.2.2.1,x2.q.1,x2.q.2.1,x2.q.2.2.2.1,()))<|
 A.ret _ (x1.1,x3.1,x.q.2.2.1,A.lit 0,A.lit 0,A.lit 0,A.lit 0,A.lit 0,A.lit 0,x2.1,x2.2.1,x4.1,x2.2.2.2.1,x2.q.1,x2.q.2.1,x2.q.2.2.2.1,())) fun x5=>
 A.l1 .i x5.1 fun x6=>
 A.l1 .i x5.2.1 fun x7=>
 A.l1 .i (A.fI .ins 3 x5.2.2.1) fun x8=>
 A.ret _ (x5.o.2.1,x5.o.2.2.1,x5.o.2.2.2.1,x6.1,x7.1,x8.1,x5.o.q.2.2.2.1,())
def Qj (A:Alg) (nG:Pt A jG) (nH:Ft A jG) (acv:Pt A D9) (acw:Ft A D9) (jS:Pt A iA) (jT:Ft A iA) (acy:Pt A D8) (acz:Ft A D8) (Je:Pt A tF) (Jf:Ft A tF) (xB:Pt A tC) (xC:Ft A tC) (acA:Pt A D7) (acB:Ft A D7) (x:Tup A.ah [.i,.i,.i,.i,.i,.i,.x .ins,.i,.l .iop]):Ot A Ea:=
 A.l1 .b (A.cmp .eql (A.fI .ins 0 x.q.2.2.1) (A.lit 1)) fun x0=>
 A.cond x0.1 (A.cl jS jT (x.1,x.2.1,x.2.2.1,x.2.2.2.1,x.q.1,x.q.2.1,A.mkX .iop (A.lit 1,A.lit 0,A.lit 0,A.fI .ins 3 x.q.2.2.1,A.lit 0,()),x.o.1,()) fun x1=>
 A.l1 .i x1.q.2.2.1 fun x2=>
 A.cl xB xC (x1.1,x1.2.1,x1.2.2.1,x1.2.2.2.1,x1.q.1,x1.q.2.1,A.fI .ins 1 x.q.2.2.1,x2.1,x1.q.2.2.2.1,()) fun x3=>
 A.ret _ (x3.1,x3.2.1,x3.2.2.1,x3.2.2.2.1,x3.q.1,x3.q.2.1,x3.q.2.2.1,()))<|
 A.l1 .b (A.cmp .eql (A.fI .ins 0 x.q.2.2.1) (A.lit 2)) fun x1=>
 A.cond x1.1 (A.cl nG nH (x.1,x.2.1,x.2.2.1,x.2.2.2.1,x.q.1,x.q.2.1,A.fI .ins 2 x.q.2.2.1,x.o.1,()) fun x2=>
 A.l1 .i x2.q.2.2.1 fun x3=>
 A.cl xB xC (x2.1,x2.2.1,x2.2.2.1,x2.2.2.2.1,x2.q.1,x2.q.2.1,A.fI .ins 1 x.q.2.2.1,x3.1,x2.q.2.2.2.1,()) fun x4=>
 A.ret _ (x4.1,x4.2.1,x4.2.2.1,x4.2.2.2.1,x4.q.1,x4.q.2.1,x4.q.2.2.1,()))<|
 A.l1 .b (A.cmp .eql (A.fI .ins 0 x.q.2.2.1) (A.lit 8)) fun x2=>
 A.cond x2.1 (A.cl acA acB (A.fI .ins 3 x.q.2.2.1,()) fun x3=>
 A.cl Je Jf (x.1,x.2.1,x.2.2.1,x.2.2.2.1,x.q.1,x.q.2.1,A.lit 3,A.fI .ins 2 x.q.2.2.1,A.mkX .iop (A.lit 1,A.lit 0,A.lit 0,x3.1,A.lit 0,()),x.o.1,()) fun x4=>
 A.l1 .i x4.q.2.2.1 fun x5=>
 A.cl xB xC (x4.1,x4.2.1,x4.2.2.1,x4.2.2.2.1,x4.q.1,x4.q.2.1,A.fI .ins 1 x.q.2.2.1,x5.1,x4.q.2.2.2.1,()) fun x6=>
 A.ret _ (x6.1,x6.2.1,x6.2.2.1,x6.2.2.2.1,x6.q.1,x6.q.2.1,x6.q.2.2.1,()))<|
 A.l1 .b (A.cmp .eql (A.fI .ins 0 x.q.2.2.1) (A.lit 9)) fun x3=>
 A.bind [.i,.i,.b,.l .iop,.i,.i,.i,.i,.i,.i,.x .ins,.i,.i,.i,.i,.i,.i] (A.cond x3.1 (A.ret _ (x.q.2.2.2.1,A.fI .ins 0 x.q.2.2.1,x3.1,x.o.1,x.1,x.2.1,x.2.2.1,x.2.2.2.1,x.q.1,x.q.2.1,x.q.2.2.1,A.lit 0,A.lit 0,A.lit 0,A.lit 0,A.lit 0,A.lit 0,()))<|
 A.l1 .b (A.cmp .eql (A.fI .ins 0 x.q.2.2.1) (A.lit 10)) fun x4=>
 A.ret _ (x.q.2.2.2.1,A.fI .ins 0 x.q.2.2.1,x4.1,x.o.1,x.1,x.2.1,x.2.2.1,x.2.2.2.1,x.q.1,x.q.2.1,x.q.2.2.1,A.lit 0,A.lit 0,A.lit 0,A.lit 0,A.lit 0,A.lit 0,())) fun x4=>
 A.cond x4.2.2.1 (A.cl acy acz (x4.q.1,x4.q.2.1,x4.q.2.2.1,x4.q.2.2.2.1,x4.o.1,x4.o.2.1,x4.o.2.2.1,x4.1,x4.2.2.2.1,()) fun x5=>
 A.ret _ (x5.1,x5.2.1,x5.2.2.1,x5.2.2.2.1,x5.q.1,x5.q.2.1,x5.q.2.2.1,()))<|
 A.l1 .b (A.cmp .eql x4.2.1 (A.lit 14)) fun x5=>
 A.cond x5.1 (A.cl nG nH (x4.q.1,x4.q.2.1,x4.q.2.2.1,x4.q.2.2.2.1,x4.o.1,x4.o.2.1,A.fI .ins 1 x4.o.2.2.1,x4.2.2.2.1,()) fun x6=>
 A.l1 .i x6.q.2.2.1 fun x7=>
 A.cl jS jT (x6.1,x6.2.1,x6.2.2.1,x6.2.2.2.1,x6.q.1,x6.q.2.1,A.mkX .iop (A.lit 7,x7.1,A.lit 0,A.lit 0,x4.1,()),x6.q.2.2.2.1,()) fun x8=>
 A.l1 .i x8.q.2.2.1 fun x9=>
 A.ret _ (x8.1,x8.2.1,x8.2.2.1,x8.2.2.2.1,x8.q.1,x8.q.2.1,x8.q.2.2.2.1,()))<|
 A.l1 .b (A.cmp .eql x4.2.1 (A.lit 15)) fun x6=>
 A.cond x6.1 (A.cl jS jT (x4.q.1,x4.q.2.1,x4.q.2.2.1,x4.q.2.2.2.1,x4.o.1,x4.o.2.1,A.mkX .iop (A.lit 6,A.lit 0,A.lit 0,A.lit 0,x4.1,()),x4.2.2.2.1,()) fun x7=>
 A.l1 .i x7.q.2.2.1 fun x8=>
 A.cl xB xC (x7.1,x7.2.1,x7.2.2.1,x7.2.2.2.1,x7.q.1,x7.q.2.1,A.fI .ins 1 x4.o.2.2.1,x8.1,x7.q.2.2.2.1,()) fun x9=>
 A.ret _ (x9.1,x9.2.1,x9.2.2.1,x9.2.2.2.1,x9.q.1,x9.q.2.1,x9.q.2.2.1,()))<|
 A.l1 .b (A.cmp .eql x4.2.1 (A.lit 11)) fun x7=>
 A.bind [.b,.l .iop,.i,.i,.i,.i,.i,.i,.x .ins,.i,.i,.i,.i,.i,.i] (A.cond x7.1 (A.ret _ (x7.1,x4.2.2.2.1,x4.q.1,x4.q.2.1,x4.q.2.2.1,x4.q.2.2.2.1,x4.o.1,x4.o.2.1,x4.o.2.2.1,x4.o.2.2.2.1,x4.o.q.1,x4.o.q.2.1,x4.o.q.2.2.1,x4.o.q.2.2.2.1,x4.o.o.1,()))<|
 A.l1 .b (A.cmp .eql x4.2.1 (A.lit 12)) fun x8=>
 A.bind [.b,.l .iop,.i,.i,.i,.i,.i,.i,.x .ins,.i,.i,.i,.i,.i,.i] (A.cond x8.1 (A.ret _ (x8.1,x4.2.2.2.1,x4.q.1,x4.q.2.1,x4.q.2.2.1,x4.q.2.2.2.1,x4.o.1,x4.o.2.1,x4.o.2.2.1,x4.o.2.2.2.1,x4.o.q.1,x4.o.q.2.1,x4.o.q.2.2.1,x4.o.q.2.2.2.1,x4.o.o.1,()))<|
 A.l1 .b (A.cmp .eql x4.2.1 (A.lit 13)) fun x9=>
 A.ret _ (x9.1,x4.2.2.2.1,x4.q.1,x4.q.2.1,x4.q.2.2.1,x4.q.2.2.2.1,x4.o.1,x4.o.2.1,x4.o.2.2.1,x4.o.2.2.2.1,x4.o.q.1,x4.o.q.2.1,x4.o.q.2.2.1,x4.o.q.2.2.2.1,x4.o.o.1,())) fun x9=>
 A.ret _ (x9.1,x9.2.1,x9.2.2.1,x9.2.2.2.1,x9.q.1,x9.q.2.1,x9.q.2.2.1,x9.q.2.2.2.1,x9.o.1,x9.o.2.1,x9.o.2.2.1,x9.o.2.2.2.1,x9.o.q.1,x9.o.q.2.1,x9.o.q.2.2.1,())) fun x8=>
 A.cond x8.1 (A.cl acv acw (x8.2.2.1,x8.2.2.2.1,x8.q.1,x8.q.2.1,x8.q.2.2.1,x8.q.2.2.2.1,x8.o.1,x8.2.1,()) fun x9=>
 A.ret _ (x9.1,x9.2.1,x9.2.2.1,x9.2.2.2.1,x9.q.1,x9.q.2.1,x9.q.2.2.1,()))<|
 A.cl Je Jf (x8.2.2.1,x8.2.2.2.1,x8.q.1,x8.q.2.1,x8.q.2.2.1,x8.q.2.2.2.1,A.arith .add .i64 (A.arith .sub .i64 (A.fI .ins 0 x8.o.1) (A.lit 3)) (A.lit 1),A.fI .ins 2 x8.o.1,A.mkX .iop (A.lit 2,A.lit 0,A.lit 0,A.fI .ins 3 x8.o.1,A.lit 0,()),x8.2.1,()) fun x9=>
 A.l1 .i x9.q.2.2.1 fun x10=>
 A.cl xB xC (x9.1,x9.2.1,x9.2.2.1,x9.2.2.2.1,x9.q.1,x9.q.2.1,A.fI .ins 1 x8.o.1,x10.1,x9.q.2.2.2.1,()) fun x11=>
 A.ret _ (x11.1,x11.2.1,x11.2.2.1,x11.2.2.2.1,x11.q.1,x11.q.2.1,x11.q.2.2.1,())
def Qk (A:Alg) (acC:Pt A D6) (acD:Ft A D6) (acE:Pt A Ea) (acF:Ft A Ea) (x:Tup A.ah [.i,.l .ins]):Ot A Eb:=
 A.cl acC acD (x.1,x.2.1,()) fun x0=>
 A.cond (A.aA x0.1) (A.ret _ (A.lit 0,A.lit 0,A.lit 0,A.lit 0,A.lit 0,A.lit 0,A.bQ .iop,()))<|
 A.l1 .i (A.lit 0) fun x1=>
 A.iter [.l .ins,.i,.i,.i,.i,.i,.i,.i,.i,.i,.i,.i,.i,.i,.l .iop] (fun x2=>
 A.cond (A.cmp .lss x2.2.1 (A.len .ins x2.1)) (A.bd .ins x2.1 x2.2.1<|
 A.cl acE acF (x2.o.1,x2.o.2.1,x2.o.2.2.1,x2.o.2.2.2.1,x2.o.q.1,x2.o.q.2.1,A.get .ins x2.1 x2.2.1,x2.2.1,x2.o.q.2.2.1,()) fun x3=>
 A.l1 .i (A.arith .add .i64 x2.2.1 (A.lit 1)) fun x4=>
 A.inl _ (x2.1,x4.1,x2.2.2.1,x2.2.2.2.1,x2.q.1,x2.q.2.1,x2.q.2.2.1,x2.q.2.2.2.1,x3.1,x3.2.1,x3.2.2.1,x3.2.2.2.1,x3.q.1,x3.q.2.1,x3.q.2.2.1,()))<|
 A.inr _<|A.ret _ (x2.o.1,x2.o.2.1,x2.o.2.2.1,x2.o.2.2.2.1,x2.o.q.1,x2.o.q.2.1,x2.o.q.2.2.1,())) (x.2.1,x1.1,A.lit 0,A.lit 0,A.lit 0,A.lit 0,A.lit 0,A.lit 0,x.1,A.len .ins x.2.1,A.lit 1,A.lit 0,A.lit 0,A.arith .add .i64 x.1 (A.len .ins x.2.1),A.bQ .iop,())
def Ql (A:Alg) (x:Tup A.ah [.x .blk]):Ot A tH:=
 A.l1 (.x .blk) x.1 fun x0=>
 A.l1 (.l .iop) (A.lst .iop []) fun x1=>
 A.chk (A.cmp .leq (A.addN (A.len .iop x1.1) (A.len .iop (A.fL .blk 2 .iop x.1))) (A.lit 1073741824))<|
 A.l1 (.l .iop) (A.app .iop x1.1 (A.fL .blk 2 .iop x.1)) fun x2=>
 A.ret _ (A.fI .blk 0 x0.1,A.fI .blk 1 x0.1,A.fI .blk 3 x0.1,A.fI .blk 4 x0.1,A.fI .blk 5 x0.1,A.fI .blk 6 x0.1,x2.1,())
def Qm (A:Alg) (bX:Pt A bS) (bY:Ft A bS) (x:Tup A.ah [.x .iop,.l .i64]):Ot A tJ:=
 A.l1 (.x .iop) x.1 fun x0=>
 A.cl bX bY (A.fI .iop 0 x.1,A.lit 3,A.lit 5,()) fun x1=>
 A.bind [.l .i64,.x .iop,.i,.i,.i,.i,.i,.x .iop] (A.cond (A.au (A.au x1.1 (A.bl true) (A.cmp .eql (A.fI .iop 0 x.1) (A.lit 7))) (A.bl true) (A.cmp .eql (A.fI .iop 0 x.1) (A.lit 8))) (A.bd .i64 x.2.1 (A.fI .iop 1 x.1)<|
 A.l1 .i (A.fI .i64 0 (A.get .i64 x.2.1 (A.fI .iop 1 x.1))) fun x2=>
 A.ret _ (x.2.1,x.1,A.lit 0,A.lit 0,A.lit 0,A.lit 0,A.lit 0,A.mkX .iop (A.fI .iop 0 x0.1,x2.1,A.fI .iop 2 x0.1,A.fI .iop 3 x0.1,A.fI .iop 4 x0.1,()),()))<|
 A.ret _ (x.2.1,x.1,A.lit 0,A.lit 0,A.lit 0,A.lit 0,A.lit 0,x0.1,())) fun x2=>
 A.bind [.i,.i,.i,.i,.i,.x .iop] (A.cond (A.au (A.cmp .eql (A.fI .iop 0 x2.2.1) (A.lit 3)) (A.bl true) (A.cmp .eql (A.fI .iop 0 x2.2.1) (A.lit 5))) (A.bd .i64 x2.1 (A.fI .iop 2 x2.2.1)<|
 A.l1 .i (A.fI .i64 0 (A.get .i64 x2.1 (A.fI .iop 2 x2.2.1))) fun x3=>
 A.ret _ (x2.2.2.1,x2.2.2.2.1,x2.q.1,x2.q.2.1,x2.q.2.2.1,A.mkX .iop (A.fI .iop 0 x2.q.2.2.2.1,A.fI .iop 1 x2.q.2.2.2.1,x3.1,A.fI .iop 3 x2.q.2.2.2.1,A.fI .iop 4 x2.q.2.2.2.1,()),()))<|
 A.ret _ (x2.2.2.1,x2.2.2.2.1,x2.q.1,x2.q.2.1,x2.q.2.2.1,x2.q.2.2.2.1,())) fun x3=>
 A.l1 (.x .iop) x3.q.2.1 fun x4=>
 A.ret _ (x4.1,())
def Qn (A:Alg) (lV:Pt A gq) (lW:Ft A gq) (Qo:Pt A tJ) (Qp:Ft A tJ) (Qq:Pt A tH) (Qr:Ft A tH) (x:Tup A.ah [.x .blk]):Ot A tK:=
 A.cl lV lW (x.1,()) fun x0=>
 A.cond (A.aA x0.1) (A.ret _ (A.lit 0,A.lit 0,A.lit 0,A.lit 0,A.lit 0,A.lit 0,A.bQ .iop,()))<|
 A.cl Qq Qr (x.1,()) fun x1=>
 A.l1 (.l .i64) (A.lst .i64 []) fun x2=>
 A.l1 (.l .i64) (A.lst .i64 [A.mkX .i64 (A.lit (-1),()),A.mkX .i64 (A.lit (-1),()),A.mkX .i64 (A.lit (-1),()),A.mkX .i64 (A.lit (-1),())]) fun x3=>
 A.l1 .i (A.lit 0) fun x4=>
 A.iter [.i,.i,.i,.i,.i,.i,.i,.i,.i,.i,.i,.i,.i,.l .i64,.l .i64,.l .iop] (fun x5=>
 A.cond (A.cmp .lss x5.1 (A.len .iop x5.o.q.2.2.2.1)) (A.bd .iop x5.o.q.2.2.2.1 x5.1<|
 A.bd .iop x5.o.q.2.2.2.1 x5.1<|
 A.cl Qo Qp (A.get .iop x5.o.q.2.2.2.1 x5.1,x5.o.q.2.1,()) fun x6=>
 A.l1 (.x .iop) x6.1 fun x7=>
 A.bd .iop x5.o.q.2.2.2.1 x5.1<|
 A.bd .iop x5.o.q.2.2.2.1 x5.1<|
 A.l1 (.x .iop) x7.1 fun x8=>
 A.l1 .i x5.1 fun x9=>
 A.chk (A.orB (A.aA (A.cmp .eql (A.fI .iop 0 x7.1) (A.lit 2))) (A.cmp .leq (A.lit 0) (A.fI .iop 3 x7.1)))<|
 A.chk (A.orB (A.aA (A.cmp .eql (A.fI .iop 0 x7.1) (A.lit 2))) (A.cmp .lss (A.fI .iop 3 x7.1) (A.len .i64 x5.o.q.2.2.1)))<|
 A.chk (A.orB (A.aA (A.cmp .eql (A.fI .iop 0 x7.1) (A.lit 2))) (A.cmp .leq (A.lit 0) (A.fI .iop 3 x7.1)))<|
 A.chk (A.orB (A.aA (A.cmp .eql (A.fI .iop 0 x7.1) (A.lit 2))) (A.cmp .lss (A.fI .iop 3 x7.1) (A.len .i64 x5.o.q.2.2.1)))<|
 A.bind [.i,.i,.i,.i,.i,.i,.i,.i,.i,.i,.i,.i,.i,.i,.l .i64,.l .i64,.x .iop,.l .iop] (A.cond (A.au (A.cmp .eql (A.fI .iop 0 x7.1) (A.lit 2)) (A.cmp .geq (A.fI .i64 0 (A.get .i64 x5.o.q.2.2.1 (A.fI .iop 3 x7.1))) (A.lit 0)) (A.bl false)) (A.bd .i64 x5.o.q.2.2.1 (A.fI .iop 3 x7.1)<|
 A.bd .i64 x5.o.q.2.2.1 (A.fI .iop 3 x7.1)<|
 A.l1 .i (A.fI .i64 0 (A.get .i64 x5.o.q.2.2.1 (A.fI .iop 3 x7.1))) fun x10=>
 A.ret _ (x5.1,x10.1,x5.2.1,x5.2.2.1,x5.2.2.2.1,x5.q.1,x5.q.2.1,x5.q.2.2.1,x5.q.2.2.2.1,x5.o.1,x5.o.2.1,x5.o.2.2.1,x5.o.2.2.2.1,x5.o.q.1,x5.o.q.2.1,x5.o.q.2.2.1,x7.1,A.set .iop x5.o.q.2.2.2.1 x5.1 x8.1,()))<|
 A.ret _ (x5.1,x9.1,x5.2.1,x5.2.2.1,x5.2.2.2.1,x5.q.1,x5.q.2.1,x5.q.2.2.1,x5.q.2.2.2.1,x5.o.1,x5.o.2.1,x5.o.2.2.1,x5.o.2.2.2.1,x5.o.q.1,x5.o.q.2.1,x5.o.q.2.2.1,x7.1,A.set .iop x5.o.q.2.2.2.1 x5.1 x8.1,())) fun x10=>
 A.bind [.i,.i,.i,.i,.i,.i,.i,.i,.i,.i,.i,.i,.i,.i,.l .i64,.l .i64,.x .iop,.l .iop] (A.cond (A.cmp .eql (A.fI .iop 0 x10.o.o.1) (A.lit 2)) (A.bd .i64 x10.o.q.2.2.2.1 (A.fI .iop 3 x10.o.o.1)<|
 A.bd .i64 x10.o.q.2.2.2.1 (A.fI .iop 3 x10.o.o.1)<|
 A.l1 .i x10.2.1 fun x11=>
 A.ret _ (x10.1,x10.2.1,x10.2.2.1,x10.2.2.2.1,x10.q.1,x10.q.2.1,x10.q.2.2.1,x10.q.2.2.2.1,x10.o.1,x10.o.2.1,x10.o.2.2.1,x10.o.2.2.2.1,x10.o.q.1,x10.o.q.2.1,x10.o.q.2.2.1,A.set .i64 x10.o.q.2.2.2.1 (A.fI .iop 3 x10.o.o.1) (A.mkX .i64 (x11.1,())),x10.o.o.1,x10.o.o.2.1,()))<|
 A.ret _ (x10.1,x10.2.1,x10.2.2.1,x10.2.2.2.1,x10.q.1,x10.q.2.1,x10.q.2.2.1,x10.q.2.2.2.1,x10.o.1,x10.o.2.1,x10.o.2.2.1,x10.o.2.2.2.1,x10.o.q.1,x10.o.q.2.1,x10.o.q.2.2.1,x10.o.q.2.2.2.1,x10.o.o.1,x10.o.o.2.1,())) fun x11=>
 A.bind [.i,.i,.i,.i,.i,.i,.i,.i,.i,.i,.i,.i,.i,.i,.l .i64,.l .i64,.l .iop] (A.cond (A.cmp .eql (A.fI .iop 0 x11.o.o.1) (A.lit 8)) (A.bd .i64 x11.o.q.2.2.2.1 (A.fI .iop 3 x11.o.o.1)<|
 A.bd .i64 x11.o.q.2.2.2.1 (A.fI .iop 3 x11.o.o.1)<|
 A.l1 .i (A.fI .iop 1 x11.o.o.1) fun x12=>
 A.ret _ (x11.1,x11.2.1,x11.2.2.1,x11.2.2.2.1,x11.q.1,x11.q.2.1,x11.q.2.2.1,x11.q.2.2.2.1,x11.o.1,x11.o.2.1,x11.o.2.2.1,x11.o.2.2.2.1,x11.o.q.1,x11.o.q.2.1,x11.o.q.2.2.1,A.set .i64 x11.o.q.2.2.2.1 (A.fI .iop 3 x11.o.o.1) (A.mkX .i64 (x12.1,())),x11.o.o.2.1,()))<|
 A.ret _ (x11.1,x11.2.1,x11.2.2.1,x11.2.2.2.1,x11.q.1,x11.q.2.1,x11.q.2.2.1,x11.q.2.2.2.1,x11.o.1,x11.o.2.1,x11.o.2.2.1,x11.o.2.2.2.1,x11.o.q.1,x11.o.q.2.1,x11.o.q.2.2.1,x11.o.q.2.2.2.1,x11.o.o.2.1,())) fun x12=>
 A.l1 (.l .i64) (A.lst .i64 [A.mkX .i64 (x12.2.1,())]) fun x13=>
 A.chk (A.cmp .leq (A.addN (A.len .i64 x12.o.q.2.2.1) (A.len .i64 x13.1)) (A.lit 1073741824))<|
 A.l1 (.l .i64) (A.app .i64 x12.o.q.2.2.1 x13.1) fun x14=>
 A.l1 .i (A.arith .add .i64 x12.1 (A.lit 1)) fun x15=>
 A.inl _ (x15.1,x12.2.2.1,x12.2.2.2.1,x12.q.1,x12.q.2.1,x12.q.2.2.1,x12.q.2.2.2.1,x12.o.1,x12.o.2.1,x12.o.2.2.1,x12.o.2.2.2.1,x12.o.q.1,x12.o.q.2.1,x14.1,x12.o.q.2.2.2.1,x12.o.o.1,()))<|
 A.inr _<|A.bind [.i,.i,.i,.i,.i,.i,.i,.i,.i,.i,.i,.i,.l .i64,.l .iop] (A.cond (A.cmp .neq x5.o.2.1 (A.lit 1)) (A.bd .i64 x5.o.q.2.1 x5.o.2.2.1<|
 A.bd .i64 x5.o.q.2.1 x5.o.2.2.1<|
 A.l1 .i (A.fI .i64 0 (A.get .i64 x5.o.q.2.1 x5.o.2.2.1)) fun x6=>
 A.ret _ (x5.2.1,x5.2.2.1,x5.2.2.2.1,x5.q.1,x5.q.2.1,x5.q.2.2.1,x5.q.2.2.2.1,x5.o.1,x5.o.2.1,x6.1,x5.o.2.2.2.1,x5.o.q.1,x5.o.q.2.1,x5.o.q.2.2.2.1,()))<|
 A.ret _ (x5.2.1,x5.2.2.1,x5.2.2.2.1,x5.q.1,x5.q.2.1,x5.q.2.2.1,x5.q.2.2.2.1,x5.o.1,x5.o.2.1,x5.o.2.2.1,x5.o.2.2.2.1,x5.o.q.1,x5.o.q.2.1,x5.o.q.2.2.2.1,())) fun x6=>
 A.bind [.i,.i,.i,.i,.i,.i,.i,.i,.i,.i,.i,.i,.l .iop] (A.cond (A.au (A.cmp .eql x6.o.1 (A.lit 3)) (A.bl true) (A.cmp .eql x6.o.1 (A.lit 4))) (A.bd .i64 x6.o.q.1 x6.o.2.2.1<|
 A.bd .i64 x6.o.q.1 x6.o.2.2.1<|
 A.l1 .i (A.fI .i64 0 (A.get .i64 x6.o.q.1 x6.o.2.2.1)) fun x7=>
 A.ret _ (x6.1,x6.2.1,x6.2.2.1,x6.2.2.2.1,x6.q.1,x6.q.2.1,x6.q.2.2.1,x6.q.2.2.2.1,x6.o.1,x6.o.2.1,x7.1,x6.o.2.2.2.1,x6.o.q.2.1,()))<|
 A.ret _ (x6.1,x6.2.1,x6.2.2.1,x6.2.2.2.1,x6.q.1,x6.q.2.1,x6.q.2.2.1,x6.q.2.2.2.1,x6.o.1,x6.o.2.1,x6.o.2.2.1,x6.o.2.2.2.1,x6.o.q.2.1,())) fun x7=>
 A.ret _ (x7.q.2.2.1,x7.q.2.2.2.1,x7.o.1,x7.o.2.1,x7.o.2.2.1,x7.o.2.2.2.1,x7.o.q.1,())) (x4.1,A.lit 0,A.lit 0,A.lit 0,A.lit 0,A.lit 0,A.lit 0,x1.1,x1.2.1,x1.2.2.1,x1.2.2.2.1,x1.q.1,x1.q.2.1,x2.1,x3.1,x1.q.2.2.1,())
def Qs (A:Alg) (Qo:Pt A tJ) (Qp:Ft A tJ) (x:Tup A.ah [.x .blk,.l .bool]):Ot A tL:=
 A.l1 (.l .iop) (A.lst .iop []) fun x0=>
 A.l1 (.l .i64) (A.lst .i64 []) fun x1=>
 A.l1 .i (A.lit 0) fun x2=>
 A.iter [.l .bool,.i,.x .blk,.i,.i,.i,.i,.i,.i,.l .iop,.l .i64] (fun x3=>
 A.cond (A.cmp .lss x3.2.1 (A.len .iop (A.fL .blk 2 .iop x3.2.2.1))) (A.l1 (.l .i64) (A.lst .i64 [A.mkX .i64 (A.len .iop x3.o.2.1,())]) fun x4=>
 A.chk (A.cmp .leq (A.addN (A.len .i64 x3.o.2.2.1) (A.len .i64 x4.1)) (A.lit 1073741824))<|
 A.l1 (.l .i64) (A.app .i64 x3.o.2.2.1 x4.1) fun x5=>
 A.bd .bool x3.1 x3.2.1<|
 A.bind [.l .bool,.i,.x .blk,.i,.i,.i,.i,.i,.i,.l .iop,.l .i64] (A.cond (A.fB .bool 0 (A.get .bool x3.1 x3.2.1)) (A.bd .iop (A.fL .blk 2 .iop x3.2.2.1) x3.2.1<|
 A.cl Qo Qp (A.get .iop (A.fL .blk 2 .iop x3.2.2.1) x3.2.1,x5.1,()) fun x6=>
 A.l1 (.l .iop) (A.lst .iop [x6.1]) fun x7=>
 A.chk (A.cmp .leq (A.addN (A.len .iop x3.o.2.1) (A.len .iop x7.1)) (A.lit 1073741824))<|
 A.l1 (.l .iop) (A.app .iop x3.o.2.1 x7.1) fun x8=>
 A.ret _ (x3.1,x3.2.1,x3.2.2.1,x3.2.2.2.1,x3.q.1,x3.q.2.1,x3.q.2.2.1,x3.q.2.2.2.1,x3.o.1,x8.1,x5.1,()))<|
 A.ret _ (x3.1,x3.2.1,x3.2.2.1,x3.2.2.2.1,x3.q.1,x3.q.2.1,x3.q.2.2.1,x3.q.2.2.2.1,x3.o.1,x3.o.2.1,x5.1,())) fun x6=>
 A.l1 .i (A.arith .add .i64 x6.2.1 (A.lit 1)) fun x7=>
 A.inl _ (x6.1,x7.1,x6.2.2.1,x6.2.2.2.1,x6.q.1,x6.q.2.1,x6.q.2.2.1,x6.q.2.2.2.1,x6.o.1,x6.o.2.1,x6.o.2.2.1,()))<|
 A.inr _<|A.l1 (.x .blk) x3.2.2.1 fun x4=>
 A.bind [.x .blk,.i,.i,.i,.i,.i,.i,.l .i64,.i,.i,.i,.i,.i,.i,.l .iop] (A.cond (A.cmp .neq (A.fI .blk 3 x3.2.2.1) (A.lit 1)) (A.bd .i64 x3.o.2.2.1 (A.fI .blk 4 x3.2.2.1)<|
 A.bd .i64 x3.o.2.2.1 (A.fI .blk 4 x3.2.2.1)<|
 A.l1 .i (A.fI .i64 0 (A.get .i64 x3.o.2.2.1 (A.fI .blk 4 x3.2.2.1))) fun x5=>
 A.ret _ (x3.2.2.1,x3.2.2.2.1,x3.q.1,x3.q.2.1,x3.q.2.2.1,x3.q.2.2.2.1,x3.o.1,x3.o.2.2.1,A.fI .blk 0 x4.1,A.fI .blk 1 x4.1,A.fI .blk 3 x4.1,x5.1,A.fI .blk 5 x4.1,A.fI .blk 6 x4.1,x3.o.2.1,()))<|
 A.ret _ (x3.2.2.1,x3.2.2.2.1,x3.q.1,x3.q.2.1,x3.q.2.2.1,x3.q.2.2.2.1,x3.o.1,x3.o.2.2.1,A.fI .blk 0 x4.1,A.fI .blk 1 x4.1,A.fI .blk 3 x4.1,A.fI .blk 4 x4.1,A.fI .blk 5 x4.1,A.fI .blk 6 x4.1,x3.o.2.1,())) fun x5=>
 A.bind [.i,.i,.i,.i,.i,.i,.i,.i,.i,.i,.i,.i,.l .iop] (A.cond (A.au (A.cmp .eql (A.fI .blk 3 x5.1) (A.lit 3)) (A.bl true) (A.cmp .eql (A.fI .blk 3 x5.1) (A.lit 4))) (A.bd .i64 x5.q.2.2.2.1 (A.fI .blk 5 x5.1)<|
 A.bd .i64 x5.q.2.2.2.1 (A.fI .blk 5 x5.1)<|
 A.l1 .i (A.fI .i64 0 (A.get .i64 x5.q.2.2.2.1 (A.fI .blk 5 x5.1))) fun x6=>
 A.ret _ (x5.2.1,x5.2.2.1,x5.2.2.2.1,x5.q.1,x5.q.2.1,x5.q.2.2.1,x5.o.1,x5.o.2.1,x5.o.2.2.1,x5.o.2.2.2.1,x6.1,x5.o.q.2.1,x5.o.q.2.2.1,()))<|
 A.ret _ (x5.2.1,x5.2.2.1,x5.2.2.2.1,x5.q.1,x5.q.2.1,x5.q.2.2.1,x5.o.1,x5.o.2.1,x5.o.2.2.1,x5.o.2.2.2.1,x5.o.q.1,x5.o.q.2.1,x5.o.q.2.2.1,())) fun x6=>
 A.ret _ (x6.q.2.2.1,x6.q.2.2.2.1,x6.o.1,x6.o.2.1,x6.o.2.2.1,x6.o.2.2.2.1,x6.o.q.1,())) (x.2.1,x2.1,x.1,A.lit 0,A.lit 0,A.lit 0,A.lit 0,A.lit 0,A.lit 0,x0.1,x1.1,())
def Qt (A:Alg) (lV:Pt A gq) (lW:Ft A gq) (bX:Pt A bS) (bY:Ft A bS) (x:Tup A.ah [.x .blk]):Ot A Ec:=
 A.l1 (.l .bool) (A.lst .bool []) fun x0=>
 A.cl lV lW (x.1,()) fun x1=>
 A.cond (A.aA x1.1) (A.ret _ (x0.1,()))<|
 A.l1 .i (A.lit 0) fun x2=>
 A.iter [.i,.x .blk,.l .bool] (fun x3=>
 A.cond (A.cmp .lss x3.1 (A.len .iop (A.fL .blk 2 .iop x3.2.1))) (A.bd .iop (A.fL .blk 2 .iop x3.2.1) x3.1<|
 A.l1 (.l .bool) (A.lst .bool [A.mkX .bool (A.cmp .geq (A.fI .iop 0 (A.get .iop (A.fL .blk 2 .iop x3.2.1) x3.1)) (A.lit 4),())]) fun x4=>
 A.chk (A.cmp .leq (A.addN (A.len .bool x3.2.2.1) (A.len .bool x4.1)) (A.lit 1073741824))<|
 A.l1 (.l .bool) (A.app .bool x3.2.2.1 x4.1) fun x5=>
 A.l1 .i (A.arith .add .i64 x3.1 (A.lit 1)) fun x6=>
 A.inl _ (x6.1,x3.2.1,x5.1,()))<|
 A.inr _<|A.bind [.x .blk,.l .bool] (A.cond (A.cmp .neq (A.fI .blk 3 x3.2.1) (A.lit 1)) (A.bd .bool x3.2.2.1 (A.fI .blk 4 x3.2.1)<|
 A.bd .bool x3.2.2.1 (A.fI .blk 4 x3.2.1)<|
 A.l1 .b (A.bl true) fun x4=>
 A.ret _ (x3.2.1,A.set .bool x3.2.2.1 (A.fI .blk 4 x3.2.1) (A.mkX .bool (x4.1,())),()))<|
 A.ret _ (x3.2.1,x3.2.2.1,())) fun x4=>
 A.bind [.x .blk,.l .bool] (A.cond (A.au (A.cmp .eql (A.fI .blk 3 x4.1) (A.lit 3)) (A.bl true) (A.cmp .eql (A.fI .blk 3 x4.1) (A.lit 4))) (A.bd .bool x4.2.1 (A.fI .blk 5 x4.1)<|
 A.bd .bool x4.2.1 (A.fI .blk 5 x4.1)<|
 A.l1 .b (A.bl true) fun x5=>
 A.ret _ (x4.1,A.set .bool x4.2.1 (A.fI .blk 5 x4.1) (A.mkX .bool (x5.1,())),()))<|
 A.ret _ (x4.1,x4.2.1,())) fun x5=>
 A.l1 .i (A.arith .sub .i64 (A.len .iop (A.fL .blk 2 .iop x5.1)) (A.lit 1)) fun x6=>
 A.iter [.i,.x .blk,.l .bool] (fun x7=>
 A.cond (A.cmp .geq x7.1 (A.lit 0)) (A.vJ [.i,.x .blk,.l .bool] (A.bd .iop (A.fL .blk 2 .iop x7.2.1) x7.1<|
 A.l1 (.x .iop) (A.get .iop (A.fL .blk 2 .iop x7.2.1) x7.1) fun x8=>
 A.bd .bool x7.2.2.1 x7.1<|
 A.bd .bool x7.2.2.1 x7.1<|
 A.cond (A.aA (A.fB .bool 0 (A.get .bool x7.2.2.1 x7.1))) (A.inl _ (x7.1,x7.2.1,x7.2.2.1,()))<|
 A.cl bX bY (A.fI .iop 0 x8.1,A.lit 3,A.lit 5,()) fun x9=>
 A.bind [.i,.x .blk,.l .bool,.x .iop] (A.cond (A.au (A.au x9.1 (A.bl true) (A.cmp .eql (A.fI .iop 0 x8.1) (A.lit 7))) (A.bl true) (A.cmp .eql (A.fI .iop 0 x8.1) (A.lit 8))) (A.bd .bool x7.2.2.1 (A.fI .iop 1 x8.1)<|
 A.bd .bool x7.2.2.1 (A.fI .iop 1 x8.1)<|
 A.l1 .b (A.bl true) fun x10=>
 A.ret _ (x7.1,x7.2.1,A.set .bool x7.2.2.1 (A.fI .iop 1 x8.1) (A.mkX .bool (x10.1,())),x8.1,()))<|
 A.ret _ (x7.1,x7.2.1,x7.2.2.1,x8.1,())) fun x10=>
 A.bind [.i,.x .blk,.l .bool] (A.cond (A.au (A.cmp .eql (A.fI .iop 0 x10.2.2.2.1) (A.lit 3)) (A.bl true) (A.cmp .eql (A.fI .iop 0 x10.2.2.2.1) (A.lit 5))) (A.bd .bool x10.2.2.1 (A.fI .iop 2 x10.2.2.2.1)<|
 A.bd .bool x10.2.2.1 (A.fI .iop 2 x10.2.2.2.1)<|
 A.l1 .b (A.bl true) fun x11=>
 A.ret _ (x10.1,x10.2.1,A.set .bool x10.2.2.1 (A.fI .iop 2 x10.2.2.2.1) (A.mkX .bool (x11.1,())),()))<|
 A.ret _ (x10.1,x10.2.1,x10.2.2.1,())) fun x11=>
 A.inl _ (x11.1,x11.2.1,x11.2.2.1,())) fun x8=>
 A.l1 .i (A.arith .sub .i64 x8.1 (A.lit 1)) fun x9=>
 A.inl _ (x9.1,x8.2.1,x8.2.2.1,()))<|
 A.inr _<|A.ret _ (x7.2.2.1,())) (x6.1,x5.1,x5.2.1,())) (x2.1,x.1,x0.1,())
def Qu (A:Alg) (lV:Pt A gq) (lW:Ft A gq) (acG:Pt A Ec) (acH:Ft A Ec) (Qv:Pt A tL) (Qw:Ft A tL) (x:Tup A.ah [.x .blk]):Ot A Ed:=
 A.cl lV lW (x.1,()) fun x0=>
 A.cond (A.aA x0.1) (A.ret _ (A.lit 0,A.lit 0,A.lit 0,A.lit 0,A.lit 0,A.lit 0,A.bQ .iop,()))<|
 A.cl acG acH (x.1,()) fun x1=>
 A.cl Qv Qw (x.1,x1.1,()) fun x2=>
 A.ret _ (x2.1,x2.2.1,x2.2.2.1,x2.2.2.2.1,x2.q.1,x2.q.2.1,x2.q.2.2.1,())
def Qx (A:Alg) (x:Tup A.ah [.l .iop,.i]):Ot A Ee:=
 A.l1 .b (A.bl false) fun x0=>
 A.l1 .i (A.arith .add .i64 x.2.1 (A.lit 1)) fun x1=>
 A.iter [.l .iop,.i,.i] (fun x2=>
 A.cond (A.cmp .lss x2.2.2.1 (A.len .iop x2.1)) (A.bd .iop x2.1 x2.2.2.1<|
 A.chk (A.orB (A.aA (A.aA (A.cmp .eql (A.fI .iop 0 (A.get .iop x2.1 x2.2.2.1)) (A.lit 4)))) (A.cmp .leq (A.lit 0) x2.2.2.1))<|
 A.chk (A.orB (A.aA (A.aA (A.cmp .eql (A.fI .iop 0 (A.get .iop x2.1 x2.2.2.1)) (A.lit 4)))) (A.cmp .lss x2.2.2.1 (A.len .iop x2.1)))<|
 A.chk (A.orB (A.aA (A.aA (A.au (A.cmp .eql (A.fI .iop 0 (A.get .iop x2.1 x2.2.2.1)) (A.lit 4)) (A.bl true) (A.cmp .eql (A.fI .iop 0 (A.get .iop x2.1 x2.2.2.1)) (A.lit 5))))) (A.cmp .leq (A.lit 0) x2.2.2.1))<|
 A.chk (A.orB (A.aA (A.aA (A.au (A.cmp .eql (A.fI .iop 0 (A.get .iop x2.1 x2.2.2.1)) (A.lit 4)) (A.bl true) (A.cmp .eql (A.fI .iop 0 (A.get .iop x2.1 x2.2.2.1)) (A.lit 5))))) (A.cmp .lss x2.2.2.1 (A.len .iop x2.1)))<|
 A.chk (A.orB (A.aA (A.jy (A.aA (A.au (A.cmp .eql (A.fI .iop 0 (A.get .iop x2.1 x2.2.2.1)) (A.lit 4)) (A.bl true) (A.cmp .eql (A.fI .iop 0 (A.get .iop x2.1 x2.2.2.1)) (A.lit 5)))) (A.cmp .eql (A.fI .iop 0 (A.get .iop x2.1 x2.2.2.1)) (A.lit 2)))) (A.cmp .leq (A.lit 0) x2.2.2.1))<|
 A.chk (A.orB (A.aA (A.jy (A.aA (A.au (A.cmp .eql (A.fI .iop 0 (A.get .iop x2.1 x2.2.2.1)) (A.lit 4)) (A.bl true) (A.cmp .eql (A.fI .iop 0 (A.get .iop x2.1 x2.2.2.1)) (A.lit 5)))) (A.cmp .eql (A.fI .iop 0 (A.get .iop x2.1 x2.2.2.1)) (A.lit 2)))) (A.cmp .lss x2.2.2.1 (A.len .iop x2.1)))<|
 A.chk (A.orB (A.aA (A.jy (A.aA (A.au (A.cmp .eql (A.fI .iop 0 (A.get .iop x2.1 x2.2.2.1)) (A.lit 4)) (A.bl true) (A.cmp .eql (A.fI .iop 0 (A.get .iop x2.1 x2.2.2.1)) (A.lit 5)))) (A.cmp .eql (A.fI .iop 0 (A.get .iop x2.1 x2.2.2.1)) (A.lit 2)))) (A.cmp .leq (A.lit 0) x2.2.1))<|
 A.chk (A.orB (A.aA (A.jy (A.aA (A.au (A.cmp .eql (A.fI .iop 0 (A.get .iop x2.1 x2.2.2.1)) (A.lit 4)) (A.bl true) (A.cmp .eql (A.fI .iop 0 (A.get .iop x2.1 x2.2.2.1)) (A.lit 5)))) (A.cmp .eql (A.fI .iop 0 (A.get .iop x2.1 x2.2.2.1)) (A.lit 2)))) (A.cmp .lss x2.2.1 (A.len .iop x2.1)))<|
 A.cond (A.au (A.au (A.cmp .eql (A.fI .iop 0 (A.get .iop x2.1 x2.2.2.1)) (A.lit 4)) (A.bl true) (A.cmp .eql (A.fI .iop 0 (A.get .iop x2.1 x2.2.2.1)) (A.lit 5))) (A.bl true) (A.au (A.cmp .eql (A.fI .iop 0 (A.get .iop x2.1 x2.2.2.1)) (A.lit 2)) (A.cmp .eql (A.fI .iop 3 (A.get .iop x2.1 x2.2.2.1)) (A.fI .iop 3 (A.get .iop x2.1 x2.2.1))) (A.bl false))) (A.l1 .b (A.bl false) fun x3=>
 A.inr _<|A.ret _ (x3.1,()))<|
 A.bd .iop x2.1 x2.2.2.1<|
 A.chk (A.orB (A.aA (A.cmp .eql (A.fI .iop 0 (A.get .iop x2.1 x2.2.2.1)) (A.lit 8))) (A.cmp .leq (A.lit 0) x2.2.2.1))<|
 A.chk (A.orB (A.aA (A.cmp .eql (A.fI .iop 0 (A.get .iop x2.1 x2.2.2.1)) (A.lit 8))) (A.cmp .lss x2.2.2.1 (A.len .iop x2.1)))<|
 A.chk (A.orB (A.aA (A.cmp .eql (A.fI .iop 0 (A.get .iop x2.1 x2.2.2.1)) (A.lit 8))) (A.cmp .leq (A.lit 0) x2.2.1))<|
 A.chk (A.orB (A.aA (A.cmp .eql (A.fI .iop 0 (A.get .iop x2.1 x2.2.2.1)) (A.lit 8))) (A.cmp .lss x2.2.1 (A.len .iop x2.1)))<|
 A.cond (A.au (A.cmp .eql (A.fI .iop 0 (A.get .iop x2.1 x2.2.2.1)) (A.lit 8)) (A.cmp .eql (A.fI .iop 3 (A.get .iop x2.1 x2.2.2.1)) (A.fI .iop 3 (A.get .iop x2.1 x2.2.1))) (A.bl false)) (A.l1 .b (A.bl true) fun x3=>
 A.inr _<|A.ret _ (x3.1,()))<|
 A.l1 .i (A.arith .add .i64 x2.2.2.1 (A.lit 1)) fun x3=>
 A.inl _ (x2.1,x2.2.1,x3.1,()))<|
 A.inr _<|A.rb (A.bl false)) (x.1,x.2.1,x1.1,())
def Qy (A:Alg) (lV:Pt A gq) (lW:Ft A gq) (Qv:Pt A tL) (Qw:Ft A tL) (acI:Pt A Ee) (acJ:Ft A Ee) (x:Tup A.ah [.x .blk]):Ot A Ef:=
 A.cl lV lW (x.1,()) fun x0=>
 A.cond (A.aA x0.1) (A.ret _ (A.lit 0,A.lit 0,A.lit 0,A.lit 0,A.lit 0,A.lit 0,A.bQ .iop,()))<|
 A.l1 (.l .bool) (A.lst .bool []) fun x1=>
 A.l1 .i (A.lit 0) fun x2=>
 A.iter [.i,.x .blk,.i,.i,.i,.i,.i,.i,.l .bool] (fun x3=>
 A.cond (A.cmp .lss x3.1 (A.len .iop (A.fL .blk 2 .iop x3.2.1))) (A.bd .iop (A.fL .blk 2 .iop x3.2.1) x3.1<|
 A.cg (A.aA (A.cmp .neq (A.fI .iop 0 (A.get .iop (A.fL .blk 2 .iop x3.2.1) x3.1)) (A.lit 8))) acI acJ (A.fL .blk 2 .iop x3.2.1,x3.1,()) fun x4=>
 A.l1 (.l .bool) (A.lst .bool [A.mkX .bool (A.au (A.cmp .neq (A.fI .iop 0 (A.get .iop (A.fL .blk 2 .iop x3.2.1) x3.1)) (A.lit 8)) (A.bl true) (A.aA x4.1),())]) fun x5=>
 A.chk (A.cmp .leq (A.addN (A.len .bool x3.o.1) (A.len .bool x5.1)) (A.lit 1073741824))<|
 A.l1 (.l .bool) (A.app .bool x3.o.1 x5.1) fun x6=>
 A.l1 .i (A.arith .add .i64 x3.1 (A.lit 1)) fun x7=>
 A.inl _ (x7.1,x3.2.1,x3.2.2.1,x3.2.2.2.1,x3.q.1,x3.q.2.1,x3.q.2.2.1,x3.q.2.2.2.1,x6.1,()))<|
 A.inr _<|A.cl Qv Qw (x3.2.1,x3.o.1,()) fun x4=>
 A.ret _ (x4.1,x4.2.1,x4.2.2.1,x4.2.2.2.1,x4.q.1,x4.q.2.1,x4.q.2.2.1,())) (x2.1,x.1,A.lit 0,A.lit 0,A.lit 0,A.lit 0,A.lit 0,A.lit 0,x1.1,())
def Qz (A:Alg) (x:Tup A.ah [.l .iop,.i]):Ot A tN:=
 A.l1 .i (A.lit 0) fun x0=>
 A.l1 .b (A.bl false) fun x1=>
 A.chk (A.orB (A.aA (A.aA (A.au (A.cmp .lss x.2.1 (A.lit 0)) (A.bl true) (A.cmp .geq x.2.1 (A.len .iop x.1))))) (A.cmp .leq (A.lit 0) x.2.1))<|
 A.chk (A.orB (A.aA (A.aA (A.au (A.cmp .lss x.2.1 (A.lit 0)) (A.bl true) (A.cmp .geq x.2.1 (A.len .iop x.1))))) (A.cmp .lss x.2.1 (A.len .iop x.1)))<|
 A.cond (A.au (A.au (A.cmp .lss x.2.1 (A.lit 0)) (A.bl true) (A.cmp .geq x.2.1 (A.len .iop x.1))) (A.bl true) (A.cmp .neq (A.fI .iop 0 (A.get .iop x.1 x.2.1)) (A.lit 1))) (A.l1 .i (A.lit 0) fun x2=>
 A.l1 .b (A.bl false) fun x3=>
 A.ret _ (x2.1,x3.1,()))<|
 A.bd .iop x.1 x.2.1<|
 A.l1 .i (A.fI .iop 3 (A.get .iop x.1 x.2.1)) fun x2=>
 A.l1 .b (A.bl true) fun x3=>
 A.ret _ (x2.1,x3.1,())
def QA (A:Alg) (x:Tup A.ah [.x .blk,.i]):Ot A Eh:=
 A.l1 .i (A.lit 1) fun x0=>
 A.l1 .i (A.lit 0) fun x1=>
 A.l1 .i (A.lit 0) fun x2=>
 A.l1 .i x.2.1 fun x3=>
 A.ret _ (A.fI .blk 0 x.1,A.fI .blk 1 x.1,A.fL .blk 2 .iop x.1,x0.1,x1.1,x2.1,x3.1,())
def QB (A:Alg) (QC:Pt A Eh) (QD:Ft A Eh) (Ew:Pt A tN) (Ey:Ft A tN) (x:Tup A.ah [.x .blk]):Ot A Ei:=
 A.cl Ew Ey (A.fL .blk 2 .iop x.1,A.fI .blk 4 x.1,()) fun x0=>
 A.l1 .i x0.1 fun x1=>
 A.l1 .b x0.2.1 fun x2=>
 A.cl Ew Ey (A.fL .blk 2 .iop x.1,A.fI .blk 5 x.1,()) fun x3=>
 A.l1 .i x3.1 fun x4=>
 A.l1 .b x3.2.1 fun x5=>
 A.l1 .b (A.au (A.cmp .eql (A.fI .blk 3 x.1) (A.lit 2)) x2.1 (A.bl false)) fun x6=>
 A.cond x6.1 (A.cl QC QD (x.1,x1.1,()) fun x7=>
 A.ret _ (A.mkX .blk (x7.1,x7.2.1,x7.2.2.1,x7.2.2.2.1,x7.q.1,x7.q.2.1,x7.q.2.2.1,()),()))<|
 A.l1 .b (A.au (A.au (A.au (A.cmp .eql (A.fI .blk 3 x.1) (A.lit 3)) x2.1 (A.bl false)) x5.1 (A.bl false)) (A.cmp .eql x1.1 x4.1) (A.bl false)) fun x7=>
 A.bind [.b,.b,.b,.x .blk,.i,.i,.i,.i,.i,.i] (A.cond x7.1 (A.ret _ (x2.1,x5.1,x7.1,x.1,A.lit 0,A.lit 0,A.lit 0,A.lit 0,A.lit 0,A.lit 0,()))<|
 A.l1 .b (A.au (A.au (A.au (A.cmp .eql (A.fI .blk 3 x.1) (A.lit 4)) x2.1 (A.bl false)) x5.1 (A.bl false)) (A.cmp .lss x1.1 x4.1) (A.bl false)) fun x8=>
 A.ret _ (x2.1,x5.1,x8.1,x.1,A.lit 0,A.lit 0,A.lit 0,A.lit 0,A.lit 0,A.lit 0,())) fun x8=>
 A.cond x8.2.2.1 (A.cl QC QD (x8.2.2.2.1,A.fI .blk 6 x8.2.2.2.1,()) fun x9=>
 A.ret _ (A.mkX .blk (x9.1,x9.2.1,x9.2.2.1,x9.2.2.2.1,x9.q.1,x9.q.2.1,x9.q.2.2.1,()),()))<|
 A.l1 .b (A.au (A.au (A.au (A.cmp .eql (A.fI .blk 3 x8.2.2.2.1) (A.lit 3)) (A.bl true) (A.cmp .eql (A.fI .blk 3 x8.2.2.2.1) (A.lit 4))) x8.1 (A.bl false)) x8.2.1 (A.bl false)) fun x9=>
 A.cond x9.1 (A.cl QC QD (x8.2.2.2.1,A.arith .add .i64 (A.fI .blk 0 x8.2.2.2.1) (A.fI .blk 1 x8.2.2.2.1),()) fun x10=>
 A.ret _ (A.mkX .blk (x10.1,x10.2.1,x10.2.2.1,x10.2.2.2.1,x10.q.1,x10.q.2.1,x10.q.2.2.1,()),()))<|
 A.l1 (.x .blk) x8.2.2.2.1 fun x10=>
 A.ret _ (x10.1,())
def QE (A:Alg) (lV:Pt A gq) (lW:Ft A gq) (Pq:Pt A sW) (Pv:Ft A sW) (acK:Pt A Ei) (acL:Ft A Ei) (Ew:Pt A tN) (Ey:Ft A tN) (Qq:Pt A tH) (Qr:Ft A tH) (x:Tup A.ah [.x .blk]):Ot A Ej:=
 A.cl lV lW (x.1,()) fun x0=>
 A.cond (A.aA x0.1) (A.ret _ (A.mkX .blk (A.lit 0,A.lit 0,A.bQ .iop,A.lit 0,A.lit 0,A.lit 0,A.lit 0,()),()))<|
 A.cl Qq Qr (x.1,()) fun x1=>
 A.l1 .i (A.lit 0) fun x2=>
 A.iter [.i,.i,.i,.i,.i,.i,.i,.i,.i,.i,.i,.i,.i,.l .iop] (fun x3=>
 A.cond (A.cmp .lss x3.1 (A.len .iop x3.o.q.2.1)) (A.bd .iop x3.o.q.2.1 x3.1<|
 A.bd .iop x3.o.q.2.1 x3.1<|
 A.l1 (.x .iop) (A.get .iop x3.o.q.2.1 x3.1) fun x4=>
 A.cl Ew Ey (x3.o.q.2.1,A.fI .iop 1 x4.1,()) fun x5=>
 A.l1 .i x5.1 fun x6=>
 A.l1 .b x5.2.1 fun x7=>
 A.cl Ew Ey (x3.o.q.2.1,A.fI .iop 2 x4.1,()) fun x8=>
 A.l1 .i x8.1 fun x9=>
 A.l1 .b x8.2.1 fun x10=>
 A.bind [.i,.i,.i,.i,.i,.i,.i,.i,.i,.i,.i,.i,.i,.l .iop] (A.cond (A.au (A.au (A.cmp .eql (A.fI .iop 0 x4.1) (A.lit 3)) x7.1 (A.bl false)) x10.1 (A.bl false)) (A.cl Pq Pv (A.fI .iop 3 x4.1,x6.1,x9.1,()) fun x11=>
 A.bd .iop x3.o.q.2.1 x3.1<|
 A.bd .iop x3.o.q.2.1 x3.1<|
 A.ret _ (x3.1,x3.2.1,x3.2.2.1,x3.2.2.2.1,x3.q.1,x3.q.2.1,x3.q.2.2.1,x3.q.2.2.2.1,x3.o.1,x3.o.2.1,x3.o.2.2.1,x3.o.2.2.2.1,x3.o.q.1,A.set .iop x3.o.q.2.1 x3.1 (A.mkX .iop (A.lit 1,A.lit 0,A.lit 0,x11.1,A.lit 0,())),()))<|
 A.ret _ (x3.1,x3.2.1,x3.2.2.1,x3.2.2.2.1,x3.q.1,x3.q.2.1,x3.q.2.2.1,x3.q.2.2.2.1,x3.o.1,x3.o.2.1,x3.o.2.2.1,x3.o.2.2.2.1,x3.o.q.1,x3.o.q.2.1,())) fun x11=>
 A.l1 .i (A.arith .add .i64 x11.1 (A.lit 1)) fun x12=>
 A.inl _ (x12.1,x11.2.1,x11.2.2.1,x11.2.2.2.1,x11.q.1,x11.q.2.1,x11.q.2.2.1,x11.q.2.2.2.1,x11.o.1,x11.o.2.1,x11.o.2.2.1,x11.o.2.2.2.1,x11.o.q.1,x11.o.q.2.1,()))<|
 A.inr _<|A.cl acK acL (A.mkX .blk (x3.q.2.2.2.1,x3.o.1,x3.o.q.2.1,x3.o.2.1,x3.o.2.2.1,x3.o.2.2.2.1,x3.o.q.1,()),()) fun x4=>
 A.l1 (.x .blk) x4.1 fun x5=>
 A.ret _ (x5.1,())) (x2.1,A.lit 0,A.lit 0,A.lit 0,A.lit 0,A.lit 0,A.lit 0,x1.1,x1.2.1,x1.2.2.1,x1.2.2.2.1,x1.q.1,x1.q.2.1,x1.q.2.2.1,())
def QF (A:Alg) (acM:Pt A Ej) (acN:Ft A Ej) (QG:Pt A tK) (QH:Ft A tK) (Wm:Pt A Ed) (Wn:Ft A Ed) (acO:Pt A Ef) (acP:Ft A Ef) (x:Tup A.ah [.x .blk]):Ot A El:=
 A.cl QG QH (x.1,()) fun x0=>
 A.cl acM acN (A.mkX .blk (x0.1,x0.2.1,x0.q.2.2.1,x0.2.2.1,x0.2.2.2.1,x0.q.1,x0.q.2.1,()),()) fun x1=>
 A.cl Wm Wn (x1.1,()) fun x2=>
 A.cl acO acP (A.mkX .blk (x2.1,x2.2.1,x2.q.2.2.1,x2.2.2.1,x2.2.2.2.1,x2.q.1,x2.q.2.1,()),()) fun x3=>
 A.cl Wm Wn (A.mkX .blk (x3.1,x3.2.1,x3.q.2.2.1,x3.2.2.1,x3.2.2.2.1,x3.q.1,x3.q.2.1,()),()) fun x4=>
 A.ret _ (x4.1,x4.2.1,x4.2.2.1,x4.2.2.2.1,x4.q.1,x4.q.2.1,x4.q.2.2.1,())
def QI (A:Alg) (acQ:Pt A Eb) (acR:Ft A Eb) (acS:Pt A El) (acT:Ft A El) (QG:Pt A tK) (QH:Ft A tK) (aR:Pt A cO) (aT:Ft A cO) (acU:Pt A D5) (acV:Ft A D5) (x:Tup A.ah [.l .u8,.i]):Ot A Em:=
 A.cl acU acV (x.1,x.2.1,()) fun x0=>
 A.cl aR aT (A.lit 50,x0.1,x0.2.1,()) fun x1=>
 A.l1 (.l .i64) (A.lst .i64 [A.mkX .i64 (A.lit 0,()),A.mkX .i64 (A.lit 1,()),A.mkX .i64 (x1.1,()),A.mkX .i64 (A.arith .sub .i64 (A.lit 64) (A.len .ins x0.2.2.1),())]) fun x2=>
 A.cl aR aT (A.lit 4,x1.2.1,x1.2.2.1,()) fun x3=>
 A.bd .i64 x2.1 x3.1<|
 A.bd .i64 x2.1 x3.1<|
 A.cl acQ acR (A.fI .i64 0 (A.get .i64 x2.1 x3.1),x0.2.2.1,()) fun x4=>
 A.cl aR aT (A.lit 5,x3.2.1,x3.2.2.1,()) fun x5=>
 A.l1 .b (A.cmp .eql x5.1 (A.lit 0)) fun x6=>
 A.cond x6.1 (A.cl acS acT (A.mkX .blk (x4.1,x4.2.1,x4.q.2.2.1,x4.2.2.1,x4.2.2.2.1,x4.q.1,x4.q.2.1,()),()) fun x7=>
 A.ret _ (x7.1,x7.2.1,x7.2.2.1,x7.2.2.2.1,x7.q.1,x7.q.2.1,x5.2.1,x5.2.2.1,x7.q.2.2.1,()))<|
 A.l1 .b (A.cmp .eql x5.1 (A.lit 1)) fun x7=>
 A.cond x7.1 (A.cl QG QH (A.mkX .blk (x4.1,x4.2.1,x4.q.2.2.1,x4.2.2.1,x4.2.2.2.1,x4.q.1,x4.q.2.1,()),()) fun x8=>
 A.ret _ (x8.1,x8.2.1,x8.2.2.1,x8.2.2.2.1,x8.q.1,x8.q.2.1,x5.2.1,x5.2.2.1,x8.q.2.2.1,()))<|
 A.ret _ (x4.1,x4.2.1,x4.2.2.1,x4.2.2.2.1,x4.q.1,x4.q.2.1,x5.2.1,x5.2.2.1,x4.q.2.2.1,())
def QJ (A:Alg) (nu:Pt A iw) (nA:Ft A iw) (PL:Pt A sN) (PN:Ft A sN) (acW:Pt A DW) (acX:Ft A DW) (acY:Pt A Dj) (acZ:Ft A Dj) (aR:Pt A cO) (aT:Ft A cO) (xq:Pt A lM) (xu:Ft A lM) (ac0:Pt A Em) (ac1:Ft A Em) (ac2:Pt A Dq) (ac3:Ft A Dq) (x:Tup A.ah [.l .u8]):Ot A En:=
 A.l1 .i (A.lit 0) fun x0=>
 A.cl acY acZ (x.1,()) fun x1=>
 A.cl ac2 ac3 (A.lit 20,x1.1,x1.2.1,()) fun x2=>
 A.l1 (.x .poly) x2.1 fun x3=>
 A.l1 (.x .poly) x2.2.1 fun x4=>
 A.cl aR aT (A.lit 3,x2.2.2.1,x2.2.2.2.1,()) fun x5=>
 A.bind [.i,.i,.l .u8,.i,.x .poly,.x .poly] (A.cond (A.cmp .eql x5.1 (A.lit 0)) (A.cl xq xu (x5.2.1,x5.2.2.1,()) fun x6=>
 A.cl nu nA (x6.1,()) fun x7=>
 A.ret _ (A.lit 0,A.lit 0,x6.2.1,x6.2.2.1,A.mkX .poly (x7.1,()),x4.1,()))<|
 A.ret _ (A.lit 0,A.lit 0,x5.2.1,x5.2.2.1,x3.1,x4.1,())) fun x6=>
 A.cl aR aT (A.lit 3,x6.2.2.1,x6.2.2.2.1,()) fun x7=>
 A.bind [.i,.i,.l .u8,.i,.x .poly,.x .poly] (A.cond (A.cmp .eql x7.1 (A.lit 0)) (A.cl xq xu (x7.2.1,x7.2.2.1,()) fun x8=>
 A.cl nu nA (x8.1,()) fun x9=>
 A.ret _ (x6.1,x6.2.1,x8.2.1,x8.2.2.1,x6.q.1,A.mkX .poly (x9.1,()),()))<|
 A.ret _ (x6.1,x6.2.1,x7.2.1,x7.2.2.1,x6.q.1,x6.q.2.1,())) fun x8=>
 A.cl PL PN () fun x9=>
 A.cl ac0 ac1 (x8.2.2.1,x8.2.2.2.1,()) fun x10=>
 A.cl acW acX (A.mkX .tab (x9.1,()),A.mkX .blk (x10.1,x10.2.1,x10.o.1,x10.2.2.1,x10.2.2.2.1,x10.q.1,x10.q.2.1,()),()) fun x11=>
 A.l1 (.x .tab) x11.1 fun x12=>
 A.l1 (.x .sym) x11.2.1 fun x13=>
 A.cl aR aT (A.lit 4,x10.q.2.2.1,x10.q.2.2.2.1,()) fun x14=>
 A.l1 .i (A.arith .add .i64 (A.lit 1) x14.1) fun x15=>
 A.l1 (.x .poly) x8.q.1 fun x16=>
 A.l1 (.x .poly) x8.q.2.1 fun x17=>
 A.cl aR aT (A.lit 64,x14.2.1,x14.2.2.1,()) fun x18=>
 A.l1 .i x18.1 fun x19=>
 A.cl aR aT (A.lit 64,x18.2.1,x18.2.2.1,()) fun x20=>
 A.l1 .i x20.1 fun x21=>
 A.ret _ (A.mkX .sym (A.fL .sym 0 .ev x13.1,x9.2.1,x15.1,A.fL .poly 0 .mono x16.1,A.fL .poly 0 .mono x17.1,x19.1,()),x21.1,())
def ac4 (A:Alg) (x:Tup A.ah [.i]):Ot A Lv:=
 A.l1 .b (A.bl false) fun x0=>
 A.rb (A.cmp .neq x.1 x.1)
def ac5 (A:Alg) (Wo:Pt A Lv) (Wp:Ft A Lv) (x:Tup A.ah [.i,.i]):Ot A Eo:=
 A.l1 .i (A.lit 0) fun x0=>
 A.cl Wo Wp (x.1,()) fun x1=>
 A.l1 .b x1.1 fun x2=>
 A.cl Wo Wp (x.2.1,()) fun x3=>
 A.l1 .b x3.1 fun x4=>
 A.cond x2.1 (A.cond x4.1 (A.l1 .i (A.lit 0) fun x5=>
 A.ret _ (x5.1,()))<|
 A.l1 .i (A.lit (-1)) fun x5=>
 A.ret _ (x5.1,()))<|
 A.cond x4.1 (A.l1 .i (A.lit 1) fun x5=>
 A.ret _ (x5.1,()))<|
 A.cond (A.cmp .lss x.1 x.2.1) (A.l1 .i (A.lit (-1)) fun x5=>
 A.ret _ (x5.1,()))<|
 A.cond (A.cmp .gtr x.1 x.2.1) (A.l1 .i (A.lit 1) fun x5=>
 A.ret _ (x5.1,()))<|
 A.l1 .i (A.lit 0) fun x5=>
 A.ret _ (x5.1,())
def ac6 (A:Alg) (x:Tup A.ah [.l .i64]):Ot A Lx:=
 A.l1 .i (A.lit 0) fun x0=>
 A.l1 .i (A.lit 0) fun x1=>
 A.iter [.i,.l .i64,.i,.i] (fun x2=>
 A.cond (A.cmp .lss x2.2.2.2.1 x2.2.2.1) (A.bd .i64 x2.2.1 x2.2.2.2.1<|
 A.l1 .i (A.fI .i64 0 (A.get .i64 x2.2.1 x2.2.2.2.1)) fun x3=>
 A.cond (A.cmp .neq x3.1 x2.1) (A.l1 .i x3.1 fun x4=>
 A.inr _<|A.ret _ (x4.1,()))<|
 A.inl _ (x2.1,x2.2.1,x2.2.2.1,A.arith .add .i64 x2.2.2.2.1 (A.lit 1),()))<|
 A.inr _<|A.l1 .i x2.1 fun x3=>
 A.ret _ (x3.1,())) (x1.1,x.1,A.len .i64 x.1,A.lit 0,())
def Wq (A:Alg) (UG:Pt A Eo) (UH:Ft A Eo) (x:Tup A.ah [.l .i64,.l .i64]):Ot A LA:=
 A.l1 .i (A.lit 0) fun x0=>
 A.iter [.l .i64,.l .i64,.l .i64,.i,.i] (fun x1=>
 A.cond (A.cmp .lss x1.q.1 x1.2.2.2.1) (A.bd .i64 x1.2.2.1 x1.q.1<|
 A.l1 .i x1.q.1 fun x2=>
 A.l1 .i (A.fI .i64 0 (A.get .i64 x1.2.2.1 x1.q.1)) fun x3=>
 A.cond (A.cmp .geq x2.1 (A.len .i64 x1.2.1)) (A.l1 .i (A.lit 1) fun x4=>
 A.inr _<|A.ret _ (x4.1,()))<|
 A.bd .i64 x1.2.1 x2.1<|
 A.l1 .i (A.fI .i64 0 (A.get .i64 x1.2.1 x2.1)) fun x4=>
 A.cl UG UH (x3.1,x4.1,()) fun x5=>
 A.l1 .i x5.1 fun x6=>
 A.cond (A.cmp .neq x6.1 (A.lit 0)) (A.l1 .i x6.1 fun x7=>
 A.inr _<|A.ret _ (x7.1,()))<|
 A.inl _ (x1.1,x1.2.1,x1.2.2.1,x1.2.2.2.1,A.arith .add .i64 x1.q.1 (A.lit 1),()))<|
 A.inr _<|A.cond (A.cmp .lss (A.len .i64 x1.1) (A.len .i64 x1.2.1)) (A.l1 .i (A.lit (-1)) fun x2=>
 A.ret _ (x2.1,()))<|
 A.l1 .i (A.lit 0) fun x2=>
 A.ret _ (x2.1,())) (x.1,x.2.1,x.1,A.len .i64 x.1,A.lit 0,())
def Ws (A:Alg) (ac7:Pt A Lx) (ac8:Ft A Lx) (UG:Pt A Eo) (UH:Ft A Eo) (aix:Pt A LA) (aiy:Ft A LA) (x:Tup A.ah [.l .i64,.l .i64]):Ot A Ay:=
 A.l1 .i (A.lit 0) fun x0=>
 A.cl UG UH (A.len .i64 x.1,A.len .i64 x.2.1,()) fun x1=>
 A.cl aix aiy (x.1,x.2.1,()) fun x2=>
 A.l1 (.l .i64) (A.lst .i64 [A.mkX .i64 (x1.1,()),A.mkX .i64 (x2.1,())]) fun x3=>
 A.cl ac7 ac8 (x3.1,()) fun x4=>
 A.l1 .i x4.1 fun x5=>
 A.ret _ (x5.1,())
def Wt (A:Alg) (x:Tup A.ah [.i,.i,.i]):Ot A Az:=
 A.l1 .b (A.bl false) fun x0=>
 A.rb (A.au (A.cmp .leq x.2.1 x.1) (A.cmp .leq x.1 x.2.2.1) (A.bl false))
def ac9 (A:Alg) (Wo:Pt A Lv) (Wp:Ft A Lv) (x:Tup A.ah [.i,.i]):Ot A VZ:=
 A.l1 .b (A.bl false) fun x0=>
 A.cl Wo Wp (x.1,()) fun x1=>
 A.cg x1.1 Wo Wp (x.2.1,()) fun x2=>
 A.rb (A.au (A.au x1.1 (A.aA x2.1) (A.bl false)) (A.bl true) (A.cmp .lss x.1 x.2.1))
def Wu (A:Alg) (alD:Pt A VZ) (alE:Ft A VZ) (x:Tup A.ah [.l .i64]):Ot A LB:=
 A.l1 .b (A.bl false) fun x0=>
 A.l1 .i (A.arith .sub .i64 (A.len .i64 x.1) (A.lit 1)) fun x1=>
 A.iter [.l .i64,.i] (fun x2=>
 A.cond (A.cmp .gtr x2.2.1 (A.lit 0)) (A.bd .i64 x2.1 x2.2.1<|
 A.bd .i64 x2.1 (A.arith .sub .i64 x2.2.1 (A.lit 1))<|
 A.cl alD alE (A.fI .i64 0 (A.get .i64 x2.1 x2.2.1),A.fI .i64 0 (A.get .i64 x2.1 (A.arith .sub .i64 x2.2.1 (A.lit 1))),()) fun x3=>
 A.cond x3.1 (A.l1 .b (A.bl false) fun x4=>
 A.inr _<|A.ret _ (x4.1,()))<|
 A.l1 .i (A.arith .sub .i64 x2.2.1 (A.lit 1)) fun x4=>
 A.inl _ (x2.1,x4.1,()))<|
 A.inr _<|A.rb (A.bl true)) (x.1,x1.1,())
def Wv (A:Alg) (x:Tup A.ah [.i,.i]):Ot A LC:=
 A.l1 .b (A.bl false) fun x0=>
 A.l1 .b (A.cmp .geq x.1 x.2.1) fun x1=>
 A.ret _ (x1.1,x.2.1,())
def Ww (A:Alg) (aiz:Pt A LC) (aiA:Ft A LC) (x:Tup A.ah [.l .i64,.i]):Ot A LD:=
 A.l1 .i (A.lit 0) fun x0=>
 A.iter [.l .i64,.i,.i,.i] (fun x1=>
 A.cond (A.cmp .lss x1.2.2.1 x1.2.1) (A.l1 .i x1.2.2.1 fun x2=>
 A.bd .i64 x1.1 x2.1<|
 A.cl aiz aiA (A.fI .i64 0 (A.get .i64 x1.1 x2.1),x1.2.2.2.1,()) fun x3=>
 A.cond x3.1 (A.l1 .i x2.1 fun x4=>
 A.inr _<|A.ret _ (x4.1,x3.2.1,()))<|
 A.inl _ (x1.1,x1.2.1,A.arith .add .i64 x1.2.2.1 (A.lit 1),x3.2.1,()))<|
 A.inr _<|A.l1 .i (A.lit (-1)) fun x2=>
 A.ret _ (x2.1,x1.2.2.2.1,())) (x.1,A.len .i64 x.1,A.lit 0,x.2.1,())
def Wx (A:Alg) (aiB:Pt A LD) (aiC:Ft A LD) (x:Tup A.ah [.l .i64,.i]):Ot A LG:=
 A.l1 .b (A.bl false) fun x0=>
 A.cl aiB aiC (x.1,x.2.1,()) fun x1=>
 A.l1 .b (A.cmp .geq x1.1 (A.lit 0)) fun x2=>
 A.ret _ (x2.1,x1.2.1,())
def Wy (A:Alg) (aiD:Pt A LG) (aiE:Ft A LG) (x:Tup A.ah [.x .poly,.i]):Ot A LH:=
 A.l1 .b (A.bl false) fun x0=>
 A.iter [.l .mono,.i,.i,.i] (fun x1=>
 A.cond (A.cmp .lss x1.2.2.1 x1.2.1) (A.bd .mono x1.1 x1.2.2.1<|
 A.l1 (.x .mono) (A.get .mono x1.1 x1.2.2.1) fun x2=>
 A.cl aiD aiE (A.fL .mono 1 .i64 x2.1,x1.2.2.2.1,()) fun x3=>
 A.cond x3.1 (A.l1 .b (A.bl false) fun x4=>
 A.inr _<|A.ret _ (x4.1,()))<|
 A.inl _ (x1.1,x1.2.1,A.arith .add .i64 x1.2.2.1 (A.lit 1),x3.2.1,()))<|
 A.inr _<|A.rb (A.bl true)) (A.fL .poly 0 .mono x.1,A.len .mono (A.fL .poly 0 .mono x.1),A.lit 0,x.2.1,())
def Wz (A:Alg) (x:Tup A.ah [.x .mono]):Ot A LJ:=
 A.l1 .b (A.bl false) fun x0=>
 A.chk (A.orB (A.aA (A.cmp .gtr (A.len .i64 (A.fL .mono 1 .i64 x.1)) (A.lit 0))) (A.cmp .leq (A.lit 0) (A.lit 0)))<|
 A.chk (A.orB (A.aA (A.cmp .gtr (A.len .i64 (A.fL .mono 1 .i64 x.1)) (A.lit 0))) (A.cmp .lss (A.lit 0) (A.len .i64 (A.fL .mono 1 .i64 x.1))))<|
 A.rb (A.au (A.cmp .gtr (A.len .i64 (A.fL .mono 1 .i64 x.1)) (A.lit 0)) (A.cmp .lss (A.fI .i64 0 (A.get .i64 (A.fL .mono 1 .i64 x.1) (A.lit 0))) (A.lit 0)) (A.bl false))
def WA (A:Alg) (aiF:Pt A LJ) (aiG:Ft A LJ) (x:Tup A.ah [.l .mono]):Ot A LK:=
 A.l1 .i (A.lit 0) fun x0=>
 A.iter [.l .mono,.i,.i] (fun x1=>
 A.cond (A.cmp .lss x1.2.2.1 x1.2.1) (A.l1 .i x1.2.2.1 fun x2=>
 A.bd .mono x1.1 x2.1<|
 A.cl aiF aiG (A.get .mono x1.1 x2.1,()) fun x3=>
 A.cond x3.1 (A.l1 .i x2.1 fun x4=>
 A.inr _<|A.ret _ (x4.1,()))<|
 A.inl _ (x1.1,x1.2.1,A.arith .add .i64 x1.2.2.1 (A.lit 1),()))<|
 A.inr _<|A.l1 .i (A.lit (-1)) fun x2=>
 A.ret _ (x2.1,())) (x.1,A.len .mono x.1,A.lit 0,())
def WB (A:Alg) (aiH:Pt A LK) (aiI:Ft A LK) (x:Tup A.ah [.l .mono]):Ot A LM:=
 A.l1 .b (A.bl false) fun x0=>
 A.cl aiH aiI (x.1,()) fun x1=>
 A.rb (A.cmp .geq x1.1 (A.lit 0))
def WE (A:Alg) (WG:Pt A Az) (WH:Ft A Az) (aiJ:Pt A LH) (aiK:Ft A LH) (aiL:Pt A LB) (aiM:Ft A LB) (WI:Pt A Ay) (WJ:Ft A Ay) (aiN:Pt A LM) (aiO:Ft A LM) (x:Tup A.ah [.x .poly]):Ot A AA:=
 A.l1 .b (A.bl false) fun x0=>
 A.iter [.l .mono,.i,.i,.x .poly] (fun x1=>
 A.cond (A.cmp .lss x1.2.2.1 x1.2.1) (A.bd .mono x1.1 x1.2.2.1<|
 A.l1 .i x1.2.2.1 fun x2=>
 A.l1 (.x .mono) (A.get .mono x1.1 x1.2.2.1) fun x3=>
 A.cl WG WH (A.fI .mono 0 x3.1,A.lit 1,A.lit 65535,()) fun x4=>
 A.cg (A.aA (A.au (A.aA x4.1) (A.bl true) (A.cmp .gtr (A.len .i64 (A.fL .mono 1 .i64 x3.1)) (A.lit 4)))) aiL aiM (A.fL .mono 1 .i64 x3.1,()) fun x5=>
 A.chk (A.orB (A.aA (A.jy (A.aA (A.au (A.au (A.aA x4.1) (A.bl true) (A.cmp .gtr (A.len .i64 (A.fL .mono 1 .i64 x3.1)) (A.lit 4))) (A.bl true) (A.aA x5.1))) (A.cmp .gtr x2.1 (A.lit 0)))) (A.cmp .leq (A.lit 0) (A.arith .sub .i64 x2.1 (A.lit 1))))<|
 A.chk (A.orB (A.aA (A.jy (A.aA (A.au (A.au (A.aA x4.1) (A.bl true) (A.cmp .gtr (A.len .i64 (A.fL .mono 1 .i64 x3.1)) (A.lit 4))) (A.bl true) (A.aA x5.1))) (A.cmp .gtr x2.1 (A.lit 0)))) (A.cmp .lss (A.arith .sub .i64 x2.1 (A.lit 1)) (A.len .mono (A.fL .poly 0 .mono x1.2.2.2.1))))<|
 A.cg (A.jy (A.aA (A.au (A.au (A.aA x4.1) (A.bl true) (A.cmp .gtr (A.len .i64 (A.fL .mono 1 .i64 x3.1)) (A.lit 4))) (A.bl true) (A.aA x5.1))) (A.cmp .gtr x2.1 (A.lit 0))) WI WJ (A.fL .mono 1 .i64 (A.get .mono (A.fL .poly 0 .mono x1.2.2.2.1) (A.arith .sub .i64 x2.1 (A.lit 1))),A.fL .mono 1 .i64 x3.1,()) fun x6=>
 A.cond (A.au (A.au (A.au (A.aA x4.1) (A.bl true) (A.cmp .gtr (A.len .i64 (A.fL .mono 1 .i64 x3.1)) (A.lit 4))) (A.bl true) (A.aA x5.1)) (A.bl true) (A.au (A.cmp .gtr x2.1 (A.lit 0)) (A.cmp .geq x6.1 (A.lit 0)) (A.bl false))) (A.l1 .b (A.bl false) fun x7=>
 A.inr _<|A.ret _ (x7.1,()))<|
 A.inl _ (x1.1,x1.2.1,A.arith .add .i64 x1.2.2.1 (A.lit 1),x1.2.2.2.1,()))<|
 A.inr _<|A.cg (A.cmp .leq (A.len .mono (A.fL .poly 0 .mono x1.2.2.2.1)) (A.lit 12)) aiJ aiK (x1.2.2.2.1,A.lit 200,()) fun x2=>
 A.cg (A.au (A.cmp .leq (A.len .mono (A.fL .poly 0 .mono x1.2.2.2.1)) (A.lit 12)) x2.1 (A.bl false)) aiN aiO (A.fL .poly 0 .mono x1.2.2.2.1,()) fun x3=>
 A.rb (A.au (A.au (A.cmp .leq (A.len .mono (A.fL .poly 0 .mono x1.2.2.2.1)) (A.lit 12)) x2.1 (A.bl false)) (A.aA x3.1) (A.bl false))) (A.fL .poly 0 .mono x.1,A.len .mono (A.fL .poly 0 .mono x.1),A.lit 0,x.1,())
def WK (A:Alg) (Tf:Pt A AA) (Tg:Ft A AA) (x:Tup A.ah [.x .poly]):Ot A AB:=
 A.l1 .i (A.lit 0) fun x0=>
 A.l1 .b (A.bl false) fun x1=>
 A.cl Tf Tg (x.1,()) fun x2=>
 A.l1 .b (A.aA x2.1) fun x3=>
 A.cond x3.1 (A.l1 .i (A.lit 0) fun x4=>
 A.l1 .b (A.bl false) fun x5=>
 A.ret _ (x4.1,x5.1,()))<|
 A.l1 .b (A.cmp .eql (A.len .mono (A.fL .poly 0 .mono x.1)) (A.lit 0)) fun x4=>
 A.cond x4.1 (A.l1 .i (A.lit 0) fun x5=>
 A.l1 .b (A.bl true) fun x6=>
 A.ret _ (x5.1,x6.1,()))<|
 A.chk (A.orB (A.aA (A.cmp .eql (A.len .mono (A.fL .poly 0 .mono x.1)) (A.lit 1))) (A.cmp .leq (A.lit 0) (A.lit 0)))<|
 A.chk (A.orB (A.aA (A.cmp .eql (A.len .mono (A.fL .poly 0 .mono x.1)) (A.lit 1))) (A.cmp .lss (A.lit 0) (A.len .mono (A.fL .poly 0 .mono x.1))))<|
 A.l1 .b (A.au (A.cmp .eql (A.len .mono (A.fL .poly 0 .mono x.1)) (A.lit 1)) (A.cmp .eql (A.len .i64 (A.fL .mono 1 .i64 (A.get .mono (A.fL .poly 0 .mono x.1) (A.lit 0)))) (A.lit 0)) (A.bl false)) fun x5=>
 A.cond x5.1 (A.bd .mono (A.fL .poly 0 .mono x.1) (A.lit 0)<|
 A.l1 .i (A.fI .mono 0 (A.get .mono (A.fL .poly 0 .mono x.1) (A.lit 0))) fun x6=>
 A.l1 .b (A.bl true) fun x7=>
 A.ret _ (x6.1,x7.1,()))<|
 A.l1 .i (A.lit 0) fun x6=>
 A.l1 .b (A.bl false) fun x7=>
 A.ret _ (x6.1,x7.1,())
def WL (A:Alg) (ac7:Pt A Lx) (ac8:Ft A Lx) (UG:Pt A Eo) (UH:Ft A Eo) (WI:Pt A Ay) (WJ:Ft A Ay) (x:Tup A.ah [.x .poly,.x .poly]):Ot A tO:=
 A.l1 .i (A.lit 0) fun x0=>
 A.cl UG UH (A.len .mono (A.fL .poly 0 .mono x.1),A.len .mono (A.fL .poly 0 .mono x.2.1),()) fun x1=>
 A.l1 .i x1.1 fun x2=>
 A.cond (A.cmp .neq x2.1 (A.lit 0)) (A.l1 .i x2.1 fun x3=>
 A.ret _ (x3.1,()))<|
 A.iter [.l .mono,.i,.i,.x .poly] (fun x3=>
 A.cond (A.cmp .lss x3.2.2.1 x3.2.1) (A.bd .mono x3.1 x3.2.2.1<|
 A.l1 .i x3.2.2.1 fun x4=>
 A.l1 (.x .mono) (A.get .mono x3.1 x3.2.2.1) fun x5=>
 A.bd .mono (A.fL .poly 0 .mono x3.2.2.2.1) x4.1<|
 A.bd .mono (A.fL .poly 0 .mono x3.2.2.2.1) x4.1<|
 A.cl WI WJ (A.fL .mono 1 .i64 x5.1,A.fL .mono 1 .i64 (A.get .mono (A.fL .poly 0 .mono x3.2.2.2.1) x4.1),()) fun x6=>
 A.cl UG UH (A.fI .mono 0 x5.1,A.fI .mono 0 (A.get .mono (A.fL .poly 0 .mono x3.2.2.2.1) x4.1),()) fun x7=>
 A.cl ac7 ac8 (A.lst .i64 [A.mkX .i64 (x6.1,()),A.mkX .i64 (x7.1,())],()) fun x8=>
 A.l1 .i x8.1 fun x9=>
 A.cond (A.cmp .neq x9.1 (A.lit 0)) (A.l1 .i x9.1 fun x10=>
 A.inr _<|A.ret _ (x10.1,()))<|
 A.inl _ (x3.1,x3.2.1,A.arith .add .i64 x3.2.2.1 (A.lit 1),x3.2.2.2.1,()))<|
 A.inr _<|A.l1 .i (A.lit 0) fun x4=>
 A.ret _ (x4.1,())) (A.fL .poly 0 .mono x.1,A.len .mono (A.fL .poly 0 .mono x.1),A.lit 0,x.2.1,())
def WM (A:Alg) (x:Tup A.ah [.l .i64]):Ot A LP:=
 A.chk (A.cmp .leq (A.len .i64 x.1) (A.lit 1073741824))<|
 A.l1 (.l .i64) x.1 fun x0=>
 A.ret _ (x0.1,())
def WO (A:Alg) (aiP:Pt A LP) (aiQ:Ft A LP) (x:Tup A.ah [.x .poly]):Ot A AJ:=
 A.iter [.l .mono,.i,.i,.l .mono] (fun x0=>
 A.cond (A.cmp .lss x0.2.2.1 x0.2.1) (A.bd .mono x0.1 x0.2.2.1<|
 A.l1 (.x .mono) (A.get .mono x0.1 x0.2.2.1) fun x1=>
 A.cl aiP aiQ (A.fL .mono 1 .i64 x1.1,()) fun x2=>
 A.l1 (.l .mono) (A.lst .mono [A.mkX .mono (A.fI .mono 0 x1.1,x2.1,())]) fun x3=>
 A.chk (A.cmp .leq (A.addN (A.len .mono x0.2.2.2.1) (A.len .mono x3.1)) (A.lit 1073741824))<|
 A.l1 (.l .mono) (A.app .mono x0.2.2.2.1 x3.1) fun x4=>
 A.inl _ (x0.1,x0.2.1,A.arith .add .i64 x0.2.2.1 (A.lit 1),x4.1,()))<|
 A.inr _<|A.ret _ (x0.2.2.2.1,())) (A.fL .poly 0 .mono x.1,A.len .mono (A.fL .poly 0 .mono x.1),A.lit 0,A.bQ .mono,())
def WQ (A:Alg) (Ht:Pt A AJ) (Hu:Ft A AJ) (x:Tup A.ah [.l .poly]):Ot A LQ:=
 A.iter [.l .poly,.i,.i,.l .poly] (fun x0=>
 A.cond (A.cmp .lss x0.2.2.1 x0.2.1) (A.bd .poly x0.1 x0.2.2.1<|
 A.l1 (.x .poly) (A.get .poly x0.1 x0.2.2.1) fun x1=>
 A.cl Ht Hu (x1.1,()) fun x2=>
 A.l1 (.l .poly) (A.lst .poly [A.mkX .poly (x2.1,())]) fun x3=>
 A.chk (A.cmp .leq (A.addN (A.len .poly x0.2.2.2.1) (A.len .poly x3.1)) (A.lit 1073741824))<|
 A.l1 (.l .poly) (A.app .poly x0.2.2.2.1 x3.1) fun x4=>
 A.inl _ (x0.1,x0.2.1,A.arith .add .i64 x0.2.2.1 (A.lit 1),x4.1,()))<|
 A.inr _<|A.ret _ (x0.2.2.2.1,())) (x.1,A.len .poly x.1,A.lit 0,A.bQ .poly,())
def WR (A:Alg) (Ht:Pt A AJ) (Hu:Ft A AJ) (aaA:Pt A LQ) (aaB:Ft A LQ) (x:Tup A.ah [.x .sym]):Ot A LU:=
 A.cl aaA aaB (A.fL .sym 1 .poly x.1,()) fun x0=>
 A.cl Ht Hu (A.mkX .poly (A.fL .sym 3 .mono x.1,()),()) fun x1=>
 A.cl Ht Hu (A.mkX .poly (A.fL .sym 4 .mono x.1,()),()) fun x2=>
 A.iter [.l .ev,.i,.i,.i,.i,.i,.i,.l .ev,.l .poly,.l .mono,.l .mono] (fun x3=>
 A.cond (A.cmp .lss x3.2.2.1 x3.2.1) (A.bd .ev x3.1 x3.2.2.1<|
 A.l1 (.x .ev) (A.get .ev x3.1 x3.2.2.1) fun x4=>
 A.cl Ht Hu (A.mkX .poly (A.fL .ev 2 .mono x4.1,()),()) fun x5=>
 A.cl Ht Hu (A.mkX .poly (A.fL .ev 3 .mono x4.1,()),()) fun x6=>
 A.cl aaA aaB (A.fL .ev 4 .poly x4.1,()) fun x7=>
 A.l1 (.l .ev) (A.lst .ev [A.mkX .ev (A.fI .ev 0 x4.1,A.fI .ev 1 x4.1,x5.1,x6.1,x7.1,())]) fun x8=>
 A.chk (A.cmp .leq (A.addN (A.len .ev x3.q.2.2.2.1) (A.len .ev x8.1)) (A.lit 1073741824))<|
 A.l1 (.l .ev) (A.app .ev x3.q.2.2.2.1 x8.1) fun x9=>
 A.inl _ (x3.1,x3.2.1,A.arith .add .i64 x3.2.2.1 (A.lit 1),x3.2.2.2.1,x3.q.1,x3.q.2.1,x3.q.2.2.1,x9.1,x3.o.1,x3.o.2.1,x3.o.2.2.1,()))<|
 A.inr _<|A.ret _ (x3.q.2.1,x3.q.2.2.1,x3.q.2.2.2.1,x3.o.1,x3.o.2.1,x3.o.2.2.1,())) (A.fL .sym 0 .ev x.1,A.len .ev (A.fL .sym 0 .ev x.1),A.lit 0,A.lit 0,A.lit 0,A.fI .sym 2 x.1,A.fI .sym 5 x.1,A.bQ .ev,x0.1,x1.1,x2.1,())
def WS (A:Alg) (Ma:Pt A tO) (Mc:Ft A tO) (x:Tup A.ah [.x .poly,.x .poly]):Ot A LW:=
 A.l1 .b (A.bl false) fun x0=>
 A.cl Ma Mc (x.1,x.2.1,()) fun x1=>
 A.rb (A.cmp .eql x1.1 (A.lit 0))
def WT (A:Alg) (WG:Pt A Az) (WH:Ft A Az) (x:Tup A.ah [.i]):Ot A AL:=
 A.l1 .b (A.bl false) fun x0=>
 A.cl WG WH (x.1,A.lit 0,A.lit 65535,()) fun x1=>
 A.rb x1.1
def WU (A:Alg) (Ti:Pt A AL) (Tj:Ft A AL) (x:Tup A.ah [.i,.i,.i]):Ot A LY:=
 A.l1 .b (A.bl false) fun x0=>
 A.cl Ti Tj (x.2.1,()) fun x1=>
 A.cg x1.1 Ti Tj (x.2.2.1,()) fun x2=>
 A.rb (A.au (A.au x1.1 x2.1 (A.bl false)) (A.au (A.au (A.cmp .eql x.1 (A.lit 1)) (A.cmp .eql x.2.1 x.2.2.1) (A.bl false)) (A.bl true) (A.au (A.cmp .eql x.1 (A.lit 2)) (A.cmp .lss x.2.1 x.2.2.1) (A.bl false))) (A.bl false))
def WW (A:Alg) (Md:Pt A AB) (Me:Ft A AB) (Tf:Pt A AA) (Tg:Ft A AA) (Ma:Pt A tO) (Mc:Ft A tO) (aiR:Pt A LU) (aiS:Ft A LU) (aaC:Pt A LW) (aaD:Ft A LW) (aiT:Pt A LY) (aiU:Ft A LY) (x:Tup A.ah [.x .sym,.i]):Ot A LZ:=
 A.cl Tf Tg (A.mkX .poly (A.fL .sym 3 .mono x.1,()),()) fun x0=>
 A.cg (A.aA (A.aA x0.1)) Tf Tg (A.mkX .poly (A.fL .sym 4 .mono x.1,()),()) fun x1=>
 A.cond (A.au (A.aA x0.1) (A.bl true) (A.aA x1.1)) (A.ret _ (A.mkX .sym (A.bQ .ev,A.bQ .poly,A.lit 0,A.bQ .mono,A.bQ .mono,A.lit 0,()),()))<|
 A.cl aiR aiS (x.1,()) fun x2=>
 A.cl Md Me (A.mkX .poly (A.fL .sym 3 .mono x.1,()),()) fun x3=>
 A.l1 .i x3.1 fun x4=>
 A.l1 .b x3.2.1 fun x5=>
 A.cl Md Me (A.mkX .poly (A.fL .sym 4 .mono x.1,()),()) fun x6=>
 A.l1 .i x6.1 fun x7=>
 A.l1 .b x6.2.1 fun x8=>
 A.l1 .i (A.arith .add .i64 (A.arith .sub .i64 (A.fI .sym 2 x.1) (A.lit 3)) (A.lit 1)) fun x9=>
 A.l1 .b (A.au (A.cmp .eql (A.fI .sym 2 x.1) (A.lit 2)) x5.1 (A.bl false)) fun x10=>
 A.bind [.i,.i,.i,.i,.l .ev,.l .poly,.l .mono,.l .mono] (A.cond x10.1 (A.l1 .i (A.lit 1) fun x11=>
 A.l1 .i x4.1 fun x12=>
 A.ret _ (A.lit 0,A.lit 0,x11.1,x12.1,x2.2.2.1,x2.2.2.2.1,A.bQ .mono,A.bQ .mono,()))<|
 A.l1 .b (A.au (A.cmp .neq (A.fI .sym 2 x.1) (A.lit 3)) (A.cmp .neq (A.fI .sym 2 x.1) (A.lit 4)) (A.bl false)) fun x11=>
 A.bind [.i,.i,.i,.i,.l .ev,.l .poly,.l .mono,.l .mono] (A.cond x11.1 (A.ret _ (A.lit 0,A.lit 0,x2.1,x2.2.1,x2.2.2.1,x2.2.2.2.1,x2.q.1,x2.q.2.1,()))<|
 A.cl aaC aaD (A.mkX .poly (A.fL .sym 3 .mono x.1,()),A.mkX .poly (A.fL .sym 4 .mono x.1,()),()) fun x12=>
 A.l1 .b (A.au x12.1 (A.bl true) (A.au x5.1 x8.1 (A.bl false))) fun x13=>
 A.bind [.i,.i,.i,.i,.l .ev,.l .poly,.l .mono,.l .mono] (A.cond x13.1 (A.cl aaC aaD (A.mkX .poly (A.fL .sym 3 .mono x.1,()),A.mkX .poly (A.fL .sym 4 .mono x.1,()),()) fun x14=>
 A.cg (A.jy (A.aA (A.au x14.1 (A.cmp .eql (A.fI .sym 2 x.1) (A.lit 3)) (A.bl false))) (A.au x5.1 x8.1 (A.bl false))) aiT aiU (x9.1,x4.1,x7.1,()) fun x15=>
 A.l1 .b (A.au (A.au x14.1 (A.cmp .eql (A.fI .sym 2 x.1) (A.lit 3)) (A.bl false)) (A.bl true) (A.au (A.au x5.1 x8.1 (A.bl false)) x15.1 (A.bl false))) fun x16=>
 A.l1 .i (A.lit 1) fun x17=>
 A.bind [.i,.i,.i,.i,.l .ev,.l .poly] (A.cond (A.aA x16.1) (A.l1 .i x.2.1 fun x18=>
 A.ret _ (A.lit 0,A.lit 0,x17.1,x18.1,x2.2.2.1,x2.2.2.2.1,()))<|
 A.ret _ (A.lit 0,A.lit 0,x17.1,x2.2.1,x2.2.2.1,x2.2.2.2.1,())) fun x18=>
 A.ret _ (x18.1,x18.2.1,x18.2.2.1,x18.2.2.2.1,x18.q.1,x18.q.2.1,A.bQ .mono,A.bQ .mono,()))<|
 A.cg (A.cmp .eql (A.fI .sym 2 x.1) (A.lit 3)) Ma Mc (A.mkX .poly (A.fL .sym 3 .mono x.1,()),A.mkX .poly (A.fL .sym 4 .mono x.1,()),()) fun x14=>
 A.l1 .b (A.au (A.cmp .eql (A.fI .sym 2 x.1) (A.lit 3)) (A.cmp .gtr x14.1 (A.lit 0)) (A.bl false)) fun x15=>
 A.bind [.i,.i,.i,.i,.l .ev,.l .poly,.l .mono,.l .mono] (A.cond x15.1 (A.ret _ (A.lit 0,A.lit 0,x2.1,x2.2.1,x2.2.2.1,x2.2.2.2.1,x2.q.2.1,x2.q.1,()))<|
 A.ret _ (A.lit 0,A.lit 0,x2.1,x2.2.1,x2.2.2.1,x2.2.2.2.1,x2.q.1,x2.q.2.1,())) fun x16=>
 A.ret _ (x16.1,x16.2.1,x16.2.2.1,x16.2.2.2.1,x16.q.1,x16.q.2.1,x16.q.2.2.1,x16.q.2.2.2.1,())) fun x14=>
 A.ret _ (x14.1,x14.2.1,x14.2.2.1,x14.2.2.2.1,x14.q.1,x14.q.2.1,x14.q.2.2.1,x14.q.2.2.2.1,())) fun x12=>
 A.ret _ (x12.1,x12.2.1,x12.2.2.1,x12.2.2.2.1,x12.q.1,x12.q.2.1,x12.q.2.2.1,x12.q.2.2.2.1,())) fun x11=>
 A.ret _ (A.mkX .sym (x11.q.1,x11.q.2.1,x11.2.2.1,x11.q.2.2.1,x11.q.2.2.2.1,x11.2.2.2.1,()),())
def WX (A:Alg) (x:Tup A.ah [.l .i64,.l .i64]):Ot A L6:=
 A.l1 .b (A.bl false) fun x0=>
 A.cond (A.cmp .neq (A.len .i64 x.1) (A.len .i64 x.2.1)) (A.rb (A.bl false))<|
 A.l1 .i (A.lit 0) fun x1=>
 A.iter [.l .i64,.l .i64,.i] (fun x2=>
 A.cond (A.cmp .lss x2.2.2.1 (A.len .i64 x2.1)) (A.bd .i64 x2.1 x2.2.2.1<|
 A.bd .i64 x2.2.1 x2.2.2.1<|
 A.cond (A.cmp .neq (A.fI .i64 0 (A.get .i64 x2.1 x2.2.2.1)) (A.fI .i64 0 (A.get .i64 x2.2.1 x2.2.2.1))) (A.l1 .b (A.bl false) fun x3=>
 A.inr _<|A.ret _ (x3.1,()))<|
 A.l1 .i (A.arith .add .i64 x2.2.2.1 (A.lit 1)) fun x3=>
 A.inl _ (x2.1,x2.2.1,x3.1,()))<|
 A.inr _<|A.rb (A.bl true)) (x.1,x.2.1,x1.1,())
def WY (A:Alg) (aiV:Pt A L6) (aiW:Ft A L6) (x:Tup A.ah [.x .poly,.x .poly]):Ot A tQ:=
 A.l1 .b (A.bl false) fun x0=>
 A.cond (A.cmp .neq (A.len .mono (A.fL .poly 0 .mono x.1)) (A.len .mono (A.fL .poly 0 .mono x.2.1))) (A.rb (A.bl false))<|
 A.l1 .i (A.lit 0) fun x1=>
 A.iter [.i,.x .poly,.x .poly] (fun x2=>
 A.cond (A.cmp .lss x2.1 (A.len .mono (A.fL .poly 0 .mono x2.2.1))) (A.bd .mono (A.fL .poly 0 .mono x2.2.1) x2.1<|
 A.bd .mono (A.fL .poly 0 .mono x2.2.2.1) x2.1<|
 A.chk (A.orB (A.aA (A.aA (A.cmp .neq (A.fI .mono 0 (A.get .mono (A.fL .poly 0 .mono x2.2.1) x2.1)) (A.fI .mono 0 (A.get .mono (A.fL .poly 0 .mono x2.2.2.1) x2.1))))) (A.cmp .leq (A.lit 0) x2.1))<|
 A.chk (A.orB (A.aA (A.aA (A.cmp .neq (A.fI .mono 0 (A.get .mono (A.fL .poly 0 .mono x2.2.1) x2.1)) (A.fI .mono 0 (A.get .mono (A.fL .poly 0 .mono x2.2.2.1) x2.1))))) (A.cmp .lss x2.1 (A.len .mono (A.fL .poly 0 .mono x2.2.1))))<|
 A.chk (A.orB (A.aA (A.aA (A.cmp .neq (A.fI .mono 0 (A.get .mono (A.fL .poly 0 .mono x2.2.1) x2.1)) (A.fI .mono 0 (A.get .mono (A.fL .poly 0 .mono x2.2.2.1) x2.1))))) (A.cmp .leq (A.lit 0) x2.1))<|
 A.chk (A.orB (A.aA (A.aA (A.cmp .neq (A.fI .mono 0 (A.get .mono (A.fL .poly 0 .mono x2.2.1) x2.1)) (A.fI .mono 0 (A.get .mono (A.fL .poly 0 .mono x2.2.2.1) x2.1))))) (A.cmp .lss x2.1 (A.len .mono (A.fL .poly 0 .mono x2.2.2.1))))<|
 A.cg (A.aA (A.cmp .neq (A.fI .mono 0 (A.get .mono (A.fL .poly 0 .mono x2.2.1) x2.1)) (A.fI .mono 0 (A.get .mono (A.fL .poly 0 .mono x2.2.2.1) x2.1)))) aiV aiW (A.fL .mono 1 .i64 (A.get .mono (A.fL .poly 0 .mono x2.2.1) x2.1),A.fL .mono 1 .i64 (A.get .mono (A.fL .poly 0 .mono x2.2.2.1) x2.1),()) fun x3=>
 A.cond (A.au (A.cmp .neq (A.fI .mono 0 (A.get .mono (A.fL .poly 0 .mono x2.2.1) x2.1)) (A.fI .mono 0 (A.get .mono (A.fL .poly 0 .mono x2.2.2.1) x2.1))) (A.bl true) (A.aA x3.1)) (A.l1 .b (A.bl false) fun x4=>
 A.inr _<|A.ret _ (x4.1,()))<|
 A.l1 .i (A.arith .add .i64 x2.1 (A.lit 1)) fun x4=>
 A.inl _ (x4.1,x2.2.1,x2.2.2.1,()))<|
 A.inr _<|A.rb (A.bl true)) (x1.1,x.1,x.2.1,())
def WZ (A:Alg) (AP:Pt A tQ) (AQ:Ft A tQ) (x:Tup A.ah [.l .poly,.l .poly]):Ot A AO:=
 A.l1 .b (A.bl false) fun x0=>
 A.cond (A.cmp .neq (A.len .poly x.1) (A.len .poly x.2.1)) (A.rb (A.bl false))<|
 A.l1 .i (A.lit 0) fun x1=>
 A.iter [.l .poly,.l .poly,.i] (fun x2=>
 A.cond (A.cmp .lss x2.2.2.1 (A.len .poly x2.1)) (A.bd .poly x2.1 x2.2.2.1<|
 A.bd .poly x2.2.1 x2.2.2.1<|
 A.cl AP AQ (A.get .poly x2.1 x2.2.2.1,A.get .poly x2.2.1 x2.2.2.1,()) fun x3=>
 A.cond (A.aA x3.1) (A.l1 .b (A.bl false) fun x4=>
 A.inr _<|A.ret _ (x4.1,()))<|
 A.l1 .i (A.arith .add .i64 x2.2.2.1 (A.lit 1)) fun x4=>
 A.inl _ (x2.1,x2.2.1,x4.1,()))<|
 A.inr _<|A.rb (A.bl true)) (x.1,x.2.1,x1.1,())
def W9 (A:Alg) (AP:Pt A tQ) (AQ:Ft A tQ) (Tk:Pt A AO) (Tm:Ft A AO) (x:Tup A.ah [.x .sym,.x .sym]):Ot A L8:=
 A.l1 .b (A.bl false) fun x0=>
 A.cg (A.aA (A.cmp .neq (A.len .ev (A.fL .sym 0 .ev x.1)) (A.len .ev (A.fL .sym 0 .ev x.2.1)))) Tk Tm (A.fL .sym 1 .poly x.1,A.fL .sym 1 .poly x.2.1,()) fun x1=>
 A.cg (A.aA (A.au (A.au (A.au (A.cmp .neq (A.len .ev (A.fL .sym 0 .ev x.1)) (A.len .ev (A.fL .sym 0 .ev x.2.1))) (A.bl true) (A.aA x1.1)) (A.bl true) (A.cmp .neq (A.fI .sym 2 x.1) (A.fI .sym 2 x.2.1))) (A.bl true) (A.cmp .neq (A.fI .sym 5 x.1) (A.fI .sym 5 x.2.1)))) AP AQ (A.mkX .poly (A.fL .sym 3 .mono x.1,()),A.mkX .poly (A.fL .sym 3 .mono x.2.1,()),()) fun x2=>
 A.cg (A.aA (A.au (A.au (A.au (A.au (A.cmp .neq (A.len .ev (A.fL .sym 0 .ev x.1)) (A.len .ev (A.fL .sym 0 .ev x.2.1))) (A.bl true) (A.aA x1.1)) (A.bl true) (A.cmp .neq (A.fI .sym 2 x.1) (A.fI .sym 2 x.2.1))) (A.bl true) (A.cmp .neq (A.fI .sym 5 x.1) (A.fI .sym 5 x.2.1))) (A.bl true) (A.aA x2.1))) AP AQ (A.mkX .poly (A.fL .sym 4 .mono x.1,()),A.mkX .poly (A.fL .sym 4 .mono x.2.1,()),()) fun x3=>
 A.cond (A.au (A.au (A.au (A.au (A.au (A.cmp .neq (A.len .ev (A.fL .sym 0 .ev x.1)) (A.len .ev (A.fL .sym 0 .ev x.2.1))) (A.bl true) (A.aA x1.1)) (A.bl true) (A.cmp .neq (A.fI .sym 2 x.1) (A.fI .sym 2 x.2.1))) (A.bl true) (A.cmp .neq (A.fI .sym 5 x.1) (A.fI .sym 5 x.2.1))) (A.bl true) (A.aA x2.1)) (A.bl true) (A.aA x3.1)) (A.rb (A.bl false))<|
 A.l1 .i (A.lit 0) fun x4=>
 A.iter [.i,.x .sym,.x .sym] (fun x5=>
 A.cond (A.cmp .lss x5.1 (A.len .ev (A.fL .sym 0 .ev x5.2.1))) (A.bd .ev (A.fL .sym 0 .ev x5.2.1) x5.1<|
 A.l1 (.x .ev) (A.get .ev (A.fL .sym 0 .ev x5.2.1) x5.1) fun x6=>
 A.bd .ev (A.fL .sym 0 .ev x5.2.2.1) x5.1<|
 A.l1 (.x .ev) (A.get .ev (A.fL .sym 0 .ev x5.2.2.1) x5.1) fun x7=>
 A.cg (A.aA (A.au (A.cmp .neq (A.fI .ev 0 x6.1) (A.fI .ev 0 x7.1)) (A.bl true) (A.cmp .neq (A.fI .ev 1 x6.1) (A.fI .ev 1 x7.1)))) AP AQ (A.mkX .poly (A.fL .ev 2 .mono x6.1,()),A.mkX .poly (A.fL .ev 2 .mono x7.1,()),()) fun x8=>
 A.cg (A.aA (A.au (A.au (A.cmp .neq (A.fI .ev 0 x6.1) (A.fI .ev 0 x7.1)) (A.bl true) (A.cmp .neq (A.fI .ev 1 x6.1) (A.fI .ev 1 x7.1))) (A.bl true) (A.aA x8.1))) AP AQ (A.mkX .poly (A.fL .ev 3 .mono x6.1,()),A.mkX .poly (A.fL .ev 3 .mono x7.1,()),()) fun x9=>
 A.cg (A.aA (A.au (A.au (A.au (A.cmp .neq (A.fI .ev 0 x6.1) (A.fI .ev 0 x7.1)) (A.bl true) (A.cmp .neq (A.fI .ev 1 x6.1) (A.fI .ev 1 x7.1))) (A.bl true) (A.aA x8.1)) (A.bl true) (A.aA x9.1))) Tk Tm (A.fL .ev 4 .poly x6.1,A.fL .ev 4 .poly x7.1,()) fun x10=>
 A.cond (A.au (A.au (A.au (A.au (A.cmp .neq (A.fI .ev 0 x6.1) (A.fI .ev 0 x7.1)) (A.bl true) (A.cmp .neq (A.fI .ev 1 x6.1) (A.fI .ev 1 x7.1))) (A.bl true) (A.aA x8.1)) (A.bl true) (A.aA x9.1)) (A.bl true) (A.aA x10.1)) (A.l1 .b (A.bl false) fun x11=>
 A.inr _<|A.ret _ (x11.1,()))<|
 A.l1 .i (A.arith .add .i64 x5.1 (A.lit 1)) fun x11=>
 A.inl _ (x11.1,x5.2.1,x5.2.2.1,()))<|
 A.inr _<|A.rb (A.bl true)) (x4.1,x.1,x.2.1,())
def Xa (A:Alg) (Ti:Pt A AL) (Tj:Ft A AL) (x:Tup A.ah []):Ot A L9:=
 A.l1 .b (A.bl false) fun x0=>
 A.cl Ti Tj (A.lit 1,()) fun x1=>
 A.rb x1.1
def Xb (A:Alg) (Md:Pt A AB) (Me:Ft A AB) (Ma:Pt A tO) (Mc:Ft A tO) (aaE:Pt A LZ) (aaF:Ft A LZ) (aiX:Pt A L9) (aiY:Ft A L9) (AP:Pt A tQ) (AQ:Ft A tQ) (Tk:Pt A AO) (Tm:Ft A AO) (aaG:Pt A L8) (aaH:Ft A L8) (ada:Pt A En) (adb:Ft A En) (gW:Pt A eU) (gX:Ft A eU) (PI:Pt A sP) (PK:Ft A sP) (x:Tup A.ah [.l .u8]):Ot A aaz:=
 A.l1 .b (A.bl false) fun x0=>
 A.cond (A.cmp .gtr (A.len .u8 x.1) (A.lit 1048576)) (A.rb (A.bl true))<|
 A.cl ada adb (x.1,()) fun x1=>
 A.l1 (.x .sym) x1.1 fun x2=>
 A.l1 .i x1.2.1 fun x3=>
 A.cl aaE aaF (x2.1,x3.1,()) fun x4=>
 A.l1 (.x .sym) x4.1 fun x5=>
 A.cl PI PK (x2.1,x3.1,()) fun x6=>
 A.cl aaG aaH (x5.1,x6.1,()) fun x7=>
 A.cond (A.aA x7.1) (A.rb (A.bl false))<|
 A.cl gW gX (A.mkX .poly (A.fL .sym 3 .mono x2.1,()),()) fun x8=>
 A.cg (A.aA (A.aA x8.1)) gW gX (A.mkX .poly (A.fL .sym 4 .mono x2.1,()),()) fun x9=>
 A.cond (A.au (A.aA x8.1) (A.bl true) (A.aA x9.1)) (A.cg (A.cmp .eql (A.fI .sym 2 x5.1) (A.lit 0)) aiX aiY () fun x10=>
 A.rb (A.au (A.cmp .eql (A.fI .sym 2 x5.1) (A.lit 0)) x10.1 (A.bl false)))<|
 A.cl aaE aaF (x5.1,x3.1,()) fun x10=>
 A.cl aaG aaH (x10.1,x5.1,()) fun x11=>
 A.cg (A.aA (A.aA x11.1)) Tk Tm (A.fL .sym 1 .poly x5.1,A.fL .sym 1 .poly x2.1,()) fun x12=>
 A.cond (A.au (A.au (A.aA x11.1) (A.bl true) (A.aA x12.1)) (A.bl true) (A.cmp .neq (A.len .ev (A.fL .sym 0 .ev x5.1)) (A.len .ev (A.fL .sym 0 .ev x2.1)))) (A.rb (A.bl false))<|
 A.cl Md Me (A.mkX .poly (A.fL .sym 3 .mono x2.1,()),()) fun x13=>
 A.l1 .i x13.1 fun x14=>
 A.l1 .b x13.2.1 fun x15=>
 A.cl Md Me (A.mkX .poly (A.fL .sym 4 .mono x2.1,()),()) fun x16=>
 A.l1 .i x16.1 fun x17=>
 A.l1 .b x16.2.1 fun x18=>
 A.cg (A.jy (A.jy (A.aA (A.au (A.cmp .eql (A.fI .sym 2 x2.1) (A.lit 2)) x15.1 (A.bl false))) (A.au (A.cmp .eql (A.fI .sym 2 x2.1) (A.lit 3)) (A.bl true) (A.cmp .eql (A.fI .sym 2 x2.1) (A.lit 4)))) (A.aA (A.au x15.1 x18.1 (A.bl false)))) AP AQ (A.mkX .poly (A.fL .sym 3 .mono x2.1,()),A.mkX .poly (A.fL .sym 4 .mono x2.1,()),()) fun x19=>
 A.cond (A.au (A.au (A.cmp .eql (A.fI .sym 2 x2.1) (A.lit 2)) x15.1 (A.bl false)) (A.bl true) (A.au (A.au (A.cmp .eql (A.fI .sym 2 x2.1) (A.lit 3)) (A.bl true) (A.cmp .eql (A.fI .sym 2 x2.1) (A.lit 4))) (A.au (A.au x15.1 x18.1 (A.bl false)) (A.bl true) x19.1) (A.bl false))) (A.rb (A.au (A.cmp .eql (A.fI .sym 2 x5.1) (A.lit 1)) (A.cmp .eql (A.len .mono (A.fL .sym 3 .mono x5.1)) (A.lit 0)) (A.bl false)))<|
 A.cg (A.jy (A.au (A.cmp .eql (A.fI .sym 2 x5.1) (A.fI .sym 2 x2.1)) (A.cmp .eql (A.fI .sym 5 x5.1) (A.fI .sym 5 x2.1)) (A.bl false)) (A.aA (A.cmp .neq (A.fI .sym 2 x2.1) (A.lit 3)))) Ma Mc (A.mkX .poly (A.fL .sym 3 .mono x5.1,()),A.mkX .poly (A.fL .sym 4 .mono x5.1,()),()) fun x20=>
 A.rb (A.au (A.au (A.cmp .eql (A.fI .sym 2 x5.1) (A.fI .sym 2 x2.1)) (A.cmp .eql (A.fI .sym 5 x5.1) (A.fI .sym 5 x2.1)) (A.bl false)) (A.au (A.cmp .neq (A.fI .sym 2 x2.1) (A.lit 3)) (A.bl true) (A.cmp .lss x20.1 (A.lit 0))) (A.bl false))
end Go.TX.F
