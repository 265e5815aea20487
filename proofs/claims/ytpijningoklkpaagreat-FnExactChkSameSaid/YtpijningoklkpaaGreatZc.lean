/- Part 3 of a proof: what the last part needs. No condition. -/
import Derived.Test.YtpijningoklkpaaGreatZb
set_option linter.all false
set_option linter.unusedSectionVars false
set_option linter.unusedVariables false
set_option linter.unusedSimpArgs false
namespace Go.TX
open Go Go.AE
variable [aH]
section
variable {n:Nat}
theorem WK {t:Slots} {r:Nat}:∀ {rs:List Nat},r∈rs→aQ (cut t rs) r=aQ t r
 | [],h=>by simp at h
 | x::rs,h=>by
  simp only [cut,aQ]
  split
  ·rename_i e;rw [e]
  ·rename_i e
   cases h with
   | head=>exact absurd rfl e
   | tail _ h=>exact WK h
theorem adX {h:List aJ} {x:Cell} {y:SC} (hr:RC (nmh h) x y) {s:Sh} {f:Bool} {v:LV aB} (hk:eD (std n) h s y=some (f,v,[])):∃g,(f=true→g=true)∧ZC x g (lvD s v):=by
 unfold eD at hk
 split at hk
 ·rename_i f0 lf
  split at hk
  ·rename_i e;subst e;cases hk
   cases hr with | d hx hf=>
   rename_i g0 x0
   subst hx
   rw [Dr]
   refine⟨g0 || (mF lf).lX,fun h=> ?_,.d _ _⟩
   rw [iW]
   cases lf with
   | rows c xs=>simp only [Leaf.flag]at h;rcases hf h with h | h<;>simp_all [Leaf.scalar]
   | _=>simp [Leaf.scalar]
  ·cases hk
 ·cases hr
  split at hk
  ·cases hk;exact⟨true,fun _=>rfl,.nil _⟩
  ·cases hk
 ·rename_i f0 c xs
  cases hr with | clip hf=>
  split at hk
  ·rename_i e;subst e;cases hk;exact⟨_,hf,.clip _ _ _⟩
  ·cases hk
 ·split at hk
  ·split at hk
   ·cases hk
   ·cases hk
  ·cases hk
 ·cases hk
theorem LD {h:List aJ}:∀ {ss:List Sh} {ys:List SC} {xs:List Cell} (_:F2 (RC (nmh h)) xs ys) {f:Bool} {vs:List (LV aB)},aN (std n) h ss ys=some (f,vs,[])→∃g,(f=true→g=true)∧ZCs xs g (List.zipWith lvD ss vs)
 | [],[],xs,hF,f,vs,hk=>by simp [aN]at hk;obtain⟨rfl,rfl⟩:=hk;cases hF;exact⟨true,fun _=>rfl,.nil⟩
 | [],_::_,_,_,_,_,hk=>by simp [aN]at hk
 | _::_,[],_,_,_,_,hk=>by simp [aN]at hk
 | s::ss,y::ys,xs,hF,f,vs,hk=>by
  cases hF with | cons h1 h2=>
  unfold aN at hk
  split at hk
  ·rename_i f1 v1 l1 hv1
   split at hk
   ·rename_i g2 vs2 ls2 hv2
    split at hk
    ·simp only [Option.some.injEq,Prod.mk.injEq,List.append_eq_nil_iff]at hk
     obtain⟨rfl,rfl,rfl,rfl⟩:=hk
     obtain⟨ga,a1,a2⟩:=adX h1 hv1
     obtain⟨gb,b1,b2⟩:=LD h2 hv2
     exact⟨ga&&gb,fun h=>by simp at h;simp [a1 h.1,b1 h.2],.cons a2 b2⟩
    ·cases hk
   ·cases hk
  ·cases hk
theorem Ia {N:NM}:∀ {ys:List (Leaf aB)} {xs:List Cell} {f:Bool},F2 (RC N) xs (ys.map (.d f))→∃g,(f=true∨(∀y∈ys,y.scalar=true)→g=true)∧ZCs xs g (ys.map mF)
 | [],_,_,h=>by cases h;exact⟨true,fun _=>rfl,.nil⟩
 | y::ys,_,f,.cons h1 h2=>by
  obtain⟨g,q1,q2⟩:=Ia h2
  cases h1 with | d hx hf=>
  rename_i g0 x0
  subst hx
  refine⟨(g0 || (mF y).lX)&&g,fun h=> ?_,.cons (.d _ _) q2⟩
  rw [iW]
  rcases h with h | h
  ·rcases hf h with h' | h'<;>simp [h',q1 (.inl h)]
  ·simp [h y (by simp),q1 (.inr fun y hy=>h y (List.mem_cons_of_mem _ hy))]
theorem akb {h:List aJ} {p:PV} {q:SVal} (hp:PVR (nmh h) p q) {c:Co} {f:Bool} {x:c.den} (hk:toX (std n) h c q=some (f,x,[])):∃g,(f=true→g=true)∧ZCs (aM p) g (c.row x):=by
 unfold toX at hk
 split at hk
 ·rename_i f' c' x'
  split at hk
  ·rename_i e;subst e;cases hk
   have hF:=hp.cells
   have hx:cellsS (.sv f' c' x')=(eB (std 0) c' x' 0 c'.fields).map (.d f'):=rfl
   rw [hx]at hF
   obtain⟨g,q1,q2⟩:=Ia hF
   rw [jq]at q2
   refine⟨g,fun h=>q1 ?_,q2⟩
   rcases Bool.or_eq_true _ _▸h with h | h
   ·exact .inl h
   ·exact .inr (jI c' h x')
  ·cases hk
 ·cases hk
 ·split at hk
  ·rename_i f1 ys ls1 h1
   split at hk
   ·rename_i t ht
    simp only [Option.some.injEq,Prod.mk.injEq]at hk
    obtain⟨rfl,rfl,rfl⟩:=hk
    rw [dx]at h1
    obtain⟨g,q1,q2⟩:=LD hp.cells h1
    rw [yR c t ht]at q2
    exact⟨g,q1,q2⟩
   ·cases hk
  ·cases hk
theorem TG {X:XT} {E:Tab} (hX:XOK X E) {t:Slots} {e:Nat→Option SVal} {c:Co} {h:List aJ} (he:EvR X E n (nmh h) t e):∀ {parts:List (Nat×Operand)} {f:Bool} {xs:List c.den} {k:List aJ},qH (std n) X e c h parts=some (f,xs,k,[])→
  ∃g,(f=true→g=true)∧xs.length=parts.length∧ZPs E t c.size parts g (aK c xs)
 | [],f,xs,k,hk=>by
  simp only [qH,Option.some.injEq,Prod.mk.injEq]at hk
  obtain⟨rfl,rfl,_⟩:=hk
  exact⟨true,fun _=>rfl,rfl,.nil⟩
 | (i,x)::r,f,xs,k,hk=>by
  simp only [qH]at hk
  split at hk
  ·rename_i v hv
   split at hk
   ·rename_i f1 y l1 hy
    split at hk
    ·rename_i g1 ys k1 l2 hys
     simp only [Option.some.injEq,Prod.mk.injEq,List.append_eq_nil_iff]at hk
     obtain⟨rfl,rfl,_,rfl,rfl⟩:=hk
     obtain⟨pv,p1,p2⟩:=dG hX he hv
     obtain⟨ga,a1,a2⟩:=akb p2 hy
     obtain⟨gb,b1,b2,b3⟩:=TG hX he (h:=h) hys
     have hl:(aM pv).length=c.size:=by
      have:∀ {cs:List Cell} {g:Bool} {ds:List D},ZCs cs g ds→cs.length=ds.length:=by
       intro cs g ds hz
       induction hz with
       | nil=>rfl
       | cons _ _ ih=>simp [ih]
      rw [this a2,nK]
     exact⟨ga&&gb,fun h=>by simp at h;simp [a1 h.1,b1 h.2],by simp [b2],.cons p1 hl a2 b3⟩
    ·cases hk
   ·cases hk
  ·cases hk
theorem aqv {X:XT} {E:Tab} (hX:XOK X E) {t:Slots} {e:Nat→Option SVal} {h:List aJ} (he:EvR X E n (nmh h) t e) {op:Op} {ps:List Bool} {v:SVal} (hk:zX (std n) X e h op=some (ps,v)):Gv (zA E op t) (nmh h) v:=by
 unfold zX at hk
 split at hk
 ·rename_i ty len parts
  rw [hX.ty]at hk
  split at hk
  ·rename_i y hy
   split at hk
   ·rename_i el hd
    split at hk
    ·rename_i z c hz hco
     split at hk
     ·rename_i hcond
      simp only [Bool.and_eq_true,Bool.not_eq_true',beq_iff_eq,beq_eq_false_iff_ne,ne_eq]at hcond
      obtain⟨⟨⟨hsz,hne⟩,hrange⟩,hbig⟩:=hcond
      have hbig:=Nat.le_of_ble_eq_true hbig
      obtain⟨z',hz',hzs⟩:=gy hX hsz
      rw [hz]at hz';cases hz'
      split at hk
      ·rename_i f xs k hps;cases hk
       obtain⟨g,q1,q2,q3⟩:=TG hX he hps
       have hlen:xs.length=len:=by
        have:=congrArg List.length hrange
        simp at this;rw [q2];simpa using this
       refine⟨.c (.clip g c.size (aK c xs)),.ofC (.clip q1),fun K hK=> ?_⟩
       unfold zA;simp only;rw [hy];simp only [aC];rw [hd];simp only;rw [hz]
       exact⟨hne,hrange,hbig,g,aK c xs,by rw [hzs];exact q3,by rw [aP];exact hlen,by rw [hzs];exact hK⟩
      ·cases hk
     ·cases hk
    ·cases hk
   ·cases hk
  ·cases hk
 ·cases hk
theorem LG {E:Tab} {N:NM} {h' h'':Heap} {ty:TypeId} {pv:PV} {q:SVal} (hp:PVR N pv q) (hl:∀l∈tu (std n) q,AE.look h'' l=AE.look h' l) (K:PV→Prop):ko E h'' ty pv K=ko E h' ty pv K:=by
 have key:∀l sz i j,pv= .c (.ptr l sz i j)→AE.look h'' l=AE.look h' l:=by
  intro l sz i j e
  subst e
  cases hp with | one hp=>cases hp with | c hc=>
  cases hc with
  | pb=>exact hl _ (by simp [tu])
  | pr _=>exact hl _ (by simp [tu])
 unfold ko
 cases E.ty ty with
 | none=>rfl
 | some y=>
  simp only [aC]
  split
  ·rename_i l sz i j;rw [key l sz i j rfl]
  ·rfl
  ·rfl
theorem stable {X:XT} {E:Tab} (hX:XOK X E) {N:NM} {h' h'':Heap} {t:Slots} {e:Nat→Option SVal} (he:EvR X E n N t e) {op:Op} (hl:∀l∈gQ (std n) X e op,AE.look h'' l=AE.look h' l) (hev:isLoad op=true→∃ty x q,op= .load ty x∧evX (std n) X e x=some q) (K:PV→Prop):
  gB E op t h'' K=gB E op t h' K:=by
 cases hL:isLoad op with
 | false=>rw [xL hL]
 | true=>
  obtain⟨ty,x,q,rfl,hq⟩:=hev hL
  obtain⟨pv,p1,p2⟩:=dG hX he hq
  simp only [gQ,hq]at hl
  unfold gB;simp only
  rw [p1];simp only [aO]
  exact LG p2 hl K
def HI (E:Tab) (ops:List Oper) (h':Heap) (h:List aJ) (hs':List Held) (hs:List (Nat×List Nat)):Prop:=∀p∈hs,(∀l∈p.2,l<h.length)∧∃o t v,nI hs' p.1=some (o,t,v)∧
 ∀h'',(∀l∈p.2,AE.look h'' l=AE.look h' l)→iB E ops o t h'' (fun v'=>v'=v)
theorem HI.turn {E:Tab} {ops:List Oper} {h' h'':Heap} {h k:List aJ} {hs':List Held} {hs:List (Nat×List Nat)} (H:HI E ops h' h hs' hs) {td:List Nat} (x:iD h' h h'' k td):HI E ops h'' k hs' (mE hs td):=by
 intro p hp
 simp only [mE,List.mem_filter]at hp
 obtain⟨hp,hn⟩:=hp
 obtain⟨h1,o,t,v,h2,h3⟩:=H p hp
 refine⟨fun l hl=>Nat.lt_of_lt_of_le (h1 l hl) x.len,o,t,v,h2,fun h3' hh=>h3 h3' fun l hl=> ?_⟩
 have:=List.all_eq_true.1 hn l hl
 rw [hh l hl,(x.keep l (h1 l hl) (by simpa using this)).2]
theorem yX (hs:List (Nat×List Nat)):mE hs []=hs:=by
 unfold mE;rw [List.filter_eq_self];intro p _;simp
theorem Ce {E:Tab} {ops:List Oper} {h' h'':Heap} {h k:List aJ} {hs':List Held} {hs:List (Nat×List Nat)} (H:HI E ops h' h hs' hs) {td:List Nat} (x:iD h' h h'' k td):∀ {cs:List Nat},cs.all (Jg hs td)=true→O9 E ops h'' hs' cs
 | [],_=>trivial
 | j::r,hc=>by
  simp only [List.all_cons,Bool.and_eq_true]at hc
  refine⟨?_,Ce H x hc.2⟩
  have hj:=hc.1
  simp only [Jg,List.any_eq_true,Bool.and_eq_true,beq_iff_eq]at hj
  obtain⟨p,hp,hpj,hall⟩:=hj
  obtain⟨h1,o,t,v,h2,h3⟩:=H p hp
  rw [←hpj,h2]
  refine h3 h'' fun l hl=>(x.keep l (h1 l hl) ?_).2
  have:=List.all_eq_true.1 hall l hl
  simpa using this
theorem HI.push {E:Tab} {ops:List Oper} {h':Heap} {h:List aJ} {hs':List Held} {hs:List (Nat×List Nat)} (H:HI E ops h' h hs' hs) {i:Nat} (hi:¬(hs.any fun p=>p.1==i)=true) {ns:List Nat} {o:Oper} {t:Slots} {v:Option PV}
  (hns:∀l∈ns,l<h.length) (hst:∀h'',(∀l∈ns,AE.look h'' l=AE.look h' l)→iB E ops o t h'' (fun v'=>v'=v)):HI E ops h' h ((i,o,t,v)::hs') ((i,ns)::hs):=by
 intro p hp
 cases hp with
 | head=>exact⟨hns,o,t,v,by simp [nI],hst⟩
 | tail _ hp=>
  obtain⟨h1,o',t',v',h2,h3⟩:=H p hp
  have hne:i≠p.1:=fun e=>hi (by rw [List.any_eq_true];exact⟨p,hp,by simp [e]⟩)
  exact⟨h1,o',t',v',by rw [K7 hne];exact h2,h3⟩
theorem Ib {E:Tab} {X:XT} {N:NM} {t:Slots} {e:Nat→Option SVal} (he:EvR X E n N t e) {k:Int}:∀ {l:List (Int×Nat)} {b:Bool},Ca (std n) e k l=some b→∀K:Bool→Prop,K b→CU t k l K
 | [],b,h,K,hb=>by cases h;exact hb
 | (k',r)::rest,b,h,K,hb=>by
  unfold Ca at h
  split at h
  ·rename_i f b1 hr
   split at h
   ·rename_i q hq
    cases h
    obtain⟨pv,h1,h2⟩:=he r _ hr
    obtain⟨g,rfl⟩:=h2.bool
    refine⟨g,b1,h1,?_⟩
    have hb:K (bif decide (k=k')then b1 else q):=hb
    by_cases c:k=k'
    ·rw [if_pos c];rw [decide_eq_true c]at hb;exact hb
    ·rw [if_neg c];rw [decide_eq_false c]at hb;exact Ib he hq K hb
   ·cases h
  ·cases h
theorem PD {X:XT} {ops:List Oper} {e:Nat→Option SVal} {h:List aJ} {op:Op} (hp:CW op=true):Pp (std n) X ops e h op=match zX (std n) X e h op with | some r=>some (some r) | none=>none:=by
 cases op
 case makeMap=>cases hp
 case insert=>cases hp
 case move=>cases hp
 case lookup a b q d=>cases q<;>first | rfl | cases hp
 all_goals first | rfl | (simp only [Pp];generalize zX (std n) X e h _=z;cases z<;>rfl)
theorem map_ok {X:XT} {E:Tab} (hX:XOK X E) {ops:List Oper} {t:Slots} {e:Nat→Option SVal} {h:List aJ} (he:EvR X E n (nmh h) t e) {op:Op} {r:Option (List Bool×SVal)} (hk:Pp (std n) X ops e h op=some r):
  match r with | none=>∀K:Option PV→Prop,K none→zM E ops op t K | some (_,v)=>∃pv,PVR (nmh h) pv v∧∀K:Option PV→Prop,K (some pv)→zM E ops op t K:=by
 by_cases hp:CW op=true
 ·rw [PD hp]at hk
  split at hk
  ·rename_i q hq
   cases hk
   obtain⟨ps,v⟩:=q
   obtain⟨pv,p1,p2⟩:=aqv hX he hq
   exact⟨pv,p1,fun K hK=>by rw [yF hp];exact p2 _ hK⟩
  ·cases hk
 ·cases op
  case makeMap=>cases hk;exact fun K h=>h
  case insert a b c v=>
   cases v with
   | tmp r=>
    simp only [Pp]at hk
    cases hq:e r with
    | some q=>
     rw [hq]at hk
     cases hk
     obtain⟨pv,p1,_⟩:=he _ _ hq
     exact fun K h=>⟨⟨pv,p1⟩,h⟩
    | none=>rw [hq]at hk;cases hk
   | _=>cases hk
  case move x=>
   simp only [Pp]at hk
   split at hk
   ·rename_i hs
    cases hk
    exact fun K h=>⟨hs,h⟩
   ·cases hk
  case lookup a b q d=>
   cases q with
   | tmp q=>
    simp only [Pp]at hk
    split at hk
    ·rename_i f m hq
     split at hk
     ·rename_i bb hb
      cases hk
      obtain⟨pv,p1,p2⟩:=he _ _ hq
      obtain⟨g,rfl⟩:=p2.int
      exact⟨_,.ofC (.d rfl fun _=> .inl rfl),fun K hK=>⟨g,m,p1,Ib he hb _ hK⟩⟩
     ·cases hk
    ·cases hk
   | _=>exact absurd rfl hp
  all_goals exact absurd rfl hp
theorem xR {X:XT} {gs:List (GE (std n))} {lk:Nat→Option (SV (std n))} {h:List aJ} {cur:Option Nat} {op:Op} {ps:List Bool} {v:SVal} (hk:sZ (std n) X lk gs h cur op=some (ps,v)) (hl:isLoad op=true):
  (∃ty x q,op= .load ty x∧evX (std n) X (gI (std n) lk (eF (std n) gs cur)) x=some q)∧∀l∈gQ (std n) X (gI (std n) lk (eF (std n) gs cur)) op,l<h.length:=by
 cases op<;>simp only [isLoad,Bool.false_eq_true]at hl
 rename_i ty x
 simp only [sZ,Ti]at hk
 obtain⟨q,hq,hk⟩:=dS hk
 refine⟨⟨ty,x,q,rfl,hq⟩,fun l hl=> ?_⟩
 simp only [gQ,hq]at hl
 unfold La at hk
 split at hk
 ·cases hk
 ·unfold tu at hl
  split at hl
  ·simp at hl;subst hl
   simp only at hk
   split at hk
   ·rename_i hh;exact(List.getElem?_eq_some_iff.1 hh).1
   ·cases hk
  ·simp at hl;subst hl
   simp only at hk
   split at hk
   ·rename_i hh;exact(List.getElem?_eq_some_iff.1 hh).1
   ·cases hk
  ·simp at hl
end
end Go.TX
namespace Go.TX
open Go Go.AE
variable [aH]
section
variable {n:Nat}
theorem z8 (gs:List (GE (std n))):eF (std n) gs none=[]:=by unfold eF;rw [Po];simp
theorem DC {E:Tab} {ops:List Oper} {o:Oper} (hg:o.guard=none) (t:Slots) (h:Heap) (K:Option PV→Prop):iB E ops o t h K=gB E o.op t h fun v=>K (some v):=by unfold iB;rw [hg]
theorem qR {E:Tab} {ops:List Oper} {o:Oper} {j d:Nat} {w:Bool} (hg:o.guard=some (j,w)) (hd:gslot ops j=some d) (t:Slots) (h:Heap) (K:Option PV→Prop):
 iB E ops o t h K=kE (aQ t d) w (gB E o.op t h fun v=>K (some v)) (K (some nu)):=by unfold iB;rw [hg];simp only;rw [hd];rfl
theorem Jm {X:XT} {E:Tab} (hX:XOK X E) {C:Calls aB} {ops:List Oper} {ρ:Type} {K:RSt (std n)→(ρ→Prop)→Prop} {r:ρ→Prop} {h0:List aJ} {m0:Nat}:∀ {rest:List fM} {hs:List (Nat×List Nat)} {hs':List Held} {s':St} {s:RSt (std n)},SR s' s→(∀k,Keep k h0 s.h)→s.m=m0→
    HI E ops s'.h s.h hs' hs→iI (std n) X C ops rest hs K s r→
    eZ E (jV C) ops rest hs' (fun s1'=>∃s1,SR s1' s1∧(∀k,Keep k h0 s1.h)∧s1.m=m0∧K s1 r) s'
  | [],hs,hs',s',s,S,hK0,hm0,HH,hk=>⟨s,S,hK0,hm0,hk⟩
  | (i,rs,cs)::rest,hs,hs',s',s,S,hK0,hm0,HH,hk=>by
    generalize hM:iI (std n) X C ops ((i,rs,cs)::rest) hs K s=M at hk
    unfold iI at hM
    unfold eZ
    split at hM
    · (subst hM;exact hk.elim)
    · rename_i o ho
      rw [ho]
      simp only [ab2]
      split at hM
      · rename_i hdst
        have hd:dOK s'.m o.dst:=by rw [S.m];exact WI hdst
        refine⟨hd,?_⟩
        simp only at hM
        have hlk:∀i sv,(if rs.contains i then dF (std n) s.t i else none)=some sv→dF (std n) s.t i=some sv:=fun i sv h=>by
          split at h
          · exact h
          · cases h
        have WL:∀d,(if rs.contains d then dF (std n) s.t d else none).isSome→aQ (cut s'.t rs) d=aQ s'.t d:=fun d h=>by
          split at h
          · rename_i hc;exact WK (by simpa using hc)
          · cases h
        have hev:∀ {gs:List (GE (std n))},SR s' {s with gs:=gs}→∀ {al:List Nat},(∀t∈al,∃e,gs[t]? =some e∧e.g=true)→EvR X E n (nmh s.h) (cut s'.t rs) (gI (std n) (fun i=>if rs.contains i then dF (std n) s.t i else none) al):=
          fun S1 _ hal=>qd (t':=s'.t) WL (fun i sv h=>S1.val i sv (hlk i sv h)) hal
        have go:∀ {s2':St} {s2:RSt (std n)} {tag:Option Nat} {v:SVal} {hs2:List (Nat×List Nat)} {adY:List Held},SR s2' (s2.put (std n) o.dst tag v)→(∀k,Keep k s.h s2.h)→s2.m=s.m→HI E ops s2'.h s2.h adY hs2→iI (std n) X C ops rest hs2 K (s2.put (std n) o.dst tag v) r→
            eZ E (jV C) ops rest adY (fun s1'=>∃s1,SR s1' s1∧(∀k,Keep k h0 s1.h)∧s1.m=m0∧K s1 r) s2':=by
          intro s2' s2 tag v hs2 adY S2 hkeep hm2 HI2 hk2
          have e1:=ab9 (n:=n) (s:=s2) (d:=o.dst) (tag:=tag) (v:=v)
          exact Jm hX (rest:=rest) S2 (fun k=>by rw [e1.1];exact(hK0 k).trans (hkeep k)) (by rw [e1.2,hm2,hm0]) (by rw [e1.1];exact HI2) hk2
        have Jo:∀(d:Option Nat) (v:Option PV),(s'.put d v).h=s'.h:=fun d v=>by cases d<;>rfl
        split at hM
        ·
          rename_i hkind
          split at hM
          · (subst hM;exact hk.elim)
          rename_i hnew
          split at hM
          · rename_i hguard
            rw [hkind]
            split at hM
            · rename_i ps v hv
              subst hM
              obtain⟨hps,hk⟩:=fU hk
              rw [Cc]at hk
              have qg:∀i sv,(if rs.contains i then dF (std n) s.t i else none)=some sv→yU s.gs s'.t (nmh s.h) i sv:=fun i sv h=>S.val i sv (hlk i sv h)
              obtain⟨pv,p1,p2⟩:=vo hX S.heap S.gs WL qg (cur:=none) (fun t h=>by cases h) hv hps
              simp only
              rw [DC hguard]
              have hE0:=hev S (al:=eF (std n) s.gs none) (fun t h=>by rw [z8]at h;simp at h)
              rw [z8]at hE0
              have hln:=fun hL=>xR hv hL
              rw [z8]at hln
              have hst:∀h'',(∀l∈gQ (std n) X (gI (std n) (fun i=>if rs.contains i then dF (std n) s.t i else none) []) o.op,AE.look h'' l=AE.look s'.h l)→iB E ops o (cut s'.t rs) h'' (fun v'=>v'=some pv):=fun h'' hh=>by
                rw [DC hguard,stable hX hE0 hh (fun hL=>(hln hL).1)]
                exact p2 _ rfl
              have hns:∀l∈gQ (std n) X (gI (std n) (fun i=>if rs.contains i then dF (std n) s.t i else none) []) o.op,l<s.h.length:=fun l hl=>by
                cases hL:isLoad o.op with
                | true=>exact(hln hL).2 l hl
                | false => unfold gQ at hl; split at hl
                           · rename_i hop;rw [hop]at hL;simp [isLoad]at hL
                           · simp at hl
              exact p2 _ (go (s2:=s) (S.put (tag:=none) ⟨pv,rfl,p1⟩) (fun _=> .refl _ _) rfl (by rw [Jo];exact HH.push hnew hns hst) hk)
            · (subst hM;exact hk.elim)
          · rename_i j want hguard
            rw [hkind]
            split at hM
            · rename_i d hgs
              have hgm:=fun hb=>Dy S (lk:=fun i=>if rs.contains i then dF (std n) s.t i else none) hlk (tt:=cut s'.t rs) (d:=d) (want:=want) (WL d) rfl hb
              simp only
              rw [qR hguard hgs]
              split at hM
              · rename_i hr
                rw [hr]at hgm
                subst hM
                cases hgm (by simp)with | skip h=>
                refine h _ _ (go (s2:=s) (S.put (tag:=none) ⟨nu,rfl,WJ⟩) (fun _=> .refl _ _) rfl (by rw [Jo];exact HH.push hnew (fun l hl=>by simp at hl) (fun h'' _=>by rw [qR hguard hgs];exact h _ _ rfl)) hk)
              · rename_i gs t g hr
                rw [hr]at hgm
                cases hgm (by simp)with | run S1 hget hg qg hT hF=>
                rename_i e
                subst hg
                split at hM
                · rename_i ps v hv
                  subst hM
                  obtain⟨hps,hk⟩:=fU hk
                  have hns:∀l∈gQ (std n) X (gI (std n) (fun i=>if rs.contains i then dF (std n) s.t i else none) (eF (std n) gs (some t))) o.op,l<s.h.length:=fun l hl=>by
                    cases hL:isLoad o.op with
                    | true=>exact(xR hv hL).2 l hl
                    | false => unfold gQ at hl; split at hl
                               · rename_i hop;rw [hop]at hL;simp [isLoad]at hL
                               · simp at hl
                  cases hg:e.g with
                  | true=>
                    have hcur:∀t0,some t=some t0→∃e,gs[t0]? =some e∧e.g=true:=fun t0 ht=>by cases ht;exact⟨e,hget,hg⟩
                    obtain⟨pv,p1,p2⟩:=vo hX S1.heap S1.gs WL (fun i sv h=>qg i sv (hlk i sv h)) hcur hv (yV hps hg)
                    have hE0:EvR X E n (nmh s.h) (cut s'.t rs) (gI (std n) (fun i=>if rs.contains i then dF (std n) s.t i else none) (eF (std n) gs (some t))):=hev S1 (nN S1.gs hcur (f:=gs.length+1))
                    refine hT hg _ _ (p2 _ (go (s2:={s with gs:=gs}) (S1.put (tag:=some t) ⟨e,hget,fun _=>⟨pv,rfl,p1⟩,fun h=>by rw [hg]at h;cases h⟩) (fun _=> .refl _ _) rfl (by
                      rw [Jo]
                      refine HH.push hnew hns (fun h'' hh=> ?_)
                      rw [qR hguard hgs,stable hX hE0 hh (fun hL=>(xR hv hL).1)]
                      exact hT hg _ _ (p2 _ rfl)) hk))
                  | false=>
                    exact hF hg _ _ (go (s2:={s with gs:=gs}) (S1.put (tag:=some t) ⟨e,hget,fun h=>(by rw [hg]at h;cases h),fun _=>rfl⟩) (fun _=> .refl _ _) rfl (by
                      rw [Jo]
                      refine HH.push hnew hns (fun h'' hh=> ?_)
                      rw [qR hguard hgs]
                      exact hF hg _ _ rfl) hk)
                · (subst hM;exact hk.elim)
              · (subst hM;exact hk.elim)
            · (subst hM;exact hk.elim)
        · rename_i hkind
          rw [hkind]
          split at hM
          · rename_i ps v hv
            subst hM
            obtain⟨hps,hk⟩:=fU hk
            obtain⟨pv,p1,p2⟩:=map_ok hX (ops:=ops) (hev S (al:=[]) (fun t h=>by simp at h)) hv
            simp only
            exact p2 _ (go (s2:=s) (S.put (tag:=none) ⟨pv,rfl,p1⟩) (fun _=> .refl _ _) rfl (by rw [Jo];exact HH) hk)
          · rename_i hv
            subst hM
            have p2:=map_ok hX (ops:=ops) (hev S (al:=[]) (fun t h=>by simp at h)) hv
            simp only
            refine p2 _ ?_
            have e1:=aj8 (n:=n) (s:=s) (d:=o.dst)
            exact Jm hX (rest:=rest) S.del (fun k=>by rw [e1.1];exact hK0 k) (by rw [e1.2,hm0]) (by rw [e1.1,Jo];exact HH) hk
          · (subst hM;exact hk.elim)
        · rename_i hkind
          rw [hkind]
          split at hM
          · rename_i hr hv
            subst hM
            obtain⟨hps,hk⟩:=fU hk
            have he0:EvR X E n (nmh s.h) [] (fun _=>none):=fun i v h=>by cases h
            obtain⟨pv,h'',j,q1,q2,q3,q4,q5⟩:=Jk hX S.heap S.len he0 hv hps
            simp only
            have S2:=S.xQ q3.same q2 q4
            have htd:hr.touched=[]:=by
              unfold kindOf at hkind
              split at hkind
              · rename_i ty hop
                rw [hop]at hv
                simp only [Di]at hv
                split at hv
                · split at hv
                  · split at hv<;>(cases hv;rfl)
                  · cases hv;rfl
                  · cases hv
                · cases hv
              all_goals first | cases hkind | (split at hkind<;>cases hkind)
            have HI2:=HH.turn q3
            rw [htd,yX]at HI2
            exact q5 _ (go (s2:={s with h:=hr.h}) (S2.put (tag:=none) ⟨pv,rfl,q1⟩) q3.LB rfl (by cases o.dst<;>exact HI2) hk)
          · (subst hM;exact hk.elim)
        · rename_i hk0 hk1 hk2
          split at hM
          · rename_i hguard
            split at hM
            · rename_i cr hcr
              split at hM
              · rename_i hcs
                subst hM
                obtain⟨hps,hk⟩:=fU hk
                obtain⟨v,k,hvk,hk⟩:=zZ hk
                obtain⟨v',k',e1,_,e3⟩:=zY hX S.heap S.len (hev S (al:=[]) (fun t h=>by simp at h)) hcr hps ⟨v,k,hvk⟩
                rw [hvk]at e1;cases e1
                split
                · rename_i h;exact absurd h hk0
                · rename_i h;exact absurd h hk1
                · rename_i h;exact absurd h hk2
                · rw [hguard]
                  refine e3 _ fun pv h'' j a1 a2 a3 a4=>⟨Ce HH a3 hcs,?_⟩
                  have S2:=S.xQ a3.same a2 a4
                  exact go (s2:={s with h:=k}) (S2.put (tag:=none) ⟨pv,rfl,a1⟩) a3.LB rfl (by cases o.dst<;>exact HH.turn a3) hk
              · (subst hM;exact hk.elim)
            · (subst hM;exact hk.elim)
          · rename_i j want hguard
            split at hM
            · rename_i d hgs
              have hgm:=fun hb=>Dy S (lk:=fun i=>if rs.contains i then dF (std n) s.t i else none) hlk (tt:=cut s'.t rs) (d:=d) (want:=want) (WL d) rfl hb
              have goal:kE (aQ (cut s'.t rs) d) want
                  (U7 E (jV C) o (cut s'.t rs) s' fun v h k=>O9 E ops h hs' cs∧eZ E (jV C) ops rest hs' (fun s1'=>∃s1,SR s1' s1∧(∀k,Keep k h0 s1.h)∧s1.m=m0∧K s1 r) (St.put {s' with h:=h,k:=k} o.dst (some v)))
                  (eZ E (jV C) ops rest hs' (fun s1'=>∃s1,SR s1' s1∧(∀k,Keep k h0 s1.h)∧s1.m=m0∧K s1 r) (s'.put o.dst (some nu))):=by
                split at hM
                · rename_i hr
                  rw [hr]at hgm
                  subst hM
                  cases hgm (by simp)with | skip h=>
                  exact h _ _ (go (s2:=s) (S.put (tag:=none) ⟨nu,rfl,WJ⟩) (fun _=> .refl _ _) rfl (by rw [Jo];exact HH) hk)
                · rename_i gs t g hr
                  rw [hr]at hgm
                  cases hgm (by simp)with | run S1 hget hg qg hT hF=>
                  rename_i e
                  subst hg
                  have hcur:e.g=true→∀t0,some t=some t0→∃e,gs[t0]? =some e∧e.g=true:=fun h t0 ht=>by cases ht;exact⟨e,hget,h⟩
                  split at hM
                  · rename_i cr hcr
                    split at hM
                    · rename_i hcs
                      split at hM
                      · rename_i hpure
                        subst hM
                        obtain⟨hps,hk⟩:=fU hk
                        obtain⟨v,k,hvk,hk⟩:=zZ hk
                        cases hg:e.g with
                        | true=>
                          obtain⟨v',k',e1,e2,e3⟩:=zY hX S1.heap S1.len (hev S1 (nN S1.gs (hcur hg) (f:=gs.length+1))) hcr (yV hps hg) ⟨v,k,hvk⟩
                          rw [hvk]at e1;cases e1
                          obtain⟨rfl,htd⟩:=e2 hpure
                          refine hT hg _ _ (e3 _ fun pv h'' j a1 a2 a3 a4=>⟨Ce HH a3 hcs,?_⟩)
                          have S2:=S1.xQ (Same.refl _) a2 a4
                          have HI2:=HH.turn a3
                          rw [htd,yX]at HI2
                          exact go (s2:={s with gs:=gs}) (S2.put (tag:=some t) ⟨e,hget,fun _=>⟨pv,rfl,a1⟩,fun h=>by rw [hg]at h;cases h⟩) (fun _=> .refl _ _) rfl (by cases o.dst<;>exact HI2) hk
                        | false=>
                          exact hF hg _ _ (go (s2:={s with gs:=gs}) (S1.put (tag:=some t) ⟨e,hget,fun h=>(by rw [hg]at h;cases h),fun _=>rfl⟩) (fun _=> .refl _ _) rfl (by rw [Jo];exact HH) hk)
                      · subst hM
                        obtain⟨hkT,hkF⟩:(e.g=true→gJ (std n) cr.ck (rM (std n) cr fun v h=>iI (std n) X C ops rest (mE hs cr.touched) K (RSt.put (std n) {s with h:=h,gs:=gs} o.dst none v)) r)∧(e.g=false→iI (std n) X C ops rest hs K (RSt.put (std n) {s with gs:=yN (std n) gs t} o.dst none (.tup [])) r):=hk
                        cases hg:e.g with
                        | true=>
                          obtain⟨hps,hk⟩:=fU (hkT hg)
                          obtain⟨v,k,hvk,hk⟩:=zZ hk
                          obtain⟨v',k',e1,e2,e3⟩:=zY hX S1.heap S1.len (hev S1 (nN S1.gs (hcur hg) (f:=gs.length+1))) hcr hps ⟨v,k,hvk⟩
                          rw [hvk]at e1;cases e1
                          refine hT hg _ _ (e3 _ fun pv h'' j a1 a2 a3 a4=>⟨Ce HH a3 hcs,?_⟩)
                          have S2:=S1.xQ a3.same a2 a4
                          exact go (s2:={s with h:=k,gs:=gs}) (S2.put (tag:=none) ⟨pv,rfl,a1⟩) a3.LB rfl (by cases o.dst<;>exact HH.turn a3) hk
                        | false=>
                          have hk:=hkF hg
                          have S2:=S1.kill hget hg
                          exact hF hg _ _ (go (s2:={s with gs:=yN (std n) gs t}) (S2.put (tag:=none) ⟨nu,rfl,WJ⟩) (fun _=> .refl _ _) rfl (by rw [Jo];exact HH) hk)
                    · (subst hM;exact hk.elim)
                  · (subst hM;exact hk.elim)
                · (subst hM;exact hk.elim)
              split
              · rename_i h;exact absurd h hk0
              · rename_i h;exact absurd h hk1
              · rename_i h;exact absurd h hk2
              · rw [hguard];simp only;rw [hgs];exact goal
            · (subst hM;exact hk.elim)
      · (subst hM;exact hk.elim)
end
end Go.TX
namespace Go.TX
open Go Go.AE
variable [aH]
section
variable {n:Nat}
theorem Ic {s:RSt (std n)}:∀ {l:List (Nat×SkV)} {e0 e:ES (std n)},tC (std n) s.t s.h l e0=some e→
  ∃vs,F2 (fun i v=>dF (std n) s.t i=some ⟨none,v⟩) (l.map (·.1)) vs∧nJ (std n) s.h (l.map (·.2)) vs e0=some e
 | [],e0,e,h=>by simp only [tC,Option.some.injEq]at h;subst h;exact⟨[],.nil,rfl⟩
 | p::l,e0,e,h=>by
  simp only [tC]at h
  split at h
  ·rename_i v hl
   split at h
   ·rename_i e1 h1
    obtain⟨vs,q1,q2⟩:=Ic (l:=l) h
    exact⟨v::vs,.cons hl q1,by simp only [List.map_cons,nJ];rw [h1];exact q2⟩
   ·cases h
  ·cases h
theorem Jp {k:Nat} {os:List SkO} {i:Nat} (hi:i<k) (hik:i<os.length):(es0 (std n) k os).ren[i]? =some (if qK os[i]? then none else some (some i)):=by
 have hb:Nat.blt i k=true:=by simpa using hi
 simp only [es0,List.getElem?_map,List.getElem?_range hik,Option.map_some,hb,Bool.true_and]
 cases qK os[i]? <;>rfl
theorem Jq (k:Nat) (os:List SkO):(es0 (std n) k os).ren.length=os.length:=by simp [es0]
theorem Jr {c:Ctx} {w:World} {N:NM} {us:List Value} {vs:List SVal} (h:F2 (WV c w N) us vs):∃pvs,F2 (bE c w) us pvs∧F2 (PVR N) pvs vs:=by
 induction h with
 | nil=>exact⟨[],.nil,.nil⟩
 | cons h1 _ ih=>
  obtain⟨p,a,b⟩:=h1
  obtain⟨pvs,q1,q2⟩:=ih
  exact⟨p::pvs,.cons a q1,.cons b q2⟩
theorem DF {N:NM}:∀ {ids:List Nat} {vs:List SVal} {pvs:List PV},F2 (PVR N) pvs vs→∀i sv,dF (std n) (ids.zip (vs.map fun v=>(⟨none,v⟩:SV (std n)))) i=some sv→sv.tag=none∧∃pv,aQ (ids.zip (pvs.map some)) i=some pv∧PVR N pv sv.v
 | [],vs,pvs,_,i,sv,h=>by simp [dF]at h
 | j::ids,[],pvs,hF,i,sv,h=>by simp [dF]at h
 | j::ids,v::vs,pvs,hF,i,sv,h=>by
  cases hF with | cons h1 h2=>
  simp only [List.map_cons,List.zip_cons_cons,mH]at h ⊢
  simp only [aQ]
  split at h
  ·rename_i e;cases h;rw [if_pos e];exact⟨rfl,_,rfl,h1⟩
  ·rename_i e;rw [if_neg e];exact DF h2 i sv h
theorem DJ {c:Ctx} {w:World} {a:Act}:∀ {ids:List Nat} {us:List Value} {pvs:List PV},F2 (bE c w) us pvs→F2 (fun i u=>a.tmps[i]? =some u) ids us→∀i v,aQ (ids.zip (pvs.map some)) i=some v→∃u,a.tmps[i]? =some u∧bE c w u v
 | [],us,pvs,_,_,i,v,h=>by simp [aQ]at h
 | j::ids,us,pvs,hF,hI,i,v,h=>by
  cases hI with | cons h3 h4=>
  cases hF with | cons h1 h2=>
  simp only [List.map_cons,List.zip_cons_cons,aQ]at h
  split at h
  ·rename_i e;subst e;cases h;exact⟨_,h3,h1⟩
  ·exact DJ h2 h4 i v h
theorem DK {E:Tab} {s':St} {s:RSt (std n)} (S:SR s' s) {c:Ctx} {w:World} {a:Act} (A:jl E s' c w a):∀ {ids:List Nat} {vs:List SVal},F2 (fun i v=>dF (std n) s.t i=some ⟨none,v⟩) ids vs→∃us,F2 (fun i u=>a.tmps[i]? =some u) ids us∧F2 (WV c w (nmh s.h)) us vs
 | [],_,h=>by cases h;exact⟨[],.nil,.nil⟩
 | i::ids,_,.cons h1 h2=>by
  obtain⟨us,q1,q2⟩:=DK S A h2
  obtain⟨pv,p1,p2⟩:=S.val i _ h1
  obtain⟨u,hu,hr⟩:=A.abs.slot i pv p1
  exact⟨u::us,.cons hu q1,.cons ⟨pv,hr,p2⟩ q2⟩
def μX (e:ES (std n)) (c:Ctx) (i:Nat):Option Nat:=match e.ren[i]? with | some (some (some l))=>c.μ l | some (some none)=>none | _=>c.μ i
theorem LH (w:World) (K:Bool→Nat→Prop) (μ:Nat→Option Nat) (k:Nat) (hlow:∀f b,K f b→b<w.heap.size) (hsub:∀b,K true b→K false b):bG {K:=K,μ:=μ,n:=k} w []:=
 ⟨fun l o h=>by simp [AE.look]at h,fun l o l' o' b h=>by simp [AE.look]at h,fun f b ⟨l,o,hl,_⟩=>by simp [AE.look]at hl,hlow,hsub⟩
theorem Js {E:Tab} {k:Nat} {sk:GX} {s:RSt (std n)} {ck:List Bool} {x:iy sk.tys} (hx:Dl (std n) k sk s=some (ck,x)) (hck:∀b∈ck,b=true) {s':St} (S:SR s' s) {c:Ctx} {w:World} {a:Act} (A:jl E s' c w a)
  {c0:Ctx} {w0:World} {h0:Heap} (hc0:c0.n=k) (g:Grow c0 w0 h0 c w s'.h) {m:Nat} (hm:s.m=m):
  ∃c2 s2',Grow c0 w0 h0 c2 w s2'.h∧jl E s2' c2 w a∧SR s2' (rO (std n) sk m x)∧Keep k s.h (rO (std n) sk m x).h∧(rO (std n) sk m x).m=m:=by
 unfold Dl at hx
 split at hx
 ·cases hx
 rename_i hkl
 have hkl:k≤sk.objs.length:=by
  have:Nat.ble k sk.objs.length=true:=by simpa using hkl
  exact Nat.le_of_ble_eq_true this
 split at hx
 ·rename_i e1 he1
  split at hx
  ·rename_i e he
   split at hx
   ·rename_i jc
    split at hx
    ·rename_i x' hx';cases hx
     have jc:=Jl jc
     obtain⟨vs,v1,v2⟩:=Ic he1
     obtain⟨us,u1,u2⟩:=DK S A v1
     obtain⟨new1,vs2,a1,a2,a3,a4⟩:=tJ (fun i=>i) v2
     obtain⟨new2,os2,b1,b2,b3,b4,b5⟩:=qb (fun i=>i) (fun _=>(.gone .i64 0:aJ)) (fun _=>⟨.i64,0,rfl⟩) he
     have hlv:e.lv.reverse=new1++new2:=by rw [b1,a1];simp [es0]
     have hun:=unpack_pack hx'
     rw [hlv]at hun
     have hrl:e.ren.length=sk.objs.length:=by rw [b2.len,a2.len,Jq]
     have hof:∀(j:Nat) (kk:SkO),sk.objs[j]? =some kk→∃o2,os2[j]? =some o2∧OF e s.h (fun i=>i) j kk (.gone .i64 0) o2:=fun j kk hj=>by
      obtain⟨o2,q1,q2⟩:=b5 e (.refl _) j kk hj
      exact⟨o2,q1,by simpa using q2⟩
     have AJ:rO (std n) sk m x={t:=(sk.slots.map (·.1)).zip (vs2.map fun v=>(⟨none,v⟩:SV (std n))),gs:=[],h:=os2,m:=m}:=by
      unfold rO
      rw [hun,a3]
      simp only
      have:=b3 []
      rw [List.append_nil]at this
      rw [show qM aB (fun i=>i) (fun _=>dO.gone Co.i64 ((std n).lit 0)) 0 sk.objs new2=some (os2,[])from this]
     have H:=A.abs.heap
     obtain⟨o',m1,m2,m3,m4,m5,_⟩:=xP (ks:=sk.objs) (nm:=fun i=>i) (old:=fun _=>(.gone .i64 0:aJ)) H S.heap hck jc hrl b4 hof (cb:={K:=fun _ _=>False,μ:=μX e c,n:=k}) (hb':=[])
      (LH w _ _ _ (fun _ _ h=>h.elim) (fun _ h=>h)) false (fun h=>by cases h) (μ2:=μX e c) (n2:=sk.objs.length) hkl (fun _ _=>rfl) (fun i hi=>hi) (fun i j _ _ h=>h)
      (fun i l hi=>by simp only [μX];rw [hi]) (fun i hi=>by simp only [μX];rw [hi]) (h2:=os2) (fun i _=>rfl)
      (fun l o hl ho=>by
       have:sk.objs.length≤l:=by
        rcases Nat.lt_or_ge l sk.objs.length with h | h
        ·exact absurd rfl (hl l h)
        ·exact h
       rw [List.getElem?_eq_none (by omega)]at ho;cases ho) (fun _ _=>rfl)
      (fun b ⟨l,o,hl,_⟩ _=>by simp [AE.look]at hl) (fun f b h _=>h) (fun f b ⟨l,o,hl,_⟩ _=>by simp [AE.look]at hl)
     have hmu:∀l,l<k→μX e c l=c.μ l:=fun l hl=>by
      have h0:=Jp (n:=n) hl (Nat.lt_of_lt_of_le hl hkl) (os:=sk.objs)
      unfold μX
      by_cases hg:qK sk.objs[l]? =true
      ·have hgo:sk.objs[l]? =some .gone:=by
        unfold qK at hg;split at hg
        ·assumption
        ·cases hg
       cases hr:e.ren[l]? with
       | none=>rfl
       | some q=>
        cases q with
        | none=>rfl
        | some v=>exact absurd hgo (jc.gone hr)
      ·rw [if_neg hg]at h0
       have:=b2.ren l _ (a2.ren l _ h0)
       rw [this]
     have hgr:Grow c0 w0 h0 {K:=fun f b=>False∨KX e c false f b,μ:=μX e c,n:=sk.objs.length} w (rR (fun i=>i) o' (List.range sk.objs.length) []):=by
      refine⟨⟨fun f b hb=> .inr (.inl (by simpa using g.le.K f b hb)),by rw [hc0];exact hkl,fun l hl=> ?_⟩,g.size,g.stays,g.kept,fun f b hb=> ?_,fun b hb=> ?_,g.os,g.tape,g.output⟩
      ·show μX e c l=c0.μ l
       rw [hmu l (by rw [←hc0];exact hl)];exact g.le.μ l hl
      ·rcases hb with hb | hb | ⟨l,f',q1,q2,q3⟩
       ·exact hb.elim
       ·exact g.vH f b (by simpa using hb)
       ·obtain⟨_,g',cc,xs,hl⟩:=jc.fro l f' q1
        obtain⟨o2,ho2,hO⟩:=S.heap.old l _ hl
        cases hO with | rows _=>
        exact .inr ((g.oq b ⟨l,_,ho2,trivial,q2⟩).elim .inr .inl)
      ·rcases m4 b hb with⟨l,o,hl,_⟩ | ⟨i,lq,q,_,q1,q2,q3⟩
       ·simp [AE.look]at hl
       ·exact g.oq b ⟨lq,q,q1,q2,q3⟩
     obtain⟨pvs,p1,p2⟩:=Jr (a4 H S.heap (b2) hck m3 (fun h=>by cases h) u2)
     refine⟨_,{t:=(sk.slots.map (·.1)).zip (pvs.map some),h:=rR (fun i=>i) o' (List.range sk.objs.length) [],n:=sk.objs.length,k:=0,m:=m},hgr,⟨⟨fun i v hv=>DJ p1 u1 i v hv,m1,?_⟩,rfl,A.defers,by rw [A.size,S.m,hm]⟩,?_,?_,by rw [AJ]⟩
     ·intro gg d hd
      obtain⟨q1,u,q2,q3⟩:=A.abs.glob gg d hd
      exact⟨.inr (.inl (by simpa using q1)),u,q2,q3.mono' fun b hb=> .inr (.inl (by simpa using hb))⟩
     ·rw [AJ]
      refine⟨m2,by simp [nm,b4],rfl,fun i sv hi=> ?_,fun t e he=>by simp at he⟩
      obtain⟨q1,q2⟩:=DF p2 i sv hi
      unfold yU
      rw [q1];exact q2
     ·rw [AJ]
      intro i hi
      have hik:i<sk.objs.length:=Nat.lt_of_lt_of_le hi hkl
      have hsk:sk.objs[i]? =some sk.objs[i]:=List.getElem?_eq_getElem hik
      obtain⟨o2,q1,q2⟩:=hof i _ hsk
      have h0:=Jp (n:=n) hi hik
      by_cases hg:sk.objs[i]= .gone
      ·have:Gone os2 i:=⟨.i64,0,by rw [q1,q2.gone hg]⟩
       exact⟨fun _=>this,fun _ _=> .inl this⟩
      ·have hig:qK sk.objs[i]? =false:=by
        rw [hsk];unfold qK;split
        ·rename_i hh;exact absurd (Option.some.inj hh) hg
        ·rfl
       rw [hig]at h0
       have h0:(es0 (std n) k sk.objs).ren[i]? =some (some (some i)):=by simpa using h0
       have hre:=b2.ren i _ (a2.ren i _ h0)
       have htr:qJ (std n) e i=none:=by rw [b2.tr i _ (a2.ren i _ h0),a2.tr i _ h0];rfl
       refine⟨fun⟨cc,nn,hgo⟩=> ?_,fun x hx=> .inr ?_⟩
       ·obtain⟨oo,r1,r2,r3,r4⟩:=q2.rel H S.heap hck m3 (fun h=>by cases h)
        obtain⟨o3,h3,h4⟩:=r4 i hg hre
        obtain⟨o4,h5,h6⟩:=S.heap.old i _ hgo
        rw [h3]at h5;cases h5
        cases h6;exact h4.elim
       ·have:=q2.s1 i x.1 x.2 hg hre (by rw [hx])
        rw [htr]at this
        simp only [nmh,q1]
        simpa [nmh]using this
    ·cases hx
   ·cases hx
  ·cases hx
 ·cases hx
end
end Go.TX
namespace Go.TX
open Go Go.AE
variable [aH]
section
variable {n:Nat}
def LX (E:Tab) (c0:Ctx) (w0:World) (h0:Heap) (k:Nat) (H0:List aJ) (m0:Nat) {ρ:Type} (K:Exit→RSt (std n)→(ρ→Prop)→Prop) (r:ρ→Prop):Exit→Act→World→Prop
 | .outgrown,_,_=>False
 | .panic _,_,_=>False
 | .goto _,_,_=>False
 | e,a,w=>∃c s' s,Grow c0 w0 h0 c w s'.h∧jl E s' c w a∧SR s' s∧Keep k H0 s.h∧s.m=m0∧K e s r
theorem PE {E:Tab} {c0:Ctx} {w0:World} {h0:Heap} {k:Nat} {H0:List aJ} {m0:Nat} (hc0:c0.n=k) {code:Code} {a:Act} {w:World} {sk:GX} {pl:Bool} {s:RSt (std n)} (hs:s.m=m0) {ρ:Type} {K:Exit→RSt (std n)→(ρ→Prop)→Prop} {r:ρ→Prop}
  {W: {σ:Type}→(Exit→RSt (std n)→(σ→Prop)→Prop)→(σ→Prop)→Prop} (hW:∀ {σ:Type} {K':Exit→RSt (std n)→(σ→Prop)→Prop} {r':σ→Prop},W K' r'→code.wp E.P (LX E c0 w0 h0 k H0 m0 K' r') a w)
  (h:Pq (std n) k sk pl s K W r):code.wp E.P (LX E c0 w0 h0 k H0 m0 K r) a w:=by
 have step:∀ {t:iy sk.tys} {s1:RSt (std n)} {ck:List Bool},Dl (std n) k sk s1=some (ck,t)→(∀b∈ck,b=true)→K .normal (rO (std n) sk s.m t) r→∀ {c s' a w},Grow c0 w0 h0 c w s'.h→jl E s' c w a→SR s' s1→Keep k H0 s1.h→s1.m=m0→LX E c0 w0 h0 k H0 m0 K r .normal a w:=by
  intro t s1 ck h1 h2 h3 c s' a w g A S hK hm
  obtain⟨c2,s2',g2,A2,S2,K2,hm2⟩:=Js h1 h2 S A hc0 g hm
  rw [hs]at h3
  exact⟨c2,s2',_,g2,A2,S2,hK.trans K2,hm2,h3⟩
 unfold Pq at h
 split at h
 ·refine wp_mono (hW h) ?_
  intro e a' w' he
  cases e with
  | outgrown=>exact he.elim
  | panic _=>exact he
  | goto _=>exact he
  | normal=>
   obtain⟨c,s',s1,a1,a2,a3,a4,a5,a6⟩:=he
   simp only at a6
   rcases hx:Dl (std n) k sk s1 with _ | ⟨ck,t'⟩
   ·rw [hx]at a6;exact a6.elim
   ·rw [hx]at a6
    obtain⟨q1,q2⟩:=fU a6
    exact step hx q1 q2 a1 a2 a3 a4 a5
  | ret=>obtain⟨c,s',s1,a1,a2,a3,a4,a5,a6⟩:=he;exact a6.elim
  | exit i=>obtain⟨c,s',s1,a1,a2,a3,a4,a5,a6⟩:=he;exact a6.elim
 ·refine wp_mono (hW h) ?_
  intro e a' w' he
  cases e with
  | outgrown=>exact he.elim
  | panic _=>exact he
  | goto _=>exact he
  | normal=>
   obtain⟨c,s',s1,a1,a2,a3,a4,a5,a6⟩:=he
   simp only at a6
   rcases hx:Dl (std n) k sk s1 with _ | ⟨ck,t'⟩
   ·rw [hx]at a6;exact a6.elim
   ·rw [hx]at a6
    obtain⟨q1,q2⟩:=fU a6
    exact step hx q1 q2 a1 a2 a3 a4 a5
  | ret=>obtain⟨c,s',s1,a1,a2,a3,a4,a5,a6⟩:=he;exact⟨c,s',s1,a1,a2,a3,a4,a5,a6⟩
  | exit i=>obtain⟨c,s',s1,a1,a2,a3,a4,a5,a6⟩:=he;exact⟨c,s',s1,a1,a2,a3,a4,a5,a6⟩
section
variable {X:XT} {E:Tab} (hE:aF E) (hX:XOK X E) {C:Calls aB} (hG:ow E (jV C)) (hm:E.P.follows .mixedOrders=true) {ord:Nat→List fM} {chk:Nat→Array Oper→Nat→Bool} (LJ:∀id ops m,chk id ops m=true→Static E ord id ops m)
 {c0:Ctx} {w0:World} {h0:Heap} {k:Nat} {H0:List aJ} {m0:Nat} (hc0:c0.n=k)
include hE hX hG hm LJ
theorem adZ {id:Nat} {ops:Array Oper} {draw:Bool} {s:RSt (std n)} {ρ:Type} {K:Exit→RSt (std n)→(ρ→Prop)→Prop} {r:ρ→Prop}
  (h:(if draw then(if chk id ops s.m then iI (std n) X C ops.toList (ord id) [] (fun s=>K .normal s) s else(std n).fail)else fC (std n) X C ops.toList ops.toList (fun s=>K .normal s) s:(std n).M ρ) r)
  {s':St} {c:Ctx} {w:World} {a:Act} (A:jl E s' c w a) (g:Grow c0 w0 h0 c w s'.h) (S:SR s' s) (hK:Keep k H0 s.h) (hs:s.m=m0):(Code.region id ops draw).wp E.P (LX E c0 w0 h0 k H0 m0 K r) a w:=by
 have fin:∀ {e:Exit} {a:Act} {w:World},vN E c0 w0 h0 (fun e s1'=>e= .normal∧∃s1,SR s1' s1∧(∀k,Keep k s.h s1.h)∧s1.m=m0∧K .normal s1 r) e a w→LX E c0 w0 h0 k H0 m0 K r e a w:=by
  intro e a w he
  cases e with
  | outgrown=>exact he.elim
  | panic _=>exact he
  | goto _=>exact he
  | normal=>obtain⟨c,s1',a1,a2,_,s1,a3,a4,a5,a6⟩:=he;exact⟨c,s1',s1,a1,a2,a3,hK.trans (a4 k),a5,a6⟩
  | ret=>obtain⟨c,s1',a1,a2,q,_⟩:=he;cases q
  | exit i=>obtain⟨c,s1',a1,a2,q,_⟩:=he;cases q
 split at h
 ·rename_i hd;subst hd
  split at h
  ·rename_i hc
   have hst:=LJ _ _ _ hc
   have hr:=Jm hX (h0:=s.h) (m0:=m0) (hs':=[]) S (fun _=> .refl _ _) hs (fun p hp=>by simp at hp) h
   refine wp_mono (adI hE hG hm ord id ops (fun e s1'=>e= .normal∧∃s1,SR s1' s1∧(∀k,Keep k s.h s1.h)∧s1.m=m0∧K .normal s1 r) s' c0 w0 h0 c w a A g ⟨by rw [S.m];exact hst,?_⟩) fun e a w=>fin
   simpa using hr
  ·exact h.elim
 ·rename_i hd
  have:draw=false:=by simpa using hd
  subst this
  have hr:=H9 hX (h0:=s.h) (m0:=m0) S (fun _=> .refl _ _) hs h
  refine wp_mono (wp_region_list (yE hE hG (Q:=fun e s1'=>e= .normal∧∃s1,SR s1' s1∧(∀k,Keep k s.h s1.h)∧s1.m=m0∧K .normal s1 r) ops ops.toList A g ?_)) fun e a w=>fin
  simpa using hr
end
end
end Go.TX
namespace Go.TX
open Go Go.AE
variable [aH]
section
variable {n:Nat}
variable {X:XT} {E:Tab} (hE:aF E) (hX:XOK X E) {C:Calls aB} (hG:ow E (jV C)) (hm:E.P.follows .mixedOrders=true) {ord:Nat→List fM} {chk:Nat→Array Oper→Nat→Bool} (LJ:∀id ops m,chk id ops m=true→Static E ord id ops m)
 {c0:Ctx} {w0:World} {h0:Heap} {k:Nat} {H0:List aJ} {m0:Nat} (hc0:c0.n=k)
include hE hX hG hm LJ hc0
theorem qU:∀(code:Code) {ρ:Type} {an:Ann} {s:RSt (std n)} {K:Exit→RSt (std n)→(ρ→Prop)→Prop} {r:ρ→Prop},bI (std n) X C ord chk k an code s K r→∀ {s':St} {c:Ctx} {w:World} {a:Act},jl E s' c w a→Grow c0 w0 h0 c w s'.h→SR s' s→Keep k H0 s.h→s.m=m0→
  code.wp E.P (LX E c0 w0 h0 k H0 m0 K r) a w
 | .skip,ρ,an,s,K,r,h,s',c,w,a,A,g,S,hK,hs=>by
  have h:K .normal s r:=by cases an<;>exact h
  exact wp_skip ⟨c,s',s,g,A,S,hK,hs,h⟩
 | .region id ops draw,ρ,an,s,K,r,h,s',c,w,a,A,g,S,hK,hs=>by
  have base:∀ {σ:Type} {K':Exit→RSt (std n)→(σ→Prop)→Prop} {r':σ→Prop},(if draw then(if chk id ops s.m then iI (std n) X C ops.toList (ord id) [] (fun s=>K' .normal s) s else(std n).fail)else fC (std n) X C ops.toList ops.toList (fun s=>K' .normal s) s:(std n).M σ) r'→
    (Code.region id ops draw).wp E.P (LX E c0 w0 h0 k H0 m0 K' r') a w:=fun h=>adZ hE hX hG hm LJ h A g S hK hs
  generalize hM:bI (std n) X C ord chk k an (.region id ops draw) s K=M at h
  simp only [bI]at hM
  split at hM
  ·subst hM;exact PE hc0 hs base h
  ·subst hM;exact base h
 | .seq x y,ρ,an,s,K,r,h,s',c,w,a,A,g,S,hK,hs=>by
  have main:∀(a1 a2:Ann) (K1:Exit→RSt (std n)→(ρ→Prop)→Prop),(∀s',K1 .normal s'=bI (std n) X C ord chk k a2 y s' K)→(∀s',K1 .ret s'=K .ret s')→(∀i s',K1 (.exit i) s'=K (.exit i) s')→bI (std n) X C ord chk k a1 x s K1 r→
    (Code.seq x y).wp E.P (LX E c0 w0 h0 k H0 m0 K r) a w:=by
   intro a1 a2 K1 e1 e2 e3 h
   refine wp_seq (wp_mono (qU x h A g S hK hs) ?_)
   intro e a' w' he
   cases e with
   | outgrown=>exact he.elim
   | panic _=>exact he
   | goto _=>exact he
   | normal=>obtain⟨c,s',s1,b1,b2,b3,b4,b5,b6⟩:=he;rw [e1]at b6;exact qU y b6 b2 b1 b3 b4 b5
   | ret=>obtain⟨c,s',s1,b1,b2,b3,b4,b5,b6⟩:=he;rw [e2]at b6;exact⟨c,s',s1,b1,b2,b3,b4,b5,b6⟩
   | exit i=>obtain⟨c,s',s1,b1,b2,b3,b4,b5,b6⟩:=he;rw [e3]at b6;exact⟨c,s',s1,b1,b2,b3,b4,b5,b6⟩
  cases an with
  | seq a1 a2=>rw [bI]at h;refine main a1 a2 _ ?_ ?_ ?_ h<;>intros<;>rfl
  | u=>rw [bI]at h;refine main .u .u _ ?_ ?_ ?_ h<;>intros<;>rfl
  | _=>simp [bI]at h
 | .cond cd x y,ρ,an,s,K,r,h,s',c,w,a,A,g,S,hK,hs=>by
  have he:EvR X E n (nmh s.h) s'.t (gI (std n) (dF (std n) s.t) []):=qd (fun _ _=>rfl) S.val (fun t h=>by simp at h)
  generalize hM:bI (std n) X C ord chk k an (.cond cd x y) s K=M at h
  simp only [bI]at hM
  split at hM
  ·rename_i f b hb
   obtain⟨pv,p1,p2⟩:=dG hX he hb
   obtain⟨gf,rfl⟩:=p2.bool
   have hbv:=jP (Ky A.abs p1)
   have main:∀(a1 a2:Ann) {σ:Type} {K':Exit→RSt (std n)→(σ→Prop)→Prop} {r':σ→Prop},((b=true→bI (std n) X C ord chk k a1 x s K' r')∧(b=false→bI (std n) X C ord chk k a2 y s K' r'))→(Code.cond cd x y).wp E.P (LX E c0 w0 h0 k H0 m0 K' r') a w:=by
    intro a1 a2 σ K' r' h
    refine wp_cond hbv ?_
    obtain⟨b,rfl⟩:∃b':Bool,b'=b:=⟨b,rfl⟩
    cases b with
    | true=>exact qU x (h.1 rfl) A g S hK hs
    | false=>exact qU y (h.2 rfl) A g S hK hs
   split at hM
   ·subst hM;exact main _ _ h
   ·subst hM;exact main _ _ h
   ·rename_i sk a1 a2
    subst hM;exact PE hc0 hs (fun {σ K' r'} h=>main a1 a2 h) h
   ·subst hM;exact h.elim
  ·subst hM;exact h.elim
 | .block id b,ρ,an,s,K,r,h,s',c,w,a,A,g,S,hK,hs=>by
  have main:∀(a1:Ann) {σ:Type} {K':Exit→RSt (std n)→(σ→Prop)→Prop} {r':σ→Prop} (K1:Exit→RSt (std n)→(σ→Prop)→Prop),(∀s',K1 .normal s'=K' .normal s')→(∀s',K1 .ret s'=K' .ret s')→(∀i s',K1 (.exit i) s'=if i==id then K' .normal s' else K' (.exit i) s')→
    bI (std n) X C ord chk k a1 b s K1 r'→(Code.block id b).wp E.P (LX E c0 w0 h0 k H0 m0 K' r') a w:=by
   intro a1 σ K' r' K1 e1 e2 e3 h
   refine wp_block (wp_mono (qU b h A g S hK hs) ?_)
   intro e a' w' he
   cases e with
   | outgrown=>exact he.elim
   | panic _=>exact he
   | goto _=>exact he
   | normal=>obtain⟨c,s',s1,b1,b2,b3,b4,b5,b6⟩:=he;rw [e1]at b6;exact⟨c,s',s1,b1,b2,b3,b4,b5,b6⟩
   | ret=>obtain⟨c,s',s1,b1,b2,b3,b4,b5,b6⟩:=he;rw [e2]at b6;exact⟨c,s',s1,b1,b2,b3,b4,b5,b6⟩
   | exit i=>
    obtain⟨c,s',s1,b1,b2,b3,b4,b5,b6⟩:=he
    rw [e3]at b6
    simp only [Exit.inBlock]
    simp only [beq_iff_eq]at b6
    split
    ·rename_i e;rw [if_pos e]at b6;exact⟨c,s',s1,b1,b2,b3,b4,b5,b6⟩
    ·rename_i e;rw [if_neg e]at b6;exact⟨c,s',s1,b1,b2,b3,b4,b5,b6⟩
  generalize hM:bI (std n) X C ord chk k an (.block id b) s K=M at h
  simp only [bI]at hM
  split at hM
  ·subst hM;refine main _ _ ?_ ?_ ?_ h<;>intros<;>rfl
  ·subst hM;refine main _ _ ?_ ?_ ?_ h<;>intros<;>rfl
  ·rename_i sk a1
   subst hM
   exact PE hc0 hs (fun {σ K' r'} h=>by refine main a1 _ ?_ ?_ ?_ h<;>intros<;>rfl) h
  ·subst hM;exact h.elim
 | .loop b,ρ,an,s,K,r,h,s',c,w,a,A,g,S,hK,hs=>by
  cases an with
  | loop sk a1=>
   rw [bI]at h
   rcases hx0:Dl (std n) k sk s with _ | ⟨ck,x0⟩
   ·rw [hx0]at h;exact h.elim
   ·rw [hx0]at h
    obtain⟨hck,h⟩:=fU h
    obtain⟨I,μ,hI0,h⟩:=h
    obtain⟨c1,s1',g1,A1,S1,K1,hm1⟩:=Js hx0 hck S A hc0 g hs
    rw [hs]at h
    refine wp_loop_ghost (fun N a' w'=>∃c s' x,Grow c0 w0 h0 c w' s'.h∧jl E s' c w' a'∧SR s' (rO (std n) sk m0 x)∧Keep k H0 (rO (std n) sk m0 x).h∧(rO (std n) sk m0 x).m=m0∧I x∧μ x=N) (μ x0) ⟨c1,s1',x0,g1,A1,S1,hK.trans K1,hm1,hI0,rfl⟩ ?_
    rintro N a' w' ⟨c2,s2',x,g2,A2,S2,K2,hm2,hi,rfl⟩
    have hq:=h x hi
    refine wp_mono (qU b hq A2 g2 S2 K2 hm2) ?_
    intro e a3 w3 he
    cases e with
    | outgrown=>exact he.elim
    | panic _=>exact he
    | goto _=>exact he
    | normal=>
     obtain⟨c4,s4',s4,b1,b2,b3,b4,b5,b6⟩:=he
     simp only at b6
     rcases hx4:Dl (std n) k sk s4 with _ | ⟨ck4,t4⟩
     ·rw [hx4]at b6;exact b6.elim
     ·rw [hx4]at b6
      obtain⟨aqw,b6⟩:=fU b6
      obtain⟨c5,s5',g5,A5,S5,K5,hm5⟩:=Js hx4 aqw b3 b2 hc0 b1 b5
      exact⟨μ t4,b6.2,c5,s5',_,g5,A5,S5,b4.trans K5,hm5,b6.1,rfl⟩
    | ret=>obtain⟨c4,s4',s4,b1,b2,b3,b4,b5,b6⟩:=he;exact⟨c4,s4',s4,b1,b2,b3,b4,b5,b6⟩
    | exit i=>obtain⟨c4,s4',s4,b1,b2,b3,b4,b5,b6⟩:=he;exact⟨c4,s4',s4,b1,b2,b3,b4,b5,b6⟩
  | _=>simp [bI]at h
 | .exit i,ρ,an,s,K,r,h,s',c,w,a,A,g,S,hK,hs=>by
  have h:K (.exit i) s r:=by cases an<;>exact h
  exact wp_exit ⟨c,s',s,g,A,S,hK,hs,h⟩
 | .ret,ρ,an,s,K,r,h,s',c,w,a,A,g,S,hK,hs=>by
  have h:K .ret s r:=by cases an<;>exact h
  exact wp_ret ⟨c,s',s,g,A,S,hK,hs,h⟩
 | .rangeFunc ..,ρ,an,s,K,r,h,_,_,_,_,_,_,_,_,_=>by cases an<;>simp [bI]at h
 | .scope _,ρ,an,s,K,r,h,_,_,_,_,_,_,_,_,_=>by cases an<;>simp [bI]at h
 | .label _,ρ,an,s,K,r,h,_,_,_,_,_,_,_,_,_=>by cases an<;>simp [bI]at h
 | .goto _,ρ,an,s,K,r,h,_,_,_,_,_,_,_,_,_=>by cases an<;>simp [bI]at h
 | .refuse _,ρ,an,s,K,r,h,_,_,_,_,_,_,_,_,_=>by cases an<;>simp [bI]at h
end
end Go.TX
namespace Go.TX
open Go Go.AE
variable [aH]
section
variable {n:Nat}
theorem iA:∀(r:List (Option (Option Nat))) (m k:Nat),(newNames r m k).length=k
 | _,_,0=>by simp [newNames]
 | [],m,k+1=>by simp [newNames,iA [] (m+1) k]
 | some (some l)::r,m,k+1=>by simp [newNames,iA r m k]
 | some none::r,m,k+1=>by simp [newNames,iA r (m+1) k]
 | none::r,m,k+1=>by simp [newNames,iA r (m+1) k]
structure WM (r:List (Option (Option Nat))) (h:List aJ) (os:List aJ) (nms:List Nat) (kT:List aJ):Prop where
 len:h.length≤kT.length
 at_:∀(i:Nat),i<os.length→∃l,nms[i]? =some l∧kT[l]? =os[i]? ∧(r[i]? =some (some (some l))∨(h.length≤l∧∀q:Nat,r[i]? ≠some (some (some q))))
 old:∀l,l<h.length→(∀i:Nat,i<os.length→r[i]? ≠some (some (some l)))→kT[l]? =h[l]?
 inj:∀(i j l:Nat),nms[i]? =some l→nms[j]? =some l→i=j
 new:∀l,h.length≤l→l<kT.length→∃i:Nat,i<os.length∧nms[i]? =some l
theorem PG:∀(os:List aJ) (r:List (Option (Option Nat))) (h:List aJ),(∀i l:Nat,r[i]? =some (some (some l))→i<os.length→l<h.length)→(∀i j l:Nat,r[i]? =some (some (some l))→r[j]? =some (some (some l))→i=j)→
  WM r h os (newNames r h.length os.length) (iw (std n) h (newNames r h.length os.length) os)
 | [],r,h,h1,h2=>by
  refine⟨?_,fun i hi=>by simp at hi,fun l _ _=> ?_,fun i j l hi=>by simp [newNames]at hi,fun l a b=> ?_⟩<;>simp only [List.length_nil,newNames,iw]at* <;>first | exact Nat.le_refl _ | rfl | omega
 | o::os,r,h,h1,h2=>by
  have fresh:∀r',(∀(i:Nat),r'[i]? =r[i+1]?)→(∀q:Nat,r[0]? ≠some (some (some q)))→newNames r h.length (os.length+1)=h.length::newNames r' (h.length+1) os.length→WM r h (o::os) (newNames r h.length (os.length+1)) (iw (std n) h (newNames r h.length (os.length+1)) (o::os)):=by
   intro r' hr h0 e
   rw [e]
   have hl:(h++ [o]).length=h.length+1:=by simp
   have P:=PG os r' (h++ [o]) (fun i l hi hi2=>by rw [hl];have:=h1 (i+1) l (by rw [←hr];exact hi) (by simp;omega);omega) (fun i j l hi hj=>by have:=h2 (i+1) (j+1) l (by rw [←hr];exact hi) (by rw [←hr];exact hj);omega)
   rw [hl]at P
   have hput:iw (std n) h (h.length::newNames r' (h.length+1) os.length) (o::os)=iw (std n) (h++ [o]) (newNames r' (h.length+1) os.length) os:=by
    simp [iw]
   rw [hput]
   have hcur:(iw (std n) (h++ [o]) (newNames r' (h.length+1) os.length) os)[h.length]? =some o:=by
    rw [P.old h.length (by simp) (fun i hi hh=>by have:=h1 (i+1) h.length (by rw [←hr];exact hh) (by simp;omega);omega)]
    simp
   refine⟨by have:=P.len;simp at this;omega,fun i hi=> ?_,fun l hl2 hn=> ?_,fun i j l hi hj=> ?_,fun l ha hb=> ?_⟩
   ·cases i with
    | zero=>exact⟨h.length,rfl,by rw [hcur];rfl,.inr ⟨Nat.le_refl _,h0⟩⟩
    | succ i=>
     obtain⟨l,q1,q2,q3⟩:=P.at_ i (by simpa using hi)
     refine⟨l,by simpa using q1,by rw [q2];simp,?_⟩
     rw [←hr]
     rcases q3 with q3 | ⟨q3,q4⟩
     ·exact .inl q3
     ·exact .inr ⟨by simp at q3;omega,q4⟩
   ·rw [P.old l (by simp;omega) (fun i hi hh=>hn (i+1) (by simp;omega) (by rw [←hr];exact hh))]
    exact List.getElem?_append_left hl2
   ·have ne:∀(j:Nat),(newNames r' (h.length+1) os.length)[j]? =some h.length→False:=by
     intro j hj
     have hj2:j<os.length:=by have:=(List.getElem?_eq_some_iff.1 hj).1;rw [iA]at this;exact this
     obtain⟨l,q1,q2,q3⟩:=P.at_ j hj2
     rw [hj]at q1;cases q1
     rcases q3 with q3 | ⟨q3,q4⟩
     ·have:=h1 (j+1) h.length (by rw [←hr];exact q3) (by simp;omega);omega
     ·simp at q3;omega
    cases i with
    | zero=>
     simp at hi;subst hi
     cases j with
     | zero=>rfl
     | succ j=>exact(ne j (by simpa using hj)).elim
    | succ i=>
     cases j with
     | zero=>simp at hj;subst hj;exact(ne i (by simpa using hi)).elim
     | succ j=>rw [P.inj i j l (by simpa using hi) (by simpa using hj)]
   ·by_cases e:l=h.length
    ·subst e;exact⟨0,by simp,rfl⟩
    ·obtain⟨i,q1,q2⟩:=P.new l (by simp;omega) hb
     exact⟨i+1,by simp;omega,by simpa using q2⟩
  match r,h1,h2,fresh with
  | [],h1,h2,fresh=>exact fresh [] (fun i=>by simp) (fun q=>by simp) rfl
  | none::r',h1,h2,fresh=>exact fresh r' (fun i=>by simp) (fun q=>by simp) rfl
  | some none::r',h1,h2,fresh=>exact fresh r' (fun i=>by simp) (fun q=>by simp) rfl
  | some (some l0)::r',h1,h2,_=>
   have hl0:l0<h.length:=h1 0 l0 rfl (by simp)
   have e:newNames (some (some l0)::r') h.length (os.length+1)=l0::newNames r' h.length os.length:=rfl
   show WM _ _ _ (newNames (some (some l0)::r') h.length (os.length+1)) (iw (std n) h (newNames (some (some l0)::r') h.length (os.length+1)) (o::os))
   rw [e]
   have hl:(h.set l0 o).length=h.length:=by simp
   have P:=PG os r' (h.set l0 o) (fun i l hi hi2=>by rw [hl];exact h1 (i+1) l (by simpa using hi) (by simp;omega)) (fun i j l hi hj=>by have:=h2 (i+1) (j+1) l (by simpa using hi) (by simpa using hj);omega)
   rw [hl]at P
   have hput:iw (std n) h (l0::newNames r' h.length os.length) (o::os)=iw (std n) (h.set l0 o) (newNames r' h.length os.length) os:=by
    have:Nat.blt l0 h.length=true:=by simpa using hl0
    simp [iw,hl0]
   rw [hput]
   have hcur:(iw (std n) (h.set l0 o) (newNames r' h.length os.length) os)[l0]? =some o:=by
    rw [P.old l0 (by simpa using hl0) (fun i hi hh=>by have:=h2 0 (i+1) l0 rfl (by simpa using hh);omega)]
    rw [List.getElem?_set_self hl0]
   refine⟨by have:=P.len;rw [hl]at this;exact this,fun i hi=> ?_,fun l hl2 hn=> ?_,fun i j l hi hj=> ?_,fun l ha hb=> ?_⟩
   ·cases i with
    | zero=>exact⟨l0,rfl,by rw [hcur];rfl,.inl rfl⟩
    | succ i=>
     obtain⟨l,q1,q2,q3⟩:=P.at_ i (by simpa using hi)
     refine⟨l,by simpa using q1,by rw [q2];simp,?_⟩
     simp only [List.getElem?_cons_succ]
     rcases q3 with q3 | ⟨q3,q4⟩
     ·exact .inl q3
     ·exact .inr ⟨by rw [hl]at q3;exact q3,q4⟩
   ·rw [P.old l (by rw [hl];exact hl2) (fun i hi hh=>hn (i+1) (by simp;omega) (by simpa using hh))]
    have:l0≠l:=fun e=>hn 0 (by simp) (by rw [e];rfl)
    exact List.getElem?_set_ne this
   ·have ne:∀(j:Nat),(newNames r' h.length os.length)[j]? =some l0→False:=by
     intro j hj
     have hj2:j<os.length:=by have:=(List.getElem?_eq_some_iff.1 hj).1;rw [iA]at this;exact this
     obtain⟨l,q1,q2,q3⟩:=P.at_ j hj2
     rw [hj]at q1;cases q1
     rcases q3 with q3 | ⟨q3,q4⟩
     ·have:=h2 0 (j+1) l0 rfl (by simpa using q3);omega
     ·rw [hl]at q3;omega
    cases i with
    | zero=>
     simp at hi;subst hi
     cases j with
     | zero=>rfl
     | succ j=>exact(ne j (by simpa using hj)).elim
    | succ i=>
     cases j with
     | zero=>simp at hj;subst hj;exact(ne i (by simpa using hi)).elim
     | succ j=>rw [P.inj i j l (by simpa using hi) (by simpa using hj)]
   ·obtain⟨i,q1,q2⟩:=P.new l (by rw [hl];exact ha) hb
    exact⟨i+1,by simp;omega,by simpa using q2⟩
theorem Vr {nm:Nat→Nat} {k:SkV} {r r':List (LV aB)} {v:SVal} (h:yM aB nm k r=some (v,r')):nM v=false:=by
 cases k with
 | c k=>simp only [yM]at h;split at h<;>cases h;rfl
 | agg ks=>simp only [yM]at h;split at h<;>cases h;rfl
 | sv f c=>
  unfold yM at h
  split at h<;>first | (cases h;rfl) | (split at h<;>cases h<;>rfl) | cases h
theorem DL {nm:Nat→Nat}:∀ {ks:List SkV} {r r':List (LV aB)} {vs:List SVal},qL aB nm ks r=some (vs,r')→∀v∈vs,nM v=false
 | [],r,r',vs,h=>by simp only [qL,Option.some.injEq,Prod.mk.injEq]at h;obtain⟨rfl,_⟩:=h;simp
 | k::ks,r,r',vs,h=>by
  simp only [qL]at h
  split at h
  ·rename_i x r1 hx
   split at h
   ·rename_i xs r2 hxs;cases h
    intro v hv
    cases hv with
    | head=>exact Vr hx
    | tail _ hv=>exact DL hxs v hv
   ·cases h
  ·cases h
theorem yY:∀ {ls:List Nat} {h:List aJ} {l:Nat} {g:Bool} {c:Co} {xs:List c.den},l∈ls→h[l]? =some (.rows g c xs)→Gone (bq (std n) h ls) l
 | [],_,_,_,_,_,hm,_=>by simp at hm
 | a::ls,h,l,g,c,xs,hm,hl=>by
  rw [gF]
  have stays:∀(ls:List Nat) (h:List aJ),Gone h l→Gone (bq (std n) h ls) l:=by
   intro ls
   induction ls with
   | nil=>intro h hg;exact hg
   | cons b ls ih=>
    intro h ⟨cc,nn,hg⟩
    rw [gF]
    refine ih _ ⟨cc,nn,?_⟩
    by_cases e:b=l
    ·subst e;unfold fD;split
     ·rename_i hh;rw [hg]at hh;cases hh
     ·exact hg
    ·rw [u7 e];exact hg
  by_cases e:a=l
  ·subst e
   refine stays ls _ ⟨c,(xs.length:Int),?_⟩
   unfold fD;rw [hl];simp only
   rw [List.getElem?_set_self (List.getElem?_eq_some_iff.1 hl).1]
  ·refine yY (g:=g) (c:=c) (xs:=xs) ?_ (by rw [u7 e];exact hl)
   cases hm with
   | head=>exact absurd rfl e
   | tail _ h=>exact h
theorem Ie {h:List aJ}:∀ {ks:List SkO} {j:Nat} {s s':ES (std n)},yL (std n) h j ks s=some s'→∀ {i:Nat} {k:SkO},ks[i]? =some k→k≠ .gone→∀ {l:Nat} (_:s'.ren[j+i]? =some (some (some l))),∃o,h[l]? =some o∧¬Gone [o] 0
 | [],_,_,_,_,i,k,hk,_,_,_=>by simp at hk
 | q::ks,j,s,s',hx,i,k,hk,hg,l,h5=>by
  simp only [yL]at hx
  split at hx
  ·rename_i s1 h1
   cases i with
   | succ i=>
    have:=Ie hx (i:=i) (k:=k) (by simpa using hk) hg (l:=l) (by rw [show j+1+i=j+(i+1) by omega];exact h5)
    exact this
   | zero=>
    simp at hk;subst hk
    rw [Nat.add_zero]at h5
    have e1:ELe s s':=by
     obtain⟨_,_,_,a2,_⟩:=TD (m:=n) (fun i=>i) h1 (.gone .i64 0) ⟨.i64,0,rfl⟩
     obtain⟨_,_,_,b2,_⟩:=qb (m:=n) (fun i=>i) (fun _=> .gone .i64 0) (fun _=>⟨.i64,0,rfl⟩) hx
     exact a2.trans b2
    cases q with
    | gone=>exact absurd rfl hg
    | box kk=>
     rcases hr:s.ren[j]? with _ | _ | _ | l0<;>simp only [Pn,hr,reduceCtorEq]at h1
     have:=e1.ren j _ hr
     rw [h5]at this;cases this
     split at h1
     ·rename_i v hv;exact⟨_,hv,fun⟨c,m,hgo⟩=>by simp at hgo⟩
     ·cases h1
    | rows f c=>
     rcases hr:s.ren[j]? with _ | _ | _ | l0<;>simp only [Pn,hr,reduceCtorEq]at h1
     ·have:=e1.ren j _ hr
      rw [h5]at this;cases this
     ·have:=e1.ren j _ hr
      rw [h5]at this;cases this
      split at h1
      ·rename_i g c' xs hv;exact⟨_,hv,fun⟨c,m,hgo⟩=>by simp at hgo⟩
      ·cases h1
  ·cases hx
end
end Go.TX
namespace Go.TX
open Go Go.AE
variable [aH]
section
variable {n:Nat}
theorem Jt {X:XT} {E:Tab} (hX:XOK X E) {s':St} {s:RSt (std n)} (S:SR s' s):∀ {rs:List ResultVar} {qs:List SVal},Pv (std n) X s rs=some qs→∃ps,F2 (PVR (nmh s.h)) ps qs∧∀K,K ps→KU E s' rs K
 | [],qs,h=>by simp only [Pv,Option.some.injEq]at h;subst h;exact⟨[],.nil,fun K hK=>hK⟩
 | .tmp t::r,qs,h=>by
  simp only [Pv]at h
  split at h
  ·rename_i v hv
   split at h
   ·rename_i vs hvs;cases h
    obtain⟨pv,p1,p2⟩:=S.val t _ hv
    obtain⟨ps,q1,q2⟩:=Jt hX S hvs
    exact⟨pv::ps,.cons p2 q1,fun K hK=>by unfold KU;exact iC p1 _ (q2 _ hK)⟩
   ·cases h
  ·cases h
 | .cell t ty::r,qs,h=>by
  simp only [Pv]at h
  split at h
  ·rename_i p hp
   split at h
   ·rename_i v hv
    split at h
    ·rename_i vs hvs;cases h
     obtain⟨pv,p1,p2⟩:=S.val t _ hp
     obtain⟨pr,r1,r2⟩:=Lh hX S.heap p2 hv (fun b hb=>by simp at hb)
     obtain⟨ps,q1,q2⟩:=Jt hX S hvs
     exact⟨pr::ps,.cons r1 q1,fun K hK=>by unfold KU;exact iC p1 _ (r2 _ (q2 _ hK))⟩
    ·cases h
   ·cases h
  ·cases h
theorem ad1 {N:NM}:∀ {ps:List PV} {vs:List SVal},F2 (PVR N) ps vs→(∀v∈vs,nM v=false)→PVR N (one ps) (ajO (std n) vs)
 | [],_,h,_=>by cases h;exact .tup .nil
 | [p],_,.cons h1 h2,_=>by cases h2;exact h1
 | p::q::ps,_,.cons h1 (.cons h2 h3),ht=>by
  have up:∀ {p v},PVR N p v→nM v=false→PV0 N p v:=fun h hv=>by
   cases h with
   | one h=>exact h
   | tup _=>simp [nM]at hv
  have all:∀ {ps:List PV} {vs:List SVal},F2 (PVR N) ps vs→(∀v∈vs,nM v=false)→F2 (PV0 N) ps vs:=by
   intro ps vs h
   induction h with
   | nil=>intro _;exact .nil
   | cons a _ ih=>intro ht;exact .cons (up a (ht _ (by simp))) (ih fun v hv=>ht v (List.mem_cons_of_mem _ hv))
  exact .tup (all (.cons h1 (.cons h2 h3)) ht)
theorem abn {c:Ctx} {w:World} {us:List Value} {ps:List PV} (h:F2 (bE c w) us ps):bE c w (if h:us.toArray.size=1 then us.toArray[0]else .tuple us.toArray) (one ps):=by
 cases h with
 | nil=>exact KS _ _
 | cons q1 q2=>
  cases q2 with
  | nil=>simpa [one]using q1
  | cons q3 q4=>
   have hl:=(F2.cons q1 (F2.cons q3 q4)).length
   rw [dif_neg (by simp)]
   refine .tup _ _ hl (fun i hi=> ?_)
   have hx:∀(l:List PV),i<l.length→l[i]? =some (l.getD i default):=fun l hl=>by simp [List.getD,List.getElem?_eq_getElem hl]
   obtain⟨u,hu,hr⟩:=(F2.cons q1 (F2.cons q3 q4)).get (hx _ hi)
   rw [lY hu];exact hr
theorem LK (h:List aJ) (l:Nat):Gone [tq (std n) h l] 0:=by
 unfold tq;split
 ·exact⟨_,_,rfl⟩
 ·exact⟨_,_,rfl⟩
 ·exact⟨_,_,rfl⟩
def yZ (D:List Nat) (h:Heap):Heap:=D.map (fun l=>(l,fG.gone))++h
theorem DN {D:List Nat} {h:Heap} {l:Nat} (hl:l∈D):AE.look (yZ D h) l=some .gone:=by
 induction D with
 | nil=>simp at hl
 | cons d D ih=>
  show AE.look ((d,.gone)::yZ D h) l=_
  by_cases e:d=l
  ·subst e;rw [aI]
  ·rw [ay _ _ e]
   exact ih (by cases hl with | head=>exact absurd rfl e | tail _ h=>exact h)
theorem qh {D:List Nat} {h:Heap} {l:Nat} (hl:l∉D):AE.look (yZ D h) l=AE.look h l:=by
 induction D with
 | nil=>rfl
 | cons d D ih=>
  show AE.look ((d,.gone)::yZ D h) l=_
  rw [ay _ _ (fun e=>hl (by simp [e]))]
  exact ih (fun h=>hl (List.mem_cons_of_mem _ h))
section
variable {X:XT} {E:Tab} (hE:aF E) (hX:XOK X E) {C:Calls aB} (hG:ow E (jV C)) (hm:E.P.follows .mixedOrders=true) {ord:Nat→List fM} {chk:Nat→Array Oper→Nat→Bool} (LJ:∀id ops m,chk id ops m=true→Static E ord id ops m)
include hE hX hG hm LJ
theorem akc {f:FuncId} {fn:Func} {code:Code} (hf:E.P.funcs[f]? =some fn) (hb:fn.body=some code) (hent:Enters E.P f) {sg:Sig} {an:Ann} {ct:Ct aB sg}
  (hrun:∀x,ct.pre x=true→Pw (std 0) X C ord chk an sg fn code x (fun y=>y=ct.fn x)):cO E f (bX ct) where
 enters:=hent
 calls:=by
  rintro args h nn K ⟨m,qs,hs,hargs,HR,hlen,cr,hcall,abo,v,kT,hvk,hK⟩ c w vs hcn qg H Gl
  subst hlen
  unfold qN at hcall
  split at hcall
  ·rename_i e1 he1
   split at hcall
   ·rename_i e he
    split at hcall
    ·rename_i jc
     simp only [Bool.and_eq_true,List.isEmpty_iff]at jc
     obtain⟨jc,htr⟩:=jc
     have jc:=Jl jc
     split at hcall
     ·rename_i x hx
      simp only [Option.some.injEq]at hcall
      subst hcall
      have hck:∀b∈e.ck,b=true:=fun b hb=>abo b (List.mem_append_left _ hb)
      have hpre:ct.pre x=true:=abo _ (List.mem_append_right _ (by simp))
      obtain⟨N,hrun⟩:∃N:Nat,Pw (std N) X C ord chk an sg fn code x (fun y=>y=ct.fn x):=⟨0,hrun x hpre⟩
      simp only at hvk hK
      obtain⟨new1,qs1,a1,a2,a3,a4⟩:=tJ (fun i=>i) he1
      obtain⟨new2,os1,b1,b2,b3,b4,b5⟩:=qb (fun i=>i) (fun _=>(.gone .i64 0:aJ)) (fun _=>⟨.i64,0,rfl⟩) he
      have hlv:e.lv.reverse=new1++new2:=by rw [b1,a1];simp [es0]
      have hun:=unpack_pack hx
      rw [hlv]at hun
      have hrl:e.ren.length=sg.objs.length:=by rw [b2.len,a2.len,Jq]
      have hof:∀(j:Nat) (kk:SkO),sg.objs[j]? =some kk→∃o2,os1[j]? =some o2∧OF e hs (fun i=>i) j kk (.gone .i64 0) o2:=fun j kk hj=>by
       obtain⟨o2,q1,q2⟩:=b5 e (.refl _) j kk hj
       exact⟨o2,q1,by simpa using q2⟩
      obtain⟨o1,m1,m2,m3,m4,_,_⟩:=xP (ks:=sg.objs) (nm:=fun i=>i) (old:=fun _=>(.gone .i64 0:aJ)) H HR hck jc hrl b4 hof (cb:={K:=fun _ _=>False,μ:=μX e c,n:=0}) (hb':=[])
       (LH w _ _ _ (fun _ _ h=>h.elim) (fun _ h=>h)) false (fun h=>by cases h) (μ2:=μX e c) (n2:=sg.objs.length) (Nat.zero_le _) (fun _ _=>rfl) (fun i hi=>hi) (fun i j _ _ h=>h)
       (fun i l hi=>by simp only [μX];rw [hi]) (fun i hi=>by simp only [μX];rw [hi]) (h2:=os1) (fun i _=>rfl)
       (fun l o hl ho=>by
        have:sg.objs.length≤l:=by
         rcases Nat.lt_or_ge l sg.objs.length with h | h
         ·exact absurd rfl (hl l h)
         ·exact h
        rw [List.getElem?_eq_none (by omega)]at ho;cases ho) (fun _ _=>rfl)
       (fun b ⟨l,o,hl,_⟩ _=>by simp [AE.look]at hl) (fun f b h _=>h) (fun f b ⟨l,o,hl,_⟩ _=>by simp [AE.look]at hl)
      generalize hc1:({K:=fun f b=>False∨KX e c false f b,μ:=μX e c,n:=sg.objs.length}:Ctx)=c1 at m1 m2 m3 m4
      generalize hh1:rR (fun i=>i) o1 (List.range sg.objs.length) []=h1' at m1 m2 m4
      have c1n:c1.n=sg.objs.length:=by rw [←hc1]
      have c1K:∀f b,c1.K f b→c.K f b∨∃l g,(l,g)∈e.fro∧c.μ l=some b∧(f=true→g=true):=fun f b hb=>by
       rw [←hc1]at hb
       rcases hb with hb | hb | ⟨l,g,q1,q2,q3⟩
       ·exact hb.elim
       ·exact .inl (by simpa using hb)
       ·exact .inr ⟨l,g,q1,q2,fun h=>q3 (by simp [h])⟩
      have ad2:∀f b,c.K f b→c1.K f b:=fun f b hb=>by rw [←hc1];exact .inr (.inl (by simpa using hb))
      have akd:∀b,dV c1 h1' b→∃(i lq:Nat) (q:fG),e.ren[i]? =some (some (some lq))∧AE.look h lq=some q∧q.live∧c.μ lq=some b:=fun b hb=>by
       rcases m4 b hb with⟨l,o,hl,_⟩ | hb
       ·simp [AE.look]at hl
       ·exact hb
      have ake:F2 (WV c w (nmh hs)) vs qs:=by
       clear he1 a1 a2 a3 a4 hvk hrun
       induction qg generalizing qs with
       | nil=>cases hargs;exact .nil
       | cons q1 _ ih=>cases hargs with | cons q3 q4=>exact .cons ⟨_,q1,q3⟩ (ih _ q4)
      obtain⟨akf,p1,p2⟩:=Jr (a4 H HR b2 hck m3 (fun h=>by cases h) ake)
      unfold Pw at hrun
      split at hrun
      ·exact hrun.elim
      rename_i hkk
      have hkk:sg.objs.length≤sg.dP.length:=by
       have:Nat.ble sg.objs.length sg.dP.length=true:=by simpa using hkk
       exact Nat.le_of_ble_eq_true this
      rw [show unpack (std N).ah sg.inp x=new1++new2 from hun,a3]at hrun
      simp only at hrun
      have hb3:=b3 []
      rw [List.append_nil]at hb3
      rw [show qM (std N).ah (fun i=>i) (fun _=>dO.gone Co.i64 ((std N).lit 0)) 0 sg.objs new2=some (os1,[])from hb3]at hrun
      simp only at hrun
      have hql:qs1.length=vs.length:=by rw [←p2.length,←p1.length]
      refine calls_of_wp hf hb ?_
      have A1:jl E {t:=(List.range qs1.length).zip (akf.map some),h:=h1',n:=sg.objs.length,k:=0,m:=qs1.length+(fn.ntmps-qs1.length)} c1 w {tmps:=vs.toArray++Array.replicate (fn.ntmps-vs.toArray.size) undef,defers:=[]}:=by
       refine⟨⟨fun i u hu=>DJ p1 ?_ i u hu,m1,?_⟩,c1n,rfl,by simp [hql]⟩
       ·refine F2.Cj (by simp [hql]) fun j i u hj hu=> ?_
        have:i=j:=by
         have h3:=(List.getElem?_eq_some_iff.1 hj).1
         simp at h3
         rw [List.getElem?_range h3]at hj;cases hj;rfl
        subst this
        have hlt:i<vs.length:=(List.getElem?_eq_some_iff.1 hu).1
        simp only
        rw [Array.getElem?_append_left (by simpa using hlt)]
        simpa using hu
       ·intro gg d hd
        obtain⟨q1,u,q2,q3⟩:=Gl gg d hd
        exact⟨ad2 _ _ q1,u,q2,q3.mono' fun b hb=>ad2 _ _ hb⟩
      have S1:SR {t:=(List.range qs1.length).zip (akf.map some),h:=h1',n:=sg.objs.length,k:=0,m:=qs1.length+(fn.ntmps-qs1.length)}
        ({t:=(List.range qs1.length).zip (qs1.map fun v=>⟨none,v⟩),gs:=[],h:=os1,m:=qs1.length+(fn.ntmps-qs1.length)}:RSt (std N)):=by
       refine⟨m2,by simp [nm,b4],rfl,fun i sv hi=> ?_,fun t e he=>by simp at he⟩
       obtain⟨q1,q2⟩:=DF p2 i sv hi
       unfold yU
       rw [q1];exact q2
      refine wp_mono (qU hE hX hG hm LJ c1n code hrun A1 (.refl _ _ _) S1 (.refl _ os1) rfl) ?_
      have fin:∀ {c3:Ctx} {s3':St} {s3:RSt (std N)} {a3x:Act} {w3:World},Grow c1 w h1' c3 w3 s3'.h→jl E s3' c3 w3 a3x→SR s3' s3→Keep sg.objs.length os1 s3.h→
        Vi (std N) X sg fn s3 (fun y=>y=ct.fn x)→
        a3x.defers=[]∧∃v,(results fn a3x.tmps).run E.P w3= .ok v w3∧
         Post (fun v w'=>∃c' r h' j,Grow c w h c' w' h'∧bG c' w' h'∧c'.n=nm hs.length j∧bE c' w' v r∧K r h' j) (.returned v) w3:=by
       intro c3 s3' s3 arQ w3 g3 A3 S3 K3 hfin
       refine⟨A3.defers,?_⟩
       generalize hM:Vi (std N) X sg fn s3=M at hfin
       unfold Vi at hM
       split at hM
       ·rename_i rs hrs
        split at hM
        ·rename_i e2 he2
         split at hM
         ·rename_i e3 he3
          split at hM
          ·rename_i DR
           have DR:=Jl DR
           split at hM
           ·rename_i y hy
            subst hM
            obtain⟨akg,hfin⟩:=fU hfin
            have hfin:y=ct.fn x:=hfin
            subst hfin
            obtain⟨ps,rp1,rp2⟩:=Jt (E:=E) hX S3 hrs
            obtain⟨us,ps',u1,u2,u3⟩:=zN hE A3 _ (fun q=>q=ps) (rp2 _ rfl)
            subst u3
            refine⟨_,KV u1,?_⟩
            generalize hbr:(sg.fresh&&e.fro.all fun p=> !p.2)=br at hvk hK
            generalize Vs:(if br=true then hs else bq (std m) hs (e.fro.map (·.1)))=h1T at hvk
            have DT:h1T.length=hs.length:=by
             rw [←Vs];split
             ·rfl
             ·exact kQ _ _ _
            have akh:nmh h1T=nmh hs:=by
             rw [←Vs];split
             ·rfl
             ·exact tF _ _ _
            obtain⟨nms,ad3⟩:∃nms,newNames e.ren h1T.length sg.dP.length=nms:=⟨_,rfl⟩
            rw [ad3]at hvk
            have aki:nms.length=sg.dP.length:=by rw [←ad3];exact iA _ _ _
            obtain⟨akj,qs3,x1,x2,x3,x4⟩:=tJ (fun i=>nms.getD i 0) he2
            obtain⟨ad4,os3,y1,y2,y3,y4,y5⟩:=qb (fun i=>nms.getD i 0) (fun i=>tq (std m) h1T (nms.getD i 0)) (fun j=>LK h1T _) he3
            have hlv3:e3.lv.reverse=akj++ad4:=by rw [y1,x1];simp [es0]
            have akk:=unpack_pack hy
            rw [hlv3]at akk
            rw [show unpack (std m).ah sg.out (ct.fn x)=akj++ad4 from akk,x3]at hvk
            simp only at hvk
            have hy3:=y3 []
            rw [List.append_nil]at hy3
            rw [hy3]at hvk
            simp only [Option.some.injEq,Prod.mk.injEq]at hvk
            obtain⟨hv,hkT⟩:=hvk
            have hrl3:e3.ren.length=sg.dP.length:=by rw [y2.len,x2.len,Jq]
            have Ig:∀(i l:Nat),e.ren[i]? =some (some (some l))→i<sg.objs.length:=fun i l hi=>by rw [←hrl];exact(List.getElem?_eq_some_iff.1 hi).1
            have passed:∀(i l:Nat),e.ren[i]? =some (some (some l))→∃o',AE.look h l=some o'∧o'.live:=fun i l hi=>by
             have hik:=Ig i l hi
             obtain⟨o2,q1,q2⟩:=hof i _ (List.getElem?_eq_getElem hik)
             obtain⟨_,_,_,_,q3⟩:=q2.rel H HR hck m3 (fun h=>by cases h)
             exact q3 l (fun hg=>jc.gone hi (by rw [List.getElem?_eq_getElem hik,hg])) hi
            have hlh:∀l o',AE.look h l=some o'→l<hs.length:=fun l o' hl=>by rw [←hcn];exact(H.obj l o' hl).1
            have P:=PG (n:=m) os3 e.ren h1T (fun i l hi _=>by rw [DT];obtain⟨o',q,_⟩:=passed i l hi;exact hlh l o' q) (fun i j l hi hj=>jc.dist hi hj)
            rw [y4,ad3,hkT]at P
            have abp:∀i,i<sg.dP.length→nms[i]? =some (nms.getD i 0):=fun i hi=>by
             have:i<nms.length:=by rw [aki];exact hi
             simp [List.getD,List.getElem?_eq_getElem this]
            have nmP:∀i,i<sg.dP.length→kT[nms.getD i 0]? =os3[i]? ∧(e.ren[i]? =some (some (some (nms.getD i 0)))∨(hs.length≤nms.getD i 0∧∀q:Nat,e.ren[i]? ≠some (some (some q)))):=fun i hi=>by
             obtain⟨l,q1,q2,q3⟩:=P.at_ i (by rw [y4];exact hi)
             rw [abp i hi]at q1
             have q1:=Option.some.inj q1
             subst q1
             rw [DT]at q3
             exact⟨q2,q3⟩
            have WO:∀i j,i<sg.dP.length→j<sg.dP.length→nms.getD i 0=nms.getD j 0→i=j:=fun i j hi hj hij=>P.inj i j _ (abp i hi) (by rw [hij];exact abp j hj)
            have aqx:∀i,i<sg.dP.length→nms.getD i 0<kT.length:=fun i hi=>by
             have h3:=(nmP i hi).1
             rw [List.getElem?_eq_getElem (show i<os3.length by rw [y4];exact hi)]at h3
             exact(List.getElem?_eq_some_iff.1 h3).1
            have TH:∀(i l:Nat),e.ren[i]? =some (some (some l))→nms.getD i 0=l:=fun i l hi=>by
             have hik:=Nat.lt_of_lt_of_le (Ig i l hi) hkk
             rcases(nmP i hik).2 with q | ⟨_,q⟩
             ·rw [hi]at q;cases q;rfl
             ·exact absurd hi (q l)
            have hD:∀l,l∈bH e.ren→∃i,i<sg.dP.length∧nms.getD i 0=l∧e.ren[i]? =some (some (some l)):=fun l hl=>by
             obtain⟨i,hi⟩:=vk hl
             exact⟨i,Nat.lt_of_lt_of_le (Ig i l hi) hkk,TH i l hi,hi⟩
            obtain⟨D,acd⟩:∃D,bH e.ren++(if br=true then []else e.fro.map (·.1))=D:=⟨_,rfl⟩
            rw [acd]at hK
            have LM:∀l,l∈D↔l∈bH e.ren∨(br=false∧∃f,(l,f)∈e.fro):=fun l=>by
             rw [←acd];cases br<;>simp
            have vw:∀l f,(l,f)∈e.fro→(∃g cc xs,hs[l]? =some (.rows g cc xs))∧∃o',AE.look h l=some o'∧o'.live:=fun l f hl=>by
             obtain⟨_,g,cc,xs,q⟩:=jc.fro l f hl
             obtain⟨o',q1,q2⟩:=HR.old l _ q
             cases q2 with | rows _=>exact⟨⟨g,cc,xs,q⟩,_,q1,trivial⟩
            have Ih:∀l o,AE.look (yZ D h) l=some o→o.live→l∉D∧AE.look h l=some o:=fun l o hl hlv=>by
             by_cases hd:l∈D
             ·rw [DN hd]at hl;cases hl;exact hlv.elim
             ·rw [qh hd]at hl;exact⟨hd,hl⟩
            have Ju:∀l o b,l∉D→AE.look h l=some o→o.live→c.μ l=some b→¬dV c1 h1' b:=fun l o b hd hl hlv hb ho=>by
             obtain⟨i,lq,q,q1,q2,q3,q4⟩:=akd b ho
             have:=H.inj l o lq q b hl hlv q2 q3 hb q4
             subst this
             exact hd ((LM l).2 (.inl (qc q1)))
            have TI:∀b,dV c1 h1' b→dV c h b:=fun b hb=>by
             obtain⟨i,lq,q,_,q2,q3,q4⟩:=akd b hb
             exact⟨lq,q,q2,q3,q4⟩
            have kept:∀f b,c.K f b→w3.heap[b]? =w.heap[b]? :=fun f b hb=>g3.kept b (H.low f b hb) (fun ho=>H.own f b (TI b ho) hb)
            have Hb:bG c w3 (yZ D h):=by
             refine⟨fun l o hl=> ?_,fun l o l' o' b q1 q2 q3 q4 q5 q6=> ?_,?_,fun f b hb=>Nat.lt_of_lt_of_le (H.low f b hb) g3.size,H.sub⟩
             ·by_cases hd:l∈D
              ·rw [DN hd]at hl;cases hl
               refine⟨?_,trivial⟩
               rcases(LM l).1 hd with h3 | ⟨_,f,h3⟩
               ·obtain⟨i,hi⟩:=vk h3
                obtain⟨o',q,_⟩:=passed i l hi
                exact(H.obj l o' q).1
               ·obtain⟨_,o',q,_⟩:=vw l f h3
                exact(H.obj l o' q).1
              ·rw [qh hd]at hl
               obtain⟨q1,q2⟩:=H.obj l o hl
               exact⟨q1,q2.mono (.refl c) kept g3.stays q1 (fun b hlv hb=>g3.kept b (q2.lt hlv hb) (Ju l o b hd hl hlv hb))⟩
             ·obtain⟨_,r1⟩:=Ih l o q1 q2
              obtain⟨_,r2⟩:=Ih l' o' q3 q4
              exact H.inj l o l' o' b r1 q2 r2 q4 q5 q6
             ·rintro f b ⟨l,o,hl,hlv,hb⟩ hk
              obtain⟨_,r1⟩:=Ih l o hl hlv
              exact H.own f b ⟨l,o,r1,hlv,hb⟩ hk
            have WQ:∀l o b,AE.look h l=some o→o.live→c.μ l=some b→b<w.heap.size:=fun l o b hl hlv hb=>(H.obj l o hl).2.lt hlv hb
            have ace:∀l o b,l∉D→AE.look h l=some o→o.live→c.μ l=some b→¬dV c3 s3'.h b:=fun l o b hd hl hlv hb ho=>by
             rcases g3.oq b ho with h3 | h3
             ·exact Ju l o b hd hl hlv hb h3
             ·have:=WQ l o b hl hlv hb;omega
            have TJ:∀q g b,(q,g)∈e3.fro→c3.μ q=some b→dV c3 s3'.h b:=fun q g b hq hb=>by
             obtain⟨_,g',cc,xs,hl⟩:=DR.fro q g hq
             obtain⟨o',q1,q2⟩:=S3.heap.old q _ hl
             cases q2 with | rows _=>exact⟨q,_,q1,trivial,hb⟩
            have akl:br=true→∀l f,(l,f)∈e.fro→f=false:=fun hb l f hl=>by
             rw [←hbr]at hb
             simp only [Bool.and_eq_true]at hb
             have:=List.all_eq_true.1 hb.2 _ hl
             simpa using this
            have adV:∀f b,dV c (yZ D h) b→KX e3 c3 br f b→False:=by
             rintro f b ⟨l,o,hl,hlv,hb⟩ hk
             obtain⟨hd,hl⟩:=Ih l o hl hlv
             rcases hk with hk | ⟨q,g,q1,q2,_⟩
             ·rcases g3.vH _ b hk with h3 | h3 | h3
              ·rcases c1K _ b h3 with h3 | ⟨l2,g2,q1,q2,q3⟩
               ·exact H.own _ b ⟨l,o,hl,hlv,hb⟩ h3
               ·obtain⟨_,o2,r1,r2⟩:=vw l2 g2 q1
                have:=H.inj l o l2 o2 b hl hlv r1 r2 hb q2
                subst this
                cases hbb:br with
                | false=>exact hd ((LM l).2 (.inr ⟨hbb,g2,q1⟩))
                | true=>
                 have h5:=q3 (by rw [hbb];simp)
                 have h6:=akl hbb l g2 q1
                 rw [h5]at h6;cases h6
              ·have:=WQ l o b hl hlv hb;omega
              ·exact Ju l o b hd hl hlv hb h3
             ·exact ace l o b hd hl hlv hb (TJ q g b q1 q2)
            have aqy:∃μ2:Nat→Option Nat,(∀l,l<hs.length→μ2 l=c.μ l)∧(∀(i q:Nat),i<sg.dP.length→hs.length≤nms.getD i 0→e3.ren[i]? =some (some (some q))→μ2 (nms.getD i 0)=c3.μ q)∧
              (∀i:Nat,i<sg.dP.length→hs.length≤nms.getD i 0→e3.ren[i]? =some (some none)→μ2 (nms.getD i 0)=none):=by
             have hch:∀l,∃ob:Option Nat,(l<hs.length→ob=c.μ l)∧(∀(i q:Nat),i<sg.dP.length→hs.length≤l→nms.getD i 0=l→e3.ren[i]? =some (some (some q))→ob=c3.μ q)∧
               (∀i:Nat,i<sg.dP.length→hs.length≤l→nms.getD i 0=l→e3.ren[i]? =some (some none)→ob=none):=by
              intro l
              by_cases hl:l<hs.length
              ·exact⟨c.μ l,fun _=>rfl,fun i q _ h4=>by omega,fun i _ h4=>by omega⟩
              ·by_cases hx:∃i q:Nat,i<sg.dP.length∧nms.getD i 0=l∧e3.ren[i]? =some (some (some q))
               ·obtain⟨i,q,h4,h5,h6⟩:=hx
                refine⟨c3.μ q,fun h=>absurd h hl,fun j q' h7 _ h9 h10=> ?_,fun j h7 _ h9 h10=> ?_⟩
                ·have:=WO i j h4 h7 (h5.trans h9.symm);subst this
                 rw [h6]at h10;cases h10;rfl
                ·have:=WO i j h4 h7 (h5.trans h9.symm);subst this
                 rw [h6]at h10;cases h10
               ·exact⟨none,fun h=>absurd h hl,fun j q' h7 _ h9 h10=>absurd ⟨j,q',h7,h9,h10⟩ hx,fun _ _ _ _ _=>rfl⟩
             obtain⟨μ2,ad5⟩:=Classical.axiomOfChoice hch
             exact⟨μ2,fun l hl=>(ad5 l).1 hl,fun i q h4 h5 h6=>(ad5 _).2.1 i q h4 h5 rfl h6,fun i h4 h5 h6=>(ad5 _).2.2 i h4 h5 rfl h6⟩
            obtain⟨μ2,μa,μb,μc⟩:=aqy
            have PI:∀(i:Nat) (v:Option Nat),i<sg.objs.length→e3.ren[i]? =some (some v)→v=some i∧(es0 (std N) sg.objs.length sg.dP).ren[i]? =some (some (some i)):=fun i v hi hv=>by
             have hik:=Nat.lt_of_lt_of_le hi hkk
             have h0:=Jp (n:=N) hi hik
             have hg:qK sg.dP[i]? =false:=by
              unfold qK;split
              ·rename_i hh;exact absurd hh (DR.gone hv)
              ·rfl
             rw [hg]at h0
             have h0:(es0 (std N) sg.objs.length sg.dP).ren[i]? =some (some (some i)):=by simpa using h0
             have:=y2.ren i _ (x2.ren i _ h0)
             rw [hv]at this;cases this
             exact⟨rfl,h0⟩
            have hname:∀(i q:Nat),e3.ren[i]? =some (some (some q))→μ2 (nms.getD i 0)=c3.μ q:=fun i q hi=>by
             have hik:i<sg.dP.length:=by rw [←hrl3];exact(List.getElem?_eq_some_iff.1 hi).1
             rcases(nmP i hik).2 with h4 | ⟨h4,_⟩
             ·have hio:=Ig i _ h4
              obtain⟨h5,_⟩:=PI i _ hio hi
              cases h5
              obtain⟨o',h6,_⟩:=passed i _ h4
              rw [μa _ (hlh _ o' h6),g3.le.μ i (by rw [c1n];exact hio)]
              exact(m3.name i _ h4).2.symm
             ·exact μb i q hik h4 hi
            have hnil:∀(i:Nat),e3.ren[i]? =some (some none)→μ2 (nms.getD i 0)=none:=fun i hi=>by
             have hik:i<sg.dP.length:=by rw [←hrl3];exact(List.getElem?_eq_some_iff.1 hi).1
             rcases Nat.lt_or_ge i sg.objs.length with h4 | h4
             ·obtain⟨h5,_⟩:=PI i _ h4 hi;cases h5
             ·rcases(nmP i hik).2 with h5 | ⟨h5,_⟩
              ·have:=Ig i _ h5;omega
              ·exact μc i hik h5 hi
            have hsame:Same hs kT:=fun l z hz=>by
             have hll:l<hs.length:=by
              rcases Nat.lt_or_ge l hs.length with hl | hl
              ·exact hl
              ·simp [nmh,List.getElem?_eq_none hl]at hz
             by_cases hp:∃i:Nat,e.ren[i]? =some (some (some l))
             ·obtain⟨i,hi⟩:=hp
              have hio:=Ig i l hi
              have hik:=Nat.lt_of_lt_of_le hio hkk
              have hn:=TH i l hi
              have hat:=(nmP i hik).1
              rw [hn]at hat
              obtain⟨k3,hk3⟩:∃k3,sg.dP[i]? =some k3:=⟨_,List.getElem?_eq_getElem hik⟩
              obtain⟨o3,r1,r2⟩:=y5 e3 (.refl _) i k3 hk3
              rw [Nat.zero_add]at r2
              have goal:nmh [o3] 0=some z→nmh kT l=some z:=fun hh=>by
               simp only [nmh,hat,r1];simpa [nmh]using hh
              by_cases hg:k3= .gone
              ·refine goal ?_
               rw [r2.gone hg]
               show nmh [tq (std m) h1T (nms.getD i 0)] 0=some z
               rw [hn]
               rw [←akh]at hz
               unfold tq
               simp only [nmh]at hz ⊢
               split at hz
               ·rename_i hh;rw [hh];simpa using hz
               ·rename_i hh;rw [hh];simpa using hz
               ·cases hz
              ·obtain⟨v3,hv3⟩:=r2.live hg
               obtain⟨h5,h6⟩:=PI i _ hio hv3
               subst h5
               obtain⟨o1',s1,s2⟩:=hof i _ (List.getElem?_eq_getElem hio)
               have aqz:sg.objs[i]≠ .gone:=fun hh=>jc.gone hi (by rw [List.getElem?_eq_getElem hio,hh])
               have t1:=s2.s1 l z.1 z.2 aqz hi (by rw [hz])
               have aqA:qJ (std m) e i=none:=by simp [qJ,htr]
               rw [aqA]at t1
               have t2:nmh os1 i=some z:=by simp only [nmh,s1];simpa [nmh]using t1
               rcases(K3 i hio).2 z t2 with⟨cc,nn,hgo⟩ | t3
               ·exfalso
                obtain⟨v3',arR⟩:=r2.live hg
                have:=Ie he3 (i:=i) hk3 hg (l:=i) (by rw [Nat.zero_add];exact hv3)
                obtain⟨o4,ho4,aqB⟩:=this
                rw [hgo]at ho4;cases ho4
                exact aqB ⟨_,_,rfl⟩
               ·have aqC:qJ (std N) e3 i=none:=by rw [y2.tr i _ (x2.ren i _ h6),x2.tr i _ h6];rfl
                have t4:=r2.s1 i z.1 z.2 hg hv3 (by rw [t3])
                rw [aqC]at t4
                exact goal t4
             ·have hp':∀i:Nat,i<os3.length→e.ren[i]? ≠some (some (some l)):=fun i _ hi=>hp ⟨i,hi⟩
              have:=P.old l (by rw [DT];exact hll) hp'
              rw [←akh]at hz
              simp only [nmh,this]
              exact hz
            have aqD:∀(j:Nat) (kk:SkO),sg.dP[j]? =some kk→∃o2,os3[j]? =some o2∧OF e3 s3.h (fun i=>nms.getD i 0) j kk (tq (std m) h1T (nms.getD j 0)) o2:=fun j kk hj=>by
             obtain⟨o2,q1,q2⟩:=y5 e3 (.refl _) j kk hj
             exact⟨o2,q1,by simpa using q2⟩
            have aqE:br=true→sg.dP.all SkO.fresh=true:=fun hb=>by
             rw [←hbr]at hb
             simp only [Bool.and_eq_true,Sig.fresh]at hb
             exact hb.1.2
            have aqF:br=true→sg.res.all SkV.fresh=true:=fun hb=>by
             rw [←hbr]at hb
             simp only [Bool.and_eq_true,Sig.fresh]at hb
             exact hb.1.1
            obtain⟨o3f,z1,z2,z3,z4,z5,z6⟩:=xP (ks:=sg.dP) (nm:=fun i=>nms.getD i 0) (old:=fun i=>tq (std m) h1T (nms.getD i 0)) A3.abs.heap S3.heap akg DR hrl3 y4 aqD (cb:=c) (hb':=yZ D h)
             Hb br aqE (μ2:=μ2) (n2:=kT.length) (by rw [hcn,←DT];exact P.len) (fun l hl=>μa l (by rw [←hcn];exact hl)) aqx WO hname hnil (h2:=kT) (fun i hi=>(nmP i hi).1)
             (fun l o hl ho=>by
              have hll:l<hs.length:=by
               rcases Nat.lt_or_ge l hs.length with h4 | h4
               ·exact h4
               ·obtain⟨i,q1,q2⟩:=P.new l (by rw [DT];exact h4) (List.getElem?_eq_some_iff.1 ho).1
                rw [y4]at q1
                rw [abp i q1]at q2
                exact absurd (Option.some.inj q2) (hl i q1)
              have hnp:l∉bH e.ren:=fun hp=>by
               obtain⟨i,q1,q2,_⟩:=hD l hp
               exact hl i q1 q2
              have h5:=P.old l (by rw [DT];exact hll) (fun i hi hh=>hnp (qc hh))
              rw [h5]at ho
              by_cases hd:l∈D
              ·rcases(LM l).1 hd with h6 | ⟨hb0,f,h6⟩
               ·exact absurd h6 hnp
               ·rw [←Vs,hb0]at ho
                simp only [Bool.false_eq_true,if_false]at ho
                obtain⟨⟨g,cc,xs,h7⟩,_⟩:=vw l f h6
                have:Gone (bq (std m) hs (e.fro.map (·.1))) l:=yY (List.mem_map.2 ⟨_,h6,rfl⟩) h7
                obtain⟨c5,n5,h8⟩:=this
                rw [h8]at ho;cases ho
                exact⟨.gone,DN hd,.gone⟩
              ·have h7:hs[l]? =some o:=by
                rw [←Vs]at ho
                split at ho
                ·exact ho
                ·rename_i hb0
                 rw [jH m _ _ (fun h8=>hd ((LM l).2 (.inr ⟨by simpa using hb0,by
                  obtain⟨p,hp,rfl⟩:=List.mem_map.1 h8
                  exact⟨p.2,hp⟩⟩)))]at ho
                 exact ho
               obtain⟨o',r1,r2⟩:=HR.old l _ h7
               exact⟨o',by rw [qh hd];exact r1,r2.mono hsame⟩)
             (fun l hl=>by
              have hll:hs.length≤l:=by have:=P.len;rw [DT]at this;omega
              have hnd:l∉D:=fun hd=>by
               rcases(LM l).1 hd with h4 | ⟨_,f,h4⟩
               ·obtain⟨i,hi⟩:=vk h4
                obtain⟨o',q,_⟩:=passed i l hi
                have:=hlh l o' q;omega
               ·obtain⟨_,o',q,_⟩:=vw l f h4
                have:=hlh l o' q;omega
              rw [qh hnd]
              exact HR.new l hll)
             (fun b ⟨l,o,hl,hlv,hb⟩ ho=>by
              obtain⟨hd,hl⟩:=Ih l o hl hlv
              exact ace l o b hd hl hlv hb ho)
             (fun f b hk ho=>A3.abs.heap.own f b ho (g3.le.K f b (ad2 f b hk))) adV
            have wvs:F2 (WV c3 w3 (nmh s3.h)) us rs:=by
             clear he2 x1 x2 x3 x4 hrs u1 rp2
             induction u2 generalizing rs with
             | nil=>cases rp1;exact .nil
             | cons q1 _ ih=>cases rp1 with | cons q3 q4=>exact .cons ⟨_,q1,q3⟩ (ih _ q4)
            obtain⟨aqG,w1,w2⟩:=Jr (x4 A3.abs.heap S3.heap y2 akg z3 aqF wvs)
            have hv3:PVR (nmh kT) (one aqG) v:=by rw [←hv];exact ad1 w2 (DL (x3 ad4))
            have hkl:kT.length=nm hs.length (kT.length-hs.length):=by have:=P.len;rw [DT]at this;simp [nm];omega
            have aqH:∀b,dV c (yZ D h) b→dV c h b:=fun b ⟨l,o,hl,hlv,hb⟩=>⟨l,o,(Ih l o hl hlv).2,hlv,hb⟩
            have acf:∀b,dV c3 s3'.h b→dV c h b∨w.heap.size≤b:=fun b hb=>(g3.oq b hb).imp (TI b) id
            refine⟨_,_,_,kT.length-hs.length,?_,z1,hkl,abn w1,hK _ _ _ hv3 z2 ?_ hkl⟩
            ·refine⟨z5,g3.size,g3.stays,fun b hb hno=>g3.kept b hb (fun ho=>hno (TI b ho)),fun f b hb=> ?_,fun b hb=> ?_,g3.os,g3.tape,g3.output⟩
             ·rcases hb with hb | hb | ⟨q,g,q1,q2,_⟩
              ·exact .inl hb
              ·rcases g3.vH _ b hb with h4 | h4 | h4
               ·rcases c1K _ b h4 with h5 | ⟨l2,g2,q1,q2,q3⟩
                ·left
                 cases f with
                 | true=>simpa using h5
                 | false=>cases br with
                  | true=>exact H.sub b (by simpa using h5)
                  | false=>simpa using h5
                ·obtain⟨_,o2,r1,r2⟩:=vw l2 g2 q1
                 exact .inr (.inr ⟨l2,o2,r1,r2,q2⟩)
               ·exact .inr (.inl h4)
               ·exact .inr (.inr (TI b h4))
              ·rcases acf b (TJ q g b q1 q2)with h4 | h4
               ·exact .inr (.inr h4)
               ·exact .inr (.inl h4)
             ·rcases z4 b hb with h4 | ⟨i,lq,q,_,q2,q3,q4⟩
              ·exact .inl (aqH b h4)
              ·exact acf b ⟨lq,q,q2,q3,q4⟩
            ·refine⟨hsame,by have:=P.len;rw [DT]at this;exact this,fun l ⟨cc,nn,hgo⟩=> ?_,fun l hl hnd=> ?_⟩
             ·have hll:=(List.getElem?_eq_some_iff.1 hgo).1
              have hnp:∀i:Nat,e.ren[i]? ≠some (some (some l)):=fun i hi=>by
               obtain⟨o',q1,q2⟩:=passed i l hi
               obtain⟨o2,q3,q4⟩:=HR.old l _ hgo
               rw [q1]at q3;cases q3;cases q4;exact q2.elim
              have hnf:∀f,(l,f)∉e.fro:=fun f hf=>by
               obtain⟨⟨g,c5,xs,h7⟩,_⟩:=vw l f hf
               rw [hgo]at h7;cases h7
              refine⟨cc,nn,?_⟩
              rw [P.old l (by rw [DT];exact hll) (fun i _=>hnp i),←Vs]
              split
              ·exact hgo
              ·rw [jH m _ _ (fun h8=>by
                obtain⟨p,hp,rfl⟩:=List.mem_map.1 h8
                exact hnf p.2 hp)]
               exact hgo
             ·have hnp:∀i:Nat,e.ren[i]? ≠some (some (some l)):=fun i hi=>hnd ((LM l).2 (.inl (qc hi)))
              refine⟨?_,?_⟩
              ·rw [P.old l (by rw [DT];exact hl) (fun i _=>hnp i),←Vs]
               split
               ·rfl
               ·rename_i hb0
                exact jH m _ _ (fun h8=>hnd ((LM l).2 (.inr ⟨by simpa using hb0,by
                 obtain⟨p,hp,rfl⟩:=List.mem_map.1 h8
                 exact⟨p.2,hp⟩⟩)))
              ·rw [z6 l (fun i hi hh=>by
                rcases(nmP i hi).2 with h4 | ⟨h4,_⟩
                ·rw [hh]at h4;exact hnp i h4
                ·omega),qh hnd]
           ·(subst hM;exact hfin.elim)
          ·(subst hM;exact hfin.elim)
         ·(subst hM;exact hfin.elim)
        ·(subst hM;exact hfin.elim)
       ·(subst hM;exact hfin.elim)
      intro ex a' w' he
      cases ex with
      | outgrown=>exact he.elim
      | panic _=>exact he.elim
      | goto _=>exact he.elim
      | normal=>obtain⟨c3,s3',s3,g1,g2,g3,g4,_,g6⟩:=he;exact fin g1 g2 g3 g4 g6
      | ret=>obtain⟨c3,s3',s3,g1,g2,g3,g4,_,g6⟩:=he;exact fin g1 g2 g3 g4 g6
      | exit i=>obtain⟨c3,s3',s3,g1,g2,g3,g4,_,g6⟩:=he;exact g6.elim
     ·cases hcall
    ·cases hcall
   ·cases hcall
  ·cases hcall
end
end
end Go.TX
namespace Go.TX
open Go Go.AE
structure FM {ρ:Type} (m:(ρ→Prop)→Prop):Prop where
 mono:∀Q Q':ρ→Prop,(∀y,Q y→Q' y)→m Q→m Q'
 one:∀Q:ρ→Prop,m Q→∃y,Q y∧m (fun z=>z=y)
 two:∀Q Q':ρ→Prop,m Q→m Q'→∃y,Q y∧Q' y
section
variable {n:Nat} {ρ:Type}
theorem FM.fail:FM (fun _:ρ→Prop=>False):=⟨fun _ _ _ h=>h,fun _ h=>h.elim,fun _ _ h=>h.elim⟩
theorem FM.ret (t:ρ):FM (fun Q:ρ→Prop=>Q t):=⟨fun _ _ h hq=>h _ hq,fun _ hq=>⟨t,hq,rfl⟩,fun _ _ h g=>⟨t,h,g⟩⟩
theorem FM.bind {α:Type} {m:(α→Prop)→Prop} {k:α→(ρ→Prop)→Prop} (hm:FM m) (hk:∀t,FM (k t)):FM (fun Q=>m fun t=>k t Q):=
 ⟨fun Q Q' h hq=>hm.mono _ _ (fun t ht=>(hk t).mono _ _ h ht) hq,fun Q hq=>by
  obtain⟨t,h1,h2⟩:=hm.one _ hq
  obtain⟨y,h3,h4⟩:=(hk t).one _ h1
  exact⟨y,h3,hm.mono _ _ (fun t' e=>by subst e;exact h4) h2⟩,fun Q Q' h g=>by
  obtain⟨t,h1,h2⟩:=hm.two _ _ h g
  exact(hk t).two _ _ h1 h2⟩
theorem FM.rJ {α:Type} {m:(α ⊕ ρ→Prop)→Prop} {k:α→(ρ→Prop)→Prop} (hm:FM m) (hk:∀t,FM (k t)):FM (fun Q=>m (BS k Q)):=
 ⟨fun Q Q' h hq=>hm.mono _ _ (fun t ht=>by
  cases t with
  | inl x=>exact(hk x).mono _ _ h ht
  | inr r=>exact h _ ht) hq,fun Q hq=>by
  obtain⟨t,h1,h2⟩:=hm.one _ hq
  cases t with
  | inl x=>
   obtain⟨y,h3,h4⟩:=(hk x).one _ h1
   exact⟨y,h3,hm.mono _ _ (fun t' e=>by subst e;exact h4) h2⟩
  | inr r=>exact⟨r,h1,hm.mono _ _ (fun t' e=>by subst e;rfl) h2⟩,fun Q Q' h g=>by
  obtain⟨t,h1,h2⟩:=hm.two _ _ h g
  cases t with
  | inl x=>exact(hk x).two _ _ h1 h2
  | inr r=>exact⟨r,h1,h2⟩⟩
theorem FM.itW {α:Type} {f:α→(α ⊕ ρ→Prop)→Prop} (hf:∀x,FM (f x)):∀(N:Nat) (x:α),FM (TX.itW N f x)
 | 0,x=>by
  have e:TX.itW 0 f x=fun _=>False:=by funext Q;rw [TX.itW]
  rw [e];exact .fail
 | N+1,x=>by
  have e:TX.itW (N+1) f x=fun Q=>f x (BS (TX.itW N f) Q):=by funext Q;rw [TX.itW]
  rw [e];exact .rJ (hf x) (FM.itW hf N)
theorem Aa {α:Type} {k k':α→(ρ→Prop)→Prop} {Q Q':ρ→Prop} (hk:∀x,k x Q→k' x Q') (hq:∀y,Q y→Q' y):∀s,BS k Q s→BS k' Q' s
 | .inl x=>hk x
 | .inr r=>hq r
theorem PK {α:Type} {f:α→(α ⊕ ρ→Prop)→Prop} (hf:∀x,FM (f x)) {Q:ρ→Prop}:∀ {N M:Nat} {x:α},N≤M→TX.itW N f x Q→TX.itW M f x Q
 | 0,_,_,_,h=>by rw [TX.itW]at h;exact h.elim
 | N+1,0,_,h,_=>absurd h (by omega)
 | N+1,M+1,x,h,g=>by
  rw [TX.itW]at g ⊢
  exact(hf x).mono _ _ (Aa (fun y k=>PK hf (by omega) k) (fun _ k=>k)) g
theorem DU {α:Type} {f:α→(α ⊕ ρ→Prop)→Prop} (hf:∀x,FM (f x)) {x:α} {Q:ρ→Prop} (h:Tp f x Q):∃r,Q r∧∃N,TX.itW N f x (fun z=>z=r):=by
 obtain⟨I,μ,h0,hs⟩:=h
 have key:∀(n:Nat) (y:α),μ y<n→I y→∃r,Q r∧∃N,TX.itW N f y (fun z=>z=r):=by
  intro n
  induction n with
  | zero=>intro y h;omega
  | succ n ih=>
   intro y hy hI
   obtain⟨s,h1,h2⟩:=(hf y).one _ (hs y hI)
   cases s with
   | inl z=>
    obtain⟨r,q1,N,q2⟩:=ih z (by have:=h1.2;omega) h1.1
    refine⟨r,q1,N+1,?_⟩
    rw [TX.itW]
    exact(hf y).mono _ _ (fun s e=>by subst e;exact q2) h2
   | inr r=>
    refine⟨r,h1,1,?_⟩
    rw [TX.itW]
    exact(hf y).mono _ _ (fun s e=>by subst e;rfl) h2
 exact key _ x (Nat.lt_succ_self _) h0
theorem FM.iter {α:Type} {f:α→(α ⊕ ρ→Prop)→Prop} (hf:∀x,FM (f x)) (x:α):FM (fun Q=>Tp f x Q):=by
 refine⟨fun Q Q' h ⟨I,μ,h0,hs⟩=>⟨I,μ,h0,fun y hy=>(hf y).mono _ _ (Aa (fun _ h=>h) h) (hs y hy)⟩,fun Q h=> ?_,fun Q Q' h g=> ?_⟩
 rotate_left
 ·obtain⟨r,q1,N,q2⟩:=DU hf h
  obtain⟨t,g1,M,g2⟩:=DU hf g
  obtain⟨z,rfl,rfl⟩:=(FM.itW hf (max N M) x).two _ _ (PK hf (Nat.le_max_left ..) q2) (PK hf (Nat.le_max_right ..) g2)
  exact⟨_,q1,g1⟩
 obtain⟨r,q1,N,q2⟩:=DU hf h
 refine⟨r,q1,?_⟩
 have least:∀y,(∃N,TX.itW N f y (fun z=>z=r))→∃N,TX.itW N f y (fun z=>z=r)∧∀M,M<N→¬TX.itW M f y (fun z=>z=r):=by
  intro y ⟨N,hN⟩
  induction N using Nat.strongRecOn with
  | ind N ih=>
   by_cases h:∃M,M<N∧TX.itW M f y (fun z=>z=r)
   ·obtain⟨M,h1,h2⟩:=h;exact ih M h1 h2
   ·exact⟨N,hN,fun M hM hh=>h ⟨M,hM,hh⟩⟩
 have pick:∀y,∃N,(∃N,TX.itW N f y (fun z=>z=r))→TX.itW N f y (fun z=>z=r)∧∀M,M<N→¬TX.itW M f y (fun z=>z=r):=fun y=>by
  by_cases h:∃N,TX.itW N f y (fun z=>z=r)
  ·obtain⟨N,hN⟩:=least y h;exact⟨N,fun _=>hN⟩
  ·exact⟨0,fun hh=>absurd hh h⟩
 obtain⟨ν,hν⟩:=Classical.axiomOfChoice pick
 refine⟨fun y=>∃N,TX.itW N f y (fun z=>z=r),ν,⟨N,q2⟩,fun y hy=> ?_⟩
 obtain⟨h1,h2⟩:=hν y hy
 cases hn:ν y with
 | zero=>rw [hn]at h1;rw [TX.itW]at h1;exact h1.elim
 | succ k=>
  rw [hn]at h1
  rw [TX.itW]at h1
  refine(hf y).mono _ _ (Aa (fun z hz=> ?_) (fun _ h=>h)) h1
  refine⟨⟨k,hz⟩,?_⟩
  have hz':=hν z ⟨k,hz⟩
  by_cases hlt:ν z<k+1
  ·exact hlt
  ·exact absurd hz (hz'.2 k (by omega))
theorem FM.chk {b:Bool} {m:(ρ→Prop)→Prop} (h:FM m):FM (fun Q=>b=true∧m Q):=
 ⟨fun _ _ hq ⟨a,c⟩=>⟨a,h.mono _ _ hq c⟩,fun _ ⟨a,c⟩=>let⟨y,q1,q2⟩:=h.one _ c;⟨y,q1,a,q2⟩,fun _ _ ⟨_,c⟩ ⟨_,d⟩=>h.two _ _ c d⟩
theorem FM.gJ {m:(ρ→Prop)→Prop} (h:FM m):∀(ps:List Bool),FM (TX.gJ (std n) ps m)
 | []=>h
 | _::ps=> .chk (FM.gJ h ps)
theorem FM.cond {b:Bool} {x y:(ρ→Prop)→Prop} (hx:FM x) (hy:FM y):FM (fun Q=>(b=true→x Q)∧(b=false→y Q)):=
 ⟨fun _ _ hq ⟨a,c⟩=>⟨fun h=>hx.mono _ _ hq (a h),fun h=>hy.mono _ _ hq (c h)⟩,fun _ ⟨a,c⟩=>by
  cases b with
  | true=>obtain⟨y,q1,q2⟩:=hx.one _ (a rfl);exact⟨y,q1,fun _=>q2,fun h=>by cases h⟩
  | false=>obtain⟨y,q1,q2⟩:=hy.one _ (c rfl);exact⟨y,q1,fun h=>(by cases h),fun _=>q2⟩,fun _ _ ⟨a,c⟩ ⟨a',c'⟩=>by
  cases b with
  | true=>exact hx.two _ _ (a rfl) (a' rfl)
  | false=>exact hy.two _ _ (c rfl) (c' rfl)⟩
theorem FM.bind' {ts:List LTy} {m:(iy ts→Prop)→Prop} {k:iy ts→(ρ→Prop)→Prop} (hm:FM m) (hk:∀t,FM (k t)):FM ((std n).bind ts m k):=by
 have:=FM.bind hm hk
 exact this
theorem FM.ad6 {ts:List LTy} {m:(iy ts ⊕ ρ→Prop)→Prop} {k:iy ts→(ρ→Prop)→Prop} (hm:FM m) (hk:∀t,FM (k t)):FM ((std n).rJ ts m k):=by
 have:=FM.rJ hm hk
 exact this
theorem FM.inl' {ts:List LTy} (t:iy ts):FM ((std n).inl (ρ:=ρ) ts t):=FM.ret _
theorem FM.inr' {ts:List LTy} {m:(ρ→Prop)→Prop} (h:FM m):FM ((std n).inr (ρ:=ρ) ts m):=by
 have:=FM.bind (k:=fun(r:ρ) (Q:iy ts ⊕ ρ→Prop)=>Q (Sum.inr r)) h fun r=>FM.ret _
 exact this
theorem FM.iter' {ts:List LTy} {f:iy ts→(iy ts ⊕ ρ→Prop)→Prop} (hf:∀x,FM (f x)) (x:iy ts):FM ((std n).iter ts f x):=FM.iter hf x
theorem FM.ret' {ts:List LTy} (t:iy ts):FM ((std n).ret ts t):=FM.ret t
theorem FM.use {cr:CR (std n)} {K:SVal→List aJ→(ρ→Prop)→Prop} (h:∀v k,FM (K v k)):FM (rM (std n) cr K):=by
  obtain⟨ck,ts,y,k,td,p⟩:=cr
  unfold rM
  cases ts with
  | nil => simp only; split
           · exact h _ _
           · exact .fail
  | cons a b=>
    simp only
    split
    · exact h _ _
    · exact .fail
end
theorem tL:∀(ts:List LTy),Nonempty (iy ts)
 | []=>⟨()⟩
 | t::r=>by
  obtain⟨y⟩:=tL r
  have x:Nonempty (LT aB t):=by
   cases t with
   | i=>exact⟨(0:Int)⟩
   | b=>exact⟨false⟩
   | s=>exact⟨(default:ByteArray)⟩
   | l c=>exact⟨([]:List c.den)⟩
   | x c=>exact⟨(default:c.den)⟩
  obtain⟨x⟩:=x
  exact⟨(x,y)⟩
noncomputable def cn {s:Sig} (F:iy s.inp→(iy s.out→Prop)→Prop):Ct aB s:=
 {pre:=fun x=> @decide (∃y,F x fun z=>z=y) (Classical.propDecidable _)
  fn:=fun x=> @Classical.epsilon _ (tL _) fun y=>F x fun z=>z=y}
structure Fn (E:Tab) (f:FuncId) {s:Sig} (F:iy s.inp→(iy s.out→Prop)→Prop) (c:Ct aB s):Prop where
 e:c=cn F
 fm:∀x,FM (F x)
 ok:cO E f (bX c)
theorem Fn.cs {E:Tab} {f:FuncId} {s:Sig} {F:iy s.inp→(iy s.out→Prop)→Prop} {c:Ct aB s} (h:Fn E f F c) {x:iy s.inp} {Q:iy s.out→Prop} (g:F x Q):c.pre x=true∧Q (c.fn x):=by
 rw [h.e]
 obtain⟨y,h1,h2⟩:=(h.fm x).one _ g
 have e:∃y,F x fun z=>z=y:=⟨y,h2⟩
 refine⟨by simp only [cn];exact @decide_eq_true _ (Classical.propDecidable _) e,?_⟩
 obtain⟨z,k1,k2⟩:=(h.fm x).two _ _ g (@Classical.epsilon_spec _ (fun y=>F x fun z=>z=y) e)
 have k2:z=(cn F).fn x:=k2
 rw [←k2];exact k1
variable [aH]
section
variable {n:Nat} {ρ:Type}
theorem FM.region {X:XT} {C:Calls aB} {ops:List Oper} {K:RSt (std n)→(ρ→Prop)→Prop} (hK:∀s,FM (K s)):∀(rest:List Oper) (s:RSt (std n)),FM (fC (std n) X C ops rest K s)
 | [],s=>by unfold fC;exact hK s
 | o::rest,s=>by
  have ih:=FM.region (X:=X) (C:=C) (ops:=ops) hK rest
  unfold fC
  split
  ·split
   ·split
    ·split
     ·refine FM.gJ ?_ _
      rw [Cc];exact ih _
     ·exact .fail
    ·split
     ·exact FM.gJ (FM.use fun v k=>ih _) _
     ·exact .fail
   ·split
    ·split
     ·exact ih _
     ·split
      ·split
       ·exact FM.gJ (ih _) _
       ·exact .fail
      ·split
       ·split
        ·exact FM.gJ (FM.use fun v k=>ih _) _
        ·exact .cond (FM.gJ (FM.use fun v k=>ih _) _) (ih _)
       ·exact .fail
     ·exact .fail
    ·exact .fail
  ·exact .fail
theorem FM.draw {X:XT} {C:Calls aB} {ops:List Oper} {K:RSt (std n)→(ρ→Prop)→Prop} (hK:∀s,FM (K s)):∀(rest:List fM) (hs:List (Nat×List Nat)) (s:RSt (std n)),FM (iI (std n) X C ops rest hs K s)
 | [],hs,s=>by unfold iI;exact hK s
 | (i,rs,cs)::rest,hs,s=>by
  have ih:=FM.draw (X:=X) (C:=C) (ops:=ops) hK rest
  unfold iI
  split
  ·exact .fail
  ·split
   ·simp only
    split
    ·split
     ·exact .fail
     ·split
      ·split
       ·refine FM.gJ ?_ _
        rw [Cc];exact ih _ _
       ·exact .fail
      ·split
       ·split
        ·exact ih _ _
        ·split
         ·exact FM.gJ (ih _ _) _
         ·exact .fail
        ·exact .fail
       ·exact .fail
    ·split
     ·exact FM.gJ (ih _ _) _
     ·exact ih _ _
     ·exact .fail
    ·split
     ·exact FM.gJ (ih _ _) _
     ·exact .fail
    ·split
     ·split
      ·split
       ·exact FM.gJ (FM.use fun v k=>ih _ _) _
       ·exact .fail
      ·exact .fail
     ·split
      ·split
       ·exact ih _ _
       ·split
        ·split
         ·split
          ·exact FM.gJ (FM.use fun v k=>ih _ _) _
          ·exact .cond (FM.gJ (FM.use fun v k=>ih _ _) _) (ih _ _)
         ·exact .fail
        ·exact .fail
       ·exact .fail
      ·exact .fail
   ·exact .fail
theorem FM.cut {k:Nat} {sk:GX} {pl:Bool} {s:RSt (std n)} {K:Exit→RSt (std n)→(ρ→Prop)→Prop} (hK:∀e s,FM (K e s)) {W: {σ:Type}→(Exit→RSt (std n)→(σ→Prop)→Prop)→(σ→Prop)→Prop}
  (hW:∀ {σ:Type} {K':Exit→RSt (std n)→(σ→Prop)→Prop},(∀e s,FM (K' e s))→FM (W K')):FM (Pq (std n) k sk pl s K W):=by
 unfold Pq
 split
 ·refine FM.bind' (hW fun e s=> ?_) (fun t=>hK _ _)
  split
  ·split
   ·exact FM.gJ (FM.ret' _) _
   ·exact .fail
  ·exact .fail
 ·refine FM.ad6 (hW fun e s=> ?_) (fun t=>hK _ _)
  split
  ·split
   ·exact FM.gJ (FM.inl' _) _
   ·exact .fail
  ·exact FM.inr' (hK _ _)
theorem FM.reg {X:XT} {C:Calls aB} {ord:Nat→List fM} {chk:Nat→Array Oper→Nat→Bool} {id:Nat} {ops:Array Oper} {draw:Bool} {s:RSt (std n)} {K:Exit→RSt (std n)→(ρ→Prop)→Prop} (hK:∀e s,FM (K e s)):
  FM ((if draw then(if chk id ops s.m then iI (std n) X C ops.toList (ord id) [] (fun s=>K .normal s) s else(std n).fail)else fC (std n) X C ops.toList ops.toList (fun s=>K .normal s) s:(std n).M ρ)):=by
 split
 ·split
  ·exact FM.draw (fun s=>hK _ s) _ _ _
  ·exact .fail
 ·exact FM.region (fun s=>hK _ s) _ _
end
theorem FM.exec {n:Nat} {X:XT} {C:Calls aB} {ord:Nat→List fM} {chk:Nat→Array Oper→Nat→Bool} {k:Nat}:∀(code:Code) {ρ:Type} (an:Ann) (s:RSt (std n)) (K:Exit→RSt (std n)→(ρ→Prop)→Prop),(∀e s,FM (K e s))→FM (bI (std n) X C ord chk k an code s K)
  | .skip,ρ,an,s,K,hK=>by cases an<;>exact hK _ _
  | .region id ops draw,ρ,an,s,K,hK=>by
    simp only [bI]
    split
    · exact FM.cut hK fun hK'=>FM.reg hK'
    · exact FM.reg hK
  | .seq x y,ρ,an,s,K,hK=>by
    have main:∀a1 a2 (K1:Exit→RSt (std n)→(ρ→Prop)→Prop),(∀s',K1 .normal s'=bI (std n) X C ord chk k a2 y s' K)→(∀e s',e≠ .normal→K1 e s'=K e s')→FM (bI (std n) X C ord chk k a1 x s K1):=by
      intro a1 a2 K1 h1 h2
      refine FM.exec x a1 s K1 fun e s'=> ?_
      by_cases he:e= .normal
      · subst he;rw [h1];exact FM.exec y a2 s' K hK
      · rw [h2 e s' he];exact hK _ _
    cases an with
    | seq a1 a2=>rw [bI];exact main a1 a2 _ (fun _=>rfl) (fun e s' he=>by cases e<;>first | rfl | exact absurd rfl he)
    | u=>rw [bI];exact main .u .u _ (fun _=>rfl) (fun e s' he=>by cases e<;>first | rfl | exact absurd rfl he)
    | _=>simp only [bI];exact .fail
  | .cond cd x y,ρ,an,s,K,hK=>by
    simp only [bI]
    split
    · split
      · exact .cond (FM.exec x _ s K hK) (FM.exec y _ s K hK)
      · exact .cond (FM.exec x _ s K hK) (FM.exec y _ s K hK)
      · exact FM.cut hK fun hK'=> .cond (FM.exec x _ s _ hK') (FM.exec y _ s _ hK')
      · exact .fail
    · exact .fail
  | .block id b,ρ,an,s,K,hK=>by
    have main:∀ {σ:Type} {K':Exit→RSt (std n)→(σ→Prop)→Prop},(∀e s,FM (K' e s))→∀a1 (K1:Exit→RSt (std n)→(σ→Prop)→Prop),(∀e s',K1 e s'=K' e s'∨K1 e s'=K' .normal s')→FM (bI (std n) X C ord chk k a1 b s K1):=by
      intro σ K' hK' a1 K1 h1
      refine FM.exec b a1 s K1 fun e s'=> ?_
      rcases h1 e s' with h | h<;>rw [h]<;>exact hK' _ _
    have alt:∀ {σ:Type} {K':Exit→RSt (std n)→(σ→Prop)→Prop} (e:Exit) (s':RSt (std n)),(match e with | .exit i=>if i==id then K' .normal s' else K' (.exit i) s' | e=>K' e s':(std n).M σ)=K' e s'∨(match e with | .exit i=>if i==id then K' .normal s' else K' (.exit i) s' | e=>K' e s':(std n).M σ)=K' .normal s':=by
      intro σ K' e s'
      cases e with
      | exit i => simp only; split
                  · exact .inr rfl
                  · exact .inl rfl
      | _=>exact .inl rfl
    simp only [bI]
    split
    · exact main hK _ _ alt
    · exact main hK _ _ alt
    · exact FM.cut hK fun hK'=>main hK' _ _ alt
    · exact .fail
  | .loop b,ρ,an,s,K,hK=>by
    cases an with
    | loop sk a1=>
      rw [bI]
      split
      · refine FM.gJ (FM.iter' (fun x=>FM.exec b a1 _ _ fun e s'=> ?_) _) _
        split
        · split
          · exact FM.gJ (FM.inl' _) _
          · exact .fail
        · exact FM.inr' (hK _ _)
      · exact .fail
    | _=>simp only [bI];exact .fail
  | .exit i,ρ,an,s,K,hK=>by cases an<;>exact hK _ _
  | .ret,ρ,an,s,K,hK=>by cases an<;>exact hK _ _
  | .rangeFunc ..,ρ,an,s,K,hK=>by cases an<;>(simp only [bI];exact .fail)
  | .scope _,ρ,an,s,K,hK=>by cases an<;>(simp only [bI];exact .fail)
  | .label _,ρ,an,s,K,hK=>by cases an<;>(simp only [bI];exact .fail)
  | .goto _,ρ,an,s,K,hK=>by cases an<;>(simp only [bI];exact .fail)
  | .refuse _,ρ,an,s,K,hK=>by cases an<;>(simp only [bI];exact .fail)
theorem FM.run {n:Nat} {X:XT} {C:Calls aB} {ord:Nat→List fM} {chk:Nat→Array Oper→Nat→Bool} {an:Ann} {sg:Sig} {fn:Func} {code:Code} (x:iy sg.inp):FM (Pw (std n) X C ord chk an sg fn code x):=by
 unfold Pw
 split
 ·exact .fail
 ·split
  ·split
   ·refine FM.exec code an _ _ fun e s=> ?_
    have he:FM (Vi (std n) X sg fn s):=by
     unfold Vi
     split
     ·split
      ·split
       ·split
        ·split
         ·exact FM.gJ (FM.ret' _) _
         ·exact .fail
        ·exact .fail
       ·exact .fail
      ·exact .fail
     ·exact .fail
    split
    ·exact he
    ·exact he
    ·exact .fail
   ·exact .fail
  ·exact .fail
def ofL (C:Car) (l:List (FuncId×Sigma (Ct C))):Calls C:=fun f=>(l.filter fun p=>p.1==f).map (·.2)
def WR (l:List (Nat×List fM)) (i:Nat):List fM:=match l.find? fun p=>p.1==i with | some p=>p.2 | none=> []
def abq (E:Tab) (l:List (Nat×List fM)) (id:Nat) (ops:Array Oper) (m:Nat):Bool:=I5 ops.toList (WR l id)&&yJ E m ops.toList&&I7 E.P ops.toList
theorem abr {E:Tab} {l:List (Nat×List fM)}:∀id ops m,abq E l id ops m=true→Static E (WR l) id ops m:=fun _ _ _ h=>h
theorem ad7 {E:Tab} {l:List (FuncId×Sigma (Ct aB))} (h:∀p∈l,cO E p.1 (bX p.2.2)):ow E (jV (ofL aB l)):=by
 intro f R hR
 unfold jV at hR
 split at hR
 ·cases hR
 ·cases hR
  rename_i hne
  have hall:∀ct∈ofL aB l f,cO E f (bX ct.2):=fun ct hct=>by
   obtain⟨p,hp,rfl⟩:=List.mem_map.1 hct
   obtain⟨hp1,hp2⟩:=List.mem_filter.1 hp
   have:p.1=f:=by simpa using hp2
   rw [←this];exact h p hp1
  obtain⟨ct,hct⟩:=List.exists_mem_of_ne_nil _ hne
  exact⟨(hall ct hct).enters,fun args h n K ⟨ct,hct,hk⟩=>(hall ct hct).calls args h n K hk⟩
def Ru (X:XT) (E:Tab) (A:Alg) (ord:List (Nat×List fM)) (an:Ann) (s:Sig) (fn:Func) (l:List (FuncId×Sigma (Ct A.ah))) (F:Tup A.ah s.inp→A.M (Tup A.ah s.out)):Prop:=
 ∀x,Pw A X (ofL A.ah l) (WR ord) (abq E ord) an s fn (fn.body.getD .skip) x=F x
section
variable {X:XT} {E:Tab} (hE:aF E) (hX:XOK X E) (hm:E.P.follows .mixedOrders=true)
include hE hX hm
theorem aqI {f:FuncId} {fn:Func} (hf:E.P.funcs[f]? =some fn) (hb:fn.body.isSome=true) (hent:∀c,fn.body=some c→Enters E.P f) {l:List (FuncId×Sigma (Ct aB))} (hl:∀p∈l,cO E p.1 (bX p.2.2)) {ord:List (Nat×List fM)} {sg:Sig} {an:Ann}
  {F:iy sg.inp→(iy sg.out→Prop)→Prop} (hrun:Ru X E (std 0) ord an sg fn l F):Fn E f F (cn F):=by
 obtain⟨code,hb⟩:=Option.isSome_iff_exists.1 hb
 have hr:∀x,Pw (std 0) X (ofL aB l) (WR ord) (abq E ord) an sg fn code x=F x:=fun x=>by have:=hrun x;rw [hb]at this;exact this
 have hFM:∀x,FM (F x):=fun x=>by rw [←hr x];exact FM.run x
 refine⟨rfl,hFM,akc hE hX (ad7 hl) hm (ord:=WR ord) (chk:=abq E ord) abr hf hb (hent _ hb) (an:=an) (fun x hx=> ?_)⟩
 rw [hr x]
 simp only [cn]at hx
 exact @Classical.epsilon_spec _ (fun y=>F x fun z=>z=y) (@of_decide_eq_true _ (Classical.propDecidable _) hx)
end
@[reducible] def aH.z : aH := ⟨[], []⟩
@[reducible] def Alg.cl (A : Alg) {ρ : Type} {i o : List LTy} (p : Tup A.ah i → A.B) (f : Tup A.ah i → Tup A.ah o) (a : Tup A.ah i) (k : Tup A.ah o → A.M ρ) : A.M ρ := A.chk (p a) (A.Jb _ (f a) k)
@[reducible] def Alg.cg (A : Alg) {ρ : Type} {i o : List LTy} (b : A.B) (p : Tup A.ah i → A.B) (f : Tup A.ah i → Tup A.ah o) (a : Tup A.ah i) (k : Tup A.ah o → A.M ρ) : A.M ρ := A.chk (A.orB (A.aA b) (p a)) (A.Jb _ (f a) k)
@[reducible] def Alg.rb (A : Alg) (v : A.B) : A.M (Tup A.ah [.b]) := A.Jb [.b] (v, ()) fun x => A.ret [.b] (x.1, ())
@[reducible] def Alg.bd (A : Alg) {ρ : Type} (c : Co) (l : A.L c) (i : A.I) (m : A.M ρ) : A.M ρ := A.chk (A.cmp .leq (A.lit 0) i) (A.chk (A.cmp .lss i (A.len c l)) m)
@[reducible] def Alg.l1 (A : Alg) {ρ : Type} (t : LTy) (v : LT A.ah t) (k : Tup A.ah [t] → A.M ρ) : A.M ρ := A.Jb [t] (v, ()) k
@[reducible] def Tup.q {C : Car} {a b c d : LTy} {ts : List LTy} (x : Tup C (a :: b :: c :: d :: ts)) : Tup C ts := x.2.2.2.2
@[reducible] def Tup.o {C : Car} {a b c d e f g h : LTy} {ts : List LTy} (x : Tup C (a :: b :: c :: d :: e :: f :: g :: h :: ts)) : Tup C ts := x.2.2.2.2.2.2.2.2
@[reducible] def Pt (A : Alg) (s : Sig) : Type := Tup A.ah s.inp → A.B
@[reducible] def Ft (A : Alg) (s : Sig) : Type := Tup A.ah s.inp → Tup A.ah s.out
@[reducible] def Ot (A : Alg) (s : Sig) : Type := A.M (Tup A.ah s.out)
end Go.TX
namespace Go.TX.F
open Go Go.AE Go.TX
set_option maxRecDepth 100000
@[reducible] def LP : Sig := ⟨[.c (.rows false .iop), .c (.int .i64)], [], [.c (.int .i64)], []⟩
@[reducible] def LQ : Sig := ⟨[.sv false .blk, .c (.int .i64)], [], [.c (.int .i64)], []⟩
@[reducible] def fO : Sig := ⟨[.c (.int .i64), .c (.int .i64), .c (.int .i64)], [], [.c .bool], []⟩
@[reducible] def jW : Sig := ⟨[.c (.int .i64)], [], [.c .bool], []⟩
@[reducible] def DV : Sig := ⟨[.c (.int .i64)], [], [.c .bool], []⟩
@[reducible] def tN : Sig := ⟨[.c (.rows false .iop), .c (.int .i64), .c (.int .i64)], [], [.c .bool], []⟩
@[reducible] def DW : Sig := ⟨[.c (.rows false .iop), .c (.int .i64), .c (.int .i64)], [], [.c .bool], []⟩
@[reducible] def DX : Sig := ⟨[.sv false .blk], [], [.c .bool], []⟩
@[reducible] def tO : Sig := ⟨[.sv false .blk], [], [.c .bool], []⟩
@[reducible] def DY : Sig := ⟨[.sv false .blk, .sv false .blk], [], [.c .bool], []⟩
@[reducible] def jX : Sig := ⟨[.c (.int .i64)], [], [.agg [.own 0]], [.rows true .mono]⟩
@[reducible] def tQ : Sig := ⟨[], [], [.agg [.own 0], .c (.own 1)], [.rows true .atom, .rows true .poly]⟩
@[reducible] def mI : Sig := ⟨[.c (.rows false .i64), .c (.rows false .i64)], [], [.c (.int .i64)], []⟩
@[reducible] def DZ : Sig := ⟨[.sv false .mono], [], [.c .bool], []⟩
@[reducible] def gT : Sig := ⟨[.sv false .poly], [], [.c .bool], []⟩
@[reducible] def D5 : Sig := ⟨[.sv false .atom], [], [.c .bool], []⟩
@[reducible] def D6 : Sig := ⟨[.sv false .poly, .c (.int .i64)], [], [.c .bool], []⟩
@[reducible] def tT : Sig := ⟨[.sv false .atom, .c (.int .i64)], [], [.c .bool], []⟩
@[reducible] def fP : Sig := ⟨[.sv false .poly, .sv false .poly], [], [.c (.int .i64)], []⟩
@[reducible] def tV : Sig := ⟨[.sv false .atom, .sv false .atom], [], [.c .bool], []⟩
@[reducible] def D7 : Sig := ⟨[.sv false .tab], [], [.c .bool], []⟩
@[reducible] def dI : Sig := ⟨[.c (.rows false .mono)], [], [.agg [.own 0]], [.rows true .mono]⟩
@[reducible] def tX : Sig := ⟨[.sv false .atom], [], [.agg [.int .i64, .int .i64, .own 0, .own 1]], [.rows true .mono, .rows true .mono]⟩
@[reducible] def D8 : Sig := ⟨[.sv false .tab], [], [.agg [.own 0]], [.rows true .atom]⟩
@[reducible] def mJ : Sig := ⟨[.agg [.own 0], .sv false .atom], [.rows true .atom], [.agg [.own 1], .c (.int .i64)], [.gone, .rows true .atom]⟩
@[reducible] def D9 : Sig := ⟨[.c (.own 0), .c (.int .i64)], [.rows false .poly], [.sv false .poly], [.rows false .poly]⟩
@[reducible] def tY : Sig := ⟨[.c (.int .i64)], [], [.agg [.own 0]], [.rows true .mono]⟩
@[reducible] def jY : Sig := ⟨[.c (.int .i64)], [], [.c (.int .i64)], []⟩
@[reducible] def tZ : Sig := ⟨[.c (.rows false .mono), .sv false .mono], [], [.c (.own 0)], [.rows false .mono]⟩
@[reducible] def uf : Sig := ⟨[.c (.rows false .mono)], [], [.agg [.own 0], .c .bool], [.rows true .mono]⟩
@[reducible] def Ea : Sig := ⟨[.sv false .poly, .sv false .poly], [], [.agg [.own 0], .c .bool], [.rows true .mono]⟩
@[reducible] def Eb : Sig := ⟨[.sv false .poly, .c (.int .i64)], [], [.agg [.own 0]], [.rows true .mono]⟩
@[reducible] def Ec : Sig := ⟨[.c (.rows false .i64), .c (.rows false .i64)], [], [.c (.own 0)], [.rows true .i64]⟩
@[reducible] def Ed : Sig := ⟨[.sv false .poly, .sv false .poly], [], [.agg [.own 0], .c .bool], [.rows true .mono]⟩
@[reducible] def Ee : Sig := ⟨[.c (.int .i64), .sv false .poly, .sv false .poly], [], [.agg [.own 0], .c .bool], [.rows true .mono]⟩
@[reducible] def mK : Sig := ⟨[.sv false .poly], [], [.c (.int .i64), .c .bool], []⟩
@[reducible] def Ef : Sig := ⟨[.c (.int .i64), .c (.int .i64), .c (.int .i64)], [], [.c (.int .i64)], []⟩
@[reducible] def Eh : Sig := ⟨[.c (.int .i64), .c (.int .i64), .sv false .poly], [], [.agg [.own 0], .c .bool], [.rows true .mono]⟩
@[reducible] def Ei : Sig := ⟨[.c (.int .i64), .sv false .poly, .sv false .poly], [], [.agg [.own 0], .c .bool], [.rows true .mono]⟩
@[reducible] def Ej : Sig := ⟨[.agg [.own 0], .c (.int .i64), .sv false .poly, .sv false .poly], [.rows true .atom], [.agg [.own 1], .agg [.own 2]], [.gone, .rows true .atom, .rows true .mono]⟩
@[reducible] def El : Sig := ⟨[.c (.rows false .ev), .c (.int .i64)], [], [.c (.int .i64)], []⟩
@[reducible] def Em : Sig := ⟨[.agg [.own 0], .c (.rows false .ev), .c (.int .i64)], [.rows true .atom], [.agg [.own 1], .agg [.own 2]], [.gone, .rows true .atom, .rows true .mono]⟩
@[reducible] def mM : Sig := ⟨[.c (.rows false .poly)], [], [.c (.own 0)], [.rows true .poly]⟩
@[reducible] def En : Sig := ⟨[.sv false .iop, .sv false .poly, .sv false .poly, .c (.rows false .poly)], [], [.agg [.int .i64, .int .i64, .own 0, .own 1, .own 2]], [.rows true .mono, .rows true .mono, .rows true .poly]⟩
@[reducible] def Eo : Sig := ⟨[.sv false .blk], [], [.c (.int .i64)], []⟩
@[reducible] def Ep : Sig := ⟨[.sv false .blk], [], [.c (.int .i64)], []⟩
@[reducible] def ug : Sig := ⟨[.sv false .sym, .c (.int .i64)], [], [.agg [.rows false .ev, .rows false .poly, .int .i64, .nil, .nil, .int .i64]], []⟩
@[reducible] def Er : Sig := ⟨[.sv false .sym, .c (.int .i64)], [], [.sv false .sym], []⟩
@[reducible] def Es : Sig := ⟨[.sv false .sym, .c (.int .i64)], [], [.sv false .sym], []⟩
@[reducible] def Eu : Sig := ⟨[.sv false .tab, .sv false .blk], [], [.sv false .tab, .sv false .sym], []⟩
@[reducible] def uh : Sig := ⟨[.c (.rows false .poly), .c (.rows false .poly)], [], [.c .bool], []⟩
@[reducible] def Ew : Sig := ⟨[.sv false .ev, .sv false .ev], [], [.c .bool], []⟩
@[reducible] def Ey : Sig := ⟨[.sv false .sym, .sv false .sym], [], [.c .bool], []⟩
@[reducible] def Ez : Sig := ⟨[.sv false .blk, .sv false .blk], [], [.c .bool], []⟩
@[reducible] def LU : Sig := ⟨[.sv false .iop], [], [.agg [.int .i64, .int .i64, .int .i64, .int .i64, .int .i64]], []⟩
@[reducible] def LW : Sig := ⟨[.c (.rows false .iop)], [], [.c (.own 0)], [.rows true .iop]⟩
@[reducible] def LY : Sig := ⟨[.sv false .blk], [], [.agg [.int .i64, .int .i64, .own 0, .int .i64, .int .i64, .int .i64, .int .i64]], [.rows true .iop]⟩
@[reducible] def bY : Sig := ⟨[.c (.int .i64), .c (.int .i64), .c (.int .i64)], [], [.c .bool], []⟩
@[reducible] def A8 : Sig := ⟨[.sv false .iop], [], [.c .bool, .c .bool, .c .bool, .c .bool], []⟩
@[reducible] def kR : Sig := ⟨[.c (.int .i64)], [], [.c .bool], []⟩
@[reducible] def A9 : Sig := ⟨[.c (.int .i64)], [], [.c .bool], []⟩
@[reducible] def Ba : Sig := ⟨[.c (.int .i64)], [], [.c .bool], []⟩
@[reducible] def LZ : Sig := ⟨[.sv false .iop], [], [.c .bool], []⟩
@[reducible] def Bb : Sig := ⟨[.sv false .blk, .c (.int .i64), .c (.int .i64)], [], [.c .bool], []⟩
@[reducible] def L6 : Sig := ⟨[.sv false .blk, .c (.int .i64)], [], [.c .bool], []⟩
@[reducible] def Bc : Sig := ⟨[.sv false .blk], [], [.c .bool, .c .bool, .c .bool], []⟩
@[reducible] def L8 : Sig := ⟨[.sv false .blk], [], [.c .bool], []⟩
@[reducible] def Bd : Sig := ⟨[.sv false .blk], [], [.c .bool], []⟩
@[reducible] def L9 : Sig := ⟨[.c (.rows false .iop), .c (.rows false .iop)], [], [.c .bool], []⟩
@[reducible] def Ma : Sig := ⟨[.sv false .blk, .sv false .blk], [], [.c .bool], []⟩
@[reducible] def Mc : Sig := ⟨[.c (.int .i64), .c (.pb 0 1 0)], [.box (.c (.int .i64))], [.c .bool], [.box (.c (.int .i64))]⟩
@[reducible] def EA : Sig := ⟨[.c (.rows false .i64), .c (.fn 176 [(0, 1)])], [.box (.c (.int .i64))], [.c (.int .i64)], [.box (.c (.int .i64))]⟩
@[reducible] def Md : Sig := ⟨[.c (.rows false .i64), .c (.fn 176 [(0, 1)])], [.box (.c (.int .i64))], [.c .bool], [.box (.c (.int .i64))]⟩
@[reducible] def Bf : Sig := ⟨[.sv false .poly, .c (.int .i64)], [], [.c .bool], []⟩
@[reducible] def Me : Sig := ⟨[.c (.int .i64)], [], [.c .bool], []⟩
@[reducible] def EB : Sig := ⟨[.c (.int .i64), .c (.int .i64)], [], [.c (.int .i64)], []⟩
@[reducible] def Mf : Sig := ⟨[.c (.rows false .i64)], [], [.c (.int .i64)], []⟩
@[reducible] def Mg : Sig := ⟨[.c (.rows false .i64), .c (.rows false .i64)], [], [.c (.int .i64)], []⟩
@[reducible] def nO : Sig := ⟨[.c (.rows false .i64), .c (.rows false .i64)], [], [.c (.int .i64)], []⟩
@[reducible] def EC : Sig := ⟨[.c (.int .i64), .c (.int .i64)], [], [.c .bool], []⟩
@[reducible] def ED : Sig := ⟨[.c (.rows false .i64)], [], [.c .bool], []⟩
@[reducible] def Mh : Sig := ⟨[.sv false .mono], [], [.c .bool], []⟩
@[reducible] def EF : Sig := ⟨[.c (.rows false .mono), .c (.fn 161 [])], [], [.c (.int .i64)], []⟩
@[reducible] def Mi : Sig := ⟨[.c (.rows false .mono), .c (.fn 161 [])], [], [.c .bool], []⟩
@[reducible] def iN : Sig := ⟨[.sv false .poly], [], [.c .bool], []⟩
@[reducible] def Bg : Sig := ⟨[.sv false .atom, .c (.int .i64)], [], [.c .bool], []⟩
@[reducible] def uj : Sig := ⟨[.sv false .poly, .sv false .poly], [], [.c (.int .i64)], []⟩
@[reducible] def jJ : Sig := ⟨[.sv false .poly, .sv false .poly], [], [.c .bool], []⟩
@[reducible] def Mj : Sig := ⟨[.sv false .atom, .sv false .atom], [], [.c .bool], []⟩
@[reducible] def Mk : Sig := ⟨[.sv false .atom, .c (.pb 0 4 0)], [.box (.sv false .atom)], [.c .bool], [.box (.sv false .atom)]⟩
@[reducible] def EG : Sig := ⟨[.c (.rows false .atom), .c (.fn 149 [(0, 4)])], [.box (.sv false .atom)], [.c (.int .i64)], [.box (.sv false .atom)]⟩
@[reducible] def Bh : Sig := ⟨[.sv false .tab, .sv false .atom], [], [.c (.int .i64)], []⟩
@[reducible] def Ml : Sig := ⟨[.c (.rows true .atom)], [], [.c (.clip true .atom)], []⟩
@[reducible] def Bj : Sig := ⟨[.sv true .tab, .sv true .atom], [], [.sv true .tab, .c (.int .i64)], []⟩
@[reducible] def Bn : Sig := ⟨[.c (.int .i64)], [], [.agg [.own 0]], [.rows true .mono]⟩
@[reducible] def Bo : Sig := ⟨[.c (.pb 0 2 0), .c (.int .i64), .c (.int .i64)], [.box (.agg [.rows true .atom, .bool])], [.sv true .poly], [.box (.agg [.rows true .atom, .bool])]⟩
@[reducible] def Bp : Sig := ⟨[.c (.pb 0 2 0)], [.box (.agg [.rows true .atom, .bool])], [.c (.own 1)], [.box (.agg [.rows true .atom, .bool]), .rows true .poly]⟩
@[reducible] def Bq : Sig := ⟨[.c (.rows false .i64)], [], [.c (.own 0)], [.rows true .i64]⟩
@[reducible] def um : Sig := ⟨[.sv false .poly], [], [.agg [.own 0]], [.rows true .mono]⟩
@[reducible] def Br : Sig := ⟨[.sv false .tab], [], [.agg [.own 0]], [.rows true .atom]⟩
@[reducible] def Mq : Sig := ⟨[], [], [.sv true .tab, .c (.rows true .poly)], []⟩
@[reducible] def Mr : Sig := ⟨[.sv false .tab], [], [.c .bool], []⟩
@[reducible] def Ms : Sig := ⟨[.sv false .iop], [], [.c .bool], []⟩
@[reducible] def Mt : Sig := ⟨[.c (.own 0)], [.rows true .poly], [.c (.own 1)], [.rows true .poly, .rows true .poly]⟩
@[reducible] def uo : Sig := ⟨[.c (.int .i64)], [], [.agg [.own 0]], [.rows true .mono]⟩
@[reducible] def Bu : Sig := ⟨[.sv false .poly], [], [.c (.int .i64), .c .bool], []⟩
@[reducible] def uw : Sig := ⟨[.c (.int .i64)], [], [.c (.int .i64)], []⟩
@[reducible] def Bv : Sig := ⟨[.sv false .mono, .sv false .mono], [], [.c (.int .i64)], []⟩
@[reducible] def EH : Sig := ⟨[.c (.own 0), .c (.int .i64), .c (.int .i64), .c (.fn 200 [])], [.rows false .mono], [], [.rows false .mono]⟩
@[reducible] def EI : Sig := ⟨[.c (.own 0), .c (.int .i64), .c (.int .i64), .c (.int .i64), .c (.fn 200 [])], [.rows false .mono], [], [.rows false .mono]⟩
@[reducible] def EJ : Sig := ⟨[.c (.own 0), .c (.int .i64), .c (.int .i64), .c (.int .i64), .c (.fn 200 [])], [.rows false .mono], [], [.rows false .mono]⟩
@[reducible] def mO : Sig := ⟨[.c (.own 0), .c (.int .i64), .c (.int .i64), .c (.int .i64), .c (.fn 200 [])], [.rows false .mono], [], [.rows false .mono]⟩
@[reducible] def EK : Sig := ⟨[.c (.own 0), .c (.int .i64), .c (.fn 200 [])], [.rows false .mono], [], [.rows false .mono]⟩
@[reducible] def EL : Sig := ⟨[.c (.own 0), .c (.fn 200 [])], [.rows false .mono], [], [.rows false .mono]⟩
@[reducible] def Bw : Sig := ⟨[.c (.own 0)], [.rows false .mono], [.agg [.own 1], .c .bool], [.rows false .mono, .rows true .mono]⟩
@[reducible] def Mv : Sig := ⟨[.c (.nil), .c (.int .i64)], [], [.c (.own 0)], [.rows true .mono]⟩
@[reducible] def Mw : Sig := ⟨[.c (.rows false .poly)], [], [.c (.own 0)], [.rows false .mono]⟩
@[reducible] def Mx : Sig := ⟨[.sv false .poly, .sv false .poly], [], [.agg [.own 0], .c .bool], [.rows true .mono]⟩
@[reducible] def EM : Sig := ⟨[.c (.nil), .c (.int .i64)], [], [.c (.own 0)], [.rows true .i64]⟩
@[reducible] def MB : Sig := ⟨[.c (.rows false .ints)], [], [.c (.own 0)], [.rows true .i64]⟩
@[reducible] def EN : Sig := ⟨[.c (.own 0), .c (.int .i64), .c (.int .i64)], [.rows true .i64], [], [.rows true .i64]⟩
@[reducible] def EP : Sig := ⟨[.c (.own 0), .c (.int .i64), .c (.int .i64)], [.rows true .i64], [], [.rows true .i64]⟩
@[reducible] def ER : Sig := ⟨[.c (.own 0), .c (.int .i64), .c (.int .i64)], [.rows true .i64], [], [.rows true .i64]⟩
@[reducible] def ET : Sig := ⟨[.c (.own 0), .c (.int .i64), .c (.int .i64)], [.rows true .i64], [.c (.int .i64), .c (.int .i64)], [.rows true .i64]⟩
@[reducible] def EU : Sig := ⟨[.c (.own 0), .c (.int .i64), .c (.int .i64)], [.rows true .i64], [], [.rows true .i64]⟩
@[reducible] def EW : Sig := ⟨[.c (.own 0), .c (.int .i64), .c (.int .i64)], [.rows true .i64], [.c .bool], [.rows true .i64]⟩
@[reducible] def EZ : Sig := ⟨[.c (.own 0), .c (.int .i64), .c (.int .i64), .c (.int .i64)], [.rows true .i64], [.c (.int .i64)], [.rows true .i64]⟩
@[reducible] def E5 : Sig := ⟨[.c (.own 0), .c (.int .i64), .c (.int .i64), .c (.int .i64)], [.rows true .i64], [.c (.int .i64), .c .bool], [.rows true .i64]⟩
@[reducible] def oH : Sig := ⟨[.c (.own 0), .c (.int .i64), .c (.int .i64), .c (.int .i64)], [.rows true .i64], [], [.rows true .i64]⟩
@[reducible] def TK : Sig := ⟨[.c (.int .u64)], [], [.c (.int .i64)], []⟩
@[reducible] def E8 : Sig := ⟨[.c (.own 0)], [.rows true .i64], [], [.rows true .i64]⟩
@[reducible] def Bz : Sig := ⟨[.sv false .poly, .sv false .poly], [], [.agg [.own 0], .c .bool], [.rows true .mono]⟩
@[reducible] def MC : Sig := ⟨[.sv false .poly, .c (.int .i64)], [], [.agg [.own 0]], [.rows true .mono]⟩
@[reducible] def ME : Sig := ⟨[.c (.int .i64), .c (.int .i64), .c (.int .i64)], [], [.c (.int .i64)], []⟩
@[reducible] def MF : Sig := ⟨[.c (.int .i64), .sv true .poly, .sv true .poly], [], [.sv true .poly, .c .bool], []⟩
@[reducible] def MG : Sig := ⟨[.sv true .tab, .c (.int .i64), .sv true .poly, .sv true .poly], [], [.sv true .tab, .sv true .poly, .c .bool], []⟩
@[reducible] def MH : Sig := ⟨[.c (.rows false .poly)], [], [.c (.own 0)], [.rows true .poly]⟩
@[reducible] def MI : Sig := ⟨[.sv false .sym], [], [.agg [.own 0, .own 1, .int .i64, .own 2, .own 3, .int .i64]], [.rows true .ev, .rows true .poly, .rows true .mono, .rows true .mono]⟩
@[reducible] def MJ : Sig := ⟨[.c (.int .i64), .c (.int .i64), .c (.int .i64)], [], [.c .bool], []⟩
@[reducible] def MK : Sig := ⟨[.sv false .sym, .c (.int .i64)], [], [.sv true .sym], []⟩
@[reducible] def ML : Sig := ⟨[.sv true .tab, .sv false .blk], [], [.sv true .tab, .sv true .sym], []⟩
@[reducible] def MN : Sig := ⟨[.sv false .poly, .sv false .poly], [], [.c .bool], []⟩
@[reducible] def MO : Sig := ⟨[.c (.rows false .poly), .c (.rows false .poly), .c (.fn 128 [])], [], [.c .bool], []⟩
@[reducible] def BA : Sig := ⟨[.c (.rows false .poly), .c (.rows false .poly)], [], [.c .bool], []⟩
@[reducible] def MQ : Sig := ⟨[.sv false .ev, .sv false .ev], [], [.c .bool], []⟩
@[reducible] def MR : Sig := ⟨[.c (.rows false .ev), .c (.rows false .ev), .c (.fn 84 [])], [], [.c .bool], []⟩
@[reducible] def MS : Sig := ⟨[.sv false .sym, .sv false .sym], [], [.c .bool], []⟩
@[reducible] def MU : Sig := ⟨[.sv false .blk, .sv false .blk], [], [.c .bool], []⟩
@[reducible] def MV : Sig := ⟨[.sv false .iop, .sv false .iop], [], [.c .bool], []⟩
@[reducible] def MW : Sig := ⟨[.c (.rows false .iop), .c (.rows false .iop)], [], [.c .bool], []⟩
@[reducible] def MX : Sig := ⟨[.sv false .blk, .sv false .blk], [], [.c .bool], []⟩
@[reducible] def acg : Sig := ⟨[.sv false .blk, .sv false .blk], [], [.c .bool], []⟩
def WS (A:Alg) (x:Tup A.ah [.l .iop,.i]):Ot A LP:=
 A.l1 .i (A.lit 0) fun x0=>
 A.l1 .i (A.arith .sub .i64 x.2.1 (A.len .iop x.1)) fun x1=>
 A.cond (A.cmp .lss x1.1 (A.lit 0)) (A.l1 .i (A.lit (-1)) fun x2=>
 A.ret _ (x2.1,()))<|
 A.l1 .i x1.1 fun x2=>
 A.ret _ (x2.1,())
def WT (A:Alg) (akm:Pt A LP) (akn:Ft A LP) (x:Tup A.ah [.x .blk,.i]):Ot A LQ:=
 A.l1 .i (A.lit 0) fun x0=>
 A.cl akm akn (A.fL .blk 2 .iop x.1,x.2.1,()) fun x1=>
 A.l1 .i x1.1 fun x2=>
 A.cond (A.cmp .lss x2.1 (A.lit 0)) (A.l1 .i (A.lit (-1)) fun x3=>
 A.ret _ (x3.1,()))<|
 A.l1 .i x2.1 fun x3=>
 A.ret _ (x3.1,())
def PL (A:Alg) (x:Tup A.ah [.i,.i,.i]):Ot A fO:=
 A.l1 .b (A.bl false) fun x0=>
 A.rb (A.ak (A.cmp .geq x.1 x.2.1) (A.cmp .leq x.1 x.2.2.1) (A.bl false))
def PN (A:Alg) (x:Tup A.ah [.i]):Ot A jW:=
 A.l1 .b (A.bl false) fun x0=>
 A.rb (A.ak (A.cmp .geq x.1 (A.lit 0)) (A.cmp .lss x.1 (A.lit 65536)) (A.bl false))
def PO (A:Alg) (gq:Pt A fO) (gu:Ft A fO) (x:Tup A.ah [.i]):Ot A DV:=
 A.l1 .b (A.bl false) fun x0=>
 A.cl gq gu (x.1,A.lit 1,A.lit 4,()) fun x1=>
 A.rb (A.ak x1.1 (A.bl true) (A.cmp .eql x.1 (A.lit 6)))
def PS (A:Alg) (ad8:Pt A DV) (ad9:Ft A DV) (x:Tup A.ah [.l .iop,.i,.i]):Ot A tN:=
 A.l1 .b (A.bl false) fun x0=>
 A.chk (A.orB (A.aA (A.ak (A.cmp .geq x.2.1 (A.lit 0)) (A.cmp .lss x.2.1 x.2.2.1) (A.bl false))) (A.cmp .leq (A.lit 0) x.2.1))<|
 A.chk (A.orB (A.aA (A.ak (A.cmp .geq x.2.1 (A.lit 0)) (A.cmp .lss x.2.1 x.2.2.1) (A.bl false))) (A.cmp .lss x.2.1 (A.len .iop x.1)))<|
 A.cg (A.ak (A.cmp .geq x.2.1 (A.lit 0)) (A.cmp .lss x.2.1 x.2.2.1) (A.bl false)) ad8 ad9 (A.fI .iop 0 (A.get .iop x.1 x.2.1),()) fun x1=>
 A.rb (A.ak (A.ak (A.cmp .geq x.2.1 (A.lit 0)) (A.cmp .lss x.2.1 x.2.2.1) (A.bl false)) x1.1 (A.bl false))
def PU (A:Alg) (qV:Pt A jW) (qW:Ft A jW) (gq:Pt A fO) (gu:Ft A fO) (oI:Pt A tN) (oJ:Ft A tN) (x:Tup A.ah [.l .iop,.i,.i]):Ot A DW:=
 A.l1 .b (A.bl false) fun x0=>
 A.bd .iop x.1 x.2.1<|
 A.l1 (.x .iop) (A.get .iop x.1 x.2.1) fun x1=>
 A.l1 .b (A.cmp .eql (A.fI .iop 0 x1.1) (A.lit 1)) fun x2=>
 A.cond x2.1 (A.cg (A.ak (A.cmp .eql (A.fI .iop 1 x1.1) (A.lit 0)) (A.cmp .eql (A.fI .iop 2 x1.1) (A.lit 0)) (A.bl false)) qV qW (A.fI .iop 3 x1.1,()) fun x3=>
 A.rb (A.ak (A.ak (A.ak (A.cmp .eql (A.fI .iop 1 x1.1) (A.lit 0)) (A.cmp .eql (A.fI .iop 2 x1.1) (A.lit 0)) (A.bl false)) x3.1 (A.bl false)) (A.cmp .eql (A.fI .iop 4 x1.1) (A.lit 0)) (A.bl false)))<|
 A.l1 .b (A.cmp .eql (A.fI .iop 0 x1.1) (A.lit 2)) fun x3=>
 A.cond x3.1 (A.cg (A.ak (A.cmp .eql (A.fI .iop 1 x1.1) (A.lit 0)) (A.cmp .eql (A.fI .iop 2 x1.1) (A.lit 0)) (A.bl false)) gq gu (A.fI .iop 3 x1.1,A.lit 0,A.lit 3,()) fun x4=>
 A.rb (A.ak (A.ak (A.ak (A.cmp .eql (A.fI .iop 1 x1.1) (A.lit 0)) (A.cmp .eql (A.fI .iop 2 x1.1) (A.lit 0)) (A.bl false)) x4.1 (A.bl false)) (A.cmp .eql (A.fI .iop 4 x1.1) (A.lit 0)) (A.bl false)))<|
 A.l1 .b (A.cmp .eql (A.fI .iop 0 x1.1) (A.lit 3)) fun x4=>
 A.cond x4.1 (A.cl oI oJ (x.1,A.fI .iop 1 x1.1,x.2.1,()) fun x5=>
 A.cg x5.1 oI oJ (x.1,A.fI .iop 2 x1.1,x.2.1,()) fun x6=>
 A.cg (A.ak x5.1 x6.1 (A.bl false)) gq gu (A.fI .iop 3 x1.1,A.lit 1,A.lit 5,()) fun x7=>
 A.rb (A.ak (A.ak (A.ak x5.1 x6.1 (A.bl false)) x7.1 (A.bl false)) (A.cmp .eql (A.fI .iop 4 x1.1) (A.lit 0)) (A.bl false)))<|
 A.l1 .b (A.cmp .eql (A.fI .iop 0 x1.1) (A.lit 4)) fun x5=>
 A.bind [.l .iop,.i,.i,.i,.b,.x .iop] (A.cond x5.1 (A.ret _ (x.1,x.2.1,x.2.2.1,A.fI .iop 0 x1.1,x5.1,x1.1,()))<|
 A.l1 .b (A.cmp .eql (A.fI .iop 0 x1.1) (A.lit 7)) fun x6=>
 A.ret _ (x.1,x.2.1,x.2.2.1,A.fI .iop 0 x1.1,x6.1,x1.1,())) fun x6=>
 A.cond x6.q.1 (A.cl oI oJ (x6.1,A.fI .iop 1 x6.q.2.1,x6.2.1,()) fun x7=>
 A.cg (A.ak (A.ak x7.1 (A.cmp .eql (A.fI .iop 2 x6.q.2.1) (A.lit 0)) (A.bl false)) (A.cmp .eql (A.fI .iop 3 x6.q.2.1) (A.lit 0)) (A.bl false)) gq gu (A.fI .iop 4 x6.q.2.1,A.lit 0,A.arith .sub .i64 x6.2.2.1 (A.lit 1),()) fun x8=>
 A.rb (A.ak (A.ak (A.ak x7.1 (A.cmp .eql (A.fI .iop 2 x6.q.2.1) (A.lit 0)) (A.bl false)) (A.cmp .eql (A.fI .iop 3 x6.q.2.1) (A.lit 0)) (A.bl false)) x8.1 (A.bl false)))<|
 A.l1 .b (A.cmp .eql x6.2.2.2.1 (A.lit 5)) fun x7=>
 A.cond x7.1 (A.cl oI oJ (x6.1,A.fI .iop 1 x6.q.2.1,x6.2.1,()) fun x8=>
 A.cg x8.1 oI oJ (x6.1,A.fI .iop 2 x6.q.2.1,x6.2.1,()) fun x9=>
 A.cg (A.ak (A.ak x8.1 x9.1 (A.bl false)) (A.cmp .eql (A.fI .iop 3 x6.q.2.1) (A.lit 0)) (A.bl false)) gq gu (A.fI .iop 4 x6.q.2.1,A.lit 0,A.arith .sub .i64 x6.2.2.1 (A.lit 1),()) fun x10=>
 A.rb (A.ak (A.ak (A.ak x8.1 x9.1 (A.bl false)) (A.cmp .eql (A.fI .iop 3 x6.q.2.1) (A.lit 0)) (A.bl false)) x10.1 (A.bl false)))<|
 A.l1 .b (A.cmp .eql x6.2.2.2.1 (A.lit 6)) fun x8=>
 A.cond x8.1 (A.cg (A.ak (A.ak (A.cmp .eql (A.fI .iop 1 x6.q.2.1) (A.lit 0)) (A.cmp .eql (A.fI .iop 2 x6.q.2.1) (A.lit 0)) (A.bl false)) (A.cmp .eql (A.fI .iop 3 x6.q.2.1) (A.lit 0)) (A.bl false)) gq gu (A.fI .iop 4 x6.q.2.1,A.lit 0,A.arith .sub .i64 x6.2.2.1 (A.lit 1),()) fun x9=>
 A.rb (A.ak (A.ak (A.ak (A.cmp .eql (A.fI .iop 1 x6.q.2.1) (A.lit 0)) (A.cmp .eql (A.fI .iop 2 x6.q.2.1) (A.lit 0)) (A.bl false)) (A.cmp .eql (A.fI .iop 3 x6.q.2.1) (A.lit 0)) (A.bl false)) x9.1 (A.bl false)))<|
 A.l1 .b (A.cmp .eql x6.2.2.2.1 (A.lit 8)) fun x9=>
 A.cond x9.1 (A.cl oI oJ (x6.1,A.fI .iop 1 x6.q.2.1,x6.2.1,()) fun x10=>
 A.cg (A.ak x10.1 (A.cmp .eql (A.fI .iop 2 x6.q.2.1) (A.lit 0)) (A.bl false)) gq gu (A.fI .iop 3 x6.q.2.1,A.lit 0,A.lit 3,()) fun x11=>
 A.rb (A.ak (A.ak (A.ak x10.1 (A.cmp .eql (A.fI .iop 2 x6.q.2.1) (A.lit 0)) (A.bl false)) x11.1 (A.bl false)) (A.cmp .eql (A.fI .iop 4 x6.q.2.1) (A.lit 0)) (A.bl false)))<|
 A.rb (A.bl false)
def PW (A:Alg) (qV:Pt A jW) (qW:Ft A jW) (oI:Pt A tN) (oJ:Ft A tN) (x:Tup A.ah [.x .blk]):Ot A DX:=
 A.l1 .b (A.bl false) fun x0=>
 A.l1 .i (A.len .iop (A.fL .blk 2 .iop x.1)) fun x1=>
 A.l1 .b (A.cmp .eql (A.fI .blk 3 x.1) (A.lit 1)) fun x2=>
 A.cond x2.1 (A.cg (A.ak (A.cmp .eql (A.fI .blk 4 x.1) (A.lit 0)) (A.cmp .eql (A.fI .blk 5 x.1) (A.lit 0)) (A.bl false)) qV qW (A.fI .blk 6 x.1,()) fun x3=>
 A.rb (A.ak (A.ak (A.cmp .eql (A.fI .blk 4 x.1) (A.lit 0)) (A.cmp .eql (A.fI .blk 5 x.1) (A.lit 0)) (A.bl false)) x3.1 (A.bl false)))<|
 A.l1 .b (A.cmp .eql (A.fI .blk 3 x.1) (A.lit 2)) fun x3=>
 A.cond x3.1 (A.cl oI oJ (A.fL .blk 2 .iop x.1,A.fI .blk 4 x.1,x1.1,()) fun x4=>
 A.rb (A.ak (A.ak x4.1 (A.cmp .eql (A.fI .blk 5 x.1) (A.lit 0)) (A.bl false)) (A.cmp .eql (A.fI .blk 6 x.1) (A.lit 0)) (A.bl false)))<|
 A.l1 .b (A.cmp .eql (A.fI .blk 3 x.1) (A.lit 3)) fun x4=>
 A.bind [.i,.b,.x .blk] (A.cond x4.1 (A.ret _ (x1.1,x4.1,x.1,()))<|
 A.l1 .b (A.cmp .eql (A.fI .blk 3 x.1) (A.lit 4)) fun x5=>
 A.ret _ (x1.1,x5.1,x.1,())) fun x5=>
 A.cond x5.2.1 (A.cl oI oJ (A.fL .blk 2 .iop x5.2.2.1,A.fI .blk 4 x5.2.2.1,x5.1,()) fun x6=>
 A.cg x6.1 oI oJ (A.fL .blk 2 .iop x5.2.2.1,A.fI .blk 5 x5.2.2.1,x5.1,()) fun x7=>
 A.cg (A.ak x6.1 x7.1 (A.bl false)) qV qW (A.fI .blk 6 x5.2.2.1,()) fun x8=>
 A.rb (A.ak (A.ak x6.1 x7.1 (A.bl false)) x8.1 (A.bl false)))<|
 A.rb (A.bl false)
def PX (A:Alg) (gq:Pt A fO) (gu:Ft A fO) (aea:Pt A DX) (aeb:Ft A DX) (aec:Pt A DW) (aed:Ft A DW) (x:Tup A.ah [.x .blk]):Ot A tO:=
 A.l1 .b (A.bl false) fun x0=>
 A.cl gq gu (A.fI .blk 1 x.1,A.lit 1,A.lit 8,()) fun x1=>
 A.cg (A.aA (A.aA x1.1)) gq gu (A.fI .blk 0 x.1,A.lit 0,A.arith .sub .i64 (A.lit 64) (A.fI .blk 1 x.1),()) fun x2=>
 A.cond (A.ak (A.ak (A.aA x1.1) (A.bl true) (A.aA x2.1)) (A.bl true) (A.cmp .gtr (A.len .iop (A.fL .blk 2 .iop x.1)) (A.lit 48))) (A.rb (A.bl false))<|
 A.l1 .i (A.lit 0) fun x3=>
 A.iter [.i,.x .blk] (fun x4=>
 A.cond (A.cmp .lss x4.1 (A.len .iop (A.fL .blk 2 .iop x4.2.1))) (A.cl aec aed (A.fL .blk 2 .iop x4.2.1,x4.1,A.fI .blk 1 x4.2.1,()) fun x5=>
 A.cond (A.aA x5.1) (A.l1 .b (A.bl false) fun x6=>
 A.inr _<|A.ret _ (x6.1,()))<|
 A.l1 .i (A.arith .add .i64 x4.1 (A.lit 1)) fun x6=>
 A.inl _ (x6.1,x4.2.1,()))<|
 A.inr _<|A.cl aea aeb (x4.2.1,()) fun x5=>
 A.rb x5.1) (x3.1,x.1,())
def PY (A:Alg) (x:Tup A.ah [.x .blk,.x .blk]):Ot A DY:=
 A.l1 .b (A.bl false) fun x0=>
 A.cond (A.ak (A.ak (A.ak (A.ak (A.ak (A.ak (A.cmp .neq (A.fI .blk 0 x.1) (A.fI .blk 0 x.2.1)) (A.bl true) (A.cmp .neq (A.fI .blk 1 x.1) (A.fI .blk 1 x.2.1))) (A.bl true) (A.cmp .neq (A.fI .blk 3 x.1) (A.fI .blk 3 x.2.1))) (A.bl true) (A.cmp .neq (A.fI .blk 4 x.1) (A.fI .blk 4 x.2.1))) (A.bl true) (A.cmp .neq (A.fI .blk 5 x.1) (A.fI .blk 5 x.2.1))) (A.bl true) (A.cmp .neq (A.fI .blk 6 x.1) (A.fI .blk 6 x.2.1))) (A.bl true) (A.cmp .neq (A.len .iop (A.fL .blk 2 .iop x.1)) (A.len .iop (A.fL .blk 2 .iop x.2.1)))) (A.rb (A.bl false))<|
 A.l1 .i (A.lit 0) fun x1=>
 A.iter [.i,.x .blk,.x .blk] (fun x2=>
 A.cond (A.cmp .lss x2.1 (A.len .iop (A.fL .blk 2 .iop x2.2.1))) (A.bd .iop (A.fL .blk 2 .iop x2.2.1) x2.1<|
 A.bd .iop (A.fL .blk 2 .iop x2.2.2.1) x2.1<|
 A.cond (A.aA (A.eqX .iop (A.get .iop (A.fL .blk 2 .iop x2.2.1) x2.1) (A.get .iop (A.fL .blk 2 .iop x2.2.2.1) x2.1))) (A.l1 .b (A.bl false) fun x3=>
 A.inr _<|A.ret _ (x3.1,()))<|
 A.l1 .i (A.arith .add .i64 x2.1 (A.lit 1)) fun x3=>
 A.inl _ (x3.1,x2.2.1,x2.2.2.1,()))<|
 A.inr _<|A.rb (A.bl true)) (x1.1,x.1,x.2.1,())
def PZ (A:Alg) (gq:Pt A fO) (gu:Ft A fO) (x:Tup A.ah [.i]):Ot A jX:=
 A.cl gq gu (x.1,A.lit 0,A.lit 199,()) fun x0=>
 A.cond (A.aA x0.1) (A.ret _ (A.aR .mono,()))<|
 A.l1 (.l .i64) (A.lst .i64 [A.mkX .i64 (x.1,())]) fun x1=>
 A.l1 (.l .mono) (A.lst .mono [A.mkX .mono (A.lit 1,x1.1,())]) fun x2=>
 A.ret _ (x2.1,())
def P5 (A:Alg) (xS:Pt A jX) (xU:Ft A jX) (x:Tup A.ah []):Ot A tQ:=
 A.l1 (.l .poly) (A.lst .poly []) fun x0=>
 A.l1 .i (A.lit 0) fun x1=>
 A.iter [.i,.l .poly,.l .atom] (fun x2=>
 A.cond (A.cmp .lss x2.1 (A.lit 4)) (A.l1 (.l .atom) (A.lst .atom [A.mkX .atom (A.lit 1,x2.1,A.aR .mono,A.aR .mono,())]) fun x3=>
 A.chk (A.cmp .leq (A.addN (A.len .atom x2.2.2.1) (A.len .atom x3.1)) (A.lit 1073741824))<|
 A.l1 (.l .atom) (A.app .atom x2.2.2.1 x3.1) fun x4=>
 A.cl xS xU (x2.1,()) fun x5=>
 A.l1 (.l .poly) (A.lst .poly [A.mkX .poly (x5.1,())]) fun x6=>
 A.chk (A.cmp .leq (A.addN (A.len .poly x2.2.1) (A.len .poly x6.1)) (A.lit 1073741824))<|
 A.l1 (.l .poly) (A.app .poly x2.2.1 x6.1) fun x7=>
 A.l1 .i (A.arith .add .i64 x2.1 (A.lit 1)) fun x8=>
 A.inl _ (x8.1,x7.1,x4.1,()))<|
 A.inr _<|A.ret _ (x2.2.2.1,x2.2.1,())) (x1.1,x0.1,A.aR .atom,())
def P6 (A:Alg) (x:Tup A.ah [.l .i64,.l .i64]):Ot A mI:=
 A.l1 .i (A.lit 0) fun x0=>
 A.cond (A.cmp .neq (A.len .i64 x.1) (A.len .i64 x.2.1)) (A.cond (A.cmp .lss (A.len .i64 x.1) (A.len .i64 x.2.1)) (A.l1 .i (A.lit (-1)) fun x1=>
 A.ret _ (x1.1,()))<|
 A.l1 .i (A.lit 1) fun x1=>
 A.ret _ (x1.1,()))<|
 A.l1 .i (A.lit 0) fun x1=>
 A.iter [.l .i64,.l .i64,.i] (fun x2=>
 A.cond (A.cmp .lss x2.2.2.1 (A.len .i64 x2.1)) (A.bd .i64 x2.1 x2.2.2.1<|
 A.bd .i64 x2.2.1 x2.2.2.1<|
 A.cond (A.cmp .lss (A.fI .i64 0 (A.get .i64 x2.1 x2.2.2.1)) (A.fI .i64 0 (A.get .i64 x2.2.1 x2.2.2.1))) (A.l1 .i (A.lit (-1)) fun x3=>
 A.inr _<|A.ret _ (x3.1,()))<|
 A.bd .i64 x2.1 x2.2.2.1<|
 A.bd .i64 x2.2.1 x2.2.2.1<|
 A.cond (A.cmp .gtr (A.fI .i64 0 (A.get .i64 x2.1 x2.2.2.1)) (A.fI .i64 0 (A.get .i64 x2.2.1 x2.2.2.1))) (A.l1 .i (A.lit 1) fun x3=>
 A.inr _<|A.ret _ (x3.1,()))<|
 A.l1 .i (A.arith .add .i64 x2.2.2.1 (A.lit 1)) fun x3=>
 A.inl _ (x2.1,x2.2.1,x3.1,()))<|
 A.inr _<|A.l1 .i (A.lit 0) fun x3=>
 A.ret _ (x3.1,())) (x.1,x.2.1,x1.1,())
def P7 (A:Alg) (gq:Pt A fO) (gu:Ft A fO) (x:Tup A.ah [.x .mono]):Ot A DZ:=
 A.l1 .b (A.bl false) fun x0=>
 A.cl gq gu (A.fI .mono 0 x.1,A.lit 1,A.lit 65535,()) fun x1=>
 A.cond (A.ak (A.aA x1.1) (A.bl true) (A.cmp .gtr (A.len .i64 (A.fL .mono 1 .i64 x.1)) (A.lit 4))) (A.rb (A.bl false))<|
 A.l1 .i (A.lit 0) fun x2=>
 A.iter [.i,.x .mono] (fun x3=>
 A.cond (A.cmp .lss x3.1 (A.len .i64 (A.fL .mono 1 .i64 x3.2.1))) (A.bd .i64 (A.fL .mono 1 .i64 x3.2.1) x3.1<|
 A.cl gq gu (A.fI .i64 0 (A.get .i64 (A.fL .mono 1 .i64 x3.2.1) x3.1),A.lit 0,A.lit 199,()) fun x4=>
 A.chk (A.orB (A.aA (A.nA (A.aA (A.aA x4.1)) (A.cmp .gtr x3.1 (A.lit 0)))) (A.cmp .leq (A.lit 0) (A.arith .sub .i64 x3.1 (A.lit 1))))<|
 A.chk (A.orB (A.aA (A.nA (A.aA (A.aA x4.1)) (A.cmp .gtr x3.1 (A.lit 0)))) (A.cmp .lss (A.arith .sub .i64 x3.1 (A.lit 1)) (A.len .i64 (A.fL .mono 1 .i64 x3.2.1))))<|
 A.chk (A.orB (A.aA (A.nA (A.aA (A.aA x4.1)) (A.cmp .gtr x3.1 (A.lit 0)))) (A.cmp .leq (A.lit 0) x3.1))<|
 A.chk (A.orB (A.aA (A.nA (A.aA (A.aA x4.1)) (A.cmp .gtr x3.1 (A.lit 0)))) (A.cmp .lss x3.1 (A.len .i64 (A.fL .mono 1 .i64 x3.2.1))))<|
 A.cond (A.ak (A.aA x4.1) (A.bl true) (A.ak (A.cmp .gtr x3.1 (A.lit 0)) (A.cmp .gtr (A.fI .i64 0 (A.get .i64 (A.fL .mono 1 .i64 x3.2.1) (A.arith .sub .i64 x3.1 (A.lit 1)))) (A.fI .i64 0 (A.get .i64 (A.fL .mono 1 .i64 x3.2.1) x3.1))) (A.bl false))) (A.l1 .b (A.bl false) fun x5=>
 A.inr _<|A.ret _ (x5.1,()))<|
 A.l1 .i (A.arith .add .i64 x3.1 (A.lit 1)) fun x5=>
 A.inl _ (x5.1,x3.2.1,()))<|
 A.inr _<|A.rb (A.bl true)) (x2.1,x.1,())
def P8 (A:Alg) (aee:Pt A DZ) (aef:Ft A DZ) (E9:Pt A mI) (Fa:Ft A mI) (x:Tup A.ah [.x .poly]):Ot A gT:=
 A.l1 .b (A.bl false) fun x0=>
 A.cond (A.cmp .gtr (A.len .mono (A.fL .poly 0 .mono x.1)) (A.lit 12)) (A.rb (A.bl false))<|
 A.l1 .i (A.lit 0) fun x1=>
 A.iter [.i,.x .poly] (fun x2=>
 A.cond (A.cmp .lss x2.1 (A.len .mono (A.fL .poly 0 .mono x2.2.1))) (A.bd .mono (A.fL .poly 0 .mono x2.2.1) x2.1<|
 A.cl aee aef (A.get .mono (A.fL .poly 0 .mono x2.2.1) x2.1,()) fun x3=>
 A.chk (A.orB (A.aA (A.nA (A.aA (A.aA x3.1)) (A.cmp .gtr x2.1 (A.lit 0)))) (A.cmp .leq (A.lit 0) (A.arith .sub .i64 x2.1 (A.lit 1))))<|
 A.chk (A.orB (A.aA (A.nA (A.aA (A.aA x3.1)) (A.cmp .gtr x2.1 (A.lit 0)))) (A.cmp .lss (A.arith .sub .i64 x2.1 (A.lit 1)) (A.len .mono (A.fL .poly 0 .mono x2.2.1))))<|
 A.chk (A.orB (A.aA (A.nA (A.aA (A.aA x3.1)) (A.cmp .gtr x2.1 (A.lit 0)))) (A.cmp .leq (A.lit 0) x2.1))<|
 A.chk (A.orB (A.aA (A.nA (A.aA (A.aA x3.1)) (A.cmp .gtr x2.1 (A.lit 0)))) (A.cmp .lss x2.1 (A.len .mono (A.fL .poly 0 .mono x2.2.1))))<|
 A.cg (A.nA (A.aA (A.aA x3.1)) (A.cmp .gtr x2.1 (A.lit 0))) E9 Fa (A.fL .mono 1 .i64 (A.get .mono (A.fL .poly 0 .mono x2.2.1) (A.arith .sub .i64 x2.1 (A.lit 1))),A.fL .mono 1 .i64 (A.get .mono (A.fL .poly 0 .mono x2.2.1) x2.1),()) fun x4=>
 A.cond (A.ak (A.aA x3.1) (A.bl true) (A.ak (A.cmp .gtr x2.1 (A.lit 0)) (A.cmp .geq x4.1 (A.lit 0)) (A.bl false))) (A.l1 .b (A.bl false) fun x5=>
 A.inr _<|A.ret _ (x5.1,()))<|
 A.l1 .i (A.arith .add .i64 x2.1 (A.lit 1)) fun x5=>
 A.inl _ (x5.1,x2.2.1,()))<|
 A.inr _<|A.rb (A.bl true)) (x1.1,x.1,())
def P9 (A:Alg) (x:Tup A.ah [.x .atom]):Ot A D5:=
 A.l1 .b (A.bl false) fun x0=>
 A.rb (A.ak (A.cmp .eql (A.len .mono (A.fL .atom 2 .mono x.1)) (A.lit 0)) (A.cmp .eql (A.len .mono (A.fL .atom 3 .mono x.1)) (A.lit 0)) (A.bl false))
def Qa (A:Alg) (x:Tup A.ah [.x .poly,.i]):Ot A D6:=
 A.l1 .b (A.bl false) fun x0=>
 A.l1 .i (A.lit 0) fun x1=>
 A.iter [.i,.i,.x .poly] (fun x2=>
 A.cond (A.cmp .lss x2.2.1 (A.len .mono (A.fL .poly 0 .mono x2.2.2.1))) (A.l1 .i (A.lit 0) fun x3=>
 A.iter [.i,.i,.i,.x .poly] (fun x4=>
 A.bd .mono (A.fL .poly 0 .mono x4.2.2.2.1) x4.2.1<|
 A.cond (A.cmp .lss x4.2.2.1 (A.len .i64 (A.fL .mono 1 .i64 (A.get .mono (A.fL .poly 0 .mono x4.2.2.2.1) x4.2.1)))) (A.bd .mono (A.fL .poly 0 .mono x4.2.2.2.1) x4.2.1<|
 A.bd .i64 (A.fL .mono 1 .i64 (A.get .mono (A.fL .poly 0 .mono x4.2.2.2.1) x4.2.1)) x4.2.2.1<|
 A.cond (A.cmp .geq (A.fI .i64 0 (A.get .i64 (A.fL .mono 1 .i64 (A.get .mono (A.fL .poly 0 .mono x4.2.2.2.1) x4.2.1)) x4.2.2.1)) x4.1) (A.l1 .b (A.bl false) fun x5=>
 A.inr _<|A.inr _<|A.ret _ (x5.1,()))<|
 A.l1 .i (A.arith .add .i64 x4.2.2.1 (A.lit 1)) fun x5=>
 A.inl _ (x4.1,x4.2.1,x5.1,x4.2.2.2.1,()))<|
 A.inr _<|A.l1 .i (A.arith .add .i64 x4.2.1 (A.lit 1)) fun x5=>
 A.inl _ (x4.1,x5.1,x4.2.2.2.1,())) (x2.1,x2.2.1,x3.1,x2.2.2.1,()))<|
 A.inr _<|A.rb (A.bl true)) (x.2.1,x1.1,x.1,())
def Qb (A:Alg) (gq:Pt A fO) (gu:Ft A fO) (jr:Pt A gT) (jv:Ft A gT) (WU:Pt A D6) (WW:Ft A D6) (WX:Pt A D5) (WY:Ft A D5) (x:Tup A.ah [.x .atom,.i]):Ot A tT:=
 A.l1 .b (A.bl false) fun x0=>
 A.l1 .b (A.cmp .eql (A.fI .atom 0 x.1) (A.lit 1)) fun x1=>
 A.cond x1.1 (A.cl gq gu (A.fI .atom 1 x.1,A.lit 0,A.lit 3,()) fun x2=>
 A.cg x2.1 WX WY (x.1,()) fun x3=>
 A.rb (A.ak x2.1 x3.1 (A.bl false)))<|
 A.l1 .b (A.cmp .eql (A.fI .atom 0 x.1) (A.lit 2)) fun x2=>
 A.bind [.i,.i,.b,.x .atom] (A.cond x2.1 (A.ret _ (x.2.1,A.fI .atom 0 x.1,x2.1,x.1,()))<|
 A.l1 .b (A.cmp .eql (A.fI .atom 0 x.1) (A.lit 3)) fun x3=>
 A.ret _ (x.2.1,A.fI .atom 0 x.1,x3.1,x.1,())) fun x3=>
 A.cond x3.2.2.1 (A.cl gq gu (A.fI .atom 1 x3.2.2.2.1,A.lit 0,A.lit 199,()) fun x4=>
 A.cg x4.1 WX WY (x3.2.2.2.1,()) fun x5=>
 A.rb (A.ak x4.1 x5.1 (A.bl false)))<|
 A.l1 .b (A.cmp .eql x3.2.1 (A.lit 4)) fun x4=>
 A.cond x4.1 (A.cl gq gu (A.fI .atom 1 x3.2.2.2.1,A.lit 1,A.lit 5,()) fun x5=>
 A.cg x5.1 jr jv (A.mkX .poly (A.fL .atom 2 .mono x3.2.2.2.1,()),()) fun x6=>
 A.cg (A.ak x5.1 x6.1 (A.bl false)) jr jv (A.mkX .poly (A.fL .atom 3 .mono x3.2.2.2.1,()),()) fun x7=>
 A.cg (A.ak (A.ak x5.1 x6.1 (A.bl false)) x7.1 (A.bl false)) WU WW (A.mkX .poly (A.fL .atom 2 .mono x3.2.2.2.1,()),x3.1,()) fun x8=>
 A.cg (A.ak (A.ak (A.ak x5.1 x6.1 (A.bl false)) x7.1 (A.bl false)) x8.1 (A.bl false)) WU WW (A.mkX .poly (A.fL .atom 3 .mono x3.2.2.2.1,()),x3.1,()) fun x9=>
 A.rb (A.ak (A.ak (A.ak (A.ak x5.1 x6.1 (A.bl false)) x7.1 (A.bl false)) x8.1 (A.bl false)) x9.1 (A.bl false)))<|
 A.rb (A.bl false)
def Qc (A:Alg) (E9:Pt A mI) (Fa:Ft A mI) (x:Tup A.ah [.x .poly,.x .poly]):Ot A fP:=
 A.l1 .i (A.lit 0) fun x0=>
 A.cond (A.cmp .neq (A.len .mono (A.fL .poly 0 .mono x.1)) (A.len .mono (A.fL .poly 0 .mono x.2.1))) (A.cond (A.cmp .lss (A.len .mono (A.fL .poly 0 .mono x.1)) (A.len .mono (A.fL .poly 0 .mono x.2.1))) (A.l1 .i (A.lit (-1)) fun x1=>
 A.ret _ (x1.1,()))<|
 A.l1 .i (A.lit 1) fun x1=>
 A.ret _ (x1.1,()))<|
 A.l1 .i (A.lit 0) fun x1=>
 A.iter [.i,.x .poly,.x .poly] (fun x2=>
 A.cond (A.cmp .lss x2.1 (A.len .mono (A.fL .poly 0 .mono x2.2.1))) (A.bd .mono (A.fL .poly 0 .mono x2.2.1) x2.1<|
 A.bd .mono (A.fL .poly 0 .mono x2.2.2.1) x2.1<|
 A.cl E9 Fa (A.fL .mono 1 .i64 (A.get .mono (A.fL .poly 0 .mono x2.2.1) x2.1),A.fL .mono 1 .i64 (A.get .mono (A.fL .poly 0 .mono x2.2.2.1) x2.1),()) fun x3=>
 A.l1 .i x3.1 fun x4=>
 A.cond (A.cmp .neq x4.1 (A.lit 0)) (A.l1 .i x4.1 fun x5=>
 A.inr _<|A.ret _ (x5.1,()))<|
 A.bd .mono (A.fL .poly 0 .mono x2.2.1) x2.1<|
 A.bd .mono (A.fL .poly 0 .mono x2.2.2.1) x2.1<|
 A.cond (A.cmp .neq (A.fI .mono 0 (A.get .mono (A.fL .poly 0 .mono x2.2.1) x2.1)) (A.fI .mono 0 (A.get .mono (A.fL .poly 0 .mono x2.2.2.1) x2.1))) (A.bd .mono (A.fL .poly 0 .mono x2.2.1) x2.1<|
 A.bd .mono (A.fL .poly 0 .mono x2.2.2.1) x2.1<|
 A.cond (A.cmp .lss (A.fI .mono 0 (A.get .mono (A.fL .poly 0 .mono x2.2.1) x2.1)) (A.fI .mono 0 (A.get .mono (A.fL .poly 0 .mono x2.2.2.1) x2.1))) (A.l1 .i (A.lit (-1)) fun x5=>
 A.inr _<|A.ret _ (x5.1,()))<|
 A.l1 .i (A.lit 1) fun x5=>
 A.inr _<|A.ret _ (x5.1,()))<|
 A.l1 .i (A.arith .add .i64 x2.1 (A.lit 1)) fun x5=>
 A.inl _ (x5.1,x2.2.1,x2.2.2.1,()))<|
 A.inr _<|A.l1 .i (A.lit 0) fun x3=>
 A.ret _ (x3.1,())) (x1.1,x.1,x.2.1,())
def Qd (A:Alg) (iO:Pt A fP) (iP:Ft A fP) (x:Tup A.ah [.x .atom,.x .atom]):Ot A tV:=
 A.l1 .b (A.bl false) fun x0=>
 A.cg (A.ak (A.cmp .eql (A.fI .atom 0 x.1) (A.fI .atom 0 x.2.1)) (A.cmp .eql (A.fI .atom 1 x.1) (A.fI .atom 1 x.2.1)) (A.bl false)) iO iP (A.mkX .poly (A.fL .atom 2 .mono x.1,()),A.mkX .poly (A.fL .atom 2 .mono x.2.1,()),()) fun x1=>
 A.cg (A.ak (A.ak (A.cmp .eql (A.fI .atom 0 x.1) (A.fI .atom 0 x.2.1)) (A.cmp .eql (A.fI .atom 1 x.1) (A.fI .atom 1 x.2.1)) (A.bl false)) (A.cmp .eql x1.1 (A.lit 0)) (A.bl false)) iO iP (A.mkX .poly (A.fL .atom 3 .mono x.1,()),A.mkX .poly (A.fL .atom 3 .mono x.2.1,()),()) fun x2=>
 A.rb (A.ak (A.ak (A.ak (A.cmp .eql (A.fI .atom 0 x.1) (A.fI .atom 0 x.2.1)) (A.cmp .eql (A.fI .atom 1 x.1) (A.fI .atom 1 x.2.1)) (A.bl false)) (A.cmp .eql x1.1 (A.lit 0)) (A.bl false)) (A.cmp .eql x2.1 (A.lit 0)) (A.bl false))
def Qe (A:Alg) (Qf:Pt A tT) (Qg:Ft A tT) (Qh:Pt A tV) (Qi:Ft A tV) (x:Tup A.ah [.x .tab]):Ot A D7:=
 A.l1 .b (A.bl false) fun x0=>
 A.cond (A.cmp .gtr (A.len .atom (A.fL .tab 0 .atom x.1)) (A.lit 200)) (A.rb (A.bl false))<|
 A.l1 .i (A.lit 0) fun x1=>
 A.iter [.i,.x .tab] (fun x2=>
 A.cond (A.cmp .lss x2.1 (A.len .atom (A.fL .tab 0 .atom x2.2.1))) (A.bd .atom (A.fL .tab 0 .atom x2.2.1) x2.1<|
 A.cl Qf Qg (A.get .atom (A.fL .tab 0 .atom x2.2.1) x2.1,x2.1,()) fun x3=>
 A.cond (A.aA x3.1) (A.l1 .b (A.bl false) fun x4=>
 A.inr _<|A.ret _ (x4.1,()))<|
 A.l1 .i (A.lit 0) fun x4=>
 A.iter [.i,.i,.x .tab] (fun x5=>
 A.cond (A.cmp .lss x5.2.1 x5.1) (A.bd .atom (A.fL .tab 0 .atom x5.2.2.1) x5.2.1<|
 A.bd .atom (A.fL .tab 0 .atom x5.2.2.1) x5.1<|
 A.cl Qh Qi (A.get .atom (A.fL .tab 0 .atom x5.2.2.1) x5.2.1,A.get .atom (A.fL .tab 0 .atom x5.2.2.1) x5.1,()) fun x6=>
 A.cond x6.1 (A.l1 .b (A.bl false) fun x7=>
 A.inr _<|A.inr _<|A.ret _ (x7.1,()))<|
 A.l1 .i (A.arith .add .i64 x5.2.1 (A.lit 1)) fun x7=>
 A.inl _ (x5.1,x7.1,x5.2.2.1,()))<|
 A.inr _<|A.l1 .i (A.arith .add .i64 x5.1 (A.lit 1)) fun x6=>
 A.inl _ (x6.1,x5.2.2.1,())) (x2.1,x4.1,x2.2.1,()))<|
 A.inr _<|A.rb (A.bl true)) (x1.1,x.1,())
def Qj (A:Alg) (x:Tup A.ah [.l .mono]):Ot A dI:=
 A.l1 .i (A.lit 0) fun x0=>
 A.iter [.l .mono,.i,.l .mono] (fun x1=>
 A.cond (A.cmp .lss x1.2.1 (A.len .mono x1.1)) (A.bd .mono x1.1 x1.2.1<|
 A.bd .mono x1.1 x1.2.1<|
 A.chk (A.orB (A.cmp .lss (A.lit 0) (A.len .i64 (A.fL .mono 1 .i64 (A.get .mono x1.1 x1.2.1)))) (A.cmp .eql (A.len .i64 (A.lst .i64 [])) (A.lit 0)))<|
 A.chk (A.cmp .leq (A.addN (A.len .i64 (A.lst .i64 [])) (A.len .i64 (A.fL .mono 1 .i64 (A.get .mono x1.1 x1.2.1)))) (A.lit 1073741824))<|
 A.l1 (.l .i64) (A.app .i64 (A.lst .i64 []) (A.fL .mono 1 .i64 (A.get .mono x1.1 x1.2.1))) fun x2=>
 A.l1 (.l .mono) (A.lst .mono [A.mkX .mono (A.fI .mono 0 (A.get .mono x1.1 x1.2.1),x2.1,())]) fun x3=>
 A.chk (A.cmp .leq (A.addN (A.len .mono x1.2.2.1) (A.len .mono x3.1)) (A.lit 1073741824))<|
 A.l1 (.l .mono) (A.app .mono x1.2.2.1 x3.1) fun x4=>
 A.l1 .i (A.arith .add .i64 x1.2.1 (A.lit 1)) fun x5=>
 A.inl _ (x1.1,x5.1,x4.1,()))<|
 A.inr _<|A.ret _ (x1.2.2.1,())) (x.1,x0.1,A.aR .mono,())
def Qk (A:Alg) (fQ:Pt A dI) (fT:Ft A dI) (x:Tup A.ah [.x .atom]):Ot A tX:=
 A.cl fQ fT (A.fL .atom 2 .mono x.1,()) fun x0=>
 A.cl fQ fT (A.fL .atom 3 .mono x.1,()) fun x1=>
 A.ret _ (A.fI .atom 0 x.1,A.fI .atom 1 x.1,x0.1,x1.1,())
def Ql (A:Alg) (Qm:Pt A tX) (Qn:Ft A tX) (x:Tup A.ah [.x .tab]):Ot A D8:=
 A.l1 .i (A.lit 0) fun x0=>
 A.iter [.i,.x .tab,.l .atom] (fun x1=>
 A.cond (A.cmp .lss x1.1 (A.len .atom (A.fL .tab 0 .atom x1.2.1))) (A.bd .atom (A.fL .tab 0 .atom x1.2.1) x1.1<|
 A.cl Qm Qn (A.get .atom (A.fL .tab 0 .atom x1.2.1) x1.1,()) fun x2=>
 A.l1 (.l .atom) (A.lst .atom [A.mkX .atom (x2.1,x2.2.1,x2.2.2.1,x2.2.2.2.1,())]) fun x3=>
 A.chk (A.cmp .leq (A.addN (A.len .atom x1.2.2.1) (A.len .atom x3.1)) (A.lit 1073741824))<|
 A.l1 (.l .atom) (A.app .atom x1.2.2.1 x3.1) fun x4=>
 A.l1 .i (A.arith .add .i64 x1.1 (A.lit 1)) fun x5=>
 A.inl _ (x5.1,x1.2.1,x4.1,()))<|
 A.inr _<|A.ret _ (x1.2.2.1,())) (x0.1,x.1,A.aR .atom,())
def Qo (A:Alg) (Qf:Pt A tT) (Qg:Ft A tT) (Qh:Pt A tV) (Qi:Ft A tV) (Qm:Pt A tX) (Qn:Ft A tX) (x:Tup A.ah [.x .atom,.l .atom]):Ot A mJ:=
 A.l1 .i (A.lit 0) fun x0=>
 A.cl Qf Qg (x.1,A.len .atom x.2.1,()) fun x1=>
 A.cond (A.aA x1.1) (A.l1 .i (A.lit (-1)) fun x2=>
 A.ret _ (x2.1,x.2.1,()))<|
 A.l1 .i (A.lit 0) fun x2=>
 A.iter [.i,.l .atom,.x .atom] (fun x3=>
 A.cond (A.cmp .lss x3.1 (A.len .atom x3.2.1)) (A.bd .atom x3.2.1 x3.1<|
 A.bd .atom x3.2.1 x3.1<|
 A.cl Qh Qi (A.get .atom x3.2.1 x3.1,x3.2.2.1,()) fun x4=>
 A.cond x4.1 (A.l1 .i x3.1 fun x5=>
 A.inr _<|A.ret _ (x5.1,x3.2.1,()))<|
 A.l1 .i (A.arith .add .i64 x3.1 (A.lit 1)) fun x5=>
 A.inl _ (x5.1,x3.2.1,x3.2.2.1,()))<|
 A.inr _<|A.cond (A.cmp .eql (A.len .atom x3.2.1) (A.lit 200)) (A.l1 .i (A.lit (-1)) fun x4=>
 A.ret _ (x4.1,x3.2.1,()))<|
 A.cl Qm Qn (x3.2.2.1,()) fun x4=>
 A.l1 (.l .atom) (A.lst .atom [A.mkX .atom (x4.1,x4.2.1,x4.2.2.1,x4.2.2.2.1,())]) fun x5=>
 A.chk (A.cmp .leq (A.addN (A.len .atom x3.2.1) (A.len .atom x5.1)) (A.lit 1073741824))<|
 A.l1 (.l .atom) (A.app .atom x3.2.1 x5.1) fun x6=>
 A.l1 .i (A.arith .sub .i64 (A.len .atom x6.1) (A.lit 1)) fun x7=>
 A.ret _ (x7.1,x6.1,())) (x2.1,x.2.1,x.1,())
def Qp (A:Alg) (x:Tup A.ah [.i,.l .poly]):Ot A D9:=
 A.cond (A.ak (A.cmp .lss x.1 (A.lit 0)) (A.bl true) (A.cmp .geq x.1 (A.len .poly x.2.1))) (A.ret _ (A.mkX .poly (A.aR .mono,()),x.2.1,()))<|
 A.bd .poly x.2.1 x.1<|
 A.bd .poly x.2.1 x.1<|
 A.l1 (.x .poly) (A.get .poly x.2.1 x.1) fun x0=>
 A.ret _ (x0.1,x.2.1,())
def Qq (A:Alg) (gq:Pt A fO) (gu:Ft A fO) (x:Tup A.ah [.i]):Ot A tY:=
 A.cl gq gu (x.1,A.lit 1,A.lit 65535,()) fun x0=>
 A.cond (A.aA x0.1) (A.ret _ (A.aR .mono,()))<|
 A.l1 (.l .mono) (A.lst .mono [A.mkX .mono (x.1,A.aR .i64,())]) fun x1=>
 A.ret _ (x1.1,())
def Qr (A:Alg) (x:Tup A.ah [.i]):Ot A jY:=
 A.l1 .i (A.lit 0) fun x0=>
 A.chk (A.cmp .neq (A.lit 65536) (A.lit 0))<|
 A.l1 .i (A.arith .rem .i64 x.1 (A.lit 65536)) fun x1=>
 A.bind [.i] (A.cond (A.cmp .lss x1.1 (A.lit 0)) (A.l1 .i (A.arith .add .i64 x1.1 (A.lit 65536)) fun x2=>
 A.ret _ (x2.1,()))<|
 A.ret _ (x1.1,())) fun x2=>
 A.l1 .i x2.1 fun x3=>
 A.ret _ (x3.1,())
def Qs (A:Alg) (E9:Pt A mI) (Fa:Ft A mI) (qX:Pt A jY) (qY:Ft A jY) (x:Tup A.ah [.l .mono,.x .mono]):Ot A tZ:=
 A.l1 (.l .mono) (A.lst .mono []) fun x0=>
 A.l1 .b (A.bl false) fun x1=>
 A.l1 .i (A.lit 0) fun x2=>
 A.iter [.l .mono,.b,.i,.x .mono,.l .mono] (fun x3=>
 A.cond (A.cmp .lss x3.2.2.1 (A.len .mono x3.1)) (A.bd .mono x3.1 x3.2.2.1<|
 A.cl E9 Fa (A.fL .mono 1 .i64 x3.2.2.2.1,A.fL .mono 1 .i64 (A.get .mono x3.1 x3.2.2.1),()) fun x4=>
 A.l1 .i x4.1 fun x5=>
 A.bind [.l .mono,.b,.i,.i,.x .mono,.l .mono] (A.cond (A.ak (A.aA x3.2.1) (A.cmp .lss x5.1 (A.lit 0)) (A.bl false)) (A.l1 (.l .mono) (A.lst .mono [x3.2.2.2.1]) fun x6=>
 A.chk (A.cmp .leq (A.addN (A.len .mono x3.q.1) (A.len .mono x6.1)) (A.lit 1073741824))<|
 A.l1 (.l .mono) (A.app .mono x3.q.1 x6.1) fun x7=>
 A.l1 .b (A.bl true) fun x8=>
 A.ret _ (x3.1,x8.1,x3.2.2.1,x5.1,x3.2.2.2.1,x7.1,()))<|
 A.ret _ (x3.1,x3.2.1,x3.2.2.1,x5.1,x3.2.2.2.1,x3.q.1,())) fun x6=>
 A.bind [.l .mono,.b,.i,.x .mono,.l .mono] (A.cond (A.cmp .eql x6.2.2.2.1 (A.lit 0)) (A.l1 .b (A.bl true) fun x7=>
 A.bd .mono x6.1 x6.2.2.1<|
 A.cl qX qY (A.arith .add .i64 (A.fI .mono 0 (A.get .mono x6.1 x6.2.2.1)) (A.fI .mono 0 x6.q.1),()) fun x8=>
 A.l1 .i x8.1 fun x9=>
 A.bind [.l .mono,.b,.i,.x .mono,.l .mono] (A.cond (A.cmp .gtr x9.1 (A.lit 0)) (A.bd .mono x6.1 x6.2.2.1<|
 A.l1 (.l .mono) (A.lst .mono [A.mkX .mono (x9.1,A.fL .mono 1 .i64 (A.get .mono x6.1 x6.2.2.1),())]) fun x10=>
 A.chk (A.cmp .leq (A.addN (A.len .mono x6.q.2.1) (A.len .mono x10.1)) (A.lit 1073741824))<|
 A.l1 (.l .mono) (A.app .mono x6.q.2.1 x10.1) fun x11=>
 A.ret _ (x6.1,x7.1,x6.2.2.1,x6.q.1,x11.1,()))<|
 A.ret _ (x6.1,x7.1,x6.2.2.1,x6.q.1,x6.q.2.1,())) fun x10=>
 A.ret _ (x10.1,x10.2.1,x10.2.2.1,x10.2.2.2.1,x10.q.1,()))<|
 A.bd .mono x6.1 x6.2.2.1<|
 A.l1 (.l .mono) (A.lst .mono [A.get .mono x6.1 x6.2.2.1]) fun x7=>
 A.chk (A.cmp .leq (A.addN (A.len .mono x6.q.2.1) (A.len .mono x7.1)) (A.lit 1073741824))<|
 A.l1 (.l .mono) (A.app .mono x6.q.2.1 x7.1) fun x8=>
 A.ret _ (x6.1,x6.2.1,x6.2.2.1,x6.q.1,x8.1,())) fun x7=>
 A.l1 .i (A.arith .add .i64 x7.2.2.1 (A.lit 1)) fun x8=>
 A.inl _ (x7.1,x7.2.1,x8.1,x7.2.2.2.1,x7.q.1,()))<|
 A.inr _<|A.bind [.l .mono] (A.cond (A.aA x3.2.1) (A.l1 (.l .mono) (A.lst .mono [x3.2.2.2.1]) fun x4=>
 A.chk (A.cmp .leq (A.addN (A.len .mono x3.q.1) (A.len .mono x4.1)) (A.lit 1073741824))<|
 A.l1 (.l .mono) (A.app .mono x3.q.1 x4.1) fun x5=>
 A.ret _ (x5.1,()))<|
 A.ret _ (x3.q.1,())) fun x4=>
 A.ret _ (x4.1,())) (x.1,x1.1,x2.1,x.2.1,x0.1,())
def Qt (A:Alg) (fQ:Pt A dI) (fT:Ft A dI) (x:Tup A.ah [.l .mono]):Ot A uf:=
 A.l1 .b (A.bl false) fun x0=>
 A.cond (A.cmp .gtr (A.len .mono x.1) (A.lit 12)) (A.l1 .b (A.bl false) fun x1=>
 A.ret _ (x1.1,A.aR .mono,()))<|
 A.l1 .i (A.lit 0) fun x1=>
 A.iter [.l .mono,.i] (fun x2=>
 A.cond (A.cmp .lss x2.2.1 (A.len .mono x2.1)) (A.bd .mono x2.1 x2.2.1<|
 A.cond (A.cmp .gtr (A.len .i64 (A.fL .mono 1 .i64 (A.get .mono x2.1 x2.2.1))) (A.lit 4)) (A.l1 .b (A.bl false) fun x3=>
 A.inr _<|A.ret _ (x3.1,A.aR .mono,()))<|
 A.l1 .i (A.arith .add .i64 x2.2.1 (A.lit 1)) fun x3=>
 A.inl _ (x2.1,x3.1,()))<|
 A.inr _<|A.cl fQ fT (x2.1,()) fun x3=>
 A.l1 .b (A.bl true) fun x4=>
 A.ret _ (x4.1,x3.1,())) (x.1,x1.1,())
def Qu (A:Alg) (jr:Pt A gT) (jv:Ft A gT) (Qv:Pt A tZ) (Qw:Ft A tZ) (Qx:Pt A uf) (Qy:Ft A uf) (x:Tup A.ah [.x .poly,.x .poly]):Ot A Ea:=
 A.l1 .b (A.bl false) fun x0=>
 A.cl jr jv (x.1,()) fun x1=>
 A.cg (A.aA (A.aA x1.1)) jr jv (x.2.1,()) fun x2=>
 A.cond (A.ak (A.aA x1.1) (A.bl true) (A.aA x2.1)) (A.l1 .b (A.bl false) fun x3=>
 A.ret _ (x3.1,A.aR .mono,()))<|
 A.l1 (.l .mono) (A.fL .poly 0 .mono x.1) fun x3=>
 A.l1 .i (A.lit 0) fun x4=>
 A.iter [.l .mono,.i,.x .poly] (fun x5=>
 A.cond (A.cmp .lss x5.2.1 (A.len .mono (A.fL .poly 0 .mono x5.2.2.1))) (A.bd .mono (A.fL .poly 0 .mono x5.2.2.1) x5.2.1<|
 A.cl Qv Qw (x5.1,A.get .mono (A.fL .poly 0 .mono x5.2.2.1) x5.2.1,()) fun x6=>
 A.l1 .i (A.arith .add .i64 x5.2.1 (A.lit 1)) fun x7=>
 A.inl _ (x6.1,x7.1,x5.2.2.1,()))<|
 A.inr _<|A.cl Qx Qy (x5.1,()) fun x6=>
 A.l1 .b x6.1 fun x7=>
 A.ret _ (x7.1,x6.2.1,())) (x3.1,x4.1,x.2.1,())
def Qz (A:Alg) (jr:Pt A gT) (jv:Ft A gT) (qX:Pt A jY) (qY:Ft A jY) (fQ:Pt A dI) (fT:Ft A dI) (qV:Pt A jW) (qW:Ft A jW) (x:Tup A.ah [.x .poly,.i]):Ot A Eb:=
 A.cl jr jv (x.1,()) fun x0=>
 A.cg (A.aA (A.aA x0.1)) qV qW (x.2.1,()) fun x1=>
 A.cond (A.ak (A.aA x0.1) (A.bl true) (A.aA x1.1)) (A.ret _ (A.aR .mono,()))<|
 A.l1 (.l .mono) (A.lst .mono []) fun x2=>
 A.l1 .i (A.lit 0) fun x3=>
 A.iter [.i,.i,.x .poly,.l .mono] (fun x4=>
 A.cond (A.cmp .lss x4.2.1 (A.len .mono (A.fL .poly 0 .mono x4.2.2.1))) (A.bd .mono (A.fL .poly 0 .mono x4.2.2.1) x4.2.1<|
 A.cl qX qY (A.arith .mul .i64 (A.fI .mono 0 (A.get .mono (A.fL .poly 0 .mono x4.2.2.1) x4.2.1)) x4.1,()) fun x5=>
 A.l1 .i x5.1 fun x6=>
 A.bind [.i,.i,.x .poly,.l .mono] (A.cond (A.cmp .gtr x6.1 (A.lit 0)) (A.bd .mono (A.fL .poly 0 .mono x4.2.2.1) x4.2.1<|
 A.l1 (.l .mono) (A.lst .mono [A.mkX .mono (x6.1,A.fL .mono 1 .i64 (A.get .mono (A.fL .poly 0 .mono x4.2.2.1) x4.2.1),())]) fun x7=>
 A.chk (A.cmp .leq (A.addN (A.len .mono x4.2.2.2.1) (A.len .mono x7.1)) (A.lit 1073741824))<|
 A.l1 (.l .mono) (A.app .mono x4.2.2.2.1 x7.1) fun x8=>
 A.ret _ (x4.1,x4.2.1,x4.2.2.1,x8.1,()))<|
 A.ret _ (x4.1,x4.2.1,x4.2.2.1,x4.2.2.2.1,())) fun x7=>
 A.l1 .i (A.arith .add .i64 x7.2.1 (A.lit 1)) fun x8=>
 A.inl _ (x7.1,x8.1,x7.2.2.1,x7.2.2.2.1,()))<|
 A.inr _<|A.cl fQ fT (x4.2.2.2.1,()) fun x5=>
 A.ret _ (x5.1,())) (x.2.1,x3.1,x.1,x2.1,())
def QA (A:Alg) (x:Tup A.ah [.l .i64,.l .i64]):Ot A Ec:=
 A.l1 (.l .i64) (A.lst .i64 []) fun x0=>
 A.l1 .i (A.lit 0) fun x1=>
 A.l1 .i (A.lit 0) fun x2=>
 A.iter [.l .i64,.l .i64,.i,.i,.l .i64] (fun x3=>
 A.cond (A.cmp .lss x3.2.2.2.1 (A.len .i64 x3.2.1)) (A.iter [.l .i64,.l .i64,.i,.i,.l .i64] (fun x4=>
 A.chk (A.orB (A.aA (A.cmp .lss x4.2.2.1 (A.len .i64 x4.1))) (A.cmp .leq (A.lit 0) x4.2.2.1))<|
 A.chk (A.orB (A.aA (A.cmp .lss x4.2.2.1 (A.len .i64 x4.1))) (A.cmp .lss x4.2.2.1 (A.len .i64 x4.1)))<|
 A.chk (A.orB (A.aA (A.cmp .lss x4.2.2.1 (A.len .i64 x4.1))) (A.cmp .leq (A.lit 0) x4.2.2.2.1))<|
 A.chk (A.orB (A.aA (A.cmp .lss x4.2.2.1 (A.len .i64 x4.1))) (A.cmp .lss x4.2.2.2.1 (A.len .i64 x4.2.1)))<|
 A.cond (A.ak (A.cmp .lss x4.2.2.1 (A.len .i64 x4.1)) (A.cmp .leq (A.fI .i64 0 (A.get .i64 x4.1 x4.2.2.1)) (A.fI .i64 0 (A.get .i64 x4.2.1 x4.2.2.2.1))) (A.bl false)) (A.bd .i64 x4.1 x4.2.2.1<|
 A.l1 (.l .i64) (A.lst .i64 [A.mkX .i64 (A.fI .i64 0 (A.get .i64 x4.1 x4.2.2.1),())]) fun x5=>
 A.chk (A.cmp .leq (A.addN (A.len .i64 x4.q.1) (A.len .i64 x5.1)) (A.lit 1073741824))<|
 A.l1 (.l .i64) (A.app .i64 x4.q.1 x5.1) fun x6=>
 A.l1 .i (A.arith .add .i64 x4.2.2.1 (A.lit 1)) fun x7=>
 A.inl _ (x4.1,x4.2.1,x7.1,x4.2.2.2.1,x6.1,()))<|
 A.inr _<|A.bd .i64 x4.2.1 x4.2.2.2.1<|
 A.l1 (.l .i64) (A.lst .i64 [A.mkX .i64 (A.fI .i64 0 (A.get .i64 x4.2.1 x4.2.2.2.1),())]) fun x5=>
 A.chk (A.cmp .leq (A.addN (A.len .i64 x4.q.1) (A.len .i64 x5.1)) (A.lit 1073741824))<|
 A.l1 (.l .i64) (A.app .i64 x4.q.1 x5.1) fun x6=>
 A.l1 .i (A.arith .add .i64 x4.2.2.2.1 (A.lit 1)) fun x7=>
 A.inl _ (x4.1,x4.2.1,x4.2.2.1,x7.1,x6.1,())) (x3.1,x3.2.1,x3.2.2.1,x3.2.2.2.1,x3.q.1,()))<|
 A.inr _<|A.chk (A.cmp .leq (A.lit 0) x3.2.2.1)<|
 A.chk (A.cmp .leq x3.2.2.1 (A.len .i64 x3.1))<|
 A.chk (A.cmp .leq (A.len .i64 x3.1) (A.len .i64 x3.1))<|
 A.chk (A.cmp .leq (A.addN (A.len .i64 x3.q.1) (A.len .i64 (A.sub .i64 x3.1 x3.2.2.1 (A.len .i64 x3.1)))) (A.lit 1073741824))<|
 A.l1 (.l .i64) (A.app .i64 x3.q.1 (A.sub .i64 x3.1 x3.2.2.1 (A.len .i64 x3.1))) fun x4=>
 A.ret _ (x4.1,())) (x.1,x.2.1,x1.1,x2.1,x0.1,())
def QB (A:Alg) (jr:Pt A gT) (jv:Ft A gT) (qX:Pt A jY) (qY:Ft A jY) (Qv:Pt A tZ) (Qw:Ft A tZ) (aeg:Pt A Ec) (aeh:Ft A Ec) (Qx:Pt A uf) (Qy:Ft A uf) (x:Tup A.ah [.x .poly,.x .poly]):Ot A Ed:=
 A.l1 .b (A.bl false) fun x0=>
 A.cl jr jv (x.1,()) fun x1=>
 A.cg (A.aA (A.aA x1.1)) jr jv (x.2.1,()) fun x2=>
 A.cond (A.ak (A.aA x1.1) (A.bl true) (A.aA x2.1)) (A.l1 .b (A.bl false) fun x3=>
 A.ret _ (x3.1,A.aR .mono,()))<|
 A.l1 (.l .mono) (A.lst .mono []) fun x3=>
 A.l1 .i (A.lit 0) fun x4=>
 A.iter [.i,.x .poly,.x .poly,.l .mono] (fun x5=>
 A.cond (A.cmp .lss x5.1 (A.len .mono (A.fL .poly 0 .mono x5.2.1))) (A.l1 .i (A.lit 0) fun x6=>
 A.iter [.i,.i,.x .poly,.x .poly,.l .mono] (fun x7=>
 A.cond (A.cmp .lss x7.2.1 (A.len .mono (A.fL .poly 0 .mono x7.2.2.2.1))) (A.bd .mono (A.fL .poly 0 .mono x7.2.2.1) x7.1<|
 A.bd .mono (A.fL .poly 0 .mono x7.2.2.2.1) x7.2.1<|
 A.cl qX qY (A.arith .mul .i64 (A.fI .mono 0 (A.get .mono (A.fL .poly 0 .mono x7.2.2.1) x7.1)) (A.fI .mono 0 (A.get .mono (A.fL .poly 0 .mono x7.2.2.2.1) x7.2.1)),()) fun x8=>
 A.l1 .i x8.1 fun x9=>
 A.bind [.i,.i,.x .poly,.x .poly,.l .mono] (A.cond (A.cmp .gtr x9.1 (A.lit 0)) (A.bd .mono (A.fL .poly 0 .mono x7.2.2.1) x7.1<|
 A.bd .mono (A.fL .poly 0 .mono x7.2.2.2.1) x7.2.1<|
 A.cl aeg aeh (A.fL .mono 1 .i64 (A.get .mono (A.fL .poly 0 .mono x7.2.2.1) x7.1),A.fL .mono 1 .i64 (A.get .mono (A.fL .poly 0 .mono x7.2.2.2.1) x7.2.1),()) fun x10=>
 A.cl Qv Qw (x7.q.1,A.mkX .mono (x9.1,x10.1,()),()) fun x11=>
 A.ret _ (x7.1,x7.2.1,x7.2.2.1,x7.2.2.2.1,x11.1,()))<|
 A.ret _ (x7.1,x7.2.1,x7.2.2.1,x7.2.2.2.1,x7.q.1,())) fun x10=>
 A.l1 .i (A.arith .add .i64 x10.2.1 (A.lit 1)) fun x11=>
 A.inl _ (x10.1,x11.1,x10.2.2.1,x10.2.2.2.1,x10.q.1,()))<|
 A.inr _<|A.l1 .i (A.arith .add .i64 x7.1 (A.lit 1)) fun x8=>
 A.inl _ (x8.1,x7.2.2.1,x7.2.2.2.1,x7.q.1,())) (x5.1,x6.1,x5.2.1,x5.2.2.1,x5.2.2.2.1,()))<|
 A.inr _<|A.cl Qx Qy (x5.2.2.2.1,()) fun x6=>
 A.l1 .b x6.1 fun x7=>
 A.ret _ (x7.1,x6.2.1,())) (x4.1,x.1,x.2.1,x3.1,())
def QC (A:Alg) (aei:Pt A Ed) (aej:Ft A Ed) (WZ:Pt A Ea) (W9:Ft A Ea) (aek:Pt A Eb) (ael:Ft A Eb) (x:Tup A.ah [.i,.x .poly,.x .poly]):Ot A Ee:=
 A.l1 .b (A.bl false) fun x0=>
 A.l1 .b (A.cmp .eql x.1 (A.lit 1)) fun x1=>
 A.cond x1.1 (A.cl WZ W9 (x.2.1,x.2.2.1,()) fun x2=>
 A.l1 .b x2.1 fun x3=>
 A.ret _ (x3.1,x2.2.1,()))<|
 A.l1 .b (A.cmp .eql x.1 (A.lit 2)) fun x2=>
 A.cond x2.1 (A.cl aek ael (x.2.2.1,A.lit 65535,()) fun x3=>
 A.cl WZ W9 (x.2.1,A.mkX .poly (x3.1,()),()) fun x4=>
 A.l1 .b x4.1 fun x5=>
 A.ret _ (x5.1,x4.2.1,()))<|
 A.l1 .b (A.cmp .eql x.1 (A.lit 3)) fun x3=>
 A.cond x3.1 (A.cl aei aej (x.2.1,x.2.2.1,()) fun x4=>
 A.l1 .b x4.1 fun x5=>
 A.ret _ (x5.1,x4.2.1,()))<|
 A.l1 .b (A.bl false) fun x4=>
 A.ret _ (x4.1,A.aR .mono,())
def QD (A:Alg) (jr:Pt A gT) (jv:Ft A gT) (x:Tup A.ah [.x .poly]):Ot A mK:=
 A.l1 .i (A.lit 0) fun x0=>
 A.l1 .b (A.bl false) fun x1=>
 A.cl jr jv (x.1,()) fun x2=>
 A.cond (A.aA x2.1) (A.l1 .i (A.lit 0) fun x3=>
 A.l1 .b (A.bl false) fun x4=>
 A.ret _ (x3.1,x4.1,()))<|
 A.cond (A.cmp .eql (A.len .mono (A.fL .poly 0 .mono x.1)) (A.lit 0)) (A.l1 .i (A.lit 0) fun x3=>
 A.l1 .b (A.bl true) fun x4=>
 A.ret _ (x3.1,x4.1,()))<|
 A.chk (A.orB (A.aA (A.aA (A.cmp .gtr (A.len .mono (A.fL .poly 0 .mono x.1)) (A.lit 1)))) (A.cmp .leq (A.lit 0) (A.lit 0)))<|
 A.chk (A.orB (A.aA (A.aA (A.cmp .gtr (A.len .mono (A.fL .poly 0 .mono x.1)) (A.lit 1)))) (A.cmp .lss (A.lit 0) (A.len .mono (A.fL .poly 0 .mono x.1))))<|
 A.cond (A.ak (A.cmp .gtr (A.len .mono (A.fL .poly 0 .mono x.1)) (A.lit 1)) (A.bl true) (A.cmp .gtr (A.len .i64 (A.fL .mono 1 .i64 (A.get .mono (A.fL .poly 0 .mono x.1) (A.lit 0)))) (A.lit 0))) (A.l1 .i (A.lit 0) fun x3=>
 A.l1 .b (A.bl false) fun x4=>
 A.ret _ (x3.1,x4.1,()))<|
 A.bd .mono (A.fL .poly 0 .mono x.1) (A.lit 0)<|
 A.l1 .i (A.fI .mono 0 (A.get .mono (A.fL .poly 0 .mono x.1) (A.lit 0))) fun x3=>
 A.l1 .b (A.bl true) fun x4=>
 A.ret _ (x3.1,x4.1,())
def QE (A:Alg) (qX:Pt A jY) (qY:Ft A jY) (qV:Pt A jW) (qW:Ft A jW) (x:Tup A.ah [.i,.i,.i]):Ot A Ef:=
 A.l1 .i (A.lit 0) fun x0=>
 A.cl qV qW (x.2.1,()) fun x1=>
 A.cg (A.aA (A.aA x1.1)) qV qW (x.2.2.1,()) fun x2=>
 A.cond (A.ak (A.aA x1.1) (A.bl true) (A.aA x2.1)) (A.l1 .i (A.lit 0) fun x3=>
 A.ret _ (x3.1,()))<|
 A.l1 .b (A.cmp .eql x.1 (A.lit 1)) fun x3=>
 A.cond x3.1 (A.cl qX qY (A.arith .add .i64 x.2.1 x.2.2.1,()) fun x4=>
 A.l1 .i x4.1 fun x5=>
 A.ret _ (x5.1,()))<|
 A.l1 .b (A.cmp .eql x.1 (A.lit 2)) fun x4=>
 A.cond x4.1 (A.cl qX qY (A.arith .sub .i64 x.2.1 x.2.2.1,()) fun x5=>
 A.l1 .i x5.1 fun x6=>
 A.ret _ (x6.1,()))<|
 A.l1 .b (A.cmp .eql x.1 (A.lit 3)) fun x5=>
 A.cond x5.1 (A.cl qX qY (A.arith .mul .i64 x.2.1 x.2.2.1,()) fun x6=>
 A.l1 .i x6.1 fun x7=>
 A.ret _ (x7.1,()))<|
 A.l1 .b (A.cmp .eql x.1 (A.lit 4)) fun x6=>
 A.cond x6.1 (A.l1 .i (A.arith .and .i64 x.2.1 x.2.2.1) fun x7=>
 A.ret _ (x7.1,()))<|
 A.l1 .b (A.cmp .eql x.1 (A.lit 5)) fun x7=>
 A.cond x7.1 (A.l1 .i (A.arith .xor .i64 x.2.1 x.2.2.1) fun x8=>
 A.ret _ (x8.1,()))<|
 A.l1 .i (A.lit 0) fun x8=>
 A.ret _ (x8.1,())
def QF (A:Alg) (fQ:Pt A dI) (fT:Ft A dI) (x:Tup A.ah [.i,.i,.x .poly]):Ot A Eh:=
 A.l1 .b (A.bl false) fun x0=>
 A.cond (A.ak (A.cmp .eql x.1 (A.lit 4)) (A.cmp .eql x.2.1 (A.lit 0)) (A.bl false)) (A.l1 .b (A.bl true) fun x1=>
 A.ret _ (x1.1,A.aR .mono,()))<|
 A.cond (A.ak (A.ak (A.cmp .eql x.1 (A.lit 4)) (A.cmp .eql x.2.1 (A.lit 65535)) (A.bl false)) (A.bl true) (A.ak (A.cmp .eql x.1 (A.lit 5)) (A.cmp .eql x.2.1 (A.lit 0)) (A.bl false))) (A.cl fQ fT (A.fL .poly 0 .mono x.2.2.1,()) fun x1=>
 A.l1 .b (A.bl true) fun x2=>
 A.ret _ (x2.1,x1.1,()))<|
 A.l1 .b (A.bl false) fun x1=>
 A.ret _ (x1.1,A.aR .mono,())
def QG (A:Alg) (iO:Pt A fP) (iP:Ft A fP) (fQ:Pt A dI) (fT:Ft A dI) (aem:Pt A Ef) (aen:Ft A Ef) (QH:Pt A tY) (QI:Ft A tY) (xV:Pt A mK) (xW:Ft A mK) (Xa:Pt A Eh) (Xb:Ft A Eh) (x:Tup A.ah [.i,.x .poly,.x .poly]):Ot A Ei:=
 A.l1 .b (A.bl false) fun x0=>
 A.cl xV xW (x.2.1,()) fun x1=>
 A.l1 .i x1.1 fun x2=>
 A.l1 .b x1.2.1 fun x3=>
 A.cl xV xW (x.2.2.1,()) fun x4=>
 A.l1 .i x4.1 fun x5=>
 A.l1 .b x4.2.1 fun x6=>
 A.cond (A.ak x3.1 x6.1 (A.bl false)) (A.cl aem aen (x.1,x2.1,x5.1,()) fun x7=>
 A.cl QH QI (x7.1,()) fun x8=>
 A.l1 .b (A.bl true) fun x9=>
 A.ret _ (x9.1,x8.1,()))<|
 A.cl iO iP (x.2.1,x.2.2.1,()) fun x7=>
 A.cond (A.cmp .eql x7.1 (A.lit 0)) (A.cond (A.cmp .eql x.1 (A.lit 4)) (A.cl fQ fT (A.fL .poly 0 .mono x.2.1,()) fun x8=>
 A.l1 .b (A.bl true) fun x9=>
 A.ret _ (x9.1,x8.1,()))<|
 A.l1 .b (A.bl true) fun x8=>
 A.ret _ (x8.1,A.aR .mono,()))<|
 A.cond x3.1 (A.cl Xa Xb (x.1,x2.1,x.2.2.1,()) fun x8=>
 A.l1 .b x8.1 fun x9=>
 A.ret _ (x9.1,x8.2.1,()))<|
 A.cond x6.1 (A.cl Xa Xb (x.1,x5.1,x.2.1,()) fun x8=>
 A.l1 .b x8.1 fun x9=>
 A.ret _ (x9.1,x8.2.1,()))<|
 A.l1 .b (A.bl false) fun x8=>
 A.ret _ (x8.1,A.aR .mono,())
def QJ (A:Alg) (xS:Pt A jX) (xU:Ft A jX) (iO:Pt A fP) (iP:Ft A fP) (aeo:Pt A Ee) (aep:Ft A Ee) (aer:Pt A Ei) (aes:Ft A Ei) (Fb:Pt A mJ) (Fe:Ft A mJ) (x:Tup A.ah [.i,.x .poly,.x .poly,.l .atom]):Ot A Ej:=
 A.cl aeo aep (x.1,x.2.1,x.2.2.1,()) fun x0=>
 A.l1 .b x0.1 fun x1=>
 A.bind [.i,.b,.l .atom,.x .poly,.x .poly,.l .mono] (A.cond (A.ak (A.cmp .eql x.1 (A.lit 4)) (A.bl true) (A.cmp .eql x.1 (A.lit 5))) (A.cl aer aes (x.1,x.2.1,x.2.2.1,()) fun x2=>
 A.l1 .b x2.1 fun x3=>
 A.ret _ (x.1,x3.1,x.2.2.2.1,x.2.1,x.2.2.1,x2.2.1,()))<|
 A.ret _ (x.1,x1.1,x.2.2.2.1,x.2.1,x.2.2.1,x0.2.1,())) fun x2=>
 A.cond x2.2.1 (A.ret _ (x2.2.2.1,x2.q.2.1,()))<|
 A.cg (A.cmp .neq x2.1 (A.lit 2)) iO iP (x2.2.2.2.1,x2.q.1,()) fun x3=>
 A.bind [.l .atom,.i,.i,.l .mono,.l .mono] (A.cond (A.ak (A.cmp .neq x2.1 (A.lit 2)) (A.cmp .gtr x3.1 (A.lit 0)) (A.bl false)) (A.ret _ (x2.2.2.1,A.lit 4,x2.1,A.fL .poly 0 .mono x2.q.1,A.fL .poly 0 .mono x2.2.2.2.1,()))<|
 A.ret _ (x2.2.2.1,A.lit 4,x2.1,A.fL .poly 0 .mono x2.2.2.2.1,A.fL .poly 0 .mono x2.q.1,())) fun x4=>
 A.cl Fb Fe (A.mkX .atom (x4.2.1,x4.2.2.1,x4.2.2.2.1,x4.q.1,()),x4.1,()) fun x5=>
 A.l1 .i x5.1 fun x6=>
 A.cond (A.cmp .lss x6.1 (A.lit 0)) (A.ret _ (A.aR .atom,A.aR .mono,()))<|
 A.cl xS xU (x6.1,()) fun x7=>
 A.ret _ (x5.2.1,x7.1,())
def QK (A:Alg) (x:Tup A.ah [.l .ev,.i]):Ot A El:=
 A.l1 .i (A.lit 0) fun x0=>
 A.l1 .i (A.lit 0) fun x1=>
 A.l1 .i (A.lit 0) fun x2=>
 A.iter [.l .ev,.i,.i,.i] (fun x3=>
 A.cond (A.cmp .lss x3.2.2.2.1 (A.len .ev x3.1)) (A.bd .ev x3.1 x3.2.2.2.1<|
 A.bind [.l .ev,.i,.i,.i] (A.cond (A.cmp .eql (A.fI .ev 0 (A.get .ev x3.1 x3.2.2.2.1)) x3.2.1) (A.l1 .i (A.arith .add .i64 x3.2.2.1 (A.lit 1)) fun x4=>
 A.ret _ (x3.1,x3.2.1,x4.1,x3.2.2.2.1,()))<|
 A.ret _ (x3.1,x3.2.1,x3.2.2.1,x3.2.2.2.1,())) fun x4=>
 A.l1 .i (A.arith .add .i64 x4.2.2.2.1 (A.lit 1)) fun x5=>
 A.inl _ (x4.1,x4.2.1,x4.2.2.1,x5.1,()))<|
 A.inr _<|A.l1 .i x3.2.2.1 fun x4=>
 A.ret _ (x4.1,())) (x.1,x.2.1,x1.1,x2.1,())
def QL (A:Alg) (xS:Pt A jX) (xU:Ft A jX) (Fb:Pt A mJ) (Fe:Ft A mJ) (aeu:Pt A El) (aev:Ft A El) (x:Tup A.ah [.l .ev,.i,.l .atom]):Ot A Em:=
 A.cl aeu aev (x.1,x.2.1,()) fun x0=>
 A.bind [.l .atom,.i,.i] (A.cond (A.cmp .eql x.2.1 (A.lit 6)) (A.l1 .i (A.lit 3) fun x1=>
 A.ret _ (x.2.2.1,x1.1,x0.1,()))<|
 A.ret _ (x.2.2.1,A.lit 2,x0.1,())) fun x1=>
 A.cl Fb Fe (A.mkX .atom (x1.2.1,x1.2.2.1,A.aR .mono,A.aR .mono,()),x1.1,()) fun x2=>
 A.l1 .i x2.1 fun x3=>
 A.cl xS xU (x3.1,()) fun x4=>
 A.ret _ (x2.2.1,x4.1,())
def QM (A:Alg) (fQ:Pt A dI) (fT:Ft A dI) (x:Tup A.ah [.l .poly]):Ot A mM:=
 A.l1 (.l .poly) (A.lst .poly []) fun x0=>
 A.l1 .i (A.lit 0) fun x1=>
 A.iter [.l .poly,.i,.l .poly] (fun x2=>
 A.cond (A.cmp .lss x2.2.1 (A.len .poly x2.1)) (A.bd .poly x2.1 x2.2.1<|
 A.cl fQ fT (A.fL .poly 0 .mono (A.get .poly x2.1 x2.2.1),()) fun x3=>
 A.l1 (.l .poly) (A.lst .poly [A.mkX .poly (x3.1,())]) fun x4=>
 A.chk (A.cmp .leq (A.addN (A.len .poly x2.2.2.1) (A.len .poly x4.1)) (A.lit 1073741824))<|
 A.l1 (.l .poly) (A.app .poly x2.2.2.1 x4.1) fun x5=>
 A.l1 .i (A.arith .add .i64 x2.2.1 (A.lit 1)) fun x6=>
 A.inl _ (x2.1,x6.1,x5.1,()))<|
 A.inr _<|A.ret _ (x2.2.2.1,())) (x.1,x1.1,x0.1,())
def QN (A:Alg) (fQ:Pt A dI) (fT:Ft A dI) (Ab:Pt A mM) (Ac:Ft A mM) (x:Tup A.ah [.x .iop,.x .poly,.x .poly,.l .poly]):Ot A En:=
 A.bind [.l .poly,.x .iop,.x .poly,.i,.i,.i,.i,.l .mono] (A.cond (A.cmp .neq (A.fI .iop 0 x.1) (A.lit 6)) (A.cl fQ fT (A.fL .poly 0 .mono x.2.1,()) fun x0=>
 A.ret _ (x.2.2.2.1,x.1,x.2.2.1,A.lit 0,A.lit 0,A.fI .iop 0 x.1,A.fI .iop 4 x.1,x0.1,()))<|
 A.ret _ (x.2.2.2.1,x.1,x.2.2.1,A.lit 0,A.lit 0,A.fI .iop 0 x.1,A.fI .iop 4 x.1,A.aR .mono,())) fun x0=>
 A.bind [.l .poly,.x .iop,.i,.i,.i,.i,.l .mono,.l .mono] (A.cond (A.cmp .eql (A.fI .iop 0 x0.2.1) (A.lit 5)) (A.cl fQ fT (A.fL .poly 0 .mono x0.2.2.1,()) fun x1=>
 A.ret _ (x0.1,x0.2.1,x0.2.2.2.1,x0.q.1,x0.q.2.1,x0.q.2.2.1,x0.q.2.2.2.1,x1.1,()))<|
 A.ret _ (x0.1,x0.2.1,x0.2.2.2.1,x0.q.1,x0.q.2.1,x0.q.2.2.1,x0.q.2.2.2.1,A.aR .mono,())) fun x1=>
 A.bind [.i,.i,.i,.i,.l .mono,.l .mono,.l .poly] (A.cond (A.ak (A.cmp .eql (A.fI .iop 0 x1.2.1) (A.lit 4)) (A.bl true) (A.cmp .eql (A.fI .iop 0 x1.2.1) (A.lit 5))) (A.cl Ab Ac (x1.1,()) fun x2=>
 A.ret _ (x1.2.2.1,x1.2.2.2.1,x1.q.1,x1.q.2.1,x1.q.2.2.1,x1.q.2.2.2.1,x2.1,()))<|
 A.ret _ (x1.2.2.1,x1.2.2.2.1,x1.q.1,x1.q.2.1,x1.q.2.2.1,x1.q.2.2.2.1,A.aR .poly,())) fun x2=>
 A.ret _ (x2.2.2.1,x2.2.2.2.1,x2.q.1,x2.q.2.1,x2.q.2.2.1,())
def QO (A:Alg) (x:Tup A.ah [.x .blk]):Ot A Eo:=
 A.l1 .i (A.lit 0) fun x0=>
 A.cond (A.cmp .eql (A.fI .blk 3 x.1) (A.lit 1)) (A.l1 .i (A.lit (-1)) fun x1=>
 A.ret _ (x1.1,()))<|
 A.l1 .i (A.fI .blk 4 x.1) fun x1=>
 A.ret _ (x1.1,())
def QS (A:Alg) (x:Tup A.ah [.x .blk]):Ot A Ep:=
 A.l1 .i (A.lit 0) fun x0=>
 A.cond (A.ak (A.cmp .eql (A.fI .blk 3 x.1) (A.lit 1)) (A.bl true) (A.cmp .eql (A.fI .blk 3 x.1) (A.lit 2))) (A.l1 .i (A.lit (-1)) fun x1=>
 A.ret _ (x1.1,()))<|
 A.l1 .i (A.fI .blk 5 x.1) fun x1=>
 A.ret _ (x1.1,())
def QT (A:Alg) (x:Tup A.ah [.x .sym,.i]):Ot A ug:=
 A.l1 .i (A.lit 1) fun x0=>
 A.l1 .i x.2.1 fun x1=>
 A.ret _ (A.fL .sym 0 .ev x.1,A.fL .sym 1 .poly x.1,x0.1,x1.1,())
def QU (A:Alg) (xV:Pt A mK) (xW:Ft A mK) (iO:Pt A fP) (iP:Ft A fP) (Jv:Pt A ug) (Jw:Ft A ug) (x:Tup A.ah [.x .sym,.i]):Ot A Er:=
 A.cl xV xW (A.mkX .poly (A.fL .sym 3 .mono x.1,()),()) fun x0=>
 A.l1 .i x0.1 fun x1=>
 A.l1 .b x0.2.1 fun x2=>
 A.cl xV xW (A.mkX .poly (A.fL .sym 4 .mono x.1,()),()) fun x3=>
 A.l1 .i x3.1 fun x4=>
 A.l1 .b x3.2.1 fun x5=>
 A.cl iO iP (A.mkX .poly (A.fL .sym 3 .mono x.1,()),A.mkX .poly (A.fL .sym 4 .mono x.1,()),()) fun x6=>
 A.l1 .b (A.cmp .eql x6.1 (A.lit 0)) fun x7=>
 A.l1 .b (A.ak x7.1 (A.cmp .eql (A.fI .sym 2 x.1) (A.lit 3)) (A.bl false)) fun x8=>
 A.bind [.i,.b,.b,.b,.b,.x .sym,.i,.i] (A.cond x8.1 (A.ret _ (x.2.1,x2.1,x5.1,x7.1,x8.1,x.1,A.lit 0,A.lit 0,()))<|
 A.l1 .b (A.ak (A.ak (A.ak x2.1 x5.1 (A.bl false)) (A.cmp .eql (A.fI .sym 2 x.1) (A.lit 4)) (A.bl false)) (A.cmp .lss x1.1 x4.1) (A.bl false)) fun x9=>
 A.ret _ (x.2.1,x2.1,x5.1,x7.1,x9.1,x.1,A.lit 0,A.lit 0,())) fun x9=>
 A.cond x9.q.1 (A.cl Jv Jw (x9.q.2.1,A.fI .sym 5 x9.q.2.1,()) fun x10=>
 A.ret _ (A.mkX .sym (x10.1,x10.2.1,x10.2.2.1,A.aR .mono,A.aR .mono,x10.2.2.2.1,()),()))<|
 A.l1 .b x9.2.2.2.1 fun x10=>
 A.bind [.i,.b,.x .sym,.i,.i] (A.cond x10.1 (A.ret _ (x9.1,x10.1,x9.q.2.1,x9.q.2.2.1,x9.q.2.2.2.1,()))<|
 A.l1 .b (A.ak x9.2.1 x9.2.2.1 (A.bl false)) fun x11=>
 A.ret _ (x9.1,x11.1,x9.q.2.1,x9.q.2.2.1,x9.q.2.2.2.1,())) fun x11=>
 A.cond x11.2.1 (A.cl Jv Jw (x11.2.2.1,x11.1,()) fun x12=>
 A.ret _ (A.mkX .sym (x12.1,x12.2.1,x12.2.2.1,A.aR .mono,A.aR .mono,x12.2.2.2.1,()),()))<|
 A.cg (A.cmp .eql (A.fI .sym 2 x11.2.2.1) (A.lit 3)) iO iP (A.mkX .poly (A.fL .sym 3 .mono x11.2.2.1,()),A.mkX .poly (A.fL .sym 4 .mono x11.2.2.1,()),()) fun x12=>
 A.bind [.x .sym,.i,.i] (A.cond (A.ak (A.cmp .eql (A.fI .sym 2 x11.2.2.1) (A.lit 3)) (A.cmp .gtr x12.1 (A.lit 0)) (A.bl false)) (A.ret _ (A.mkX .sym (A.fL .sym 0 .ev x11.2.2.1,A.fL .sym 1 .poly x11.2.2.1,A.fI .sym 2 x11.2.2.1,A.fL .sym 4 .mono x11.2.2.1,A.fL .sym 3 .mono x11.2.2.1,A.fI .sym 5 x11.2.2.1,()),x11.2.2.2.1,x11.q.1,()))<|
 A.ret _ (x11.2.2.1,x11.2.2.2.1,x11.q.1,())) fun x13=>
 A.l1 (.x .sym) x13.1 fun x14=>
 A.ret _ (x14.1,())
def QV (A:Alg) (xV:Pt A mK) (xW:Ft A mK) (jr:Pt A gT) (jv:Ft A gT) (fQ:Pt A dI) (fT:Ft A dI) (Jv:Pt A ug) (Jw:Ft A ug) (aew:Pt A Er) (aex:Ft A Er) (Ab:Pt A mM) (Ac:Ft A mM) (x:Tup A.ah [.x .sym,.i]):Ot A Es:=
 A.cl jr jv (A.mkX .poly (A.fL .sym 3 .mono x.1,()),()) fun x0=>
 A.cg (A.aA (A.aA x0.1)) jr jv (A.mkX .poly (A.fL .sym 4 .mono x.1,()),()) fun x1=>
 A.cond (A.ak (A.aA x0.1) (A.bl true) (A.aA x1.1)) (A.ret _ (A.mkX .sym (A.aR .ev,A.aR .poly,A.lit 0,A.aR .mono,A.aR .mono,A.lit 0,()),()))<|
 A.l1 (.x .sym) x.1 fun x2=>
 A.l1 (.l .ev) (A.lst .ev []) fun x3=>
 A.l1 .i (A.lit 0) fun x4=>
 A.iter [.i,.i,.x .sym,.i,.i,.l .poly,.i,.l .mono,.l .mono,.i,.l .ev] (fun x5=>
 A.cond (A.cmp .lss x5.2.1 (A.len .ev (A.fL .sym 0 .ev x5.2.2.1))) (A.bd .ev (A.fL .sym 0 .ev x5.2.2.1) x5.2.1<|
 A.l1 (.x .ev) (A.get .ev (A.fL .sym 0 .ev x5.2.2.1) x5.2.1) fun x6=>
 A.cl fQ fT (A.fL .ev 2 .mono x6.1,()) fun x7=>
 A.cl fQ fT (A.fL .ev 3 .mono x6.1,()) fun x8=>
 A.cl Ab Ac (A.fL .ev 4 .poly x6.1,()) fun x9=>
 A.l1 (.l .ev) (A.lst .ev [A.mkX .ev (A.fI .ev 0 x6.1,A.fI .ev 1 x6.1,x7.1,x8.1,x9.1,())]) fun x10=>
 A.chk (A.cmp .leq (A.addN (A.len .ev x5.o.2.2.1) (A.len .ev x10.1)) (A.lit 1073741824))<|
 A.l1 (.l .ev) (A.app .ev x5.o.2.2.1 x10.1) fun x11=>
 A.l1 .i (A.arith .add .i64 x5.2.1 (A.lit 1)) fun x12=>
 A.inl _ (x5.1,x12.1,x5.2.2.1,x5.2.2.2.1,x5.q.1,x5.q.2.1,x5.q.2.2.1,x5.q.2.2.2.1,x5.o.1,x5.o.2.1,x11.1,()))<|
 A.inr _<|A.cl Ab Ac (A.fL .sym 1 .poly x5.2.2.1,()) fun x6=>
 A.cl fQ fT (A.fL .sym 3 .mono x5.2.2.1,()) fun x7=>
 A.cl fQ fT (A.fL .sym 4 .mono x5.2.2.1,()) fun x8=>
 A.l1 .b (A.cmp .eql (A.fI .sym 2 x5.2.2.1) (A.lit 2)) fun x9=>
 A.rJ [.i,.i,.i,.i,.l .ev,.l .poly,.l .mono,.l .mono] (A.cond x9.1 (A.cl xV xW (A.mkX .poly (A.fL .sym 3 .mono x5.2.2.1,()),()) fun x10=>
 A.l1 .i x10.1 fun x11=>
 A.l1 .b x10.2.1 fun x12=>
 A.cond x12.1 (A.cl Jv Jw (A.mkX .sym (x5.o.2.2.1,x6.1,x5.q.2.2.1,x7.1,x8.1,x5.o.2.1,()),x11.1,()) fun x13=>
 A.inr _<|A.ret _ (A.mkX .sym (x13.1,x13.2.1,x13.2.2.1,A.aR .mono,A.aR .mono,x13.2.2.2.1,()),()))<|
 A.inl _ (x5.2.2.2.1,x5.q.1,x5.q.2.2.1,x5.o.2.1,x5.o.2.2.1,x6.1,x7.1,x8.1,()))<|
 A.l1 .b (A.cmp .eql (A.fI .sym 2 x5.2.2.1) (A.lit 3)) fun x10=>
 A.bind [.i,.b,.i,.i,.i,.i,.l .ev,.l .poly,.l .mono,.l .mono] (A.cond x10.1 (A.ret _ (x5.1,x10.1,x5.2.2.2.1,x5.q.1,x5.q.2.2.1,x5.o.2.1,x5.o.2.2.1,x6.1,x7.1,x8.1,()))<|
 A.l1 .b (A.cmp .eql (A.fI .sym 2 x5.2.2.1) (A.lit 4)) fun x11=>
 A.ret _ (x5.1,x11.1,x5.2.2.2.1,x5.q.1,x5.q.2.2.1,x5.o.2.1,x5.o.2.2.1,x6.1,x7.1,x8.1,())) fun x11=>
 A.cond x11.2.1 (A.cl aew aex (A.mkX .sym (x11.q.2.2.1,x11.q.2.2.2.1,x11.q.1,x11.o.1,x11.o.2.1,x11.q.2.1,()),x11.1,()) fun x12=>
 A.l1 (.x .sym) x12.1 fun x13=>
 A.inr _<|A.ret _ (x13.1,()))<|
 A.inl _ (x11.2.2.1,x11.2.2.2.1,x11.q.1,x11.q.2.1,x11.q.2.2.1,x11.q.2.2.2.1,x11.o.1,x11.o.2.1,())) fun x10=>
 A.ret _ (A.mkX .sym (x10.q.1,x10.q.2.1,x10.2.2.1,x10.q.2.2.1,x10.q.2.2.2.1,x10.2.2.2.1,()),())) (x.2.1,x4.1,x.1,A.lit 0,A.lit 0,A.fL .sym 1 .poly x2.1,A.fI .sym 2 x2.1,A.fL .sym 3 .mono x2.1,A.fL .sym 4 .mono x2.1,A.fI .sym 5 x2.1,x3.1,())
def QW (A:Alg) (Jy:Pt A tO) (Jz:Ft A tO) (xS:Pt A jX) (xU:Ft A jX) (QH:Pt A tY) (QI:Ft A tY) (aey:Pt A Es) (aez:Ft A Es) (QX:Pt A tQ) (QY:Ft A tQ) (aeA:Pt A D7) (aeB:Ft A D7) (fQ:Pt A dI) (fT:Ft A dI) (aeC:Pt A D8) (aeD:Ft A D8) (aeE:Pt A Ej) (aeF:Ft A Ej) (Fb:Pt A mJ) (Fe:Ft A mJ) (aeG:Pt A Em) (aeH:Ft A Em) (aeI:Pt A En) (aeJ:Ft A En) (JA:Pt A D9) (JB:Ft A D9) (Ab:Pt A mM) (Ac:Ft A mM) (aeK:Pt A Eo) (aeL:Ft A Eo) (aeM:Pt A Ep) (aeN:Ft A Ep) (x:Tup A.ah [.x .tab,.x .blk]):Ot A Eu:=
 A.cl aeA aeB (x.1,()) fun x0=>
 A.cg (A.aA (A.aA x0.1)) Jy Jz (x.2.1,()) fun x1=>
 A.cond (A.ak (A.ak (A.aA x0.1) (A.bl true) (A.aA x1.1)) (A.bl true) (A.cmp .gtr (A.len .atom (A.fL .tab 0 .atom x.1)) (A.lit 100))) (A.ret _ (A.mkX .tab (A.aR .atom,()),A.mkX .sym (A.aR .ev,A.aR .poly,A.lit 0,A.aR .mono,A.aR .mono,A.lit 0,()),()))<|
 A.cl aeC aeD (x.1,()) fun x2=>
 A.cl QX QY () fun x3=>
 A.l1 .i (A.lit 0) fun x4=>
 A.iter [.i,.x .blk,.i,.i,.i,.i,.l .poly,.l .atom] (fun x5=>
 A.cond (A.cmp .lss x5.1 (A.lit 4)) (A.cl Fb Fe (A.mkX .atom (A.lit 1,x5.1,A.aR .mono,A.aR .mono,()),x5.q.2.2.2.1,()) fun x6=>
 A.l1 .i x6.1 fun x7=>
 A.cl xS xU (x7.1,()) fun x8=>
 A.bd .poly x5.q.2.2.1 x5.1<|
 A.bd .poly x5.q.2.2.1 x5.1<|
 A.l1 .i (A.arith .add .i64 x5.1 (A.lit 1)) fun x9=>
 A.inl _ (x9.1,x5.2.1,x5.2.2.1,x5.2.2.2.1,x5.q.1,x5.q.2.1,A.set .poly x5.q.2.2.1 x5.1 (A.mkX .poly (x8.1,())),x6.2.1,()))<|
 A.inr _<|A.l1 (.l .poly) (A.lst .poly []) fun x6=>
 A.l1 .i (A.lit 0) fun x7=>
 A.iter [.i,.x .blk,.i,.i,.i,.i,.l .poly,.l .poly,.l .atom,.l .ev] (fun x8=>
 A.cond (A.cmp .lss x8.1 (A.len .iop (A.fL .blk 2 .iop x8.2.1))) (A.bd .iop (A.fL .blk 2 .iop x8.2.1) x8.1<|
 A.l1 (.x .iop) (A.get .iop (A.fL .blk 2 .iop x8.2.1) x8.1) fun x9=>
 A.cl JA JB (A.fI .iop 1 x9.1,x8.q.2.2.2.1,()) fun x10=>
 A.l1 (.x .poly) x10.1 fun x11=>
 A.cl JA JB (A.fI .iop 2 x9.1,x10.2.1,()) fun x12=>
 A.l1 (.x .poly) x12.1 fun x13=>
 A.l1 .b (A.cmp .eql (A.fI .iop 0 x9.1) (A.lit 1)) fun x14=>
 A.bind [.i,.x .blk,.i,.i,.i,.i,.l .poly,.l .poly,.x .poly,.l .atom,.l .ev] (A.cond x14.1 (A.cl QH QI (A.fI .iop 3 x9.1,()) fun x15=>
 A.ret _ (x8.1,x8.2.1,x8.2.2.1,x8.2.2.2.1,x8.q.1,x8.q.2.1,x8.q.2.2.1,x12.2.1,A.mkX .poly (x15.1,()),x8.o.1,x8.o.2.1,()))<|
 A.l1 .b (A.cmp .eql (A.fI .iop 0 x9.1) (A.lit 2)) fun x15=>
 A.bind [.i,.x .blk,.i,.i,.i,.i,.l .poly,.l .poly,.x .poly,.l .atom,.l .ev] (A.cond x15.1 (A.bd .poly x8.q.2.2.1 (A.fI .iop 3 x9.1)<|
 A.bd .poly x8.q.2.2.1 (A.fI .iop 3 x9.1)<|
 A.l1 (.x .poly) (A.get .poly x8.q.2.2.1 (A.fI .iop 3 x9.1)) fun x16=>
 A.ret _ (x8.1,x8.2.1,x8.2.2.1,x8.2.2.2.1,x8.q.1,x8.q.2.1,x8.q.2.2.1,x12.2.1,x16.1,x8.o.1,x8.o.2.1,()))<|
 A.l1 .b (A.cmp .eql (A.fI .iop 0 x9.1) (A.lit 8)) fun x16=>
 A.bind [.i,.x .blk,.i,.i,.i,.i,.l .poly,.l .poly,.l .atom,.l .ev,.l .mono] (A.cond x16.1 (A.bd .poly x8.q.2.2.1 (A.fI .iop 3 x9.1)<|
 A.bd .poly x8.q.2.2.1 (A.fI .iop 3 x9.1)<|
 A.l1 (.x .poly) x11.1 fun x17=>
 A.ret _ (x8.1,x8.2.1,x8.2.2.1,x8.2.2.2.1,x8.q.1,x8.q.2.1,A.set .poly x8.q.2.2.1 (A.fI .iop 3 x9.1) x17.1,x12.2.1,x8.o.1,x8.o.2.1,A.aR .mono,()))<|
 A.l1 .b (A.cmp .eql (A.fI .iop 0 x9.1) (A.lit 3)) fun x17=>
 A.bind [.i,.x .blk,.i,.i,.i,.i,.l .poly,.l .poly,.l .atom,.l .ev,.l .mono] (A.cond x17.1 (A.cl aeE aeF (A.fI .iop 3 x9.1,x11.1,x13.1,x8.o.1,()) fun x18=>
 A.ret _ (x8.1,x8.2.1,x8.2.2.1,x8.2.2.2.1,x8.q.1,x8.q.2.1,x8.q.2.2.1,x12.2.1,x18.1,x8.o.2.1,x18.2.1,()))<|
 A.bind [.i,.x .blk,.i,.i,.i,.i,.l .poly,.l .poly,.x .iop,.x .poly,.x .poly,.l .atom,.l .ev,.l .mono] (A.cond (A.ak (A.cmp .eql (A.fI .iop 0 x9.1) (A.lit 4)) (A.bl true) (A.cmp .eql (A.fI .iop 0 x9.1) (A.lit 6))) (A.cl aeG aeH (x8.o.2.1,A.fI .iop 0 x9.1,x8.o.1,()) fun x18=>
 A.ret _ (x8.1,x8.2.1,x8.2.2.1,x8.2.2.2.1,x8.q.1,x8.q.2.1,x8.q.2.2.1,x12.2.1,x9.1,x11.1,x13.1,x18.1,x8.o.2.1,x18.2.1,()))<|
 A.ret _ (x8.1,x8.2.1,x8.2.2.1,x8.2.2.2.1,x8.q.1,x8.q.2.1,x8.q.2.2.1,x12.2.1,x9.1,x11.1,x13.1,x8.o.1,x8.o.2.1,A.aR .mono,())) fun x18=>
 A.cl aeI aeJ (x18.o.1,x18.o.2.1,x18.o.2.2.1,x18.q.2.2.1,()) fun x19=>
 A.l1 (.l .ev) (A.lst .ev [A.mkX .ev (x19.1,x19.2.1,x19.2.2.1,x19.2.2.2.1,x19.q.1,())]) fun x20=>
 A.chk (A.cmp .leq (A.addN (A.len .ev x18.o.q.1) (A.len .ev x20.1)) (A.lit 1073741824))<|
 A.l1 (.l .ev) (A.app .ev x18.o.q.1 x20.1) fun x21=>
 A.ret _ (x18.1,x18.2.1,x18.2.2.1,x18.2.2.2.1,x18.q.1,x18.q.2.1,x18.q.2.2.1,x18.q.2.2.2.1,x18.o.2.2.2.1,x21.1,x18.o.q.2.1,())) fun x18=>
 A.ret _ (x18.1,x18.2.1,x18.2.2.1,x18.2.2.2.1,x18.q.1,x18.q.2.1,x18.q.2.2.1,x18.q.2.2.2.1,x18.o.1,x18.o.2.1,x18.o.2.2.1,())) fun x17=>
 A.ret _ (x17.1,x17.2.1,x17.2.2.1,x17.2.2.2.1,x17.q.1,x17.q.2.1,x17.q.2.2.1,x17.q.2.2.2.1,A.mkX .poly (x17.o.2.2.1,()),x17.o.1,x17.o.2.1,())) fun x16=>
 A.ret _ (x16.1,x16.2.1,x16.2.2.1,x16.2.2.2.1,x16.q.1,x16.q.2.1,x16.q.2.2.1,x16.q.2.2.2.1,x16.o.1,x16.o.2.1,x16.o.2.2.1,())) fun x15=>
 A.l1 (.l .poly) (A.lst .poly [x15.o.1]) fun x16=>
 A.chk (A.cmp .leq (A.addN (A.len .poly x15.q.2.2.2.1) (A.len .poly x16.1)) (A.lit 1073741824))<|
 A.l1 (.l .poly) (A.app .poly x15.q.2.2.2.1 x16.1) fun x17=>
 A.l1 .i (A.arith .add .i64 x15.1 (A.lit 1)) fun x18=>
 A.inl _ (x18.1,x15.2.1,x15.2.2.1,x15.2.2.2.1,x15.q.1,x15.q.2.1,x15.q.2.2.1,x17.1,x15.o.2.1,x15.o.2.2.1,()))<|
 A.inr _<|A.cl Ab Ac (x8.q.2.2.1,()) fun x9=>
 A.cl aeK aeL (x8.2.1,()) fun x10=>
 A.cl JA JB (x10.1,x8.q.2.2.2.1,()) fun x11=>
 A.cl fQ fT (A.fL .poly 0 .mono x11.1,()) fun x12=>
 A.cl aeM aeN (x8.2.1,()) fun x13=>
 A.cl JA JB (x13.1,x11.2.1,()) fun x14=>
 A.cl fQ fT (A.fL .poly 0 .mono x14.1,()) fun x15=>
 A.cl aey aez (A.mkX .sym (x8.o.2.1,x9.1,x8.q.1,x12.1,x15.1,x8.q.2.1,()),A.arith .add .i64 (A.fI .blk 0 x8.2.1) (A.fI .blk 1 x8.2.1),()) fun x16=>
 A.l1 (.x .sym) x16.1 fun x17=>
 A.ret _ (A.mkX .tab (x8.o.1,()),x17.1,())) (x7.1,x5.2.1,x5.2.2.1,x5.2.2.2.1,x5.q.1,x5.q.2.1,x5.q.2.2.1,x6.1,x5.q.2.2.2.1,A.aR .ev,())) (x4.1,x.2.1,A.lit 0,A.lit 0,A.fI .blk 3 x.2.1,A.fI .blk 6 x.2.1,x3.2.1,x2.1,())
def QZ (A:Alg) (iO:Pt A fP) (iP:Ft A fP) (x:Tup A.ah [.l .poly,.l .poly]):Ot A uh:=
 A.l1 .b (A.bl false) fun x0=>
 A.cond (A.cmp .neq (A.len .poly x.1) (A.len .poly x.2.1)) (A.rb (A.bl false))<|
 A.l1 .i (A.lit 0) fun x1=>
 A.iter [.l .poly,.l .poly,.i] (fun x2=>
 A.cond (A.cmp .lss x2.2.2.1 (A.len .poly x2.1)) (A.bd .poly x2.1 x2.2.2.1<|
 A.bd .poly x2.2.1 x2.2.2.1<|
 A.cl iO iP (A.get .poly x2.1 x2.2.2.1,A.get .poly x2.2.1 x2.2.2.1,()) fun x3=>
 A.cond (A.cmp .neq x3.1 (A.lit 0)) (A.l1 .b (A.bl false) fun x4=>
 A.inr _<|A.ret _ (x4.1,()))<|
 A.l1 .i (A.arith .add .i64 x2.2.2.1 (A.lit 1)) fun x4=>
 A.inl _ (x2.1,x2.2.1,x4.1,()))<|
 A.inr _<|A.rb (A.bl true)) (x.1,x.2.1,x1.1,())
def Q0 (A:Alg) (iO:Pt A fP) (iP:Ft A fP) (Q5:Pt A uh) (Q6:Ft A uh) (x:Tup A.ah [.x .ev,.x .ev]):Ot A Ew:=
 A.l1 .b (A.bl false) fun x0=>
 A.cg (A.ak (A.cmp .eql (A.fI .ev 0 x.1) (A.fI .ev 0 x.2.1)) (A.cmp .eql (A.fI .ev 1 x.1) (A.fI .ev 1 x.2.1)) (A.bl false)) iO iP (A.mkX .poly (A.fL .ev 2 .mono x.1,()),A.mkX .poly (A.fL .ev 2 .mono x.2.1,()),()) fun x1=>
 A.cg (A.ak (A.ak (A.cmp .eql (A.fI .ev 0 x.1) (A.fI .ev 0 x.2.1)) (A.cmp .eql (A.fI .ev 1 x.1) (A.fI .ev 1 x.2.1)) (A.bl false)) (A.cmp .eql x1.1 (A.lit 0)) (A.bl false)) iO iP (A.mkX .poly (A.fL .ev 3 .mono x.1,()),A.mkX .poly (A.fL .ev 3 .mono x.2.1,()),()) fun x2=>
 A.cg (A.ak (A.ak (A.ak (A.cmp .eql (A.fI .ev 0 x.1) (A.fI .ev 0 x.2.1)) (A.cmp .eql (A.fI .ev 1 x.1) (A.fI .ev 1 x.2.1)) (A.bl false)) (A.cmp .eql x1.1 (A.lit 0)) (A.bl false)) (A.cmp .eql x2.1 (A.lit 0)) (A.bl false)) Q5 Q6 (A.fL .ev 4 .poly x.1,A.fL .ev 4 .poly x.2.1,()) fun x3=>
 A.rb (A.ak (A.ak (A.ak (A.ak (A.cmp .eql (A.fI .ev 0 x.1) (A.fI .ev 0 x.2.1)) (A.cmp .eql (A.fI .ev 1 x.1) (A.fI .ev 1 x.2.1)) (A.bl false)) (A.cmp .eql x1.1 (A.lit 0)) (A.bl false)) (A.cmp .eql x2.1 (A.lit 0)) (A.bl false)) x3.1 (A.bl false))
def Q7 (A:Alg) (iO:Pt A fP) (iP:Ft A fP) (aeO:Pt A Ew) (aeP:Ft A Ew) (Q5:Pt A uh) (Q6:Ft A uh) (x:Tup A.ah [.x .sym,.x .sym]):Ot A Ey:=
 A.l1 .b (A.bl false) fun x0=>
 A.cg (A.aA (A.cmp .neq (A.len .ev (A.fL .sym 0 .ev x.1)) (A.len .ev (A.fL .sym 0 .ev x.2.1)))) Q5 Q6 (A.fL .sym 1 .poly x.1,A.fL .sym 1 .poly x.2.1,()) fun x1=>
 A.cg (A.aA (A.ak (A.ak (A.ak (A.cmp .neq (A.len .ev (A.fL .sym 0 .ev x.1)) (A.len .ev (A.fL .sym 0 .ev x.2.1))) (A.bl true) (A.aA x1.1)) (A.bl true) (A.cmp .neq (A.fI .sym 2 x.1) (A.fI .sym 2 x.2.1))) (A.bl true) (A.cmp .neq (A.fI .sym 5 x.1) (A.fI .sym 5 x.2.1)))) iO iP (A.mkX .poly (A.fL .sym 3 .mono x.1,()),A.mkX .poly (A.fL .sym 3 .mono x.2.1,()),()) fun x2=>
 A.cg (A.aA (A.ak (A.ak (A.ak (A.ak (A.cmp .neq (A.len .ev (A.fL .sym 0 .ev x.1)) (A.len .ev (A.fL .sym 0 .ev x.2.1))) (A.bl true) (A.aA x1.1)) (A.bl true) (A.cmp .neq (A.fI .sym 2 x.1) (A.fI .sym 2 x.2.1))) (A.bl true) (A.cmp .neq (A.fI .sym 5 x.1) (A.fI .sym 5 x.2.1))) (A.bl true) (A.cmp .neq x2.1 (A.lit 0)))) iO iP (A.mkX .poly (A.fL .sym 4 .mono x.1,()),A.mkX .poly (A.fL .sym 4 .mono x.2.1,()),()) fun x3=>
 A.cond (A.ak (A.ak (A.ak (A.ak (A.ak (A.cmp .neq (A.len .ev (A.fL .sym 0 .ev x.1)) (A.len .ev (A.fL .sym 0 .ev x.2.1))) (A.bl true) (A.aA x1.1)) (A.bl true) (A.cmp .neq (A.fI .sym 2 x.1) (A.fI .sym 2 x.2.1))) (A.bl true) (A.cmp .neq (A.fI .sym 5 x.1) (A.fI .sym 5 x.2.1))) (A.bl true) (A.cmp .neq x2.1 (A.lit 0))) (A.bl true) (A.cmp .neq x3.1 (A.lit 0))) (A.rb (A.bl false))<|
 A.l1 .i (A.lit 0) fun x4=>
 A.iter [.i,.x .sym,.x .sym] (fun x5=>
 A.cond (A.cmp .lss x5.1 (A.len .ev (A.fL .sym 0 .ev x5.2.1))) (A.bd .ev (A.fL .sym 0 .ev x5.2.1) x5.1<|
 A.bd .ev (A.fL .sym 0 .ev x5.2.2.1) x5.1<|
 A.cl aeO aeP (A.get .ev (A.fL .sym 0 .ev x5.2.1) x5.1,A.get .ev (A.fL .sym 0 .ev x5.2.2.1) x5.1,()) fun x6=>
 A.cond (A.aA x6.1) (A.l1 .b (A.bl false) fun x7=>
 A.inr _<|A.ret _ (x7.1,()))<|
 A.l1 .i (A.arith .add .i64 x5.1 (A.lit 1)) fun x7=>
 A.inl _ (x7.1,x5.2.1,x5.2.2.1,()))<|
 A.inr _<|A.rb (A.bl true)) (x4.1,x.1,x.2.1,())
def Q8 (A:Alg) (Jy:Pt A tO) (Jz:Ft A tO) (aeQ:Pt A DY) (aeR:Ft A DY) (QX:Pt A tQ) (QY:Ft A tQ) (Xc:Pt A Eu) (Xd:Ft A Eu) (aeS:Pt A Ey) (aeT:Ft A Ey) (x:Tup A.ah [.x .blk,.x .blk]):Ot A Ez:=
 A.l1 .b (A.bl false) fun x0=>
 A.cl Jy Jz (x.1,()) fun x1=>
 A.cg (A.aA (A.aA x1.1)) Jy Jz (x.2.1,()) fun x2=>
 A.cond (A.ak (A.ak (A.ak (A.aA x1.1) (A.bl true) (A.aA x2.1)) (A.bl true) (A.cmp .neq (A.fI .blk 0 x.1) (A.fI .blk 0 x.2.1))) (A.bl true) (A.cmp .neq (A.fI .blk 1 x.1) (A.fI .blk 1 x.2.1))) (A.rb (A.bl false))<|
 A.cl aeQ aeR (x.1,x.2.1,()) fun x3=>
 A.cond x3.1 (A.rb (A.bl true))<|
 A.cl QX QY () fun x4=>
 A.cl Xc Xd (A.mkX .tab (x4.1,()),x.1,()) fun x5=>
 A.l1 (.x .tab) x5.1 fun x6=>
 A.l1 (.x .sym) x5.2.1 fun x7=>
 A.cl Xc Xd (x6.1,x.2.1,()) fun x8=>
 A.l1 (.x .tab) x8.1 fun x9=>
 A.l1 (.x .sym) x8.2.1 fun x10=>
 A.cl aeS aeT (x7.1,x10.1,()) fun x11=>
 A.rb x11.1
def Xe (A:Alg) (x:Tup A.ah [.x .iop]):Ot A LU:=
 A.l1 .i (A.fI .iop 0 x.1) fun x0=>
 A.l1 .i (A.fI .iop 1 x.1) fun x1=>
 A.l1 .i (A.fI .iop 2 x.1) fun x2=>
 A.l1 .i (A.fI .iop 3 x.1) fun x3=>
 A.l1 .i (A.fI .iop 4 x.1) fun x4=>
 A.ret _ (x0.1,x1.1,x2.1,x3.1,x4.1,())
def Xf (A:Alg) (ako:Pt A LU) (akp:Ft A LU) (x:Tup A.ah [.l .iop]):Ot A LW:=
 A.chk (A.cmp .eql (A.len .iop x.1) (A.len .iop x.1))<|
 A.chk (A.cmp .leq (A.lit 0) (A.len .iop x.1))<|
 A.chk (A.cmp .leq (A.len .iop x.1) (A.lit 1073741824))<|
 A.l1 (.l .iop) (A.rep .iop (A.len .iop x.1) (A.mkX .iop (A.lit 0,A.lit 0,A.lit 0,A.lit 0,A.lit 0,()))) fun x0=>
 A.l1 .i (A.lit 0) fun x1=>
 A.iter [.l .iop,.i,.l .iop] (fun x2=>
 A.cond (A.cmp .lss x2.2.1 (A.len .iop x2.1)) (A.bd .iop x2.1 x2.2.1<|
 A.cl ako akp (A.get .iop x2.1 x2.2.1,()) fun x3=>
 A.bd .iop x2.2.2.1 x2.2.1<|
 A.bd .iop x2.2.2.1 x2.2.1<|
 A.l1 .i (A.arith .add .i64 x2.2.1 (A.lit 1)) fun x4=>
 A.inl _ (x2.1,x4.1,A.set .iop x2.2.2.1 x2.2.1 (A.mkX .iop (x3.1,x3.2.1,x3.2.2.1,x3.2.2.2.1,x3.q.1,())),()))<|
 A.inr _<|A.ret _ (x2.2.2.1,())) (x.1,x1.1,x0.1,())
def Xg (A:Alg) (akq:Pt A LW) (akr:Ft A LW) (x:Tup A.ah [.x .blk]):Ot A LY:=
 A.l1 .i (A.fI .blk 0 x.1) fun x0=>
 A.l1 .i (A.fI .blk 1 x.1) fun x1=>
 A.cl akq akr (A.fL .blk 2 .iop x.1,()) fun x2=>
 A.l1 .i (A.fI .blk 3 x.1) fun x3=>
 A.l1 .i (A.fI .blk 4 x.1) fun x4=>
 A.l1 .i (A.fI .blk 5 x.1) fun x5=>
 A.l1 .i (A.fI .blk 6 x.1) fun x6=>
 A.ret _ (x0.1,x1.1,x3.1,x4.1,x5.1,x6.1,x2.1,())
def Xh (A:Alg) (x:Tup A.ah [.i,.i,.i]):Ot A bY:=
 A.l1 .b (A.bl false) fun x0=>
 A.rb (A.ak (A.cmp .leq x.2.1 x.1) (A.cmp .leq x.1 x.2.2.1) (A.bl false))
def Xi (A:Alg) (gG:Pt A bY) (gH:Ft A bY) (x:Tup A.ah [.x .iop]):Ot A A8:=
 A.l1 .b (A.bl false) fun x0=>
 A.l1 .b (A.bl false) fun x1=>
 A.l1 .b (A.bl false) fun x2=>
 A.l1 .b (A.bl false) fun x3=>
 A.l1 .b (A.ak (A.ak (A.cmp .neq (A.fI .iop 0 x.1) (A.lit 1)) (A.cmp .neq (A.fI .iop 0 x.1) (A.lit 2)) (A.bl false)) (A.cmp .neq (A.fI .iop 0 x.1) (A.lit 6)) (A.bl false)) fun x4=>
 A.l1 .b (A.ak (A.cmp .eql (A.fI .iop 0 x.1) (A.lit 3)) (A.bl true) (A.cmp .eql (A.fI .iop 0 x.1) (A.lit 5))) fun x5=>
 A.l1 .b (A.ak (A.ak (A.ak (A.cmp .eql (A.fI .iop 0 x.1) (A.lit 1)) (A.bl true) (A.cmp .eql (A.fI .iop 0 x.1) (A.lit 2))) (A.bl true) (A.cmp .eql (A.fI .iop 0 x.1) (A.lit 3))) (A.bl true) (A.cmp .eql (A.fI .iop 0 x.1) (A.lit 8))) fun x6=>
 A.cl gG gH (A.fI .iop 0 x.1,A.lit 4,A.lit 7,()) fun x7=>
 A.l1 .b x7.1 fun x8=>
 A.l1 .b x4.1 fun x9=>
 A.l1 .b x5.1 fun x10=>
 A.l1 .b x6.1 fun x11=>
 A.l1 .b x8.1 fun x12=>
 A.ret _ (x9.1,x10.1,x11.1,x12.1,())
def Xj (A:Alg) (gG:Pt A bY) (gH:Ft A bY) (x:Tup A.ah [.i]):Ot A kR:=
 A.l1 .b (A.bl false) fun x0=>
 A.cl gG gH (x.1,A.lit 0,A.lit 65535,()) fun x1=>
 A.rb x1.1
def Xk (A:Alg) (gG:Pt A bY) (gH:Ft A bY) (x:Tup A.ah [.i]):Ot A A9:=
 A.l1 .b (A.bl false) fun x0=>
 A.cl gG gH (x.1,A.lit 0,A.lit 3,()) fun x1=>
 A.rb x1.1
def Xl (A:Alg) (gG:Pt A bY) (gH:Ft A bY) (x:Tup A.ah [.i]):Ot A Ba:=
 A.l1 .b (A.bl false) fun x0=>
 A.cl gG gH (x.1,A.lit 1,A.lit 5,()) fun x1=>
 A.rb x1.1
def Xm (A:Alg) (gG:Pt A bY) (gH:Ft A bY) (x:Tup A.ah [.x .iop]):Ot A LZ:=
 A.l1 .b (A.bl false) fun x0=>
 A.cl gG gH (A.fI .iop 0 x.1,A.lit 1,A.lit 4,()) fun x1=>
 A.rb (A.ak x1.1 (A.bl true) (A.cmp .eql (A.fI .iop 0 x.1) (A.lit 6)))
def Xn (A:Alg) (aks:Pt A LZ) (akt:Ft A LZ) (gG:Pt A bY) (gH:Ft A bY) (x:Tup A.ah [.x .blk,.i,.i]):Ot A Bb:=
 A.l1 .b (A.bl false) fun x0=>
 A.cl gG gH (x.2.1,A.lit 0,A.arith .sub .i64 x.2.2.1 (A.lit 1),()) fun x1=>
 A.chk (A.orB (A.aA x1.1) (A.cmp .leq (A.lit 0) x.2.1))<|
 A.chk (A.orB (A.aA x1.1) (A.cmp .lss x.2.1 (A.len .iop (A.fL .blk 2 .iop x.1))))<|
 A.cg x1.1 aks akt (A.get .iop (A.fL .blk 2 .iop x.1) x.2.1,()) fun x2=>
 A.rb (A.ak x1.1 x2.1 (A.bl false))
def Xo (A:Alg) (MZ:Pt A Bb) (M0:Ft A Bb) (Xp:Pt A A8) (Xq:Ft A A8) (uz:Pt A kR) (uD:Ft A kR) (gG:Pt A bY) (gH:Ft A bY) (Xr:Pt A Ba) (Xt:Ft A Ba) (TL:Pt A A9) (TM:Ft A A9) (x:Tup A.ah [.x .blk,.i]):Ot A L6:=
 A.l1 .b (A.bl false) fun x0=>
 A.bd .iop (A.fL .blk 2 .iop x.1) x.2.1<|
 A.l1 (.x .iop) (A.get .iop (A.fL .blk 2 .iop x.1) x.2.1) fun x1=>
 A.cl gG gH (A.fI .iop 0 x1.1,A.lit 1,A.lit 8,()) fun x2=>
 A.cond (A.aA x2.1) (A.rb (A.bl false))<|
 A.cl Xp Xq (x1.1,()) fun x3=>
 A.l1 .b x3.1 fun x4=>
 A.l1 .b x3.2.1 fun x5=>
 A.l1 .b x3.2.2.1 fun x6=>
 A.l1 .b x3.2.2.2.1 fun x7=>
 A.cl uz uD (A.fI .iop 3 x1.1,()) fun x8=>
 A.cl TL TM (A.fI .iop 3 x1.1,()) fun x9=>
 A.cl Xr Xt (A.fI .iop 3 x1.1,()) fun x10=>
 A.cl TL TM (A.fI .iop 3 x1.1,()) fun x11=>
 A.l1 .b (A.ak (A.cmp .eql (A.fI .iop 0 x1.1) (A.lit 1)) x8.1 (A.ak (A.cmp .eql (A.fI .iop 0 x1.1) (A.lit 2)) x9.1 (A.ak (A.cmp .eql (A.fI .iop 0 x1.1) (A.lit 3)) x10.1 (A.ak (A.cmp .eql (A.fI .iop 0 x1.1) (A.lit 8)) x11.1 (A.bl false))))) fun x12=>
 A.cg x4.1 MZ M0 (x.1,A.fI .iop 1 x1.1,x.2.1,()) fun x13=>
 A.cg (A.nA (A.ak (A.ak x4.1 x13.1 (A.bl false)) (A.bl true) (A.ak (A.aA x4.1) (A.cmp .eql (A.fI .iop 1 x1.1) (A.lit 0)) (A.bl false))) x5.1) MZ M0 (x.1,A.fI .iop 2 x1.1,x.2.1,()) fun x14=>
 A.cg (A.nA (A.ak (A.ak (A.ak (A.ak x4.1 x13.1 (A.bl false)) (A.bl true) (A.ak (A.aA x4.1) (A.cmp .eql (A.fI .iop 1 x1.1) (A.lit 0)) (A.bl false))) (A.ak (A.ak x5.1 x14.1 (A.bl false)) (A.bl true) (A.ak (A.aA x5.1) (A.cmp .eql (A.fI .iop 2 x1.1) (A.lit 0)) (A.bl false))) (A.bl false)) (A.ak (A.ak x6.1 x12.1 (A.bl false)) (A.bl true) (A.ak (A.aA x6.1) (A.cmp .eql (A.fI .iop 3 x1.1) (A.lit 0)) (A.bl false))) (A.bl false)) x7.1) gG gH (A.fI .iop 4 x1.1,A.lit 0,A.arith .sub .i64 (A.fI .blk 1 x.1) (A.lit 1),()) fun x15=>
 A.rb (A.ak (A.ak (A.ak (A.ak (A.ak x4.1 x13.1 (A.bl false)) (A.bl true) (A.ak (A.aA x4.1) (A.cmp .eql (A.fI .iop 1 x1.1) (A.lit 0)) (A.bl false))) (A.ak (A.ak x5.1 x14.1 (A.bl false)) (A.bl true) (A.ak (A.aA x5.1) (A.cmp .eql (A.fI .iop 2 x1.1) (A.lit 0)) (A.bl false))) (A.bl false)) (A.ak (A.ak x6.1 x12.1 (A.bl false)) (A.bl true) (A.ak (A.aA x6.1) (A.cmp .eql (A.fI .iop 3 x1.1) (A.lit 0)) (A.bl false))) (A.bl false)) (A.ak (A.ak x7.1 x15.1 (A.bl false)) (A.bl true) (A.ak (A.aA x7.1) (A.cmp .eql (A.fI .iop 4 x1.1) (A.lit 0)) (A.bl false))) (A.bl false))
def Xu (A:Alg) (x:Tup A.ah [.x .blk]):Ot A Bc:=
 A.l1 .b (A.bl false) fun x0=>
 A.l1 .b (A.bl false) fun x1=>
 A.l1 .b (A.bl false) fun x2=>
 A.l1 .b (A.cmp .neq (A.fI .blk 3 x.1) (A.lit 1)) fun x3=>
 A.l1 .b (A.cmp .geq (A.fI .blk 3 x.1) (A.lit 3)) fun x4=>
 A.l1 .b (A.cmp .neq (A.fI .blk 3 x.1) (A.lit 2)) fun x5=>
 A.ret _ (x3.1,x4.1,x5.1,())
def Xv (A:Alg) (Xw:Pt A Bc) (Xx:Ft A Bc) (MZ:Pt A Bb) (M0:Ft A Bb) (uz:Pt A kR) (uD:Ft A kR) (gG:Pt A bY) (gH:Ft A bY) (x:Tup A.ah [.x .blk]):Ot A L8:=
 A.l1 .b (A.bl false) fun x0=>
 A.cl Xw Xx (x.1,()) fun x1=>
 A.l1 .b x1.1 fun x2=>
 A.l1 .b x1.2.1 fun x3=>
 A.l1 .b x1.2.2.1 fun x4=>
 A.cl gG gH (A.fI .blk 3 x.1,A.lit 1,A.lit 4,()) fun x5=>
 A.cg (A.nA x5.1 x2.1) MZ M0 (x.1,A.fI .blk 4 x.1,A.len .iop (A.fL .blk 2 .iop x.1),()) fun x6=>
 A.cg (A.nA (A.ak x5.1 (A.ak (A.ak x2.1 x6.1 (A.bl false)) (A.bl true) (A.ak (A.aA x2.1) (A.cmp .eql (A.fI .blk 4 x.1) (A.lit 0)) (A.bl false))) (A.bl false)) x3.1) MZ M0 (x.1,A.fI .blk 5 x.1,A.len .iop (A.fL .blk 2 .iop x.1),()) fun x7=>
 A.cg (A.nA (A.ak (A.ak x5.1 (A.ak (A.ak x2.1 x6.1 (A.bl false)) (A.bl true) (A.ak (A.aA x2.1) (A.cmp .eql (A.fI .blk 4 x.1) (A.lit 0)) (A.bl false))) (A.bl false)) (A.ak (A.ak x3.1 x7.1 (A.bl false)) (A.bl true) (A.ak (A.aA x3.1) (A.cmp .eql (A.fI .blk 5 x.1) (A.lit 0)) (A.bl false))) (A.bl false)) x4.1) uz uD (A.fI .blk 6 x.1,()) fun x8=>
 A.rb (A.ak (A.ak (A.ak x5.1 (A.ak (A.ak x2.1 x6.1 (A.bl false)) (A.bl true) (A.ak (A.aA x2.1) (A.cmp .eql (A.fI .blk 4 x.1) (A.lit 0)) (A.bl false))) (A.bl false)) (A.ak (A.ak x3.1 x7.1 (A.bl false)) (A.bl true) (A.ak (A.aA x3.1) (A.cmp .eql (A.fI .blk 5 x.1) (A.lit 0)) (A.bl false))) (A.bl false)) (A.ak (A.ak x4.1 x8.1 (A.bl false)) (A.bl true) (A.ak (A.aA x4.1) (A.cmp .eql (A.fI .blk 6 x.1) (A.lit 0)) (A.bl false))) (A.bl false))
def Xy (A:Alg) (aku:Pt A L8) (akv:Ft A L8) (akw:Pt A L6) (akx:Ft A L6) (gG:Pt A bY) (gH:Ft A bY) (x:Tup A.ah [.x .blk]):Ot A Bd:=
 A.l1 .b (A.bl false) fun x0=>
 A.cl gG gH (A.fI .blk 1 x.1,A.lit 1,A.lit 8,()) fun x1=>
 A.cg (A.aA (A.aA x1.1)) gG gH (A.fI .blk 0 x.1,A.lit 0,A.arith .sub .i64 (A.lit 64) (A.fI .blk 1 x.1),()) fun x2=>
 A.cond (A.ak (A.ak (A.aA x1.1) (A.bl true) (A.aA x2.1)) (A.bl true) (A.cmp .gtr (A.len .iop (A.fL .blk 2 .iop x.1)) (A.lit 48))) (A.rb (A.bl false))<|
 A.iter [.i,.i,.x .blk] (fun x3=>
 A.cond (A.cmp .lss x3.2.1 x3.1) (A.l1 .i x3.2.1 fun x4=>
 A.cl akw akx (x3.2.2.1,x4.1,()) fun x5=>
 A.cond (A.aA x5.1) (A.l1 .b (A.bl false) fun x6=>
 A.inr _<|A.ret _ (x6.1,()))<|
 A.inl _ (x3.1,A.arith .add .i64 x3.2.1 (A.lit 1),x3.2.2.1,()))<|
 A.inr _<|A.cl aku akv (x3.2.2.1,()) fun x4=>
 A.rb x4.1) (A.len .iop (A.fL .blk 2 .iop x.1),A.lit 0,x.1,())
def Xz (A:Alg) (x:Tup A.ah [.l .iop,.l .iop]):Ot A L9:=
 A.l1 .b (A.bl false) fun x0=>
 A.cond (A.cmp .neq (A.len .iop x.1) (A.len .iop x.2.1)) (A.rb (A.bl false))<|
 A.iter [.l .iop,.l .iop,.i,.i] (fun x1=>
 A.cond (A.cmp .lss x1.2.2.2.1 x1.2.2.1) (A.l1 .i x1.2.2.2.1 fun x2=>
 A.bd .iop x1.1 x2.1<|
 A.bd .iop x1.2.1 x2.1<|
 A.cond (A.aA (A.eqX .iop (A.get .iop x1.1 x2.1) (A.get .iop x1.2.1 x2.1))) (A.l1 .b (A.bl false) fun x3=>
 A.inr _<|A.ret _ (x3.1,()))<|
 A.inl _ (x1.1,x1.2.1,x1.2.2.1,A.arith .add .i64 x1.2.2.2.1 (A.lit 1),()))<|
 A.inr _<|A.rb (A.bl true)) (x.1,x.2.1,A.len .iop x.1,A.lit 0,())
def XA (A:Alg) (aky:Pt A L9) (akz:Ft A L9) (x:Tup A.ah [.x .blk,.x .blk]):Ot A Ma:=
 A.l1 .b (A.bl false) fun x0=>
 A.cg (A.ak (A.ak (A.ak (A.ak (A.ak (A.cmp .eql (A.fI .blk 0 x.1) (A.fI .blk 0 x.2.1)) (A.cmp .eql (A.fI .blk 1 x.1) (A.fI .blk 1 x.2.1)) (A.bl false)) (A.cmp .eql (A.fI .blk 3 x.1) (A.fI .blk 3 x.2.1)) (A.bl false)) (A.cmp .eql (A.fI .blk 4 x.1) (A.fI .blk 4 x.2.1)) (A.bl false)) (A.cmp .eql (A.fI .blk 5 x.1) (A.fI .blk 5 x.2.1)) (A.bl false)) (A.cmp .eql (A.fI .blk 6 x.1) (A.fI .blk 6 x.2.1)) (A.bl false)) aky akz (A.fL .blk 2 .iop x.1,A.fL .blk 2 .iop x.2.1,()) fun x1=>
 A.rb (A.ak (A.ak (A.ak (A.ak (A.ak (A.ak (A.cmp .eql (A.fI .blk 0 x.1) (A.fI .blk 0 x.2.1)) (A.cmp .eql (A.fI .blk 1 x.1) (A.fI .blk 1 x.2.1)) (A.bl false)) (A.cmp .eql (A.fI .blk 3 x.1) (A.fI .blk 3 x.2.1)) (A.bl false)) (A.cmp .eql (A.fI .blk 4 x.1) (A.fI .blk 4 x.2.1)) (A.bl false)) (A.cmp .eql (A.fI .blk 5 x.1) (A.fI .blk 5 x.2.1)) (A.bl false)) (A.cmp .eql (A.fI .blk 6 x.1) (A.fI .blk 6 x.2.1)) (A.bl false)) x1.1 (A.bl false))
def XB (A:Alg) (x:Tup A.ah [.i,.i]):Ot A Mc:=
 A.l1 .b (A.bl false) fun x0=>
 A.l1 .b (A.cmp .geq x.1 x.2.1) fun x1=>
 A.ret _ (x1.1,x.2.1,())
def Q9 (A:Alg) (akA:Pt A Mc) (akB:Ft A Mc) (x:Tup A.ah [.l .i64,.i]):Ot A EA:=
 A.l1 .i (A.lit 0) fun x0=>
 A.iter [.l .i64,.i,.i,.i] (fun x1=>
 A.cond (A.cmp .lss x1.2.2.1 x1.2.1) (A.l1 .i x1.2.2.1 fun x2=>
 A.bd .i64 x1.1 x2.1<|
 A.cl akA akB (A.fI .i64 0 (A.get .i64 x1.1 x2.1),x1.2.2.2.1,()) fun x3=>
 A.cond x3.1 (A.l1 .i x2.1 fun x4=>
 A.inr _<|A.ret _ (x4.1,x3.2.1,()))<|
 A.inl _ (x1.1,x1.2.1,A.arith .add .i64 x1.2.2.1 (A.lit 1),x3.2.1,()))<|
 A.inr _<|A.l1 .i (A.lit (-1)) fun x2=>
 A.ret _ (x2.1,x1.2.2.2.1,())) (x.1,A.len .i64 x.1,A.lit 0,x.2.1,())
def XC (A:Alg) (aeU:Pt A EA) (aeV:Ft A EA) (x:Tup A.ah [.l .i64,.i]):Ot A Md:=
 A.l1 .b (A.bl false) fun x0=>
 A.cl aeU aeV (x.1,x.2.1,()) fun x1=>
 A.l1 .b (A.cmp .geq x1.1 (A.lit 0)) fun x2=>
 A.ret _ (x2.1,x1.2.1,())
def XD (A:Alg) (akC:Pt A Md) (akD:Ft A Md) (x:Tup A.ah [.x .poly,.i]):Ot A Bf:=
 A.l1 .b (A.bl false) fun x0=>
 A.iter [.l .mono,.i,.i,.i] (fun x1=>
 A.cond (A.cmp .lss x1.2.2.1 x1.2.1) (A.bd .mono x1.1 x1.2.2.1<|
 A.l1 (.x .mono) (A.get .mono x1.1 x1.2.2.1) fun x2=>
 A.cl akC akD (A.fL .mono 1 .i64 x2.1,x1.2.2.2.1,()) fun x3=>
 A.cond x3.1 (A.l1 .b (A.bl false) fun x4=>
 A.inr _<|A.ret _ (x4.1,()))<|
 A.inl _ (x1.1,x1.2.1,A.arith .add .i64 x1.2.2.1 (A.lit 1),x3.2.1,()))<|
 A.inr _<|A.rb (A.bl true)) (A.fL .poly 0 .mono x.1,A.len .mono (A.fL .poly 0 .mono x.1),A.lit 0,x.2.1,())
def aeW (A:Alg) (x:Tup A.ah [.i]):Ot A Me:=
 A.l1 .b (A.bl false) fun x0=>
 A.rb (A.cmp .neq x.1 x.1)
def aeX (A:Alg) (XE:Pt A Me) (XF:Ft A Me) (x:Tup A.ah [.i,.i]):Ot A EB:=
 A.l1 .i (A.lit 0) fun x0=>
 A.cl XE XF (x.1,()) fun x1=>
 A.l1 .b x1.1 fun x2=>
 A.cl XE XF (x.2.1,()) fun x3=>
 A.l1 .b x3.1 fun x4=>
 A.cond x2.1 (A.cond x4.1 (A.l1 .i (A.lit 0) fun x5=>
 A.ret _ (x5.1,()))<|
 A.l1 .i (A.lit (-1)) fun x5=>
 A.ret _ (x5.1,()))<|
 A.cond x4.1 (A.l1 .i (A.lit 1) fun x5=>
 A.ret _ (x5.1,()))<|
 A.cond (A.cmp .lss x.1 x.2.1) (A.l1 .i (A.lit (-1)) fun x5=>
 A.ret _ (x5.1,()))<|
 A.cond (A.cmp .gtr x.1 x.2.1) (A.l1 .i (A.lit 1) fun x5=>
 A.ret _ (x5.1,()))<|
 A.l1 .i (A.lit 0) fun x5=>
 A.ret _ (x5.1,())
def aeY (A:Alg) (x:Tup A.ah [.l .i64]):Ot A Mf:=
 A.l1 .i (A.lit 0) fun x0=>
 A.l1 .i (A.lit 0) fun x1=>
 A.iter [.i,.l .i64,.i,.i] (fun x2=>
 A.cond (A.cmp .lss x2.2.2.2.1 x2.2.2.1) (A.bd .i64 x2.2.1 x2.2.2.2.1<|
 A.l1 .i (A.fI .i64 0 (A.get .i64 x2.2.1 x2.2.2.2.1)) fun x3=>
 A.cond (A.cmp .neq x3.1 x2.1) (A.l1 .i x3.1 fun x4=>
 A.inr _<|A.ret _ (x4.1,()))<|
 A.inl _ (x2.1,x2.2.1,x2.2.2.1,A.arith .add .i64 x2.2.2.2.1 (A.lit 1),()))<|
 A.inr _<|A.l1 .i x2.1 fun x3=>
 A.ret _ (x3.1,())) (x1.1,x.1,A.len .i64 x.1,A.lit 0,())
def XG (A:Alg) (Vt:Pt A EB) (Vu:Ft A EB) (x:Tup A.ah [.l .i64,.l .i64]):Ot A Mg:=
 A.l1 .i (A.lit 0) fun x0=>
 A.iter [.l .i64,.l .i64,.l .i64,.i,.i] (fun x1=>
 A.cond (A.cmp .lss x1.q.1 x1.2.2.2.1) (A.bd .i64 x1.2.2.1 x1.q.1<|
 A.l1 .i x1.q.1 fun x2=>
 A.l1 .i (A.fI .i64 0 (A.get .i64 x1.2.2.1 x1.q.1)) fun x3=>
 A.cond (A.cmp .geq x2.1 (A.len .i64 x1.2.1)) (A.l1 .i (A.lit 1) fun x4=>
 A.inr _<|A.ret _ (x4.1,()))<|
 A.bd .i64 x1.2.1 x2.1<|
 A.l1 .i (A.fI .i64 0 (A.get .i64 x1.2.1 x2.1)) fun x4=>
 A.cl Vt Vu (x3.1,x4.1,()) fun x5=>
 A.l1 .i x5.1 fun x6=>
 A.cond (A.cmp .neq x6.1 (A.lit 0)) (A.l1 .i x6.1 fun x7=>
 A.inr _<|A.ret _ (x7.1,()))<|
 A.inl _ (x1.1,x1.2.1,x1.2.2.1,x1.2.2.2.1,A.arith .add .i64 x1.q.1 (A.lit 1),()))<|
 A.inr _<|A.cond (A.cmp .lss (A.len .i64 x1.1) (A.len .i64 x1.2.1)) (A.l1 .i (A.lit (-1)) fun x2=>
 A.ret _ (x2.1,()))<|
 A.l1 .i (A.lit 0) fun x2=>
 A.ret _ (x2.1,())) (x.1,x.2.1,x.1,A.len .i64 x.1,A.lit 0,())
def XH (A:Alg) (aeZ:Pt A Mf) (ae0:Ft A Mf) (Vt:Pt A EB) (Vu:Ft A EB) (akE:Pt A Mg) (akF:Ft A Mg) (x:Tup A.ah [.l .i64,.l .i64]):Ot A nO:=
 A.l1 .i (A.lit 0) fun x0=>
 A.cl Vt Vu (A.len .i64 x.1,A.len .i64 x.2.1,()) fun x1=>
 A.cl akE akF (x.1,x.2.1,()) fun x2=>
 A.l1 (.l .i64) (A.lst .i64 [A.mkX .i64 (x1.1,()),A.mkX .i64 (x2.1,())]) fun x3=>
 A.cl aeZ ae0 (x3.1,()) fun x4=>
 A.l1 .i x4.1 fun x5=>
 A.ret _ (x5.1,())
def ae1 (A:Alg) (XE:Pt A Me) (XF:Ft A Me) (x:Tup A.ah [.i,.i]):Ot A EC:=
 A.l1 .b (A.bl false) fun x0=>
 A.cl XE XF (x.1,()) fun x1=>
 A.cg x1.1 XE XF (x.2.1,()) fun x2=>
 A.rb (A.ak (A.ak x1.1 (A.aA x2.1) (A.bl false)) (A.bl true) (A.cmp .lss x.1 x.2.1))
def Ra (A:Alg) (XI:Pt A EC) (XJ:Ft A EC) (x:Tup A.ah [.l .i64]):Ot A ED:=
 A.l1 .b (A.bl false) fun x0=>
 A.l1 .i (A.arith .sub .i64 (A.len .i64 x.1) (A.lit 1)) fun x1=>
 A.iter [.l .i64,.i] (fun x2=>
 A.cond (A.cmp .gtr x2.2.1 (A.lit 0)) (A.bd .i64 x2.1 x2.2.1<|
 A.bd .i64 x2.1 (A.arith .sub .i64 x2.2.1 (A.lit 1))<|
 A.cl XI XJ (A.fI .i64 0 (A.get .i64 x2.1 x2.2.1),A.fI .i64 0 (A.get .i64 x2.1 (A.arith .sub .i64 x2.2.1 (A.lit 1))),()) fun x3=>
 A.cond x3.1 (A.l1 .b (A.bl false) fun x4=>
 A.inr _<|A.ret _ (x4.1,()))<|
 A.l1 .i (A.arith .sub .i64 x2.2.1 (A.lit 1)) fun x4=>
 A.inl _ (x2.1,x4.1,()))<|
 A.inr _<|A.rb (A.bl true)) (x.1,x1.1,())
def XK (A:Alg) (x:Tup A.ah [.x .mono]):Ot A Mh:=
 A.l1 .b (A.bl false) fun x0=>
 A.chk (A.orB (A.aA (A.cmp .gtr (A.len .i64 (A.fL .mono 1 .i64 x.1)) (A.lit 0))) (A.cmp .leq (A.lit 0) (A.lit 0)))<|
 A.chk (A.orB (A.aA (A.cmp .gtr (A.len .i64 (A.fL .mono 1 .i64 x.1)) (A.lit 0))) (A.cmp .lss (A.lit 0) (A.len .i64 (A.fL .mono 1 .i64 x.1))))<|
 A.rb (A.ak (A.cmp .gtr (A.len .i64 (A.fL .mono 1 .i64 x.1)) (A.lit 0)) (A.cmp .lss (A.fI .i64 0 (A.get .i64 (A.fL .mono 1 .i64 x.1) (A.lit 0))) (A.lit 0)) (A.bl false))
def Rb (A:Alg) (akG:Pt A Mh) (akH:Ft A Mh) (x:Tup A.ah [.l .mono]):Ot A EF:=
 A.l1 .i (A.lit 0) fun x0=>
 A.iter [.l .mono,.i,.i] (fun x1=>
 A.cond (A.cmp .lss x1.2.2.1 x1.2.1) (A.l1 .i x1.2.2.1 fun x2=>
 A.bd .mono x1.1 x2.1<|
 A.cl akG akH (A.get .mono x1.1 x2.1,()) fun x3=>
 A.cond x3.1 (A.l1 .i x2.1 fun x4=>
 A.inr _<|A.ret _ (x4.1,()))<|
 A.inl _ (x1.1,x1.2.1,A.arith .add .i64 x1.2.2.1 (A.lit 1),()))<|
 A.inr _<|A.l1 .i (A.lit (-1)) fun x2=>
 A.ret _ (x2.1,())) (x.1,A.len .mono x.1,A.lit 0,())
def XL (A:Alg) (ae2:Pt A EF) (ae3:Ft A EF) (x:Tup A.ah [.l .mono]):Ot A Mi:=
 A.l1 .b (A.bl false) fun x0=>
 A.cl ae2 ae3 (x.1,()) fun x1=>
 A.rb (A.cmp .geq x1.1 (A.lit 0))
def XM (A:Alg) (gG:Pt A bY) (gH:Ft A bY) (TN:Pt A Bf) (TP:Ft A Bf) (ae4:Pt A ED) (ae5:Ft A ED) (Fg:Pt A nO) (Fh:Ft A nO) (akI:Pt A Mi) (akJ:Ft A Mi) (x:Tup A.ah [.x .poly]):Ot A iN:=
 A.l1 .b (A.bl false) fun x0=>
 A.iter [.l .mono,.i,.i,.x .poly] (fun x1=>
 A.cond (A.cmp .lss x1.2.2.1 x1.2.1) (A.bd .mono x1.1 x1.2.2.1<|
 A.l1 .i x1.2.2.1 fun x2=>
 A.l1 (.x .mono) (A.get .mono x1.1 x1.2.2.1) fun x3=>
 A.cl gG gH (A.fI .mono 0 x3.1,A.lit 1,A.lit 65535,()) fun x4=>
 A.cg (A.aA (A.ak (A.aA x4.1) (A.bl true) (A.cmp .gtr (A.len .i64 (A.fL .mono 1 .i64 x3.1)) (A.lit 4)))) ae4 ae5 (A.fL .mono 1 .i64 x3.1,()) fun x5=>
 A.chk (A.orB (A.aA (A.nA (A.aA (A.ak (A.ak (A.aA x4.1) (A.bl true) (A.cmp .gtr (A.len .i64 (A.fL .mono 1 .i64 x3.1)) (A.lit 4))) (A.bl true) (A.aA x5.1))) (A.cmp .gtr x2.1 (A.lit 0)))) (A.cmp .leq (A.lit 0) (A.arith .sub .i64 x2.1 (A.lit 1))))<|
 A.chk (A.orB (A.aA (A.nA (A.aA (A.ak (A.ak (A.aA x4.1) (A.bl true) (A.cmp .gtr (A.len .i64 (A.fL .mono 1 .i64 x3.1)) (A.lit 4))) (A.bl true) (A.aA x5.1))) (A.cmp .gtr x2.1 (A.lit 0)))) (A.cmp .lss (A.arith .sub .i64 x2.1 (A.lit 1)) (A.len .mono (A.fL .poly 0 .mono x1.2.2.2.1))))<|
 A.cg (A.nA (A.aA (A.ak (A.ak (A.aA x4.1) (A.bl true) (A.cmp .gtr (A.len .i64 (A.fL .mono 1 .i64 x3.1)) (A.lit 4))) (A.bl true) (A.aA x5.1))) (A.cmp .gtr x2.1 (A.lit 0))) Fg Fh (A.fL .mono 1 .i64 (A.get .mono (A.fL .poly 0 .mono x1.2.2.2.1) (A.arith .sub .i64 x2.1 (A.lit 1))),A.fL .mono 1 .i64 x3.1,()) fun x6=>
 A.cond (A.ak (A.ak (A.ak (A.aA x4.1) (A.bl true) (A.cmp .gtr (A.len .i64 (A.fL .mono 1 .i64 x3.1)) (A.lit 4))) (A.bl true) (A.aA x5.1)) (A.bl true) (A.ak (A.cmp .gtr x2.1 (A.lit 0)) (A.cmp .geq x6.1 (A.lit 0)) (A.bl false))) (A.l1 .b (A.bl false) fun x7=>
 A.inr _<|A.ret _ (x7.1,()))<|
 A.inl _ (x1.1,x1.2.1,A.arith .add .i64 x1.2.2.1 (A.lit 1),x1.2.2.2.1,()))<|
 A.inr _<|A.cg (A.cmp .leq (A.len .mono (A.fL .poly 0 .mono x1.2.2.2.1)) (A.lit 12)) TN TP (x1.2.2.2.1,A.lit 200,()) fun x2=>
 A.cg (A.ak (A.cmp .leq (A.len .mono (A.fL .poly 0 .mono x1.2.2.2.1)) (A.lit 12)) x2.1 (A.bl false)) akI akJ (A.fL .poly 0 .mono x1.2.2.2.1,()) fun x3=>
 A.rb (A.ak (A.ak (A.cmp .leq (A.len .mono (A.fL .poly 0 .mono x1.2.2.2.1)) (A.lit 12)) x2.1 (A.bl false)) (A.aA x3.1) (A.bl false))) (A.fL .poly 0 .mono x.1,A.len .mono (A.fL .poly 0 .mono x.1),A.lit 0,x.1,())
def XO (A:Alg) (gG:Pt A bY) (gH:Ft A bY) (Xr:Pt A Ba) (Xt:Ft A Ba) (TN:Pt A Bf) (TP:Ft A Bf) (kS:Pt A iN) (kU:Ft A iN) (TL:Pt A A9) (TM:Ft A A9) (x:Tup A.ah [.x .atom,.i]):Ot A Bg:=
 A.l1 .b (A.bl false) fun x0=>
 A.cond (A.cmp .eql (A.fI .atom 0 x.1) (A.lit 4)) (A.cl Xr Xt (A.fI .atom 1 x.1,()) fun x1=>
 A.cg x1.1 kS kU (A.mkX .poly (A.fL .atom 2 .mono x.1,()),()) fun x2=>
 A.cg (A.ak x1.1 x2.1 (A.bl false)) kS kU (A.mkX .poly (A.fL .atom 3 .mono x.1,()),()) fun x3=>
 A.cg (A.ak (A.ak x1.1 x2.1 (A.bl false)) x3.1 (A.bl false)) TN TP (A.mkX .poly (A.fL .atom 2 .mono x.1,()),x.2.1,()) fun x4=>
 A.cg (A.ak (A.ak (A.ak x1.1 x2.1 (A.bl false)) x3.1 (A.bl false)) x4.1 (A.bl false)) TN TP (A.mkX .poly (A.fL .atom 3 .mono x.1,()),x.2.1,()) fun x5=>
 A.rb (A.ak (A.ak (A.ak (A.ak x1.1 x2.1 (A.bl false)) x3.1 (A.bl false)) x4.1 (A.bl false)) x5.1 (A.bl false)))<|
 A.cond (A.cmp .gtr (A.arith .add .i64 (A.len .mono (A.fL .atom 2 .mono x.1)) (A.len .mono (A.fL .atom 3 .mono x.1))) (A.lit 0)) (A.rb (A.bl false))<|
 A.cg (A.cmp .eql (A.fI .atom 0 x.1) (A.lit 1)) TL TM (A.fI .atom 1 x.1,()) fun x1=>
 A.cg (A.nA (A.aA (A.ak (A.cmp .eql (A.fI .atom 0 x.1) (A.lit 1)) x1.1 (A.bl false))) (A.ak (A.cmp .eql (A.fI .atom 0 x.1) (A.lit 2)) (A.bl true) (A.cmp .eql (A.fI .atom 0 x.1) (A.lit 3)))) gG gH (A.fI .atom 1 x.1,A.lit 0,A.lit 199,()) fun x2=>
 A.rb (A.ak (A.ak (A.cmp .eql (A.fI .atom 0 x.1) (A.lit 1)) x1.1 (A.bl false)) (A.bl true) (A.ak (A.ak (A.cmp .eql (A.fI .atom 0 x.1) (A.lit 2)) (A.bl true) (A.cmp .eql (A.fI .atom 0 x.1) (A.lit 3))) x2.1 (A.bl false)))
def XP (A:Alg) (aeZ:Pt A Mf) (ae0:Ft A Mf) (Vt:Pt A EB) (Vu:Ft A EB) (Fg:Pt A nO) (Fh:Ft A nO) (x:Tup A.ah [.x .poly,.x .poly]):Ot A uj:=
 A.l1 .i (A.lit 0) fun x0=>
 A.cl Vt Vu (A.len .mono (A.fL .poly 0 .mono x.1),A.len .mono (A.fL .poly 0 .mono x.2.1),()) fun x1=>
 A.l1 .i x1.1 fun x2=>
 A.cond (A.cmp .neq x2.1 (A.lit 0)) (A.l1 .i x2.1 fun x3=>
 A.ret _ (x3.1,()))<|
 A.iter [.l .mono,.i,.i,.x .poly] (fun x3=>
 A.cond (A.cmp .lss x3.2.2.1 x3.2.1) (A.bd .mono x3.1 x3.2.2.1<|
 A.l1 .i x3.2.2.1 fun x4=>
 A.l1 (.x .mono) (A.get .mono x3.1 x3.2.2.1) fun x5=>
 A.bd .mono (A.fL .poly 0 .mono x3.2.2.2.1) x4.1<|
 A.bd .mono (A.fL .poly 0 .mono x3.2.2.2.1) x4.1<|
 A.cl Fg Fh (A.fL .mono 1 .i64 x5.1,A.fL .mono 1 .i64 (A.get .mono (A.fL .poly 0 .mono x3.2.2.2.1) x4.1),()) fun x6=>
 A.cl Vt Vu (A.fI .mono 0 x5.1,A.fI .mono 0 (A.get .mono (A.fL .poly 0 .mono x3.2.2.2.1) x4.1),()) fun x7=>
 A.cl aeZ ae0 (A.lst .i64 [A.mkX .i64 (x6.1,()),A.mkX .i64 (x7.1,())],()) fun x8=>
 A.l1 .i x8.1 fun x9=>
 A.cond (A.cmp .neq x9.1 (A.lit 0)) (A.l1 .i x9.1 fun x10=>
 A.inr _<|A.ret _ (x10.1,()))<|
 A.inl _ (x3.1,x3.2.1,A.arith .add .i64 x3.2.2.1 (A.lit 1),x3.2.2.2.1,()))<|
 A.inr _<|A.l1 .i (A.lit 0) fun x4=>
 A.ret _ (x4.1,())) (A.fL .poly 0 .mono x.1,A.len .mono (A.fL .poly 0 .mono x.1),A.lit 0,x.2.1,())
def XQ (A:Alg) (M4:Pt A uj) (M5:Ft A uj) (x:Tup A.ah [.x .poly,.x .poly]):Ot A jJ:=
 A.l1 .b (A.bl false) fun x0=>
 A.cl M4 M5 (x.1,x.2.1,()) fun x1=>
 A.rb (A.cmp .eql x1.1 (A.lit 0))
def XR (A:Alg) (lN:Pt A jJ) (lQ:Ft A jJ) (x:Tup A.ah [.x .atom,.x .atom]):Ot A Mj:=
 A.l1 .b (A.bl false) fun x0=>
 A.cg (A.ak (A.cmp .eql (A.fI .atom 0 x.1) (A.fI .atom 0 x.2.1)) (A.cmp .eql (A.fI .atom 1 x.1) (A.fI .atom 1 x.2.1)) (A.bl false)) lN lQ (A.mkX .poly (A.fL .atom 2 .mono x.1,()),A.mkX .poly (A.fL .atom 2 .mono x.2.1,()),()) fun x1=>
 A.cg (A.ak (A.ak (A.cmp .eql (A.fI .atom 0 x.1) (A.fI .atom 0 x.2.1)) (A.cmp .eql (A.fI .atom 1 x.1) (A.fI .atom 1 x.2.1)) (A.bl false)) x1.1 (A.bl false)) lN lQ (A.mkX .poly (A.fL .atom 3 .mono x.1,()),A.mkX .poly (A.fL .atom 3 .mono x.2.1,()),()) fun x2=>
 A.rb (A.ak (A.ak (A.ak (A.cmp .eql (A.fI .atom 0 x.1) (A.fI .atom 0 x.2.1)) (A.cmp .eql (A.fI .atom 1 x.1) (A.fI .atom 1 x.2.1)) (A.bl false)) x1.1 (A.bl false)) x2.1 (A.bl false))
def XU (A:Alg) (akK:Pt A Mj) (akL:Ft A Mj) (x:Tup A.ah [.x .atom,.x .atom]):Ot A Mk:=
 A.l1 .b (A.bl false) fun x0=>
 A.cl akK akL (x.2.1,x.1,()) fun x1=>
 A.l1 .b x1.1 fun x2=>
 A.ret _ (x2.1,x.2.1,())
def Rc (A:Alg) (akM:Pt A Mk) (akN:Ft A Mk) (x:Tup A.ah [.l .atom,.x .atom]):Ot A EG:=
 A.l1 .i (A.lit 0) fun x0=>
 A.iter [.l .atom,.i,.i,.x .atom] (fun x1=>
 A.cond (A.cmp .lss x1.2.2.1 x1.2.1) (A.l1 .i x1.2.2.1 fun x2=>
 A.bd .atom x1.1 x2.1<|
 A.cl akM akN (A.get .atom x1.1 x2.1,x1.2.2.2.1,()) fun x3=>
 A.cond x3.1 (A.l1 .i x2.1 fun x4=>
 A.inr _<|A.ret _ (x4.1,x3.2.1,()))<|
 A.inl _ (x1.1,x1.2.1,A.arith .add .i64 x1.2.2.1 (A.lit 1),x3.2.1,()))<|
 A.inr _<|A.l1 .i (A.lit (-1)) fun x2=>
 A.ret _ (x2.1,x1.2.2.2.1,())) (x.1,A.len .atom x.1,A.lit 0,x.2.1,())
def XV (A:Alg) (ae6:Pt A EG) (ae7:Ft A EG) (x:Tup A.ah [.x .tab,.x .atom]):Ot A Bh:=
 A.l1 .i (A.lit 0) fun x0=>
 A.cl ae6 ae7 (A.fL .tab 0 .atom x.1,x.2.1,()) fun x1=>
 A.l1 .i x1.1 fun x2=>
 A.ret _ (x2.1,())
def XW (A:Alg) (x:Tup A.ah [.l .atom]):Ot A Ml:=
 A.chk (A.cmp .leq (A.lit 0) (A.lit 0))<|
 A.chk (A.cmp .leq (A.lit 0) (A.len .atom x.1))<|
 A.chk (A.cmp .leq (A.len .atom x.1) (A.len .atom x.1))<|
 A.chk (A.cmp .eql (A.len .atom x.1) (A.len .atom x.1))<|
 A.ret _ (A.sub .atom x.1 (A.lit 0) (A.len .atom x.1),())
def XY (A:Alg) (XZ:Pt A Bg) (X0:Ft A Bg) (X3:Pt A Bh) (X4:Ft A Bh) (akO:Pt A Ml) (akP:Ft A Ml) (x:Tup A.ah [.x .tab,.x .atom]):Ot A Bj:=
 A.l1 .i (A.lit 0) fun x0=>
 A.cl X3 X4 (x.1,x.2.1,()) fun x1=>
 A.l1 .i x1.1 fun x2=>
 A.cond (A.cmp .geq x2.1 (A.lit 0)) (A.l1 (.x .tab) x.1 fun x3=>
 A.l1 .i x2.1 fun x4=>
 A.ret _ (x3.1,x4.1,()))<|
 A.cl XZ X0 (x.2.1,A.len .atom (A.fL .tab 0 .atom x.1),()) fun x3=>
 A.cond (A.ak (A.aA x3.1) (A.bl true) (A.cmp .eql (A.len .atom (A.fL .tab 0 .atom x.1)) (A.lit 200))) (A.l1 (.x .tab) x.1 fun x4=>
 A.l1 .i (A.lit (-1)) fun x5=>
 A.ret _ (x4.1,x5.1,()))<|
 A.cl akO akP (A.fL .tab 0 .atom x.1,()) fun x4=>
 A.chk (A.orB (A.cmp .lss (A.lit 0) (A.len .atom (A.lst .atom [x.2.1]))) (A.cmp .eql (A.len .atom x4.1) (A.lit 0)))<|
 A.chk (A.cmp .leq (A.addN (A.len .atom x4.1) (A.len .atom (A.lst .atom [x.2.1]))) (A.lit 1073741824))<|
 A.l1 (.l .atom) (A.app .atom x4.1 (A.lst .atom [x.2.1])) fun x5=>
 A.l1 .i (A.len .atom (A.fL .tab 0 .atom x.1)) fun x6=>
 A.ret _ (A.mkX .tab (x5.1,()),x6.1,())
def X5 (A:Alg) (gG:Pt A bY) (gH:Ft A bY) (x:Tup A.ah [.i]):Ot A Bn:=
 A.cl gG gH (x.1,A.lit 0,A.lit 199,()) fun x0=>
 A.cond (A.aA x0.1) (A.ret _ (A.aR .mono,()))<|
 A.l1 (.l .i64) (A.lst .i64 [A.mkX .i64 (x.1,())]) fun x1=>
 A.l1 (.l .mono) (A.lst .mono [A.mkX .mono (A.lit 1,x1.1,())]) fun x2=>
 A.ret _ (x2.1,())
def X6 (A:Alg) (X7:Pt A Bn) (X8:Ft A Bn) (X9:Pt A Bj) (Ya:Ft A Bj) (x:Tup A.ah [.i,.i,.l .atom,.b]):Ot A Bo:=
 A.cl X9 Ya (A.mkX .tab (x.2.2.1,()),A.mkX .atom (x.1,x.2.1,A.aR .mono,A.aR .mono,()),()) fun x0=>
 A.l1 (.x .tab) x0.1 fun x1=>
 A.l1 .i x0.2.1 fun x2=>
 A.cond (A.cmp .lss x2.1 (A.lit 0)) (A.l1 .b (A.bl true) fun x3=>
 A.ret _ (A.mkX .poly (A.aR .mono,()),x.2.2.1,x3.1,()))<|
 A.l1 (.x .tab) x1.1 fun x3=>
 A.cl X7 X8 (x2.1,()) fun x4=>
 A.ret _ (A.mkX .poly (x4.1,()),A.fL .tab 0 .atom x3.1,x.2.2.2.1,())
def Yb (A:Alg) (TQ:Pt A Bo) (TR:Ft A Bo) (x:Tup A.ah [.l .atom,.b]):Ot A Bp:=
 A.iter [.i,.l .atom,.b,.l .poly] (fun x0=>
 A.cond (A.cmp .lss x0.1 (A.lit 4)) (A.l1 .i x0.1 fun x1=>
 A.cl TQ TR (A.lit 1,x1.1,x0.2.1,x0.2.2.1,()) fun x2=>
 A.l1 (.l .poly) (A.lst .poly [x2.1]) fun x3=>
 A.chk (A.cmp .leq (A.addN (A.len .poly x0.2.2.2.1) (A.len .poly x3.1)) (A.lit 1073741824))<|
 A.l1 (.l .poly) (A.app .poly x0.2.2.2.1 x3.1) fun x4=>
 A.inl _ (A.arith .add .i64 x0.1 (A.lit 1),x2.2.1,x2.2.2.1,x4.1,()))<|
 A.inr _<|A.ret _ (x0.2.1,x0.2.2.1,x0.2.2.2.1,())) (A.lit 0,x.1,x.2.1,A.aR .poly,())
def Yc (A:Alg) (x:Tup A.ah [.l .i64]):Ot A Bq:=
 A.chk (A.cmp .leq (A.len .i64 x.1) (A.lit 1073741824))<|
 A.l1 (.l .i64) x.1 fun x0=>
 A.ret _ (x0.1,())
def Yd (A:Alg) (Ye:Pt A Bq) (Yf:Ft A Bq) (x:Tup A.ah [.x .poly]):Ot A um:=
 A.iter [.l .mono,.i,.i,.l .mono] (fun x0=>
 A.cond (A.cmp .lss x0.2.2.1 x0.2.1) (A.bd .mono x0.1 x0.2.2.1<|
 A.l1 (.x .mono) (A.get .mono x0.1 x0.2.2.1) fun x1=>
 A.cl Ye Yf (A.fL .mono 1 .i64 x1.1,()) fun x2=>
 A.l1 (.l .mono) (A.lst .mono [A.mkX .mono (A.fI .mono 0 x1.1,x2.1,())]) fun x3=>
 A.chk (A.cmp .leq (A.addN (A.len .mono x0.2.2.2.1) (A.len .mono x3.1)) (A.lit 1073741824))<|
 A.l1 (.l .mono) (A.app .mono x0.2.2.2.1 x3.1) fun x4=>
 A.inl _ (x0.1,x0.2.1,A.arith .add .i64 x0.2.2.1 (A.lit 1),x4.1,()))<|
 A.inr _<|A.ret _ (x0.2.2.2.1,())) (A.fL .poly 0 .mono x.1,A.len .mono (A.fL .poly 0 .mono x.1),A.lit 0,A.aR .mono,())
def Yg (A:Alg) (y7:Pt A um) (y8:Ft A um) (x:Tup A.ah [.x .tab]):Ot A Br:=
 A.iter [.l .atom,.i,.i,.l .atom] (fun x0=>
 A.cond (A.cmp .lss x0.2.2.1 x0.2.1) (A.bd .atom x0.1 x0.2.2.1<|
 A.l1 (.x .atom) (A.get .atom x0.1 x0.2.2.1) fun x1=>
 A.cl y7 y8 (A.mkX .poly (A.fL .atom 2 .mono x1.1,()),()) fun x2=>
 A.cl y7 y8 (A.mkX .poly (A.fL .atom 3 .mono x1.1,()),()) fun x3=>
 A.l1 (.l .atom) (A.lst .atom [A.mkX .atom (A.fI .atom 0 x1.1,A.fI .atom 1 x1.1,x2.1,x3.1,())]) fun x4=>
 A.chk (A.cmp .leq (A.addN (A.len .atom x0.2.2.2.1) (A.len .atom x4.1)) (A.lit 1073741824))<|
 A.l1 (.l .atom) (A.app .atom x0.2.2.2.1 x4.1) fun x5=>
 A.inl _ (x0.1,x0.2.1,A.arith .add .i64 x0.2.2.1 (A.lit 1),x5.1,()))<|
 A.inr _<|A.ret _ (x0.2.2.2.1,())) (A.fL .tab 0 .atom x.1,A.len .atom (A.fL .tab 0 .atom x.1),A.lit 0,A.aR .atom,())
def Yh (A:Alg) (Yi:Pt A Br) (Yj:Ft A Br) (Yk:Pt A Bp) (Yl:Ft A Bp) (x:Tup A.ah []):Ot A Mq:=
 A.cl Yk Yl (A.aR .atom,A.bl false,()) fun x0=>
 A.cl Yi Yj (A.mkX .tab (x0.1,()),()) fun x1=>
 A.ret _ (A.mkX .tab (x1.1,()),x0.2.2.1,())
def Ym (A:Alg) (XZ:Pt A Bg) (X0:Ft A Bg) (X3:Pt A Bh) (X4:Ft A Bh) (x:Tup A.ah [.x .tab]):Ot A Mr:=
 A.l1 .b (A.bl false) fun x0=>
 A.iter [.l .atom,.i,.i,.x .tab] (fun x1=>
 A.cond (A.cmp .lss x1.2.2.1 x1.2.1) (A.bd .atom x1.1 x1.2.2.1<|
 A.l1 .i x1.2.2.1 fun x2=>
 A.l1 (.x .atom) (A.get .atom x1.1 x1.2.2.1) fun x3=>
 A.cl XZ X0 (x3.1,x2.1,()) fun x4=>
 A.cg (A.aA (A.aA x4.1)) X3 X4 (x1.2.2.2.1,x3.1,()) fun x5=>
 A.cond (A.ak (A.aA x4.1) (A.bl true) (A.cmp .neq x5.1 x2.1)) (A.l1 .b (A.bl false) fun x6=>
 A.inr _<|A.ret _ (x6.1,()))<|
 A.inl _ (x1.1,x1.2.1,A.arith .add .i64 x1.2.2.1 (A.lit 1),x1.2.2.2.1,()))<|
 A.inr _<|A.rb (A.cmp .leq (A.len .atom (A.fL .tab 0 .atom x1.2.2.2.1)) (A.lit 200))) (A.fL .tab 0 .atom x.1,A.len .atom (A.fL .tab 0 .atom x.1),A.lit 0,x.1,())
def Yn (A:Alg) (gG:Pt A bY) (gH:Ft A bY) (x:Tup A.ah [.x .iop]):Ot A Ms:=
 A.l1 .b (A.bl false) fun x0=>
 A.cl gG gH (A.fI .iop 0 x.1,A.lit 4,A.lit 7,()) fun x1=>
 A.rb x1.1
def Yo (A:Alg) (x:Tup A.ah [.l .poly]):Ot A Mt:=
 A.chk (A.cmp .neq (A.len .poly x.1) (A.lit 0))<|
 A.cond (A.bl false) (A.ret _ (x.1,A.aR .poly,()))<|
 A.l1 (.l .poly) (A.lst .poly []) fun x0=>
 A.chk (A.cmp .leq (A.addN (A.len .poly x0.1) (A.len .poly x.1)) (A.lit 1073741824))<|
 A.l1 (.l .poly) (A.app .poly x0.1 x.1) fun x1=>
 A.ret _ (x.1,x1.1,())
def Yp (A:Alg) (gG:Pt A bY) (gH:Ft A bY) (x:Tup A.ah [.i]):Ot A uo:=
 A.cl gG gH (x.1,A.lit 1,A.lit 65535,()) fun x0=>
 A.cond (A.aA x0.1) (A.ret _ (A.aR .mono,()))<|
 A.l1 (.l .mono) (A.lst .mono [A.mkX .mono (x.1,A.aR .i64,())]) fun x1=>
 A.ret _ (x1.1,())
def Yq (A:Alg) (kS:Pt A iN) (kU:Ft A iN) (x:Tup A.ah [.x .poly]):Ot A Bu:=
 A.l1 .i (A.lit 0) fun x0=>
 A.l1 .b (A.bl false) fun x1=>
 A.cl kS kU (x.1,()) fun x2=>
 A.l1 .b (A.aA x2.1) fun x3=>
 A.cond x3.1 (A.l1 .i (A.lit 0) fun x4=>
 A.l1 .b (A.bl false) fun x5=>
 A.ret _ (x4.1,x5.1,()))<|
 A.l1 .b (A.cmp .eql (A.len .mono (A.fL .poly 0 .mono x.1)) (A.lit 0)) fun x4=>
 A.cond x4.1 (A.l1 .i (A.lit 0) fun x5=>
 A.l1 .b (A.bl true) fun x6=>
 A.ret _ (x5.1,x6.1,()))<|
 A.chk (A.orB (A.aA (A.cmp .eql (A.len .mono (A.fL .poly 0 .mono x.1)) (A.lit 1))) (A.cmp .leq (A.lit 0) (A.lit 0)))<|
 A.chk (A.orB (A.aA (A.cmp .eql (A.len .mono (A.fL .poly 0 .mono x.1)) (A.lit 1))) (A.cmp .lss (A.lit 0) (A.len .mono (A.fL .poly 0 .mono x.1))))<|
 A.l1 .b (A.ak (A.cmp .eql (A.len .mono (A.fL .poly 0 .mono x.1)) (A.lit 1)) (A.cmp .eql (A.len .i64 (A.fL .mono 1 .i64 (A.get .mono (A.fL .poly 0 .mono x.1) (A.lit 0)))) (A.lit 0)) (A.bl false)) fun x5=>
 A.cond x5.1 (A.bd .mono (A.fL .poly 0 .mono x.1) (A.lit 0)<|
 A.l1 .i (A.fI .mono 0 (A.get .mono (A.fL .poly 0 .mono x.1) (A.lit 0))) fun x6=>
 A.l1 .b (A.bl true) fun x7=>
 A.ret _ (x6.1,x7.1,()))<|
 A.l1 .i (A.lit 0) fun x6=>
 A.l1 .b (A.bl false) fun x7=>
 A.ret _ (x6.1,x7.1,())
def Yr (A:Alg) (x:Tup A.ah [.i]):Ot A uw:=
 A.l1 .i (A.lit 0) fun x0=>
 A.l1 .i (A.arith .and .i64 x.1 (A.lit 65535)) fun x1=>
 A.ret _ (x1.1,())
def Yt (A:Alg) (Fg:Pt A nO) (Fh:Ft A nO) (x:Tup A.ah [.x .mono,.x .mono]):Ot A Bv:=
 A.l1 .i (A.lit 0) fun x0=>
 A.cl Fg Fh (A.fL .mono 1 .i64 x.1,A.fL .mono 1 .i64 x.2.1,()) fun x1=>
 A.l1 .i x1.1 fun x2=>
 A.ret _ (x2.1,())
def Rf (A:Alg) (M6:Pt A Bv) (M7:Ft A Bv) (x:Tup A.ah [.i,.i,.l .mono]):Ot A EH:=
 A.l1 .i (A.arith .add .i64 x.1 (A.lit 1)) fun x0=>
 A.iter [.i,.i,.i,.l .mono] (fun x1=>
 A.cond (A.cmp .lss x1.2.2.1 x1.2.1) (A.l1 .i x1.2.2.1 fun x2=>
 A.iter [.i,.i,.i,.i,.l .mono] (fun x3=>
 A.chk (A.orB (A.aA (A.cmp .gtr x3.2.2.2.1 x3.1)) (A.cmp .leq (A.lit 0) x3.2.2.2.1))<|
 A.chk (A.orB (A.aA (A.cmp .gtr x3.2.2.2.1 x3.1)) (A.cmp .lss x3.2.2.2.1 (A.len .mono x3.q.1)))<|
 A.chk (A.orB (A.aA (A.cmp .gtr x3.2.2.2.1 x3.1)) (A.cmp .leq (A.lit 0) x3.2.2.2.1))<|
 A.chk (A.orB (A.aA (A.cmp .gtr x3.2.2.2.1 x3.1)) (A.cmp .lss x3.2.2.2.1 (A.len .mono x3.q.1)))<|
 A.chk (A.orB (A.aA (A.cmp .gtr x3.2.2.2.1 x3.1)) (A.cmp .leq (A.lit 0) (A.arith .sub .i64 x3.2.2.2.1 (A.lit 1))))<|
 A.chk (A.orB (A.aA (A.cmp .gtr x3.2.2.2.1 x3.1)) (A.cmp .lss (A.arith .sub .i64 x3.2.2.2.1 (A.lit 1)) (A.len .mono x3.q.1)))<|
 A.chk (A.orB (A.aA (A.cmp .gtr x3.2.2.2.1 x3.1)) (A.cmp .leq (A.lit 0) (A.arith .sub .i64 x3.2.2.2.1 (A.lit 1))))<|
 A.chk (A.orB (A.aA (A.cmp .gtr x3.2.2.2.1 x3.1)) (A.cmp .lss (A.arith .sub .i64 x3.2.2.2.1 (A.lit 1)) (A.len .mono x3.q.1)))<|
 A.cg (A.cmp .gtr x3.2.2.2.1 x3.1) M6 M7 (A.get .mono x3.q.1 x3.2.2.2.1,A.get .mono x3.q.1 (A.arith .sub .i64 x3.2.2.2.1 (A.lit 1)),()) fun x4=>
 A.cond (A.ak (A.cmp .gtr x3.2.2.2.1 x3.1) (A.cmp .lss x4.1 (A.lit 0)) (A.bl false)) (A.bd .mono x3.q.1 (A.arith .sub .i64 x3.2.2.2.1 (A.lit 1))<|
 A.bd .mono x3.q.1 (A.arith .sub .i64 x3.2.2.2.1 (A.lit 1))<|
 A.bd .mono x3.q.1 x3.2.2.2.1<|
 A.bd .mono x3.q.1 x3.2.2.2.1<|
 A.bd .mono x3.q.1 x3.2.2.2.1<|
 A.bd .mono x3.q.1 x3.2.2.2.1<|
 A.l1 (.x .mono) (A.get .mono x3.q.1 (A.arith .sub .i64 x3.2.2.2.1 (A.lit 1))) fun x5=>
 A.bd .mono (A.set .mono x3.q.1 x3.2.2.2.1 x5.1) (A.arith .sub .i64 x3.2.2.2.1 (A.lit 1))<|
 A.bd .mono (A.set .mono x3.q.1 x3.2.2.2.1 x5.1) (A.arith .sub .i64 x3.2.2.2.1 (A.lit 1))<|
 A.l1 (.x .mono) (A.get .mono x3.q.1 x3.2.2.2.1) fun x6=>
 A.l1 .i (A.arith .sub .i64 x3.2.2.2.1 (A.lit 1)) fun x7=>
 A.inl _ (x3.1,x3.2.1,x3.2.2.1,x7.1,A.set .mono (A.set .mono x3.q.1 x3.2.2.2.1 x5.1) (A.arith .sub .i64 x3.2.2.2.1 (A.lit 1)) x6.1,()))<|
 A.inr _<|A.l1 .i (A.arith .add .i64 x3.2.2.1 (A.lit 1)) fun x5=>
 A.inl _ (x3.1,x3.2.1,x5.1,x3.q.1,())) (x1.1,x1.2.1,x1.2.2.1,x2.1,x1.2.2.2.1,()))<|
 A.inr _<|A.ret _ (x1.2.2.2.1,())) (x.1,x.2.1,x0.1,x.2.2.1,())
def Rh (A:Alg) (x:Tup A.ah [.i,.i,.i,.l .mono]):Ot A EI:=
 A.l1 .i (A.lit 0) fun x0=>
 A.iter [.i,.i,.i,.i,.l .mono] (fun x1=>
 A.cond (A.cmp .lss x1.2.2.2.1 x1.2.2.1) (A.bd .mono x1.q.1 (A.arith .add .i64 x1.2.1 x1.2.2.2.1)<|
 A.bd .mono x1.q.1 (A.arith .add .i64 x1.2.1 x1.2.2.2.1)<|
 A.bd .mono x1.q.1 (A.arith .add .i64 x1.1 x1.2.2.2.1)<|
 A.bd .mono x1.q.1 (A.arith .add .i64 x1.1 x1.2.2.2.1)<|
 A.bd .mono x1.q.1 (A.arith .add .i64 x1.1 x1.2.2.2.1)<|
 A.bd .mono x1.q.1 (A.arith .add .i64 x1.1 x1.2.2.2.1)<|
 A.l1 (.x .mono) (A.get .mono x1.q.1 (A.arith .add .i64 x1.2.1 x1.2.2.2.1)) fun x2=>
 A.bd .mono (A.set .mono x1.q.1 (A.arith .add .i64 x1.1 x1.2.2.2.1) x2.1) (A.arith .add .i64 x1.2.1 x1.2.2.2.1)<|
 A.bd .mono (A.set .mono x1.q.1 (A.arith .add .i64 x1.1 x1.2.2.2.1) x2.1) (A.arith .add .i64 x1.2.1 x1.2.2.2.1)<|
 A.l1 (.x .mono) (A.get .mono x1.q.1 (A.arith .add .i64 x1.1 x1.2.2.2.1)) fun x3=>
 A.l1 .i (A.arith .add .i64 x1.2.2.2.1 (A.lit 1)) fun x4=>
 A.inl _ (x1.1,x1.2.1,x1.2.2.1,x4.1,A.set .mono (A.set .mono x1.q.1 (A.arith .add .i64 x1.1 x1.2.2.2.1) x2.1) (A.arith .add .i64 x1.2.1 x1.2.2.2.1) x3.1,()))<|
 A.inr _<|A.ret _ (x1.q.1,())) (x.1,x.2.1,x.2.2.1,x0.1,x.2.2.2.1,())
def Ri (A:Alg) (Rj:Pt A EI) (Rk:Ft A EI) (x:Tup A.ah [.i,.i,.i,.l .mono]):Ot A EJ:=
 A.l1 .i (A.arith .sub .i64 x.2.1 x.1) fun x0=>
 A.l1 .i (A.arith .sub .i64 x.2.2.1 x.2.1) fun x1=>
 A.iter [.i,.i,.i,.l .mono] (fun x2=>
 A.cond (A.cmp .neq x2.2.1 x2.2.2.1) (A.bind [.i,.i,.i,.l .mono] (A.cond (A.cmp .gtr x2.2.1 x2.2.2.1) (A.cl Rj Rk (A.arith .sub .i64 x2.1 x2.2.1,x2.1,x2.2.2.1,x2.2.2.2.1,()) fun x3=>
 A.l1 .i (A.arith .sub .i64 x2.2.1 x2.2.2.1) fun x4=>
 A.ret _ (x2.1,x4.1,x2.2.2.1,x3.1,()))<|
 A.cl Rj Rk (A.arith .sub .i64 x2.1 x2.2.1,A.arith .sub .i64 (A.arith .add .i64 x2.1 x2.2.2.1) x2.2.1,x2.2.1,x2.2.2.2.1,()) fun x3=>
 A.l1 .i (A.arith .sub .i64 x2.2.2.1 x2.2.1) fun x4=>
 A.ret _ (x2.1,x2.2.1,x4.1,x3.1,())) fun x3=>
 A.inl _ (x3.1,x3.2.1,x3.2.2.1,x3.2.2.2.1,()))<|
 A.inr _<|A.cl Rj Rk (A.arith .sub .i64 x2.1 x2.2.1,x2.1,x2.2.1,x2.2.2.2.1,()) fun x3=>
 A.ret _ (x3.1,())) (x.2.1,x0.1,x1.1,x.2.2.2.1,())
def Fj (A:Alg) (M6:Pt A Bv) (M7:Ft A Bv) (ae8:Pt A EJ) (ae9:Ft A EJ) (Fp:Pt A mO) (Fq:Ft A mO) (x:Tup A.ah [.i,.i,.i,.l .mono]):Ot A mO:=
 A.cond (A.cmp .eql (A.arith .sub .i64 x.2.1 x.1) (A.lit 1)) (A.l1 .i x.2.1 fun x0=>
 A.l1 .i x.2.2.1 fun x1=>
 A.iter [.i,.i,.i,.l .mono] (fun x2=>
 A.cond (A.cmp .lss x2.2.1 x2.2.2.1) (A.chk (A.cmp .leq (A.lit 0) (A.lit 1))<|
 A.l1 .i (A.conv .i64 (A.arith .shr .u64 (A.conv .u64 (A.arith .add .i64 x2.2.1 x2.2.2.1)) (A.lit 1))) fun x3=>
 A.bd .mono x2.2.2.2.1 x3.1<|
 A.bd .mono x2.2.2.2.1 x3.1<|
 A.bd .mono x2.2.2.2.1 x2.1<|
 A.bd .mono x2.2.2.2.1 x2.1<|
 A.cl M6 M7 (A.get .mono x2.2.2.2.1 x3.1,A.get .mono x2.2.2.2.1 x2.1,()) fun x4=>
 A.bind [.i,.i,.i,.l .mono] (A.cond (A.cmp .lss x4.1 (A.lit 0)) (A.l1 .i (A.arith .add .i64 x3.1 (A.lit 1)) fun x5=>
 A.ret _ (x2.1,x5.1,x2.2.2.1,x2.2.2.2.1,()))<|
 A.l1 .i x3.1 fun x5=>
 A.ret _ (x2.1,x2.2.1,x5.1,x2.2.2.2.1,())) fun x5=>
 A.inl _ (x5.1,x5.2.1,x5.2.2.1,x5.2.2.2.1,()))<|
 A.inr _<|A.l1 .i x2.1 fun x3=>
 A.iter [.i,.i,.l .mono] (fun x4=>
 A.cond (A.cmp .lss x4.2.1 (A.arith .sub .i64 x4.1 (A.lit 1))) (A.bd .mono x4.2.2.1 (A.arith .add .i64 x4.2.1 (A.lit 1))<|
 A.bd .mono x4.2.2.1 (A.arith .add .i64 x4.2.1 (A.lit 1))<|
 A.bd .mono x4.2.2.1 x4.2.1<|
 A.bd .mono x4.2.2.1 x4.2.1<|
 A.bd .mono x4.2.2.1 x4.2.1<|
 A.bd .mono x4.2.2.1 x4.2.1<|
 A.l1 (.x .mono) (A.get .mono x4.2.2.1 (A.arith .add .i64 x4.2.1 (A.lit 1))) fun x5=>
 A.bd .mono (A.set .mono x4.2.2.1 x4.2.1 x5.1) (A.arith .add .i64 x4.2.1 (A.lit 1))<|
 A.bd .mono (A.set .mono x4.2.2.1 x4.2.1 x5.1) (A.arith .add .i64 x4.2.1 (A.lit 1))<|
 A.l1 (.x .mono) (A.get .mono x4.2.2.1 x4.2.1) fun x6=>
 A.l1 .i (A.arith .add .i64 x4.2.1 (A.lit 1)) fun x7=>
 A.inl _ (x4.1,x7.1,A.set .mono (A.set .mono x4.2.2.1 x4.2.1 x5.1) (A.arith .add .i64 x4.2.1 (A.lit 1)) x6.1,()))<|
 A.inr _<|A.ret _ (x4.2.2.1,())) (x2.2.1,x3.1,x2.2.2.2.1,())) (x.1,x0.1,x1.1,x.2.2.2.1,()))<|
 A.cond (A.cmp .eql (A.arith .sub .i64 x.2.2.1 x.2.1) (A.lit 1)) (A.l1 .i x.1 fun x0=>
 A.l1 .i x.2.1 fun x1=>
 A.iter [.i,.i,.i,.l .mono] (fun x2=>
 A.cond (A.cmp .lss x2.2.1 x2.2.2.1) (A.chk (A.cmp .leq (A.lit 0) (A.lit 1))<|
 A.l1 .i (A.conv .i64 (A.arith .shr .u64 (A.conv .u64 (A.arith .add .i64 x2.2.1 x2.2.2.1)) (A.lit 1))) fun x3=>
 A.bd .mono x2.2.2.2.1 x2.1<|
 A.bd .mono x2.2.2.2.1 x2.1<|
 A.bd .mono x2.2.2.2.1 x3.1<|
 A.bd .mono x2.2.2.2.1 x3.1<|
 A.cl M6 M7 (A.get .mono x2.2.2.2.1 x2.1,A.get .mono x2.2.2.2.1 x3.1,()) fun x4=>
 A.bind [.i,.i,.i,.l .mono] (A.cond (A.aA (A.cmp .lss x4.1 (A.lit 0))) (A.l1 .i (A.arith .add .i64 x3.1 (A.lit 1)) fun x5=>
 A.ret _ (x2.1,x5.1,x2.2.2.1,x2.2.2.2.1,()))<|
 A.l1 .i x3.1 fun x5=>
 A.ret _ (x2.1,x2.2.1,x5.1,x2.2.2.2.1,())) fun x5=>
 A.inl _ (x5.1,x5.2.1,x5.2.2.1,x5.2.2.2.1,()))<|
 A.inr _<|A.l1 .i x2.1 fun x3=>
 A.iter [.i,.i,.l .mono] (fun x4=>
 A.cond (A.cmp .gtr x4.2.1 x4.1) (A.bd .mono x4.2.2.1 (A.arith .sub .i64 x4.2.1 (A.lit 1))<|
 A.bd .mono x4.2.2.1 (A.arith .sub .i64 x4.2.1 (A.lit 1))<|
 A.bd .mono x4.2.2.1 x4.2.1<|
 A.bd .mono x4.2.2.1 x4.2.1<|
 A.bd .mono x4.2.2.1 x4.2.1<|
 A.bd .mono x4.2.2.1 x4.2.1<|
 A.l1 (.x .mono) (A.get .mono x4.2.2.1 (A.arith .sub .i64 x4.2.1 (A.lit 1))) fun x5=>
 A.bd .mono (A.set .mono x4.2.2.1 x4.2.1 x5.1) (A.arith .sub .i64 x4.2.1 (A.lit 1))<|
 A.bd .mono (A.set .mono x4.2.2.1 x4.2.1 x5.1) (A.arith .sub .i64 x4.2.1 (A.lit 1))<|
 A.l1 (.x .mono) (A.get .mono x4.2.2.1 x4.2.1) fun x6=>
 A.l1 .i (A.arith .sub .i64 x4.2.1 (A.lit 1)) fun x7=>
 A.inl _ (x4.1,x7.1,A.set .mono (A.set .mono x4.2.2.1 x4.2.1 x5.1) (A.arith .sub .i64 x4.2.1 (A.lit 1)) x6.1,()))<|
 A.inr _<|A.ret _ (x4.2.2.1,())) (x2.2.1,x3.1,x2.2.2.2.1,())) (x.2.1,x0.1,x1.1,x.2.2.2.1,()))<|
 A.chk (A.cmp .leq (A.lit 0) (A.lit 1))<|
 A.l1 .i (A.conv .i64 (A.arith .shr .u64 (A.conv .u64 (A.arith .add .i64 x.1 x.2.2.1)) (A.lit 1))) fun x0=>
 A.l1 .i (A.arith .add .i64 x0.1 x.2.1) fun x1=>
 A.l1 .i (A.lit 0) fun x2=>
 A.l1 .i (A.lit 0) fun x3=>
 A.bind [.i,.i,.i,.i,.i,.i,.i,.l .mono] (A.cond (A.cmp .gtr x.2.1 x0.1) (A.l1 .i (A.arith .sub .i64 x1.1 x.2.2.1) fun x4=>
 A.l1 .i x0.1 fun x5=>
 A.ret _ (x.1,x.2.1,x.2.2.1,x0.1,x1.1,x4.1,x5.1,x.2.2.2.1,()))<|
 A.l1 .i x.1 fun x4=>
 A.l1 .i x.2.1 fun x5=>
 A.ret _ (x.1,x.2.1,x.2.2.1,x0.1,x1.1,x4.1,x5.1,x.2.2.2.1,())) fun x4=>
 A.l1 .i (A.arith .sub .i64 x4.q.1 (A.lit 1)) fun x5=>
 A.iter [.i,.i,.i,.i,.i,.i,.i,.i,.l .mono] (fun x6=>
 A.cond (A.cmp .lss x6.q.2.1 x6.q.2.2.1) (A.chk (A.cmp .leq (A.lit 0) (A.lit 1))<|
 A.l1 .i (A.conv .i64 (A.arith .shr .u64 (A.conv .u64 (A.arith .add .i64 x6.q.2.1 x6.q.2.2.1)) (A.lit 1))) fun x7=>
 A.bd .mono x6.o.1 (A.arith .sub .i64 x6.q.2.2.2.1 x7.1)<|
 A.bd .mono x6.o.1 (A.arith .sub .i64 x6.q.2.2.2.1 x7.1)<|
 A.bd .mono x6.o.1 x7.1<|
 A.bd .mono x6.o.1 x7.1<|
 A.cl M6 M7 (A.get .mono x6.o.1 (A.arith .sub .i64 x6.q.2.2.2.1 x7.1),A.get .mono x6.o.1 x7.1,()) fun x8=>
 A.bind [.i,.i,.i,.i,.i,.i,.i,.i,.l .mono] (A.cond (A.aA (A.cmp .lss x8.1 (A.lit 0))) (A.l1 .i (A.arith .add .i64 x7.1 (A.lit 1)) fun x9=>
 A.ret _ (x6.1,x6.2.1,x6.2.2.1,x6.2.2.2.1,x6.q.1,x9.1,x6.q.2.2.1,x6.q.2.2.2.1,x6.o.1,()))<|
 A.l1 .i x7.1 fun x9=>
 A.ret _ (x6.1,x6.2.1,x6.2.2.1,x6.2.2.2.1,x6.q.1,x6.q.2.1,x9.1,x6.q.2.2.2.1,x6.o.1,())) fun x9=>
 A.inl _ (x9.1,x9.2.1,x9.2.2.1,x9.2.2.2.1,x9.q.1,x9.q.2.1,x9.q.2.2.1,x9.q.2.2.2.1,x9.o.1,()))<|
 A.inr _<|A.l1 .i (A.arith .sub .i64 x6.q.1 x6.q.2.1) fun x7=>
 A.bind [.i,.i,.i,.i,.i,.l .mono] (A.cond (A.ak (A.cmp .lss x6.q.2.1 x6.2.1) (A.cmp .lss x6.2.1 x7.1) (A.bl false)) (A.cl ae8 ae9 (x6.q.2.1,x6.2.1,x7.1,x6.o.1,()) fun x8=>
 A.ret _ (x6.1,x6.2.2.1,x6.2.2.2.1,x6.q.2.1,x7.1,x8.1,()))<|
 A.ret _ (x6.1,x6.2.2.1,x6.2.2.2.1,x6.q.2.1,x7.1,x6.o.1,())) fun x8=>
 A.bind [.i,.i,.i,.l .mono] (A.cond (A.ak (A.cmp .lss x8.1 x8.2.2.2.1) (A.cmp .lss x8.2.2.2.1 x8.2.2.1) (A.bl false)) (A.cl Fp Fq (x8.1,x8.2.2.2.1,x8.2.2.1,x8.q.2.1,()) fun x9=>
 A.ret _ (x8.2.1,x8.2.2.1,x8.q.1,x9.1,()))<|
 A.ret _ (x8.2.1,x8.2.2.1,x8.q.1,x8.q.2.1,())) fun x9=>
 A.bind [.l .mono] (A.cond (A.ak (A.cmp .lss x9.2.1 x9.2.2.1) (A.cmp .lss x9.2.2.1 x9.1) (A.bl false)) (A.cl Fp Fq (x9.2.1,x9.2.2.1,x9.1,x9.2.2.2.1,()) fun x10=>
 A.ret _ (x10.1,()))<|
 A.ret _ (x9.2.2.2.1,())) fun x10=>
 A.ret _ (x10.1,())) (x4.1,x4.2.1,x4.2.2.1,x4.2.2.2.1,x4.q.1,x4.q.2.1,x4.q.2.2.1,x5.1,x4.q.2.2.2.1,())
def Rl (A:Alg) (Yu:Pt A EH) (Yv:Ft A EH) (Fp:Pt A mO) (Fq:Ft A mO) (x:Tup A.ah [.i,.l .mono]):Ot A EK:=
 A.l1 .i (A.lit 20) fun x0=>
 A.l1 .i (A.lit 0) fun x1=>
 A.l1 .i x0.1 fun x2=>
 A.iter [.i,.i,.i,.i,.l .mono] (fun x3=>
 A.cond (A.cmp .leq x3.2.2.2.1 x3.1) (A.cl Yu Yv (x3.2.2.1,x3.2.2.2.1,x3.q.1,()) fun x4=>
 A.l1 .i x3.2.2.2.1 fun x5=>
 A.l1 .i (A.arith .add .i64 x3.2.2.2.1 x3.2.1) fun x6=>
 A.inl _ (x3.1,x3.2.1,x5.1,x6.1,x4.1,()))<|
 A.inr _<|A.cl Yu Yv (x3.2.2.1,x3.1,x3.q.1,()) fun x4=>
 A.iter [.i,.i,.l .mono] (fun x5=>
 A.cond (A.cmp .lss x5.2.1 x5.1) (A.l1 .i (A.lit 0) fun x6=>
 A.l1 .i (A.arith .mul .i64 (A.lit 2) x5.2.1) fun x7=>
 A.iter [.i,.i,.i,.i,.l .mono] (fun x8=>
 A.cond (A.cmp .leq x8.2.2.2.1 x8.1) (A.cl Fp Fq (x8.2.2.1,A.arith .add .i64 x8.2.2.1 x8.2.1,x8.2.2.2.1,x8.q.1,()) fun x9=>
 A.l1 .i x8.2.2.2.1 fun x10=>
 A.l1 .i (A.arith .add .i64 x8.2.2.2.1 (A.arith .mul .i64 (A.lit 2) x8.2.1)) fun x11=>
 A.inl _ (x8.1,x8.2.1,x10.1,x11.1,x9.1,()))<|
 A.inr _<|A.l1 .i (A.arith .add .i64 x8.2.2.1 x8.2.1) fun x9=>
 A.bind [.i,.i,.l .mono] (A.cond (A.cmp .lss x9.1 x8.1) (A.cl Fp Fq (x8.2.2.1,x9.1,x8.1,x8.q.1,()) fun x10=>
 A.ret _ (x8.1,x8.2.1,x10.1,()))<|
 A.ret _ (x8.1,x8.2.1,x8.q.1,())) fun x10=>
 A.l1 .i (A.arith .mul .i64 x10.2.1 (A.lit 2)) fun x11=>
 A.inl _ (x10.1,x11.1,x10.2.2.1,())) (x5.1,x5.2.1,x6.1,x7.1,x5.2.2.1,()))<|
 A.inr _<|A.ret _ (x5.2.2.1,())) (x3.1,x3.2.1,x4.1,())) (x.1,x0.1,x1.1,x2.1,x.2.1,())
def Rm (A:Alg) (afa:Pt A EK) (afb:Ft A EK) (x:Tup A.ah [.l .mono]):Ot A EL:=
 A.cl afa afb (A.len .mono x.1,x.1,()) fun x0=>
 A.ret _ (x0.1,())
def Yw (A:Alg) (Fg:Pt A nO) (Fh:Ft A nO) (kS:Pt A iN) (kU:Ft A iN) (Fu:Pt A uw) (Fv:Ft A uw) (Ye:Pt A Bq) (Yf:Ft A Bq) (afc:Pt A EL) (afd:Ft A EL) (x:Tup A.ah [.l .mono]):Ot A Bw:=
 A.l1 .b (A.bl false) fun x0=>
 A.cl afc afd (x.1,()) fun x1=>
 A.l1 .i (A.lit 0) fun x2=>
 A.iter [.i,.l .mono,.l .mono] (fun x3=>
 A.cond (A.cmp .lss x3.1 (A.len .mono x3.2.1)) (A.bd .mono x3.2.1 x3.1<|
 A.bd .mono x3.2.1 x3.1<|
 A.l1 .i (A.lit 0) fun x4=>
 A.l1 (.x .mono) (A.get .mono x3.2.1 x3.1) fun x5=>
 A.iter [.i,.i,.l .mono,.x .mono,.l .mono] (fun x6=>
 A.chk (A.orB (A.aA (A.cmp .lss x6.1 (A.len .mono x6.2.2.1))) (A.cmp .leq (A.lit 0) x6.1))<|
 A.chk (A.orB (A.aA (A.cmp .lss x6.1 (A.len .mono x6.2.2.1))) (A.cmp .lss x6.1 (A.len .mono x6.2.2.1)))<|
 A.chk (A.orB (A.aA (A.cmp .lss x6.1 (A.len .mono x6.2.2.1))) (A.cmp .leq (A.lit 0) x6.1))<|
 A.chk (A.orB (A.aA (A.cmp .lss x6.1 (A.len .mono x6.2.2.1))) (A.cmp .lss x6.1 (A.len .mono x6.2.2.1)))<|
 A.cg (A.cmp .lss x6.1 (A.len .mono x6.2.2.1)) Fg Fh (A.fL .mono 1 .i64 x6.2.2.2.1,A.fL .mono 1 .i64 (A.get .mono x6.2.2.1 x6.1),()) fun x7=>
 A.cond (A.ak (A.cmp .lss x6.1 (A.len .mono x6.2.2.1)) (A.cmp .eql x7.1 (A.lit 0)) (A.bl false)) (A.bd .mono x6.2.2.1 x6.1<|
 A.bd .mono x6.2.2.1 x6.1<|
 A.cl Fu Fv (A.arith .add .i64 x6.2.1 (A.fI .mono 0 (A.get .mono x6.2.2.1 x6.1)),()) fun x8=>
 A.l1 .i x8.1 fun x9=>
 A.l1 .i (A.arith .add .i64 x6.1 (A.lit 1)) fun x10=>
 A.inl _ (x10.1,x9.1,x6.2.2.1,x6.2.2.2.1,x6.q.1,()))<|
 A.inr _<|A.bind [.i,.l .mono,.l .mono] (A.cond (A.cmp .gtr x6.2.1 (A.lit 0)) (A.cl Ye Yf (A.fL .mono 1 .i64 x6.2.2.2.1,()) fun x8=>
 A.l1 (.l .mono) (A.lst .mono [A.mkX .mono (x6.2.1,x8.1,())]) fun x9=>
 A.chk (A.cmp .leq (A.addN (A.len .mono x6.q.1) (A.len .mono x9.1)) (A.lit 1073741824))<|
 A.l1 (.l .mono) (A.app .mono x6.q.1 x9.1) fun x10=>
 A.ret _ (x6.1,x6.2.2.1,x10.1,()))<|
 A.ret _ (x6.1,x6.2.2.1,x6.q.1,())) fun x8=>
 A.inl _ (x8.1,x8.2.1,x8.2.2.1,())) (x3.1,x4.1,x3.2.1,x5.1,x3.2.2.1,()))<|
 A.inr _<|A.cl kS kU (A.mkX .poly (x3.2.2.1,()),()) fun x4=>
 A.cond (A.aA x4.1) (A.l1 .b (A.bl false) fun x5=>
 A.ret _ (x5.1,x3.2.1,A.aR .mono,()))<|
 A.l1 .b (A.bl true) fun x5=>
 A.ret _ (x5.1,x3.2.1,x3.2.2.1,())) (x2.1,x1.1,A.aR .mono,())
def Yx (A:Alg) (x:Tup A.ah [.i]):Ot A Mv:=
 A.cond (A.cmp .lss x.1 (A.lit 0)) (A.fail)<|
 A.l1 .i (A.arith .sub .i64 x.1 (A.arith .sub .i64 (A.lit 0) (A.lit 0))) fun x0=>
 A.bind [.l .mono] (A.cond (A.cmp .gtr x0.1 (A.lit 0)) (A.chk (A.cmp .eql (A.lit 0) (A.lit 0))<|
 A.chk (A.cmp .eql (A.lit 0) (A.lit 0))<|
 A.chk (A.cmp .leq (A.lit 0) x0.1)<|
 A.chk (A.cmp .leq x0.1 (A.lit 1073741824))<|
 A.chk (A.cmp .leq (A.len .mono (A.rep .mono x0.1 (A.mkX .mono (A.lit 0,A.aR .i64,())))) (A.lit 1073741824))<|
 A.l1 (.l .mono) (A.rep .mono x0.1 (A.mkX .mono (A.lit 0,A.aR .i64,()))) fun x1=>
 A.chk (A.cmp .leq (A.lit 0) (A.lit 0))<|
 A.chk (A.cmp .leq (A.lit 0) (A.lit 0))<|
 A.chk (A.cmp .leq (A.lit 0) (A.len .mono x1.1))<|
 A.chk (A.cmp .eql (A.lit 0) (A.lit 0))<|
 A.chk (A.cmp .leq (A.lit 0) (A.Ja (A.lit 0) (A.lit 0)))<|
 A.chk (A.cmp .leq (A.Ja (A.lit 0) (A.lit 0)) (A.len .mono x1.1))<|
 A.ret _ (A.sub .mono x1.1 (A.lit 0) (A.Ja (A.lit 0) (A.lit 0)),()))<|
 A.ret _ (A.aR .mono,())) fun x1=>
 A.ret _ (x1.1,())
def Yy (A:Alg) (akQ:Pt A Mv) (akR:Ft A Mv) (x:Tup A.ah [.l .poly]):Ot A Mw:=
 A.l1 .i (A.lit 0) fun x0=>
 A.iter [.l .poly,.i,.l .poly,.i,.i] (fun x1=>
 A.cond (A.cmp .lss x1.q.1 x1.2.2.2.1) (A.bd .poly x1.2.2.1 x1.q.1<|
 A.l1 (.l .mono) (A.fL .poly 0 .mono (A.get .poly x1.2.2.1 x1.q.1)) fun x2=>
 A.l1 .i (A.arith .add .i64 x1.2.1 (A.len .mono x2.1)) fun x3=>
 A.cond (A.cmp .lss x3.1 (A.lit 0)) (A.fail)<|
 A.inl _ (x1.1,x3.1,x1.2.2.1,x1.2.2.2.1,A.arith .add .i64 x1.q.1 (A.lit 1),()))<|
 A.inr _<|A.cl akQ akR (x1.2.1,()) fun x2=>
 A.iter [.l .poly,.i,.i,.l .mono] (fun x3=>
 A.cond (A.cmp .lss x3.2.2.1 x3.2.1) (A.bd .poly x3.1 x3.2.2.1<|
 A.l1 (.l .mono) (A.fL .poly 0 .mono (A.get .poly x3.1 x3.2.2.1)) fun x4=>
 A.chk (A.cmp .leq (A.addN (A.len .mono x3.2.2.2.1) (A.len .mono x4.1)) (A.lit 1073741824))<|
 A.l1 (.l .mono) (A.app .mono x3.2.2.2.1 x4.1) fun x5=>
 A.inl _ (x3.1,x3.2.1,A.arith .add .i64 x3.2.2.1 (A.lit 1),x5.1,()))<|
 A.inr _<|A.ret _ (x3.2.2.2.1,())) (x1.1,A.len .poly x1.1,A.lit 0,x2.1,())) (x.1,x0.1,x.1,A.len .poly x.1,A.lit 0,())
def Yz (A:Alg) (kS:Pt A iN) (kU:Ft A iN) (YA:Pt A Bw) (YB:Ft A Bw) (akS:Pt A Mw) (akT:Ft A Mw) (x:Tup A.ah [.x .poly,.x .poly]):Ot A Mx:=
 A.l1 .b (A.bl false) fun x0=>
 A.cl kS kU (x.1,()) fun x1=>
 A.cg (A.aA (A.aA x1.1)) kS kU (x.2.1,()) fun x2=>
 A.cond (A.ak (A.aA x1.1) (A.bl true) (A.aA x2.1)) (A.l1 .b (A.bl false) fun x3=>
 A.ret _ (x3.1,A.aR .mono,()))<|
 A.l1 (.l .poly) (A.lst .poly [A.mkX .poly (A.fL .poly 0 .mono x.1,()),A.mkX .poly (A.fL .poly 0 .mono x.2.1,())]) fun x3=>
 A.cl akS akT (x3.1,()) fun x4=>
 A.cl YA YB (x4.1,()) fun x5=>
 A.l1 .b x5.1 fun x6=>
 A.ret _ (x6.1,x5.2.2.1,())
def Rn (A:Alg) (x:Tup A.ah [.i]):Ot A EM:=
 A.cond (A.cmp .lss x.1 (A.lit 0)) (A.fail)<|
 A.l1 .i (A.arith .sub .i64 x.1 (A.arith .sub .i64 (A.lit 0) (A.lit 0))) fun x0=>
 A.bind [.l .i64] (A.cond (A.cmp .gtr x0.1 (A.lit 0)) (A.chk (A.cmp .eql (A.lit 0) (A.lit 0))<|
 A.chk (A.cmp .eql (A.lit 0) (A.lit 0))<|
 A.chk (A.cmp .leq (A.lit 0) x0.1)<|
 A.chk (A.cmp .leq x0.1 (A.lit 1073741824))<|
 A.chk (A.cmp .leq (A.len .i64 (A.rep .i64 x0.1 (A.mkX .i64 (A.lit 0,())))) (A.lit 1073741824))<|
 A.l1 (.l .i64) (A.rep .i64 x0.1 (A.mkX .i64 (A.lit 0,()))) fun x1=>
 A.chk (A.cmp .leq (A.lit 0) (A.lit 0))<|
 A.chk (A.cmp .leq (A.lit 0) (A.lit 0))<|
 A.chk (A.cmp .leq (A.lit 0) (A.len .i64 x1.1))<|
 A.chk (A.cmp .eql (A.lit 0) (A.lit 0))<|
 A.chk (A.cmp .leq (A.lit 0) (A.Ja (A.lit 0) (A.lit 0)))<|
 A.chk (A.cmp .leq (A.Ja (A.lit 0) (A.lit 0)) (A.len .i64 x1.1))<|
 A.ret _ (A.sub .i64 x1.1 (A.lit 0) (A.Ja (A.lit 0) (A.lit 0)),()))<|
 A.ret _ (A.aR .i64,())) fun x1=>
 A.ret _ (x1.1,())
def YC (A:Alg) (afe:Pt A EM) (aff:Ft A EM) (x:Tup A.ah [.l .ints]):Ot A MB:=
 A.l1 .i (A.lit 0) fun x0=>
 A.iter [.l .ints,.i,.l .ints,.i,.i] (fun x1=>
 A.cond (A.cmp .lss x1.q.1 x1.2.2.2.1) (A.bd .ints x1.2.2.1 x1.q.1<|
 A.l1 (.l .i64) (A.fL .ints 0 .i64 (A.get .ints x1.2.2.1 x1.q.1)) fun x2=>
 A.l1 .i (A.arith .add .i64 x1.2.1 (A.len .i64 x2.1)) fun x3=>
 A.cond (A.cmp .lss x3.1 (A.lit 0)) (A.fail)<|
 A.inl _ (x1.1,x3.1,x1.2.2.1,x1.2.2.2.1,A.arith .add .i64 x1.q.1 (A.lit 1),()))<|
 A.inr _<|A.cl afe aff (x1.2.1,()) fun x2=>
 A.iter [.l .ints,.i,.i,.l .i64] (fun x3=>
 A.cond (A.cmp .lss x3.2.2.1 x3.2.1) (A.bd .ints x3.1 x3.2.2.1<|
 A.l1 (.l .i64) (A.fL .ints 0 .i64 (A.get .ints x3.1 x3.2.2.1)) fun x4=>
 A.chk (A.cmp .leq (A.addN (A.len .i64 x3.2.2.2.1) (A.len .i64 x4.1)) (A.lit 1073741824))<|
 A.l1 (.l .i64) (A.app .i64 x3.2.2.2.1 x4.1) fun x5=>
 A.inl _ (x3.1,x3.2.1,A.arith .add .i64 x3.2.2.1 (A.lit 1),x5.1,()))<|
 A.inr _<|A.ret _ (x3.2.2.2.1,())) (x1.1,A.len .ints x1.1,A.lit 0,x2.1,())) (x.1,x0.1,x.1,A.len .ints x.1,A.lit 0,())
def Ro (A:Alg) (XI:Pt A EC) (XJ:Ft A EC) (x:Tup A.ah [.i,.i,.l .i64]):Ot A EN:=
 A.l1 .i (A.arith .add .i64 x.1 (A.lit 1)) fun x0=>
 A.iter [.i,.i,.i,.l .i64] (fun x1=>
 A.cond (A.cmp .lss x1.2.2.1 x1.2.1) (A.l1 .i x1.2.2.1 fun x2=>
 A.iter [.i,.i,.i,.i,.l .i64] (fun x3=>
 A.chk (A.orB (A.aA (A.cmp .gtr x3.2.2.2.1 x3.1)) (A.cmp .leq (A.lit 0) x3.2.2.2.1))<|
 A.chk (A.orB (A.aA (A.cmp .gtr x3.2.2.2.1 x3.1)) (A.cmp .lss x3.2.2.2.1 (A.len .i64 x3.q.1)))<|
 A.chk (A.orB (A.aA (A.cmp .gtr x3.2.2.2.1 x3.1)) (A.cmp .leq (A.lit 0) x3.2.2.2.1))<|
 A.chk (A.orB (A.aA (A.cmp .gtr x3.2.2.2.1 x3.1)) (A.cmp .lss x3.2.2.2.1 (A.len .i64 x3.q.1)))<|
 A.chk (A.orB (A.aA (A.cmp .gtr x3.2.2.2.1 x3.1)) (A.cmp .leq (A.lit 0) (A.arith .sub .i64 x3.2.2.2.1 (A.lit 1))))<|
 A.chk (A.orB (A.aA (A.cmp .gtr x3.2.2.2.1 x3.1)) (A.cmp .lss (A.arith .sub .i64 x3.2.2.2.1 (A.lit 1)) (A.len .i64 x3.q.1)))<|
 A.chk (A.orB (A.aA (A.cmp .gtr x3.2.2.2.1 x3.1)) (A.cmp .leq (A.lit 0) (A.arith .sub .i64 x3.2.2.2.1 (A.lit 1))))<|
 A.chk (A.orB (A.aA (A.cmp .gtr x3.2.2.2.1 x3.1)) (A.cmp .lss (A.arith .sub .i64 x3.2.2.2.1 (A.lit 1)) (A.len .i64 x3.q.1)))<|
 A.cg (A.cmp .gtr x3.2.2.2.1 x3.1) XI XJ (A.fI .i64 0 (A.get .i64 x3.q.1 x3.2.2.2.1),A.fI .i64 0 (A.get .i64 x3.q.1 (A.arith .sub .i64 x3.2.2.2.1 (A.lit 1))),()) fun x4=>
 A.cond (A.ak (A.cmp .gtr x3.2.2.2.1 x3.1) x4.1 (A.bl false)) (A.bd .i64 x3.q.1 (A.arith .sub .i64 x3.2.2.2.1 (A.lit 1))<|
 A.bd .i64 x3.q.1 (A.arith .sub .i64 x3.2.2.2.1 (A.lit 1))<|
 A.bd .i64 x3.q.1 x3.2.2.2.1<|
 A.bd .i64 x3.q.1 x3.2.2.2.1<|
 A.bd .i64 x3.q.1 x3.2.2.2.1<|
 A.bd .i64 x3.q.1 x3.2.2.2.1<|
 A.l1 .i (A.fI .i64 0 (A.get .i64 x3.q.1 (A.arith .sub .i64 x3.2.2.2.1 (A.lit 1)))) fun x5=>
 A.bd .i64 (A.set .i64 x3.q.1 x3.2.2.2.1 (A.mkX .i64 (x5.1,()))) (A.arith .sub .i64 x3.2.2.2.1 (A.lit 1))<|
 A.bd .i64 (A.set .i64 x3.q.1 x3.2.2.2.1 (A.mkX .i64 (x5.1,()))) (A.arith .sub .i64 x3.2.2.2.1 (A.lit 1))<|
 A.l1 .i (A.fI .i64 0 (A.get .i64 x3.q.1 x3.2.2.2.1)) fun x6=>
 A.l1 .i (A.arith .sub .i64 x3.2.2.2.1 (A.lit 1)) fun x7=>
 A.inl _ (x3.1,x3.2.1,x3.2.2.1,x7.1,A.set .i64 (A.set .i64 x3.q.1 x3.2.2.2.1 (A.mkX .i64 (x5.1,()))) (A.arith .sub .i64 x3.2.2.2.1 (A.lit 1)) (A.mkX .i64 (x6.1,())),()))<|
 A.inr _<|A.l1 .i (A.arith .add .i64 x3.2.2.1 (A.lit 1)) fun x5=>
 A.inl _ (x3.1,x3.2.1,x5.1,x3.q.1,())) (x1.1,x1.2.1,x1.2.2.1,x2.1,x1.2.2.2.1,()))<|
 A.inr _<|A.ret _ (x1.2.2.2.1,())) (x.1,x.2.1,x0.1,x.2.2.1,())
def Rp (A:Alg) (XI:Pt A EC) (XJ:Ft A EC) (afg:Pt A EN) (afh:Ft A EN) (afi:Pt A EP) (afj:Ft A EP) (afk:Pt A ER) (afl:Ft A ER) (afm:Pt A ET) (afn:Ft A ET) (afo:Pt A EU) (afp:Ft A EU) (afq:Pt A EW) (afr:Ft A EW) (afs:Pt A EZ) (aft:Ft A EZ) (afu:Pt A E5) (afv:Ft A E5) (JC:Pt A oH) (JD:Ft A oH) (x:Tup A.ah [.i,.i,.i,.l .i64]):Ot A oH:=
 A.l1 .b (A.bl true) fun x0=>
 A.l1 .b (A.bl true) fun x1=>
 A.iter [.i,.i,.i,.b,.b,.l .i64] (fun x2=>
 A.rJ [.i,.i,.i,.b,.b,.l .i64] (A.l1 .i (A.arith .sub .i64 x2.2.1 x2.1) fun x3=>
 A.cond (A.cmp .leq x3.1 (A.lit 12)) (A.cl afg afh (x2.1,x2.2.1,x2.q.2.1,()) fun x4=>
 A.inr _<|A.inr _<|A.ret _ (x4.1,()))<|
 A.cond (A.cmp .eql x2.2.2.1 (A.lit 0)) (A.cl afi afj (x2.1,x2.2.1,x2.q.2.1,()) fun x4=>
 A.inr _<|A.inr _<|A.ret _ (x4.1,()))<|
 A.bind [.i,.i,.i,.b,.b,.i,.l .i64] (A.cond (A.aA x2.2.2.2.1) (A.cl afk afl (x2.1,x2.2.1,x2.q.2.1,()) fun x4=>
 A.l1 .i (A.arith .sub .i64 x2.2.2.1 (A.lit 1)) fun x5=>
 A.ret _ (x2.1,x2.2.1,x5.1,x2.2.2.2.1,x2.q.1,x3.1,x4.1,()))<|
 A.ret _ (x2.1,x2.2.1,x2.2.2.1,x2.2.2.2.1,x2.q.1,x3.1,x2.q.2.1,())) fun x4=>
 A.cl afm afn (x4.1,x4.2.1,x4.q.2.2.1,()) fun x5=>
 A.l1 .i x5.1 fun x6=>
 A.l1 .i x5.2.1 fun x7=>
 A.bind [.i,.i,.i,.b,.b,.i,.i,.i,.l .i64] (A.cond (A.cmp .eql x7.1 (A.lit 2)) (A.cl afo afp (x4.1,x4.2.1,x5.2.2.1,()) fun x8=>
 A.l1 .i (A.arith .sub .i64 (A.arith .sub .i64 x4.2.1 (A.lit 1)) (A.arith .sub .i64 x6.1 x4.1)) fun x9=>
 A.l1 .i (A.lit 1) fun x10=>
 A.ret _ (x4.1,x4.2.1,x4.2.2.1,x4.2.2.2.1,x4.q.1,x4.q.2.1,x9.1,x10.1,x8.1,()))<|
 A.ret _ (x4.1,x4.2.1,x4.2.2.1,x4.2.2.2.1,x4.q.1,x4.q.2.1,x6.1,x7.1,x5.2.2.1,())) fun x8=>
 A.rJ [.i,.i,.i,.b,.b,.i,.i,.l .i64] (A.cond (A.ak (A.ak x8.2.2.2.1 x8.q.1 (A.bl false)) (A.cmp .eql x8.q.2.2.2.1 (A.lit 1)) (A.bl false)) (A.cl afq afr (x8.1,x8.2.1,x8.o.1,()) fun x9=>
 A.cond x9.1 (A.inr _<|A.inr _<|A.inr _<|A.ret _ (x9.2.1,()))<|
 A.inl _ (x8.1,x8.2.1,x8.2.2.1,x8.2.2.2.1,x8.q.1,x8.q.2.1,x8.q.2.2.1,x9.2.1,()))<|
 A.inl _ (x8.1,x8.2.1,x8.2.2.1,x8.2.2.2.1,x8.q.1,x8.q.2.1,x8.q.2.2.1,x8.o.1,())) fun x9=>
 A.chk (A.orB (A.aA (A.cmp .gtr x9.1 (A.lit 0))) (A.cmp .leq (A.lit 0) (A.arith .sub .i64 x9.1 (A.lit 1))))<|
 A.chk (A.orB (A.aA (A.cmp .gtr x9.1 (A.lit 0))) (A.cmp .lss (A.arith .sub .i64 x9.1 (A.lit 1)) (A.len .i64 x9.q.2.2.2.1)))<|
 A.chk (A.orB (A.aA (A.cmp .gtr x9.1 (A.lit 0))) (A.cmp .leq (A.lit 0) (A.arith .sub .i64 x9.1 (A.lit 1))))<|
 A.chk (A.orB (A.aA (A.cmp .gtr x9.1 (A.lit 0))) (A.cmp .lss (A.arith .sub .i64 x9.1 (A.lit 1)) (A.len .i64 x9.q.2.2.2.1)))<|
 A.chk (A.orB (A.aA (A.cmp .gtr x9.1 (A.lit 0))) (A.cmp .leq (A.lit 0) x9.q.2.2.1))<|
 A.chk (A.orB (A.aA (A.cmp .gtr x9.1 (A.lit 0))) (A.cmp .lss x9.q.2.2.1 (A.len .i64 x9.q.2.2.2.1)))<|
 A.chk (A.orB (A.aA (A.cmp .gtr x9.1 (A.lit 0))) (A.cmp .leq (A.lit 0) x9.q.2.2.1))<|
 A.chk (A.orB (A.aA (A.cmp .gtr x9.1 (A.lit 0))) (A.cmp .lss x9.q.2.2.1 (A.len .i64 x9.q.2.2.2.1)))<|
 A.cg (A.cmp .gtr x9.1 (A.lit 0)) XI XJ (A.fI .i64 0 (A.get .i64 x9.q.2.2.2.1 (A.arith .sub .i64 x9.1 (A.lit 1))),A.fI .i64 0 (A.get .i64 x9.q.2.2.2.1 x9.q.2.2.1),()) fun x10=>
 A.cond (A.ak (A.cmp .gtr x9.1 (A.lit 0)) (A.aA x10.1) (A.bl false)) (A.cl afs aft (x9.1,x9.2.1,x9.q.2.2.1,x9.q.2.2.2.1,()) fun x11=>
 A.l1 .i x11.1 fun x12=>
 A.l1 .i x12.1 fun x13=>
 A.inl _ (x13.1,x9.2.1,x9.2.2.1,x9.2.2.2.1,x9.q.1,x11.2.1,()))<|
 A.cl afu afv (x9.1,x9.2.1,x9.q.2.2.1,x9.q.2.2.2.1,()) fun x11=>
 A.l1 .i x11.1 fun x12=>
 A.l1 .b x11.2.1 fun x13=>
 A.l1 .b x13.1 fun x14=>
 A.l1 .i (A.arith .sub .i64 x12.1 x9.1) fun x15=>
 A.l1 .i (A.arith .sub .i64 x9.2.1 x12.1) fun x16=>
 A.chk (A.cmp .neq (A.lit 8) (A.lit 0))<|
 A.l1 .i (A.arith .quo .i64 x9.q.2.1 (A.lit 8)) fun x17=>
 A.bind [.i,.i,.i,.b,.b,.l .i64] (A.cond (A.cmp .lss x15.1 x16.1) (A.l1 .b (A.cmp .geq x15.1 x17.1) fun x18=>
 A.cl JC JD (x9.1,x12.1,x9.2.2.1,x11.2.2.1,()) fun x19=>
 A.l1 .i (A.arith .add .i64 x12.1 (A.lit 1)) fun x20=>
 A.ret _ (x20.1,x9.2.1,x9.2.2.1,x18.1,x14.1,x19.1,()))<|
 A.l1 .b (A.cmp .geq x16.1 x17.1) fun x18=>
 A.cl JC JD (A.arith .add .i64 x12.1 (A.lit 1),x9.2.1,x9.2.2.1,x11.2.2.1,()) fun x19=>
 A.l1 .i x12.1 fun x20=>
 A.ret _ (x9.1,x20.1,x9.2.2.1,x18.1,x14.1,x19.1,())) fun x18=>
 A.inl _ (x18.1,x18.2.1,x18.2.2.1,x18.2.2.2.1,x18.q.1,x18.q.2.1,())) fun x3=>
 A.inl _ (x3.1,x3.2.1,x3.2.2.1,x3.2.2.2.1,x3.q.1,x3.q.2.1,())) (x.1,x.2.1,x.2.2.1,x0.1,x1.1,x.2.2.2.1,())
def Rq (A:Alg) (JC:Pt A oH) (JD:Ft A oH) (akU:Pt A TK) (akV:Ft A TK) (x:Tup A.ah [.l .i64]):Ot A E8:=
 A.l1 .i (A.len .i64 x.1) fun x0=>
 A.cl akU akV (A.conv .u64 x0.1,()) fun x1=>
 A.cl JC JD (A.lit 0,x0.1,x1.1,x.1,()) fun x2=>
 A.ret _ (x2.1,())
def YD (A:Alg) (kS:Pt A iN) (kU:Ft A iN) (Fu:Pt A uw) (Fv:Ft A uw) (YA:Pt A Bw) (YB:Ft A Bw) (akW:Pt A MB) (akX:Ft A MB) (afw:Pt A E8) (afx:Ft A E8) (x:Tup A.ah [.x .poly,.x .poly]):Ot A Bz:=
 A.l1 .b (A.bl false) fun x0=>
 A.cl kS kU (x.1,()) fun x1=>
 A.cg (A.aA (A.aA x1.1)) kS kU (x.2.1,()) fun x2=>
 A.cond (A.ak (A.aA x1.1) (A.bl true) (A.aA x2.1)) (A.l1 .b (A.bl false) fun x3=>
 A.ret _ (x3.1,A.aR .mono,()))<|
 A.iter [.l .mono,.i,.i,.x .poly,.l .mono] (fun x3=>
 A.cond (A.cmp .lss x3.2.2.1 x3.2.1) (A.bd .mono x3.1 x3.2.2.1<|
 A.l1 (.x .mono) (A.get .mono x3.1 x3.2.2.1) fun x4=>
 A.iter [.l .mono,.i,.i,.l .mono,.i,.i,.x .poly,.l .mono,.x .mono] (fun x5=>
 A.cond (A.cmp .lss x5.q.2.1 x5.q.1) (A.bd .mono x5.2.2.2.1 x5.q.2.1<|
 A.l1 (.x .mono) (A.get .mono x5.2.2.2.1 x5.q.2.1) fun x6=>
 A.l1 (.l .ints) (A.lst .ints [A.mkX .ints (A.fL .mono 1 .i64 x5.o.1,()),A.mkX .ints (A.fL .mono 1 .i64 x6.1,())]) fun x7=>
 A.cl akW akX (x7.1,()) fun x8=>
 A.cl afw afx (x8.1,()) fun x9=>
 A.cl Fu Fv (A.arith .mul .i64 (A.fI .mono 0 x5.o.1) (A.fI .mono 0 x6.1),()) fun x10=>
 A.l1 (.l .mono) (A.lst .mono [A.mkX .mono (x10.1,x9.1,())]) fun x11=>
 A.chk (A.cmp .leq (A.addN (A.len .mono x5.q.2.2.2.1) (A.len .mono x11.1)) (A.lit 1073741824))<|
 A.l1 (.l .mono) (A.app .mono x5.q.2.2.2.1 x11.1) fun x12=>
 A.inl _ (x5.1,x5.2.1,x5.2.2.1,x5.2.2.2.1,x5.q.1,A.arith .add .i64 x5.q.2.1 (A.lit 1),x5.q.2.2.1,x12.1,x5.o.1,()))<|
 A.inr _<|A.inl _ (x5.1,x5.2.1,A.arith .add .i64 x5.2.2.1 (A.lit 1),x5.q.2.2.1,x5.q.2.2.2.1,())) (x3.1,x3.2.1,x3.2.2.1,A.fL .poly 0 .mono x3.2.2.2.1,A.len .mono (A.fL .poly 0 .mono x3.2.2.2.1),A.lit 0,x3.2.2.2.1,x3.q.1,x4.1,()))<|
 A.inr _<|A.cl YA YB (x3.q.1,()) fun x4=>
 A.l1 .b x4.1 fun x5=>
 A.ret _ (x5.1,x4.2.2.1,())) (A.fL .poly 0 .mono x.1,A.len .mono (A.fL .poly 0 .mono x.1),A.lit 0,x.2.1,A.aR .mono,())
def YE (A:Alg) (kS:Pt A iN) (kU:Ft A iN) (M8:Pt A uo) (M9:Ft A uo) (uz:Pt A kR) (uD:Ft A kR) (YF:Pt A Bz) (YG:Ft A Bz) (x:Tup A.ah [.x .poly,.i]):Ot A MC:=
 A.cl kS kU (x.1,()) fun x0=>
 A.cg (A.aA (A.aA x0.1)) uz uD (x.2.1,()) fun x1=>
 A.cond (A.ak (A.aA x0.1) (A.bl true) (A.aA x1.1)) (A.ret _ (A.aR .mono,()))<|
 A.cl M8 M9 (x.2.1,()) fun x2=>
 A.cl YF YG (x.1,A.mkX .poly (x2.1,()),()) fun x3=>
 A.l1 .b x3.1 fun x4=>
 A.ret _ (x3.2.1,())
def YH (A:Alg) (uz:Pt A kR) (uD:Ft A kR) (Fu:Pt A uw) (Fv:Ft A uw) (x:Tup A.ah [.i,.i,.i]):Ot A ME:=
 A.l1 .i (A.lit 0) fun x0=>
 A.cl uz uD (x.2.1,()) fun x1=>
 A.cg (A.aA (A.aA x1.1)) uz uD (x.2.2.1,()) fun x2=>
 A.cond (A.ak (A.aA x1.1) (A.bl true) (A.aA x2.1)) (A.l1 .i (A.lit 0) fun x3=>
 A.ret _ (x3.1,()))<|
 A.l1 .b (A.cmp .eql x.1 (A.lit 1)) fun x3=>
 A.cond x3.1 (A.cl Fu Fv (A.arith .add .i64 x.2.1 x.2.2.1,()) fun x4=>
 A.l1 .i x4.1 fun x5=>
 A.ret _ (x5.1,()))<|
 A.l1 .b (A.cmp .eql x.1 (A.lit 2)) fun x4=>
 A.cond x4.1 (A.cl Fu Fv (A.arith .sub .i64 x.2.1 x.2.2.1,()) fun x5=>
 A.l1 .i x5.1 fun x6=>
 A.ret _ (x6.1,()))<|
 A.l1 .b (A.cmp .eql x.1 (A.lit 3)) fun x5=>
 A.cond x5.1 (A.cl Fu Fv (A.arith .mul .i64 x.2.1 x.2.2.1,()) fun x6=>
 A.l1 .i x6.1 fun x7=>
 A.ret _ (x7.1,()))<|
 A.l1 .b (A.cmp .eql x.1 (A.lit 4)) fun x6=>
 A.cond x6.1 (A.l1 .i (A.arith .and .i64 x.2.1 x.2.2.1) fun x7=>
 A.ret _ (x7.1,()))<|
 A.l1 .b (A.cmp .eql x.1 (A.lit 5)) fun x7=>
 A.cond x7.1 (A.l1 .i (A.arith .xor .i64 x.2.1 x.2.2.1) fun x8=>
 A.ret _ (x8.1,()))<|
 A.l1 .i (A.lit 0) fun x8=>
 A.ret _ (x8.1,())
def YI (A:Alg) (lN:Pt A jJ) (lQ:Ft A jJ) (M8:Pt A uo) (M9:Ft A uo) (akY:Pt A ME) (akZ:Ft A ME) (ach:Pt A Mx) (aci:Ft A Mx) (YF:Pt A Bz) (YG:Ft A Bz) (ak0:Pt A MC) (ak1:Ft A MC) (Na:Pt A Bu) (Nb:Ft A Bu) (x:Tup A.ah [.i,.x .poly,.x .poly]):Ot A MF:=
 A.l1 .b (A.bl false) fun x0=>
 A.l1 .b (A.cmp .eql x.1 (A.lit 1)) fun x1=>
 A.cond x1.1 (A.cl ach aci (x.2.1,x.2.2.1,()) fun x2=>
 A.l1 .b x2.1 fun x3=>
 A.ret _ (A.mkX .poly (x2.2.1,()),x3.1,()))<|
 A.l1 .b (A.cmp .eql x.1 (A.lit 2)) fun x2=>
 A.cond x2.1 (A.cl ak0 ak1 (x.2.2.1,A.lit 65535,()) fun x3=>
 A.cl ach aci (x.2.1,A.mkX .poly (x3.1,()),()) fun x4=>
 A.l1 .b x4.1 fun x5=>
 A.ret _ (A.mkX .poly (x4.2.1,()),x5.1,()))<|
 A.l1 .b (A.cmp .eql x.1 (A.lit 3)) fun x3=>
 A.cond x3.1 (A.cl YF YG (x.2.1,x.2.2.1,()) fun x4=>
 A.l1 .b x4.1 fun x5=>
 A.ret _ (A.mkX .poly (x4.2.1,()),x5.1,()))<|
 A.cl Na Nb (x.2.1,()) fun x4=>
 A.l1 .i x4.1 fun x5=>
 A.l1 .b x4.2.1 fun x6=>
 A.cl Na Nb (x.2.2.1,()) fun x7=>
 A.l1 .i x7.1 fun x8=>
 A.l1 .b x7.2.1 fun x9=>
 A.l1 .b (A.ak x6.1 x9.1 (A.bl false)) fun x10=>
 A.cond x10.1 (A.cl akY akZ (x.1,x5.1,x8.1,()) fun x11=>
 A.cl M8 M9 (x11.1,()) fun x12=>
 A.l1 .b (A.bl true) fun x13=>
 A.ret _ (A.mkX .poly (x12.1,()),x13.1,()))<|
 A.cl lN lQ (x.2.1,x.2.2.1,()) fun x11=>
 A.l1 .b (A.ak x11.1 (A.cmp .eql x.1 (A.lit 4)) (A.bl false)) fun x12=>
 A.cond x12.1 (A.l1 (.x .poly) x.2.1 fun x13=>
 A.l1 .b (A.bl true) fun x14=>
 A.ret _ (x13.1,x14.1,()))<|
 A.cl lN lQ (x.2.1,x.2.2.1,()) fun x13=>
 A.l1 .b x13.1 fun x14=>
 A.cond x14.1 (A.l1 .b (A.bl true) fun x15=>
 A.ret _ (A.mkX .poly (A.aR .mono,()),x15.1,()))<|
 A.bind [.i,.i,.b,.x .poly] (A.cond x6.1 (A.l1 (.x .poly) x.2.2.1 fun x15=>
 A.l1 .i x5.1 fun x16=>
 A.l1 .b (A.bl true) fun x17=>
 A.ret _ (x.1,x16.1,x17.1,x15.1,()))<|
 A.ret _ (x.1,x8.1,x9.1,x.2.1,())) fun x15=>
 A.l1 .b (A.ak (A.ak x15.2.2.1 (A.cmp .eql x15.1 (A.lit 4)) (A.bl false)) (A.cmp .eql x15.2.1 (A.lit 0)) (A.bl false)) fun x16=>
 A.cond x16.1 (A.l1 .b (A.bl true) fun x17=>
 A.ret _ (A.mkX .poly (A.aR .mono,()),x17.1,()))<|
 A.l1 .b (A.ak x15.2.2.1 (A.ak (A.ak (A.cmp .eql x15.1 (A.lit 4)) (A.cmp .eql x15.2.1 (A.lit 65535)) (A.bl false)) (A.bl true) (A.ak (A.cmp .eql x15.1 (A.lit 5)) (A.cmp .eql x15.2.1 (A.lit 0)) (A.bl false))) (A.bl false)) fun x17=>
 A.cond x17.1 (A.l1 (.x .poly) x15.2.2.2.1 fun x18=>
 A.l1 .b (A.bl true) fun x19=>
 A.ret _ (x18.1,x19.1,()))<|
 A.l1 .b (A.bl false) fun x18=>
 A.ret _ (A.mkX .poly (A.aR .mono,()),x18.1,())
def YJ (A:Alg) (M4:Pt A uj) (M5:Ft A uj) (ak2:Pt A MF) (ak3:Ft A MF) (X9:Pt A Bj) (Ya:Ft A Bj) (X7:Pt A Bn) (X8:Ft A Bn) (x:Tup A.ah [.x .tab,.i,.x .poly,.x .poly]):Ot A MG:=
 A.l1 .b (A.bl false) fun x0=>
 A.cl ak2 ak3 (x.2.1,x.2.2.1,x.2.2.2.1,()) fun x1=>
 A.l1 (.x .poly) x1.1 fun x2=>
 A.l1 .b x1.2.1 fun x3=>
 A.cond x3.1 (A.l1 (.x .tab) x.1 fun x4=>
 A.l1 (.x .poly) x2.1 fun x5=>
 A.l1 .b (A.bl true) fun x6=>
 A.ret _ (x4.1,x5.1,x6.1,()))<|
 A.cg (A.cmp .neq x.2.1 (A.lit 2)) M4 M5 (x.2.2.1,x.2.2.2.1,()) fun x4=>
 A.bind [.i,.x .tab,.x .poly,.x .poly] (A.cond (A.ak (A.cmp .neq x.2.1 (A.lit 2)) (A.cmp .gtr x4.1 (A.lit 0)) (A.bl false)) (A.l1 (.x .poly) x.2.2.2.1 fun x5=>
 A.l1 (.x .poly) x.2.2.1 fun x6=>
 A.ret _ (x.2.1,x.1,x5.1,x6.1,()))<|
 A.ret _ (x.2.1,x.1,x.2.2.1,x.2.2.2.1,())) fun x5=>
 A.cl X9 Ya (x5.2.1,A.mkX .atom (A.lit 4,x5.1,A.fL .poly 0 .mono x5.2.2.1,A.fL .poly 0 .mono x5.2.2.2.1,()),()) fun x6=>
 A.l1 (.x .tab) x6.1 fun x7=>
 A.l1 .i x6.2.1 fun x8=>
 A.cond (A.cmp .lss x8.1 (A.lit 0)) (A.l1 .b (A.bl false) fun x9=>
 A.ret _ (A.mkX .tab (A.aR .atom,()),A.mkX .poly (A.aR .mono,()),x9.1,()))<|
 A.cl X7 X8 (x8.1,()) fun x9=>
 A.l1 (.x .tab) x7.1 fun x10=>
 A.l1 .b (A.bl true) fun x11=>
 A.ret _ (x10.1,A.mkX .poly (x9.1,()),x11.1,())
def YK (A:Alg) (y7:Pt A um) (y8:Ft A um) (x:Tup A.ah [.l .poly]):Ot A MH:=
 A.iter [.l .poly,.i,.i,.l .poly] (fun x0=>
 A.cond (A.cmp .lss x0.2.2.1 x0.2.1) (A.bd .poly x0.1 x0.2.2.1<|
 A.l1 (.x .poly) (A.get .poly x0.1 x0.2.2.1) fun x1=>
 A.cl y7 y8 (x1.1,()) fun x2=>
 A.l1 (.l .poly) (A.lst .poly [A.mkX .poly (x2.1,())]) fun x3=>
 A.chk (A.cmp .leq (A.addN (A.len .poly x0.2.2.2.1) (A.len .poly x3.1)) (A.lit 1073741824))<|
 A.l1 (.l .poly) (A.app .poly x0.2.2.2.1 x3.1) fun x4=>
 A.inl _ (x0.1,x0.2.1,A.arith .add .i64 x0.2.2.1 (A.lit 1),x4.1,()))<|
 A.inr _<|A.ret _ (x0.2.2.2.1,())) (x.1,A.len .poly x.1,A.lit 0,A.aR .poly,())
def YL (A:Alg) (y7:Pt A um) (y8:Ft A um) (acj:Pt A MH) (acn:Ft A MH) (x:Tup A.ah [.x .sym]):Ot A MI:=
 A.cl acj acn (A.fL .sym 1 .poly x.1,()) fun x0=>
 A.cl y7 y8 (A.mkX .poly (A.fL .sym 3 .mono x.1,()),()) fun x1=>
 A.cl y7 y8 (A.mkX .poly (A.fL .sym 4 .mono x.1,()),()) fun x2=>
 A.iter [.l .ev,.i,.i,.i,.i,.i,.i,.l .ev,.l .poly,.l .mono,.l .mono] (fun x3=>
 A.cond (A.cmp .lss x3.2.2.1 x3.2.1) (A.bd .ev x3.1 x3.2.2.1<|
 A.l1 (.x .ev) (A.get .ev x3.1 x3.2.2.1) fun x4=>
 A.cl y7 y8 (A.mkX .poly (A.fL .ev 2 .mono x4.1,()),()) fun x5=>
 A.cl y7 y8 (A.mkX .poly (A.fL .ev 3 .mono x4.1,()),()) fun x6=>
 A.cl acj acn (A.fL .ev 4 .poly x4.1,()) fun x7=>
 A.l1 (.l .ev) (A.lst .ev [A.mkX .ev (A.fI .ev 0 x4.1,A.fI .ev 1 x4.1,x5.1,x6.1,x7.1,())]) fun x8=>
 A.chk (A.cmp .leq (A.addN (A.len .ev x3.q.2.2.2.1) (A.len .ev x8.1)) (A.lit 1073741824))<|
 A.l1 (.l .ev) (A.app .ev x3.q.2.2.2.1 x8.1) fun x9=>
 A.inl _ (x3.1,x3.2.1,A.arith .add .i64 x3.2.2.1 (A.lit 1),x3.2.2.2.1,x3.q.1,x3.q.2.1,x3.q.2.2.1,x9.1,x3.o.1,x3.o.2.1,x3.o.2.2.1,()))<|
 A.inr _<|A.ret _ (x3.q.2.1,x3.q.2.2.1,x3.q.2.2.2.1,x3.o.1,x3.o.2.1,x3.o.2.2.1,())) (A.fL .sym 0 .ev x.1,A.len .ev (A.fL .sym 0 .ev x.1),A.lit 0,A.lit 0,A.lit 0,A.fI .sym 2 x.1,A.fI .sym 5 x.1,A.aR .ev,x0.1,x1.1,x2.1,())
def YM (A:Alg) (uz:Pt A kR) (uD:Ft A kR) (x:Tup A.ah [.i,.i,.i]):Ot A MJ:=
 A.l1 .b (A.bl false) fun x0=>
 A.cl uz uD (x.2.1,()) fun x1=>
 A.cg x1.1 uz uD (x.2.2.1,()) fun x2=>
 A.rb (A.ak (A.ak x1.1 x2.1 (A.bl false)) (A.ak (A.ak (A.cmp .eql x.1 (A.lit 1)) (A.cmp .eql x.2.1 x.2.2.1) (A.bl false)) (A.bl true) (A.ak (A.cmp .eql x.1 (A.lit 2)) (A.cmp .lss x.2.1 x.2.2.1) (A.bl false))) (A.bl false))
def YN (A:Alg) (Na:Pt A Bu) (Nb:Ft A Bu) (kS:Pt A iN) (kU:Ft A iN) (M4:Pt A uj) (M5:Ft A uj) (ak4:Pt A MI) (ak5:Ft A MI) (lN:Pt A jJ) (lQ:Ft A jJ) (ak6:Pt A MJ) (ak7:Ft A MJ) (x:Tup A.ah [.x .sym,.i]):Ot A MK:=
 A.cl kS kU (A.mkX .poly (A.fL .sym 3 .mono x.1,()),()) fun x0=>
 A.cg (A.aA (A.aA x0.1)) kS kU (A.mkX .poly (A.fL .sym 4 .mono x.1,()),()) fun x1=>
 A.cond (A.ak (A.aA x0.1) (A.bl true) (A.aA x1.1)) (A.ret _ (A.mkX .sym (A.aR .ev,A.aR .poly,A.lit 0,A.aR .mono,A.aR .mono,A.lit 0,()),()))<|
 A.cl ak4 ak5 (x.1,()) fun x2=>
 A.cl Na Nb (A.mkX .poly (A.fL .sym 3 .mono x.1,()),()) fun x3=>
 A.l1 .i x3.1 fun x4=>
 A.l1 .b x3.2.1 fun x5=>
 A.cl Na Nb (A.mkX .poly (A.fL .sym 4 .mono x.1,()),()) fun x6=>
 A.l1 .i x6.1 fun x7=>
 A.l1 .b x6.2.1 fun x8=>
 A.l1 .i (A.arith .add .i64 (A.arith .sub .i64 (A.fI .sym 2 x.1) (A.lit 3)) (A.lit 1)) fun x9=>
 A.l1 .b (A.ak (A.cmp .eql (A.fI .sym 2 x.1) (A.lit 2)) x5.1 (A.bl false)) fun x10=>
 A.bind [.i,.i,.i,.i,.l .ev,.l .poly,.l .mono,.l .mono] (A.cond x10.1 (A.l1 .i (A.lit 1) fun x11=>
 A.l1 .i x4.1 fun x12=>
 A.ret _ (A.lit 0,A.lit 0,x11.1,x12.1,x2.2.2.1,x2.2.2.2.1,A.aR .mono,A.aR .mono,()))<|
 A.l1 .b (A.ak (A.cmp .neq (A.fI .sym 2 x.1) (A.lit 3)) (A.cmp .neq (A.fI .sym 2 x.1) (A.lit 4)) (A.bl false)) fun x11=>
 A.bind [.i,.i,.i,.i,.l .ev,.l .poly,.l .mono,.l .mono] (A.cond x11.1 (A.ret _ (A.lit 0,A.lit 0,x2.1,x2.2.1,x2.2.2.1,x2.2.2.2.1,x2.q.1,x2.q.2.1,()))<|
 A.cl lN lQ (A.mkX .poly (A.fL .sym 3 .mono x.1,()),A.mkX .poly (A.fL .sym 4 .mono x.1,()),()) fun x12=>
 A.l1 .b (A.ak x12.1 (A.bl true) (A.ak x5.1 x8.1 (A.bl false))) fun x13=>
 A.bind [.i,.i,.i,.i,.l .ev,.l .poly,.l .mono,.l .mono] (A.cond x13.1 (A.cl lN lQ (A.mkX .poly (A.fL .sym 3 .mono x.1,()),A.mkX .poly (A.fL .sym 4 .mono x.1,()),()) fun x14=>
 A.cg (A.nA (A.aA (A.ak x14.1 (A.cmp .eql (A.fI .sym 2 x.1) (A.lit 3)) (A.bl false))) (A.ak x5.1 x8.1 (A.bl false))) ak6 ak7 (x9.1,x4.1,x7.1,()) fun x15=>
 A.l1 .b (A.ak (A.ak x14.1 (A.cmp .eql (A.fI .sym 2 x.1) (A.lit 3)) (A.bl false)) (A.bl true) (A.ak (A.ak x5.1 x8.1 (A.bl false)) x15.1 (A.bl false))) fun x16=>
 A.l1 .i (A.lit 1) fun x17=>
 A.bind [.i,.i,.i,.i,.l .ev,.l .poly] (A.cond (A.aA x16.1) (A.l1 .i x.2.1 fun x18=>
 A.ret _ (A.lit 0,A.lit 0,x17.1,x18.1,x2.2.2.1,x2.2.2.2.1,()))<|
 A.ret _ (A.lit 0,A.lit 0,x17.1,x2.2.1,x2.2.2.1,x2.2.2.2.1,())) fun x18=>
 A.ret _ (x18.1,x18.2.1,x18.2.2.1,x18.2.2.2.1,x18.q.1,x18.q.2.1,A.aR .mono,A.aR .mono,()))<|
 A.cg (A.cmp .eql (A.fI .sym 2 x.1) (A.lit 3)) M4 M5 (A.mkX .poly (A.fL .sym 3 .mono x.1,()),A.mkX .poly (A.fL .sym 4 .mono x.1,()),()) fun x14=>
 A.l1 .b (A.ak (A.cmp .eql (A.fI .sym 2 x.1) (A.lit 3)) (A.cmp .gtr x14.1 (A.lit 0)) (A.bl false)) fun x15=>
 A.bind [.i,.i,.i,.i,.l .ev,.l .poly,.l .mono,.l .mono] (A.cond x15.1 (A.ret _ (A.lit 0,A.lit 0,x2.1,x2.2.1,x2.2.2.1,x2.2.2.2.1,x2.q.2.1,x2.q.1,()))<|
 A.ret _ (A.lit 0,A.lit 0,x2.1,x2.2.1,x2.2.2.1,x2.2.2.2.1,x2.q.1,x2.q.2.1,())) fun x16=>
 A.ret _ (x16.1,x16.2.1,x16.2.2.1,x16.2.2.2.1,x16.q.1,x16.q.2.1,x16.q.2.2.1,x16.q.2.2.2.1,())) fun x14=>
 A.ret _ (x14.1,x14.2.1,x14.2.2.1,x14.2.2.2.1,x14.q.1,x14.q.2.1,x14.q.2.2.1,x14.q.2.2.2.1,())) fun x12=>
 A.ret _ (x12.1,x12.2.1,x12.2.2.1,x12.2.2.2.1,x12.q.1,x12.q.2.1,x12.q.2.2.1,x12.q.2.2.2.1,())) fun x11=>
 A.ret _ (A.mkX .sym (x11.q.1,x11.q.2.1,x11.2.2.1,x11.q.2.2.1,x11.q.2.2.2.1,x11.2.2.2.1,()),())
def YO (A:Alg) (Xw:Pt A Bc) (Xx:Ft A Bc) (TS:Pt A Bd) (TT:Ft A Bd) (ak8:Pt A Ms) (ak9:Ft A Ms) (Xp:Pt A A8) (Xq:Ft A A8) (M8:Pt A uo) (M9:Ft A uo) (ala:Pt A MK) (alb:Ft A MK) (alc:Pt A Mr) (ald:Ft A Mr) (Yi:Pt A Br) (Yj:Ft A Br) (ale:Pt A MG) (alf:Ft A MG) (TQ:Pt A Bo) (TR:Ft A Bo) (Yk:Pt A Bp) (Yl:Ft A Bp) (alg:Pt A Mt) (alh:Ft A Mt) (x:Tup A.ah [.x .tab,.x .blk]):Ot A ML:=
 A.cl alc ald (x.1,()) fun x0=>
 A.cg (A.aA (A.ak (A.aA x0.1) (A.bl true) (A.cmp .gtr (A.len .atom (A.fL .tab 0 .atom x.1)) (A.lit 100)))) TS TT (x.2.1,()) fun x1=>
 A.cond (A.ak (A.ak (A.aA x0.1) (A.bl true) (A.cmp .gtr (A.len .atom (A.fL .tab 0 .atom x.1)) (A.lit 100))) (A.bl true) (A.aA x1.1)) (A.ret _ (A.mkX .tab (A.aR .atom,()),A.mkX .sym (A.aR .ev,A.aR .poly,A.lit 0,A.aR .mono,A.aR .mono,A.lit 0,()),()))<|
 A.cl Yk Yl (A.fL .tab 0 .atom x.1,A.bl false,()) fun x2=>
 A.chk (A.cmp .eql (A.len .iop (A.fL .blk 2 .iop x.2.1)) (A.len .iop (A.fL .blk 2 .iop x.2.1)))<|
 A.chk (A.cmp .leq (A.lit 0) (A.len .iop (A.fL .blk 2 .iop x.2.1)))<|
 A.chk (A.cmp .leq (A.len .iop (A.fL .blk 2 .iop x.2.1)) (A.lit 1073741824))<|
 A.l1 (.l .poly) (A.rep .poly (A.len .iop (A.fL .blk 2 .iop x.2.1)) (A.mkX .poly (A.aR .mono,()))) fun x3=>
 A.l1 .i (A.lit 0) fun x4=>
 A.l1 .i (A.lit 0) fun x5=>
 A.iter [.i,.i,.l .iop,.i,.i,.x .blk,.i,.i,.l .atom,.b,.i,.i,.l .poly,.l .ev,.l .poly] (fun x6=>
 A.cond (A.cmp .lss x6.q.1 x6.2.2.2.1) (A.bd .iop x6.2.2.1 x6.q.1<|
 A.l1 .i x6.q.1 fun x7=>
 A.l1 (.x .iop) (A.get .iop x6.2.2.1 x6.q.1) fun x8=>
 A.cl Xp Xq (x8.1,()) fun x9=>
 A.l1 .b x9.1 fun x10=>
 A.l1 .b x9.2.1 fun x11=>
 A.l1 .b x9.2.2.1 fun x12=>
 A.l1 .b x9.2.2.2.1 fun x13=>
 A.bind [.i,.i,.i,.b,.l .iop,.i,.i,.x .blk,.i,.i,.l .atom,.b,.i,.i,.l .poly,.x .iop,.x .poly,.l .ev,.l .poly] (A.cond x10.1 (A.bd .poly x6.o.q.1 (A.fI .iop 1 x8.1)<|
 A.bd .poly x6.o.q.1 (A.fI .iop 1 x8.1)<|
 A.l1 (.x .poly) (A.get .poly x6.o.q.1 (A.fI .iop 1 x8.1)) fun x14=>
 A.ret _ (x6.1,x6.2.1,x7.1,x11.1,x6.2.2.1,x6.2.2.2.1,x6.q.1,x6.q.2.1,x6.q.2.2.1,x6.q.2.2.2.1,x6.o.1,x6.o.2.1,x6.o.2.2.1,x6.o.2.2.2.1,x6.o.q.1,x8.1,x14.1,x6.o.q.2.1,x6.o.q.2.2.1,()))<|
 A.ret _ (x6.1,x6.2.1,x7.1,x11.1,x6.2.2.1,x6.2.2.2.1,x6.q.1,x6.q.2.1,x6.q.2.2.1,x6.q.2.2.2.1,x6.o.1,x6.o.2.1,x6.o.2.2.1,x6.o.2.2.2.1,x6.o.q.1,x8.1,A.mkX .poly (A.aR .mono,()),x6.o.q.2.1,x6.o.q.2.2.1,())) fun x14=>
 A.bind [.i,.i,.i,.l .iop,.i,.i,.x .blk,.i,.i,.l .atom,.b,.i,.i,.l .poly,.x .iop,.x .poly,.x .poly,.l .ev,.l .poly] (A.cond x14.2.2.2.1 (A.bd .poly x14.o.q.2.2.1 (A.fI .iop 2 x14.o.q.2.2.2.1)<|
 A.bd .poly x14.o.q.2.2.1 (A.fI .iop 2 x14.o.q.2.2.2.1)<|
 A.l1 (.x .poly) (A.get .poly x14.o.q.2.2.1 (A.fI .iop 2 x14.o.q.2.2.2.1)) fun x15=>
 A.ret _ (x14.1,x14.2.1,x14.2.2.1,x14.q.1,x14.q.2.1,x14.q.2.2.1,x14.q.2.2.2.1,x14.o.1,x14.o.2.1,x14.o.2.2.1,x14.o.2.2.2.1,x14.o.q.1,x14.o.q.2.1,x14.o.q.2.2.1,x14.o.q.2.2.2.1,x14.o.o.1,x15.1,x14.o.o.2.1,x14.o.o.2.2.1,()))<|
 A.ret _ (x14.1,x14.2.1,x14.2.2.1,x14.q.1,x14.q.2.1,x14.q.2.2.1,x14.q.2.2.2.1,x14.o.1,x14.o.2.1,x14.o.2.2.1,x14.o.2.2.2.1,x14.o.q.1,x14.o.q.2.1,x14.o.q.2.2.1,x14.o.q.2.2.2.1,x14.o.o.1,A.mkX .poly (A.aR .mono,()),x14.o.o.2.1,x14.o.o.2.2.1,())) fun x15=>
 A.cl ak8 ak9 (x15.o.q.2.2.1,()) fun x16=>
 A.bind [.i,.i,.i,.l .iop,.i,.i,.x .blk,.i,.i,.l .atom,.b,.i,.i,.l .poly,.x .iop,.x .poly,.x .poly,.l .ev,.l .poly] (A.cond x16.1 (A.bind [.i,.i,.i,.l .iop,.i,.i,.x .blk,.i,.i,.l .atom,.b,.i,.i,.l .poly,.x .iop,.x .poly,.x .poly,.i,.i,.l .mono,.l .mono,.l .ev,.l .poly,.l .poly] (A.cond (A.ak (A.cmp .eql (A.fI .iop 0 x15.o.q.2.2.1) (A.lit 4)) (A.bl true) (A.cmp .eql (A.fI .iop 0 x15.o.q.2.2.1) (A.lit 5))) (A.cl alg alh (x15.o.o.2.2.1,()) fun x17=>
 A.ret _ (x15.1,x15.2.1,x15.2.2.1,x15.2.2.2.1,x15.q.1,x15.q.2.1,x15.q.2.2.1,x15.q.2.2.2.1,x15.o.1,x15.o.2.1,x15.o.2.2.1,x15.o.2.2.2.1,x15.o.q.1,x15.o.q.2.1,x15.o.q.2.2.1,x15.o.q.2.2.2.1,x15.o.o.1,A.fI .iop 0 x15.o.q.2.2.1,A.fI .iop 4 x15.o.q.2.2.1,A.fL .poly 0 .mono x15.o.q.2.2.2.1,A.fL .poly 0 .mono x15.o.o.1,x15.o.o.2.1,x17.1,x17.2.1,()))<|
 A.ret _ (x15.1,x15.2.1,x15.2.2.1,x15.2.2.2.1,x15.q.1,x15.q.2.1,x15.q.2.2.1,x15.q.2.2.2.1,x15.o.1,x15.o.2.1,x15.o.2.2.1,x15.o.2.2.2.1,x15.o.q.1,x15.o.q.2.1,x15.o.q.2.2.1,x15.o.q.2.2.2.1,x15.o.o.1,A.fI .iop 0 x15.o.q.2.2.1,A.fI .iop 4 x15.o.q.2.2.1,A.fL .poly 0 .mono x15.o.q.2.2.2.1,A.fL .poly 0 .mono x15.o.o.1,x15.o.o.2.1,x15.o.o.2.2.1,A.aR .poly,())) fun x17=>
 A.l1 (.l .ev) (A.lst .ev [A.mkX .ev (x17.o.o.2.1,x17.o.o.2.2.1,x17.o.o.2.2.2.1,x17.o.o.q.1,x17.o.o.q.2.2.2.1,())]) fun x18=>
 A.chk (A.cmp .leq (A.addN (A.len .ev x17.o.o.q.2.1) (A.len .ev x18.1)) (A.lit 1073741824))<|
 A.l1 (.l .ev) (A.app .ev x17.o.o.q.2.1 x18.1) fun x19=>
 A.ret _ (x17.1,x17.2.1,x17.2.2.1,x17.2.2.2.1,x17.q.1,x17.q.2.1,x17.q.2.2.1,x17.q.2.2.2.1,x17.o.1,x17.o.2.1,x17.o.2.2.1,x17.o.2.2.2.1,x17.o.q.1,x17.o.q.2.1,x17.o.q.2.2.1,x17.o.q.2.2.2.1,x17.o.o.1,x19.1,x17.o.o.q.2.2.1,()))<|
 A.ret _ (x15.1,x15.2.1,x15.2.2.1,x15.2.2.2.1,x15.q.1,x15.q.2.1,x15.q.2.2.1,x15.q.2.2.2.1,x15.o.1,x15.o.2.1,x15.o.2.2.1,x15.o.2.2.2.1,x15.o.q.1,x15.o.q.2.1,x15.o.q.2.2.1,x15.o.q.2.2.2.1,x15.o.o.1,x15.o.o.2.1,x15.o.o.2.2.1,())) fun x17=>
 A.l1 .b (A.cmp .eql (A.fI .iop 0 x17.o.q.2.2.1) (A.lit 1)) fun x18=>
 A.rJ [.i,.i,.l .iop,.i,.i,.x .blk,.i,.i,.l .atom,.b,.i,.i,.l .poly,.l .ev,.l .poly] (A.cond x18.1 (A.cl M8 M9 (A.fI .iop 3 x17.o.q.2.2.1,()) fun x19=>
 A.bd .poly x17.o.q.2.1 x17.2.2.1<|
 A.bd .poly x17.o.q.2.1 x17.2.2.1<|
 A.inl _ (x17.1,x17.2.1,x17.2.2.2.1,x17.q.1,x17.q.2.1,x17.q.2.2.1,x17.q.2.2.2.1,x17.o.1,x17.o.2.1,x17.o.2.2.1,x17.o.2.2.2.1,x17.o.q.1,A.set .poly x17.o.q.2.1 x17.2.2.1 (A.mkX .poly (x19.1,())),x17.o.o.2.1,x17.o.o.2.2.1,()))<|
 A.l1 .b (A.cmp .eql (A.fI .iop 0 x17.o.q.2.2.1) (A.lit 2)) fun x19=>
 A.rJ [.i,.i,.l .iop,.i,.i,.x .blk,.i,.i,.l .atom,.b,.i,.i,.l .poly,.l .ev,.l .poly] (A.cond x19.1 (A.bd .poly x17.o.o.2.2.1 (A.fI .iop 3 x17.o.q.2.2.1)<|
 A.bd .poly x17.o.o.2.2.1 (A.fI .iop 3 x17.o.q.2.2.1)<|
 A.bd .poly x17.o.q.2.1 x17.2.2.1<|
 A.bd .poly x17.o.q.2.1 x17.2.2.1<|
 A.l1 (.x .poly) (A.get .poly x17.o.o.2.2.1 (A.fI .iop 3 x17.o.q.2.2.1)) fun x20=>
 A.inl _ (x17.1,x17.2.1,x17.2.2.2.1,x17.q.1,x17.q.2.1,x17.q.2.2.1,x17.q.2.2.2.1,x17.o.1,x17.o.2.1,x17.o.2.2.1,x17.o.2.2.2.1,x17.o.q.1,A.set .poly x17.o.q.2.1 x17.2.2.1 x20.1,x17.o.o.2.1,x17.o.o.2.2.1,()))<|
 A.l1 .b (A.cmp .eql (A.fI .iop 0 x17.o.q.2.2.1) (A.lit 3)) fun x20=>
 A.rJ [.i,.i,.l .iop,.i,.i,.x .blk,.i,.i,.l .atom,.b,.i,.i,.l .poly,.l .ev,.l .poly] (A.cond x20.1 (A.cl ale alf (A.mkX .tab (x17.o.2.1,()),A.fI .iop 3 x17.o.q.2.2.1,x17.o.q.2.2.2.1,x17.o.o.1,()) fun x21=>
 A.l1 (.x .tab) x21.1 fun x22=>
 A.l1 (.x .poly) x21.2.1 fun x23=>
 A.l1 .b x21.2.2.1 fun x24=>
 A.cond (A.aA x24.1) (A.inr _<|A.inr _<|A.inr _<|A.inr _<|A.ret _ (A.mkX .tab (A.aR .atom,()),A.mkX .sym (A.aR .ev,A.aR .poly,A.lit 0,A.aR .mono,A.aR .mono,A.lit 0,()),()))<|
 A.l1 (.x .tab) x22.1 fun x25=>
 A.bd .poly x17.o.q.2.1 x17.2.2.1<|
 A.bd .poly x17.o.q.2.1 x17.2.2.1<|
 A.l1 (.x .poly) x23.1 fun x26=>
 A.inl _ (x17.1,x17.2.1,x17.2.2.2.1,x17.q.1,x17.q.2.1,x17.q.2.2.1,x17.q.2.2.2.1,x17.o.1,A.fL .tab 0 .atom x25.1,x17.o.2.2.1,x17.o.2.2.2.1,x17.o.q.1,A.set .poly x17.o.q.2.1 x17.2.2.1 x26.1,x17.o.o.2.1,x17.o.o.2.2.1,()))<|
 A.l1 .b (A.cmp .eql (A.fI .iop 0 x17.o.q.2.2.1) (A.lit 4)) fun x21=>
 A.bind [.i,.i,.l .iop,.i,.i,.x .blk,.i,.i,.l .atom,.b,.i,.i,.l .poly,.l .ev,.l .poly] (A.cond x21.1 (A.cl TQ TR (A.lit 2,x17.1,x17.o.2.1,x17.o.2.2.1,()) fun x22=>
 A.bd .poly x17.o.q.2.1 x17.2.2.1<|
 A.bd .poly x17.o.q.2.1 x17.2.2.1<|
 A.l1 (.x .poly) x22.1 fun x23=>
 A.l1 .i (A.arith .add .i64 x17.1 (A.lit 1)) fun x24=>
 A.ret _ (x24.1,x17.2.1,x17.2.2.2.1,x17.q.1,x17.q.2.1,x17.q.2.2.1,x17.q.2.2.2.1,x17.o.1,x22.2.1,x22.2.2.1,x17.o.2.2.2.1,x17.o.q.1,A.set .poly x17.o.q.2.1 x17.2.2.1 x23.1,x17.o.o.2.1,x17.o.o.2.2.1,()))<|
 A.l1 .b (A.cmp .eql (A.fI .iop 0 x17.o.q.2.2.1) (A.lit 6)) fun x22=>
 A.bind [.i,.i,.l .iop,.i,.i,.x .blk,.i,.i,.l .atom,.b,.i,.i,.l .poly,.l .ev,.l .poly] (A.cond x22.1 (A.cl TQ TR (A.lit 3,x17.2.1,x17.o.2.1,x17.o.2.2.1,()) fun x23=>
 A.bd .poly x17.o.q.2.1 x17.2.2.1<|
 A.bd .poly x17.o.q.2.1 x17.2.2.1<|
 A.l1 (.x .poly) x23.1 fun x24=>
 A.l1 .i (A.arith .add .i64 x17.2.1 (A.lit 1)) fun x25=>
 A.ret _ (x17.1,x25.1,x17.2.2.2.1,x17.q.1,x17.q.2.1,x17.q.2.2.1,x17.q.2.2.2.1,x17.o.1,x23.2.1,x23.2.2.1,x17.o.2.2.2.1,x17.o.q.1,A.set .poly x17.o.q.2.1 x17.2.2.1 x24.1,x17.o.o.2.1,x17.o.o.2.2.1,()))<|
 A.l1 .b (A.cmp .eql (A.fI .iop 0 x17.o.q.2.2.1) (A.lit 8)) fun x23=>
 A.bind [.i,.i,.l .iop,.i,.i,.x .blk,.i,.i,.l .atom,.b,.i,.i,.l .poly,.l .ev,.l .poly] (A.cond x23.1 (A.bd .poly x17.o.o.2.2.1 (A.fI .iop 3 x17.o.q.2.2.1)<|
 A.bd .poly x17.o.o.2.2.1 (A.fI .iop 3 x17.o.q.2.2.1)<|
 A.l1 (.x .poly) x17.o.q.2.2.2.1 fun x24=>
 A.ret _ (x17.1,x17.2.1,x17.2.2.2.1,x17.q.1,x17.q.2.1,x17.q.2.2.1,x17.q.2.2.2.1,x17.o.1,x17.o.2.1,x17.o.2.2.1,x17.o.2.2.2.1,x17.o.q.1,x17.o.q.2.1,x17.o.o.2.1,A.set .poly x17.o.o.2.2.1 (A.fI .iop 3 x17.o.q.2.2.1) x24.1,()))<|
 A.ret _ (x17.1,x17.2.1,x17.2.2.2.1,x17.q.1,x17.q.2.1,x17.q.2.2.1,x17.q.2.2.2.1,x17.o.1,x17.o.2.1,x17.o.2.2.1,x17.o.2.2.2.1,x17.o.q.1,x17.o.q.2.1,x17.o.o.2.1,x17.o.o.2.2.1,())) fun x24=>
 A.ret _ (x24.1,x24.2.1,x24.2.2.1,x24.2.2.2.1,x24.q.1,x24.q.2.1,x24.q.2.2.1,x24.q.2.2.2.1,x24.o.1,x24.o.2.1,x24.o.2.2.1,x24.o.2.2.2.1,x24.o.q.1,x24.o.q.2.1,x24.o.q.2.2.1,())) fun x23=>
 A.ret _ (x23.1,x23.2.1,x23.2.2.1,x23.2.2.2.1,x23.q.1,x23.q.2.1,x23.q.2.2.1,x23.q.2.2.2.1,x23.o.1,x23.o.2.1,x23.o.2.2.1,x23.o.2.2.2.1,x23.o.q.1,x23.o.q.2.1,x23.o.q.2.2.1,())) fun x22=>
 A.inl _ (x22.1,x22.2.1,x22.2.2.1,x22.2.2.2.1,x22.q.1,x22.q.2.1,x22.q.2.2.1,x22.q.2.2.2.1,x22.o.1,x22.o.2.1,x22.o.2.2.1,x22.o.2.2.2.1,x22.o.q.1,x22.o.q.2.1,x22.o.q.2.2.1,())) fun x21=>
 A.inl _ (x21.1,x21.2.1,x21.2.2.1,x21.2.2.2.1,x21.q.1,x21.q.2.1,x21.q.2.2.1,x21.q.2.2.2.1,x21.o.1,x21.o.2.1,x21.o.2.2.1,x21.o.2.2.2.1,x21.o.q.1,x21.o.q.2.1,x21.o.q.2.2.1,())) fun x20=>
 A.inl _ (x20.1,x20.2.1,x20.2.2.1,x20.2.2.2.1,x20.q.1,x20.q.2.1,x20.q.2.2.1,x20.q.2.2.2.1,x20.o.1,x20.o.2.1,x20.o.2.2.1,x20.o.2.2.2.1,x20.o.q.1,x20.o.q.2.1,x20.o.q.2.2.1,())) fun x19=>
 A.inl _ (x19.1,x19.2.1,x19.2.2.1,x19.2.2.2.1,A.arith .add .i64 x19.q.1 (A.lit 1),x19.q.2.1,x19.q.2.2.1,x19.q.2.2.2.1,x19.o.1,x19.o.2.1,x19.o.2.2.1,x19.o.2.2.2.1,x19.o.q.1,x19.o.q.2.1,x19.o.q.2.2.1,()))<|
 A.inr _<|A.cl Xw Xx (x6.q.2.1,()) fun x7=>
 A.l1 .b x7.1 fun x8=>
 A.l1 .b x7.2.1 fun x9=>
 A.l1 .b x7.2.2.1 fun x10=>
 A.bind [.b,.x .blk,.i,.i,.l .atom,.b,.i,.l .mono,.i,.l .poly,.l .ev,.l .poly] (A.cond x8.1 (A.bd .poly x6.o.q.1 (A.fI .blk 4 x6.q.2.1)<|
 A.bd .poly x6.o.q.1 (A.fI .blk 4 x6.q.2.1)<|
 A.l1 (.x .poly) (A.get .poly x6.o.q.1 (A.fI .blk 4 x6.q.2.1)) fun x11=>
 A.ret _ (x9.1,x6.q.2.1,x6.q.2.2.1,x6.q.2.2.2.1,x6.o.1,x6.o.2.1,x6.o.2.2.1,A.fL .poly 0 .mono x11.1,x6.o.2.2.2.1,x6.o.q.1,x6.o.q.2.1,x6.o.q.2.2.1,()))<|
 A.ret _ (x9.1,x6.q.2.1,x6.q.2.2.1,x6.q.2.2.2.1,x6.o.1,x6.o.2.1,x6.o.2.2.1,A.aR .mono,x6.o.2.2.2.1,x6.o.q.1,x6.o.q.2.1,x6.o.q.2.2.1,())) fun x11=>
 A.bind [.x .blk,.i,.i,.l .atom,.b,.i,.l .mono,.l .mono,.i,.l .ev,.l .poly] (A.cond x11.1 (A.bd .poly x11.o.2.1 (A.fI .blk 5 x11.2.1)<|
 A.bd .poly x11.o.2.1 (A.fI .blk 5 x11.2.1)<|
 A.l1 (.x .poly) (A.get .poly x11.o.2.1 (A.fI .blk 5 x11.2.1)) fun x12=>
 A.ret _ (x11.2.1,x11.2.2.1,x11.2.2.2.1,x11.q.1,x11.q.2.1,x11.q.2.2.1,x11.q.2.2.2.1,A.fL .poly 0 .mono x12.1,x11.o.1,x11.o.2.2.1,x11.o.2.2.2.1,()))<|
 A.ret _ (x11.2.1,x11.2.2.1,x11.2.2.2.1,x11.q.1,x11.q.2.1,x11.q.2.2.1,x11.q.2.2.2.1,A.aR .mono,x11.o.1,x11.o.2.2.1,x11.o.2.2.2.1,())) fun x12=>
 A.cond x12.q.1 (A.ret _ (A.mkX .tab (A.aR .atom,()),A.mkX .sym (A.aR .ev,A.aR .poly,A.lit 0,A.aR .mono,A.aR .mono,A.lit 0,()),()))<|
 A.cl Yi Yj (A.mkX .tab (x12.2.2.2.1,()),()) fun x13=>
 A.cl ala alb (A.mkX .sym (x12.o.2.1,x12.o.2.2.1,x12.q.2.1,x12.q.2.2.1,x12.q.2.2.2.1,x12.o.1,()),A.arith .add .i64 (A.fI .blk 0 x12.1) (A.fI .blk 1 x12.1),()) fun x14=>
 A.l1 (.x .sym) x14.1 fun x15=>
 A.ret _ (A.mkX .tab (x13.1,()),x15.1,())) (x4.1,x5.1,A.fL .blk 2 .iop x.2.1,A.len .iop (A.fL .blk 2 .iop x.2.1),A.lit 0,x.2.1,A.lit 0,A.lit 0,x2.1,x2.2.1,A.fI .blk 3 x.2.1,A.fI .blk 6 x.2.1,x3.1,A.aR .ev,x2.2.2.1,())
def YP (A:Alg) (lN:Pt A jJ) (lQ:Ft A jJ) (x:Tup A.ah [.x .poly,.x .poly]):Ot A MN:=
 A.l1 .b (A.bl false) fun x0=>
 A.cl lN lQ (x.1,x.2.1,()) fun x1=>
 A.rb x1.1
def YQ (A:Alg) (ali:Pt A MN) (alj:Ft A MN) (x:Tup A.ah [.l .poly,.l .poly]):Ot A MO:=
 A.l1 .b (A.bl false) fun x0=>
 A.cond (A.cmp .neq (A.len .poly x.1) (A.len .poly x.2.1)) (A.rb (A.bl false))<|
 A.iter [.l .poly,.l .poly,.i,.i] (fun x1=>
 A.cond (A.cmp .lss x1.2.2.2.1 x1.2.2.1) (A.bd .poly x1.2.1 x1.2.2.2.1<|
 A.l1 .i x1.2.2.2.1 fun x2=>
 A.l1 (.x .poly) (A.get .poly x1.2.1 x1.2.2.2.1) fun x3=>
 A.bd .poly x1.1 x2.1<|
 A.l1 (.x .poly) (A.get .poly x1.1 x2.1) fun x4=>
 A.cl ali alj (x3.1,x4.1,()) fun x5=>
 A.cond (A.aA x5.1) (A.l1 .b (A.bl false) fun x6=>
 A.inr _<|A.ret _ (x6.1,()))<|
 A.inl _ (x1.1,x1.2.1,x1.2.2.1,A.arith .add .i64 x1.2.2.2.1 (A.lit 1),()))<|
 A.inr _<|A.rb (A.bl true)) (x.2.1,x.1,A.len .poly x.1,A.lit 0,())
def YR (A:Alg) (alk:Pt A MO) (alm:Ft A MO) (x:Tup A.ah [.l .poly,.l .poly]):Ot A BA:=
 A.l1 .b (A.bl false) fun x0=>
 A.cl alk alm (x.1,x.2.1,()) fun x1=>
 A.rb x1.1
def YS (A:Alg) (lN:Pt A jJ) (lQ:Ft A jJ) (YT:Pt A BA) (YU:Ft A BA) (x:Tup A.ah [.x .ev,.x .ev]):Ot A MQ:=
 A.l1 .b (A.bl false) fun x0=>
 A.cg (A.ak (A.cmp .eql (A.fI .ev 0 x.1) (A.fI .ev 0 x.2.1)) (A.cmp .eql (A.fI .ev 1 x.1) (A.fI .ev 1 x.2.1)) (A.bl false)) lN lQ (A.mkX .poly (A.fL .ev 2 .mono x.1,()),A.mkX .poly (A.fL .ev 2 .mono x.2.1,()),()) fun x1=>
 A.cg (A.ak (A.ak (A.cmp .eql (A.fI .ev 0 x.1) (A.fI .ev 0 x.2.1)) (A.cmp .eql (A.fI .ev 1 x.1) (A.fI .ev 1 x.2.1)) (A.bl false)) x1.1 (A.bl false)) lN lQ (A.mkX .poly (A.fL .ev 3 .mono x.1,()),A.mkX .poly (A.fL .ev 3 .mono x.2.1,()),()) fun x2=>
 A.cg (A.ak (A.ak (A.ak (A.cmp .eql (A.fI .ev 0 x.1) (A.fI .ev 0 x.2.1)) (A.cmp .eql (A.fI .ev 1 x.1) (A.fI .ev 1 x.2.1)) (A.bl false)) x1.1 (A.bl false)) x2.1 (A.bl false)) YT YU (A.fL .ev 4 .poly x.1,A.fL .ev 4 .poly x.2.1,()) fun x3=>
 A.rb (A.ak (A.ak (A.ak (A.ak (A.cmp .eql (A.fI .ev 0 x.1) (A.fI .ev 0 x.2.1)) (A.cmp .eql (A.fI .ev 1 x.1) (A.fI .ev 1 x.2.1)) (A.bl false)) x1.1 (A.bl false)) x2.1 (A.bl false)) x3.1 (A.bl false))
def YV (A:Alg) (aln:Pt A MQ) (alo:Ft A MQ) (x:Tup A.ah [.l .ev,.l .ev]):Ot A MR:=
 A.l1 .b (A.bl false) fun x0=>
 A.cond (A.cmp .neq (A.len .ev x.1) (A.len .ev x.2.1)) (A.rb (A.bl false))<|
 A.iter [.l .ev,.l .ev,.i,.i] (fun x1=>
 A.cond (A.cmp .lss x1.2.2.2.1 x1.2.2.1) (A.bd .ev x1.2.1 x1.2.2.2.1<|
 A.l1 .i x1.2.2.2.1 fun x2=>
 A.l1 (.x .ev) (A.get .ev x1.2.1 x1.2.2.2.1) fun x3=>
 A.bd .ev x1.1 x2.1<|
 A.l1 (.x .ev) (A.get .ev x1.1 x2.1) fun x4=>
 A.cl aln alo (x3.1,x4.1,()) fun x5=>
 A.cond (A.aA x5.1) (A.l1 .b (A.bl false) fun x6=>
 A.inr _<|A.ret _ (x6.1,()))<|
 A.inl _ (x1.1,x1.2.1,x1.2.2.1,A.arith .add .i64 x1.2.2.2.1 (A.lit 1),()))<|
 A.inr _<|A.rb (A.bl true)) (x.2.1,x.1,A.len .ev x.1,A.lit 0,())
def YW (A:Alg) (lN:Pt A jJ) (lQ:Ft A jJ) (YT:Pt A BA) (YU:Ft A BA) (alp:Pt A MR) (alq:Ft A MR) (x:Tup A.ah [.x .sym,.x .sym]):Ot A MS:=
 A.l1 .b (A.bl false) fun x0=>
 A.cl alp alq (A.fL .sym 0 .ev x.1,A.fL .sym 0 .ev x.2.1,()) fun x1=>
 A.l1 .b x1.1 fun x2=>
 A.cg x2.1 YT YU (A.fL .sym 1 .poly x.1,A.fL .sym 1 .poly x.2.1,()) fun x3=>
 A.cg (A.ak (A.ak x2.1 x3.1 (A.bl false)) (A.cmp .eql (A.fI .sym 2 x.1) (A.fI .sym 2 x.2.1)) (A.bl false)) lN lQ (A.mkX .poly (A.fL .sym 3 .mono x.1,()),A.mkX .poly (A.fL .sym 3 .mono x.2.1,()),()) fun x4=>
 A.cg (A.ak (A.ak (A.ak x2.1 x3.1 (A.bl false)) (A.cmp .eql (A.fI .sym 2 x.1) (A.fI .sym 2 x.2.1)) (A.bl false)) x4.1 (A.bl false)) lN lQ (A.mkX .poly (A.fL .sym 4 .mono x.1,()),A.mkX .poly (A.fL .sym 4 .mono x.2.1,()),()) fun x5=>
 A.rb (A.ak (A.ak (A.ak (A.ak (A.ak x2.1 x3.1 (A.bl false)) (A.cmp .eql (A.fI .sym 2 x.1) (A.fI .sym 2 x.2.1)) (A.bl false)) x4.1 (A.bl false)) x5.1 (A.bl false)) (A.cmp .eql (A.fI .sym 5 x.1) (A.fI .sym 5 x.2.1)) (A.bl false))
def YX (A:Alg) (TS:Pt A Bd) (TT:Ft A Bd) (alr:Pt A Ma) (als:Ft A Ma) (alu:Pt A Mq) (alv:Ft A Mq) (aco:Pt A ML) (acp:Ft A ML) (alx:Pt A MS) (aly:Ft A MS) (x:Tup A.ah [.x .blk,.x .blk]):Ot A MU:=
 A.l1 .b (A.bl false) fun x0=>
 A.cl TS TT (x.1,()) fun x1=>
 A.cg (A.aA (A.aA x1.1)) TS TT (x.2.1,()) fun x2=>
 A.cond (A.ak (A.ak (A.ak (A.aA x1.1) (A.bl true) (A.aA x2.1)) (A.bl true) (A.cmp .neq (A.fI .blk 0 x.1) (A.fI .blk 0 x.2.1))) (A.bl true) (A.cmp .neq (A.fI .blk 1 x.1) (A.fI .blk 1 x.2.1))) (A.rb (A.bl false))<|
 A.cl alr als (x.1,x.2.1,()) fun x3=>
 A.cond x3.1 (A.rb (A.bl true))<|
 A.cl alu alv () fun x4=>
 A.l1 (.x .tab) x4.1 fun x5=>
 A.l1 (.l .poly) x4.2.1 fun x6=>
 A.cl aco acp (x5.1,x.1,()) fun x7=>
 A.l1 (.x .tab) x7.1 fun x8=>
 A.l1 (.x .sym) x7.2.1 fun x9=>
 A.cl aco acp (x8.1,x.2.1,()) fun x10=>
 A.l1 (.x .tab) x10.1 fun x11=>
 A.l1 (.x .sym) x10.2.1 fun x12=>
 A.cl alx aly (x9.1,x12.1,()) fun x13=>
 A.rb x13.1
def YZ (A:Alg) (x:Tup A.ah [.x .iop,.x .iop]):Ot A MV:=
 A.l1 .b (A.bl false) fun x0=>
 A.cond (A.cmp .neq (A.fI .iop 0 x.1) (A.fI .iop 0 x.2.1)) (A.rb (A.bl false))<|
 A.cond (A.cmp .neq (A.fI .iop 1 x.1) (A.fI .iop 1 x.2.1)) (A.rb (A.bl false))<|
 A.cond (A.cmp .neq (A.fI .iop 2 x.1) (A.fI .iop 2 x.2.1)) (A.rb (A.bl false))<|
 A.cond (A.cmp .neq (A.fI .iop 3 x.1) (A.fI .iop 3 x.2.1)) (A.rb (A.bl false))<|
 A.cond (A.cmp .neq (A.fI .iop 4 x.1) (A.fI .iop 4 x.2.1)) (A.rb (A.bl false))<|
 A.rb (A.bl true)
def Y0 (A:Alg) (alz:Pt A MV) (alA:Ft A MV) (x:Tup A.ah [.l .iop,.l .iop]):Ot A MW:=
 A.l1 .b (A.bl false) fun x0=>
 A.cond (A.cmp .neq (A.len .iop x.1) (A.len .iop x.2.1)) (A.rb (A.bl false))<|
 A.l1 .i (A.lit 0) fun x1=>
 A.iter [.l .iop,.l .iop,.i] (fun x2=>
 A.cond (A.cmp .lss x2.2.2.1 (A.len .iop x2.1)) (A.bd .iop x2.1 x2.2.2.1<|
 A.bd .iop x2.2.1 x2.2.2.1<|
 A.cl alz alA (A.get .iop x2.1 x2.2.2.1,A.get .iop x2.2.1 x2.2.2.1,()) fun x3=>
 A.cond (A.aA x3.1) (A.l1 .b (A.bl false) fun x4=>
 A.inr _<|A.ret _ (x4.1,()))<|
 A.l1 .i (A.arith .add .i64 x2.2.2.1 (A.lit 1)) fun x4=>
 A.inl _ (x2.1,x2.2.1,x4.1,()))<|
 A.inr _<|A.rb (A.bl true)) (x.1,x.2.1,x1.1,())
def Y1 (A:Alg) (alB:Pt A MW) (alC:Ft A MW) (x:Tup A.ah [.x .blk,.x .blk]):Ot A MX:=
 A.l1 .b (A.bl false) fun x0=>
 A.cond (A.cmp .neq (A.fI .blk 0 x.1) (A.fI .blk 0 x.2.1)) (A.rb (A.bl false))<|
 A.cond (A.cmp .neq (A.fI .blk 1 x.1) (A.fI .blk 1 x.2.1)) (A.rb (A.bl false))<|
 A.cl alB alC (A.fL .blk 2 .iop x.1,A.fL .blk 2 .iop x.2.1,()) fun x1=>
 A.cond (A.aA x1.1) (A.rb (A.bl false))<|
 A.cond (A.cmp .neq (A.fI .blk 3 x.1) (A.fI .blk 3 x.2.1)) (A.rb (A.bl false))<|
 A.cond (A.cmp .neq (A.fI .blk 4 x.1) (A.fI .blk 4 x.2.1)) (A.rb (A.bl false))<|
 A.cond (A.cmp .neq (A.fI .blk 5 x.1) (A.fI .blk 5 x.2.1)) (A.rb (A.bl false))<|
 A.cond (A.cmp .neq (A.fI .blk 6 x.1) (A.fI .blk 6 x.2.1)) (A.rb (A.bl false))<|
 A.rb (A.bl true)
def Y2 (A:Alg) (alD:Pt A MU) (alE:Ft A MU) (acr:Pt A MX) (acs:Ft A MX) (acu:Pt A LQ) (acv:Ft A LQ) (Ii:Pt A LY) (Ij:Ft A LY) (afy:Pt A Ez) (afz:Ft A Ez) (x:Tup A.ah [.x .blk,.x .blk]):Ot A acg:=
 A.l1 .b (A.bl false) fun x0=>
 A.l1 .i (A.lit 1048576) fun x1=>
 A.cl acu acv (x.1,x1.1,()) fun x2=>
 A.l1 .i x2.1 fun x3=>
 A.cond (A.cmp .lss x3.1 (A.lit 0)) (A.rb (A.bl true))<|
 A.cl acu acv (x.2.1,x3.1,()) fun x4=>
 A.l1 .i x4.1 fun x5=>
 A.cond (A.cmp .lss x5.1 (A.lit 0)) (A.rb (A.bl true))<|
 A.cl Ii Ij (x.1,()) fun x6=>
 A.cl Ii Ij (x.2.1,()) fun x7=>
 A.cl afy afz (A.mkX .blk (x6.1,x6.2.1,x6.q.2.2.1,x6.2.2.1,x6.2.2.2.1,x6.q.1,x6.q.2.1,()),A.mkX .blk (x7.1,x7.2.1,x7.q.2.2.1,x7.2.2.1,x7.2.2.2.1,x7.q.1,x7.q.2.1,()),()) fun x8=>
 A.l1 .b x8.1 fun x9=>
 A.cl Ii Ij (x.1,()) fun x10=>
 A.cl Ii Ij (x.2.1,()) fun x11=>
 A.cl alD alE (A.mkX .blk (x10.1,x10.2.1,x10.q.2.2.1,x10.2.2.1,x10.2.2.2.1,x10.q.1,x10.q.2.1,()),A.mkX .blk (x11.1,x11.2.1,x11.q.2.2.1,x11.2.2.1,x11.2.2.2.1,x11.q.1,x11.q.2.1,()),()) fun x12=>
 A.l1 .b x12.1 fun x13=>
 A.cond (A.aA (A.eqB x13.1 x9.1)) (A.rb (A.bl false))<|
 A.cl Ii Ij (x.1,()) fun x14=>
 A.cl acr acs (A.mkX .blk (x10.1,x10.2.1,x10.q.2.2.1,x10.2.2.1,x10.2.2.2.1,x10.q.1,x10.q.2.1,()),A.mkX .blk (x14.1,x14.2.1,x14.q.2.2.1,x14.2.2.1,x14.2.2.2.1,x14.q.1,x14.q.2.1,()),()) fun x15=>
 A.cond (A.aA x15.1) (A.rb (A.bl false))<|
 A.cl Ii Ij (x.2.1,()) fun x16=>
 A.cl acr acs (A.mkX .blk (x11.1,x11.2.1,x11.q.2.2.1,x11.2.2.1,x11.2.2.2.1,x11.q.1,x11.q.2.1,()),A.mkX .blk (x16.1,x16.2.1,x16.q.2.2.1,x16.2.2.1,x16.2.2.2.1,x16.q.1,x16.q.2.1,()),()) fun x17=>
 A.cond (A.aA x17.1) (A.rb (A.bl false))<|
 A.rb (A.bl true)
end Go.TX.F
