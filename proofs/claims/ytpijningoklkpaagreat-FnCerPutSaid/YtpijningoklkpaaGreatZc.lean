/- Part 3 of a proof: what the last part needs. No condition. -/
import Derived.Test.YtpijningoklkpaaGreatZb
set_option linter.all false
set_option linter.unusedSectionVars false
set_option linter.unusedVariables false
set_option linter.unusedSimpArgs false
namespace Go.TX
open Go Go.AE
variable [ay]
section
variable {n:Nat}
theorem aco {t:Slots} {r:Nat}:∀ {rs:List Nat},r∈rs→aR (cut t rs) r=aR t r
 | [],h=>by simp at h
 | x::rs,h=>by
  simp only [cut,aR]
  split
  ·rename_i e;rw [e]
  ·rename_i e
   cases h with
   | head=>exact absurd rfl e
   | tail _ h=>exact aco h
theorem aj5 {h:List aH} {x:Cell} {y:SC} (hr:RC (nmh h) x y) {s:Sh} {f:Bool} {v:LV aA} (hk:fC (std n) h s y=some (f,v,[])):∃g,(f=true→g=true)∧ZC x g (lvD s v):=by
 unfold fC at hk
 split at hk
 ·rename_i f0 lf
  split at hk
  ·rename_i e;subst e;cases hk
   cases hr with | d hx hf=>
   rename_i g0 x0
   subst hx
   rw [Gq]
   refine⟨g0 || (nU lf).nC,fun h=> ?_,.d _ _⟩
   rw [jl]
   cases lf with
   | rows c xs=>simp only [Leaf.flag]at h;rcases hf h with h | h<;>simp_all [Leaf.scalar]
   | _=>simp [Leaf.scalar]
  ·cases hk
 ·cases hr
  split at hk
  ·cases hk;exact⟨true,fun _=>rfl,.nil _⟩
  ·cases hk
 ·rename_i f0 c xs
  cases hr with | clip hf=>
  split at hk
  ·rename_i e;subst e;cases hk;exact⟨_,hf,.clip _ _ _⟩
  ·cases hk
 ·split at hk
  ·split at hk
   ·cases hk
   ·cases hk
  ·cases hk
 ·cases hk
theorem QG {h:List aH}:∀ {ss:List Sh} {ys:List SC} {xs:List Cell} (_:F2 (RC (nmh h)) xs ys) {f:Bool} {vs:List (LV aA)},aK (std n) h ss ys=some (f,vs,[])→∃g,(f=true→g=true)∧ZCs xs g (List.zipWith lvD ss vs)
 | [],[],xs,hF,f,vs,hk=>by simp [aK]at hk;obtain⟨rfl,rfl⟩:=hk;cases hF;exact⟨true,fun _=>rfl,.nil⟩
 | [],_::_,_,_,_,_,hk=>by simp [aK]at hk
 | _::_,[],_,_,_,_,hk=>by simp [aK]at hk
 | s::ss,y::ys,xs,hF,f,vs,hk=>by
  cases hF with | cons h1 h2=>
  unfold aK at hk
  split at hk
  ·rename_i f1 v1 l1 hv1
   split at hk
   ·rename_i g2 vs2 ls2 hv2
    split at hk
    ·simp only [Option.some.injEq,Prod.mk.injEq,List.append_eq_nil_iff]at hk
     obtain⟨rfl,rfl,rfl,rfl⟩:=hk
     obtain⟨ga,a1,a2⟩:=aj5 h1 hv1
     obtain⟨gb,b1,b2⟩:=QG h2 hv2
     exact⟨ga&&gb,fun h=>by simp at h;simp [a1 h.1,b1 h.2],.cons a2 b2⟩
    ·cases hk
   ·cases hk
  ·cases hk
theorem MC {N:NM}:∀ {ys:List (Leaf aA)} {xs:List Cell} {f:Bool},F2 (RC N) xs (ys.map (.d f))→∃g,(f=true∨(∀y∈ys,y.scalar=true)→g=true)∧ZCs xs g (ys.map nU)
 | [],_,_,h=>by cases h;exact⟨true,fun _=>rfl,.nil⟩
 | y::ys,_,f,.cons h1 h2=>by
  obtain⟨g,q1,q2⟩:=MC h2
  cases h1 with | d hx hf=>
  rename_i g0 x0
  subst hx
  refine⟨(g0 || (nU y).nC)&&g,fun h=> ?_,.cons (.d _ _) q2⟩
  rw [jl]
  rcases h with h | h
  ·rcases hf h with h' | h'<;>simp [h',q1 (.inl h)]
  ·simp [h y (by simp),q1 (.inr fun y hy=>h y (List.mem_cons_of_mem _ hy))]
theorem atx {h:List aH} {p:PV} {q:SVal} (hp:PVR (nmh h) p q) {c:Co} {f:Bool} {x:c.den} (hk:toX (std n) h c q=some (f,x,[])):∃g,(f=true→g=true)∧ZCs (aJ p) g (c.row x):=by
 unfold toX at hk
 split at hk
 ·rename_i f' c' x'
  split at hk
  ·rename_i e;subst e;cases hk
   have hF:=hp.cells
   have hx:cellsS (.sv f' c' x')=(fU (std 0) c' x' 0 c'.fields).map (.d f'):=rfl
   rw [hx]at hF
   obtain⟨g,q1,q2⟩:=MC hF
   rw [lF]at q2
   refine⟨g,fun h=>q1 ?_,q2⟩
   rcases Bool.or_eq_true _ _▸h with h | h
   ·exact .inl h
   ·exact .inr (j6 c' h x')
  ·cases hk
 ·cases hk
 ·split at hk
  ·rename_i f1 ys ls1 h1
   split at hk
   ·rename_i t ht
    simp only [Option.some.injEq,Prod.mk.injEq]at hk
    obtain⟨rfl,rfl,rfl⟩:=hk
    rw [dI]at h1
    obtain⟨g,q1,q2⟩:=QG hp.cells h1
    rw [BI c t ht]at q2
    exact⟨g,q1,q2⟩
   ·cases hk
  ·cases hk
theorem ZG {X:XT} {E:Tab} (hX:XOK X E) {t:Slots} {e:Nat→Option SVal} {c:Co} {h:List aH} (he:EvR X E n (nmh h) t e):∀ {parts:List (Nat×Operand)} {f:Bool} {xs:List c.den} {k:List aH},sK (std n) X e c h parts=some (f,xs,k,[])→
  ∃g,(f=true→g=true)∧xs.length=parts.length∧ZPs E t c.size parts g (aG c xs)
 | [],f,xs,k,hk=>by
  simp only [sK,Option.some.injEq,Prod.mk.injEq]at hk
  obtain⟨rfl,rfl,_⟩:=hk
  exact⟨true,fun _=>rfl,rfl,.nil⟩
 | (i,x)::r,f,xs,k,hk=>by
  simp only [sK]at hk
  split at hk
  ·rename_i v hv
   split at hk
   ·rename_i f1 y l1 hy
    split at hk
    ·rename_i g1 ys k1 l2 hys
     simp only [Option.some.injEq,Prod.mk.injEq,List.append_eq_nil_iff]at hk
     obtain⟨rfl,rfl,_,rfl,rfl⟩:=hk
     obtain⟨pv,p1,p2⟩:=dP hX he hv
     obtain⟨ga,a1,a2⟩:=atx p2 hy
     obtain⟨gb,b1,b2,b3⟩:=ZG hX he (h:=h) hys
     have hl:(aJ pv).length=c.size:=by
      have:∀ {cs:List Cell} {g:Bool} {ds:List D},ZCs cs g ds→cs.length=ds.length:=by
       intro cs g ds hz
       induction hz with
       | nil=>rfl
       | cons _ _ ih=>simp [ih]
      rw [this a2,yc]
     exact⟨ga&&gb,fun h=>by simp at h;simp [a1 h.1,b1 h.2],by simp [b2],.cons p1 hl a2 b3⟩
    ·cases hk
   ·cases hk
  ·cases hk
theorem azg {X:XT} {E:Tab} (hX:XOK X E) {t:Slots} {e:Nat→Option SVal} {h:List aH} (he:EvR X E n (nmh h) t e) {op:Op} {ps:List Bool} {v:SVal} (hk:zX (std n) X e h op=some (ps,v)):Gv (zA E op t) (nmh h) v:=by
 unfold zX at hk
 split at hk
 ·rename_i ty len parts
  rw [hX.ty]at hk
  split at hk
  ·rename_i y hy
   split at hk
   ·rename_i el hd
    split at hk
    ·rename_i z c hz hco
     split at hk
     ·rename_i hcond
      simp only [Bool.and_eq_true,Bool.not_eq_true',beq_iff_eq,beq_eq_false_iff_ne,ne_eq]at hcond
      obtain⟨⟨⟨hsz,hne⟩,hrange⟩,hbig⟩:=hcond
      have hbig:=Nat.le_of_ble_eq_true hbig
      obtain⟨z',hz',hzs⟩:=gM hX hsz
      rw [hz]at hz';cases hz'
      split at hk
      ·rename_i f xs k hps;cases hk
       obtain⟨g,q1,q2,q3⟩:=ZG hX he hps
       have hlen:xs.length=len:=by
        have:=congrArg List.length hrange
        simp at this;rw [q2];simpa using this
       refine⟨.c (.clip g c.size (aG c xs)),.ofC (.clip q1),fun K hK=> ?_⟩
       unfold zA;simp only;rw [hy];simp only [aB];rw [hd];simp only;rw [hz]
       exact⟨hne,hrange,hbig,g,aG c xs,by rw [hzs];exact q3,by rw [aM];exact hlen,by rw [hzs];exact hK⟩
      ·cases hk
     ·cases hk
    ·cases hk
   ·cases hk
  ·cases hk
 ·cases hk
theorem QH {E:Tab} {N:NM} {h' h'':Heap} {ty:TypeId} {pv:PV} {q:SVal} (hp:PVR N pv q) (hl:∀l∈vL (std n) q,AE.look h'' l=AE.look h' l) (K:PV→Prop):kY E h'' ty pv K=kY E h' ty pv K:=by
 have key:∀l sz i j,pv= .c (.ptr l sz i j)→AE.look h'' l=AE.look h' l:=by
  intro l sz i j e
  subst e
  cases hp with | one hp=>cases hp with | c hc=>
  cases hc with
  | pb=>exact hl _ (by simp [vL])
  | pr _=>exact hl _ (by simp [vL])
 unfold kY
 cases E.ty ty with
 | none=>rfl
 | some y=>
  simp only [aB]
  split
  ·rename_i l sz i j;rw [key l sz i j rfl]
  ·rfl
  ·rfl
theorem stable {X:XT} {E:Tab} (hX:XOK X E) {N:NM} {h' h'':Heap} {t:Slots} {e:Nat→Option SVal} (he:EvR X E n N t e) {op:Op} (hl:∀l∈ig (std n) X e op,AE.look h'' l=AE.look h' l) (hev:isLoad op=true→∃ty x q,op= .load ty x∧evX (std n) X e x=some q) (K:PV→Prop):
  gN E op t h'' K=gN E op t h' K:=by
 cases hL:isLoad op with
 | false=>rw [Ar hL]
 | true=>
  obtain⟨ty,x,q,rfl,hq⟩:=hev hL
  obtain⟨pv,p1,p2⟩:=dP hX he hq
  simp only [ig,hq]at hl
  unfold gN;simp only
  rw [p1];simp only [aL]
  exact QH p2 hl K
def HI (E:Tab) (ops:List Oper) (h':Heap) (h:List aH) (hs':List Held) (hs:List (Nat×List Nat)):Prop:=∀p∈hs,(∀l∈p.2,l<h.length)∧∃o t v,oU hs' p.1=some (o,t,v)∧
 ∀h'',(∀l∈p.2,AE.look h'' l=AE.look h' l)→iK E ops o t h'' (fun v'=>v'=v)
theorem HI.turn {E:Tab} {ops:List Oper} {h' h'':Heap} {h k:List aH} {hs':List Held} {hs:List (Nat×List Nat)} (H:HI E ops h' h hs' hs) {td:List Nat} (x:iM h' h h'' k td):HI E ops h'' k hs' (nQ hs td):=by
 intro p hp
 simp only [nQ,List.mem_filter]at hp
 obtain⟨hp,hn⟩:=hp
 obtain⟨h1,o,t,v,h2,h3⟩:=H p hp
 refine⟨fun l hl=>Nat.lt_of_lt_of_le (h1 l hl) x.len,o,t,v,h2,fun h3' hh=>h3 h3' fun l hl=> ?_⟩
 have:=List.all_eq_true.1 hn l hl
 rw [hh l hl,(x.keep l (h1 l hl) (by simpa using this)).2]
theorem BN (hs:List (Nat×List Nat)):nQ hs []=hs:=by
 unfold nQ;rw [List.filter_eq_self];intro p _;simp
theorem Fh {E:Tab} {ops:List Oper} {h' h'':Heap} {h k:List aH} {hs':List Held} {hs:List (Nat×List Nat)} (H:HI E ops h' h hs' hs) {td:List Nat} (x:iM h' h h'' k td):∀ {cs:List Nat},cs.all (Nv hs td)=true→Uk E ops h'' hs' cs
 | [],_=>trivial
 | j::r,hc=>by
  simp only [List.all_cons,Bool.and_eq_true]at hc
  refine⟨?_,Fh H x hc.2⟩
  have hj:=hc.1
  simp only [Nv,List.any_eq_true,Bool.and_eq_true,beq_iff_eq]at hj
  obtain⟨p,hp,hpj,hall⟩:=hj
  obtain⟨h1,o,t,v,h2,h3⟩:=H p hp
  rw [←hpj,h2]
  refine h3 h'' fun l hl=>(x.keep l (h1 l hl) ?_).2
  have:=List.all_eq_true.1 hall l hl
  simpa using this
theorem HI.push {E:Tab} {ops:List Oper} {h':Heap} {h:List aH} {hs':List Held} {hs:List (Nat×List Nat)} (H:HI E ops h' h hs' hs) {i:Nat} (hi:¬(hs.any fun p=>p.1==i)=true) {ns:List Nat} {o:Oper} {t:Slots} {v:Option PV}
  (hns:∀l∈ns,l<h.length) (hst:∀h'',(∀l∈ns,AE.look h'' l=AE.look h' l)→iK E ops o t h'' (fun v'=>v'=v)):HI E ops h' h ((i,o,t,v)::hs') ((i,ns)::hs):=by
 intro p hp
 cases hp with
 | head=>exact⟨hns,o,t,v,by simp [oU],hst⟩
 | tail _ hp=>
  obtain⟨h1,o',t',v',h2,h3⟩:=H p hp
  have hne:i≠p.1:=fun e=>hi (by rw [List.any_eq_true];exact⟨p,hp,by simp [e]⟩)
  exact⟨h1,o',t',v',by rw [Qi hne];exact h2,h3⟩
theorem ME {E:Tab} {X:XT} {N:NM} {t:Slots} {e:Nat→Option SVal} (he:EvR X E n N t e) {k:Int}:∀ {l:List (Int×Nat)} {b:Bool},Fe (std n) e k l=some b→∀K:Bool→Prop,K b→FX t k l K
 | [],b,h,K,hb=>by cases h;exact hb
 | (k',r)::rest,b,h,K,hb=>by
  unfold Fe at h
  split at h
  ·rename_i f b1 hr
   split at h
   ·rename_i q hq
    cases h
    obtain⟨pv,h1,h2⟩:=he r _ hr
    obtain⟨g,rfl⟩:=h2.bool
    refine⟨g,b1,h1,?_⟩
    have hb:K (bif decide (k=k')then b1 else q):=hb
    by_cases c:k=k'
    ·rw [if_pos c];rw [decide_eq_true c]at hb;exact hb
    ·rw [if_neg c];rw [decide_eq_false c]at hb;exact ME he hq K hb
   ·cases h
  ·cases h
theorem UD {X:XT} {ops:List Oper} {e:Nat→Option SVal} {h:List aH} {op:Op} (hp:FZ op=true):Uv (std n) X ops e h op=match zX (std n) X e h op with | some r=>some (some r) | none=>none:=by
 cases op
 case makeMap=>cases hp
 case insert=>cases hp
 case move=>cases hp
 case lookup a b q d=>cases q<;>first | rfl | cases hp
 all_goals first | rfl | (simp only [Uv];generalize zX (std n) X e h _=z;cases z<;>rfl)
theorem map_ok {X:XT} {E:Tab} (hX:XOK X E) {ops:List Oper} {t:Slots} {e:Nat→Option SVal} {h:List aH} (he:EvR X E n (nmh h) t e) {op:Op} {r:Option (List Bool×SVal)} (hk:Uv (std n) X ops e h op=some r):
  match r with | none=>∀K:Option PV→Prop,K none→zM E ops op t K | some (_,v)=>∃pv,PVR (nmh h) pv v∧∀K:Option PV→Prop,K (some pv)→zM E ops op t K:=by
 by_cases hp:FZ op=true
 ·rw [UD hp]at hk
  split at hk
  ·rename_i q hq
   cases hk
   obtain⟨ps,v⟩:=q
   obtain⟨pv,p1,p2⟩:=azg hX he hq
   exact⟨pv,p1,fun K hK=>by rw [Bp hp];exact p2 _ hK⟩
  ·cases hk
 ·cases op
  case makeMap=>cases hk;exact fun K h=>h
  case insert a b c v=>
   cases v with
   | tmp r=>
    simp only [Uv]at hk
    cases hq:e r with
    | some q=>
     rw [hq]at hk
     cases hk
     obtain⟨pv,p1,_⟩:=he _ _ hq
     exact fun K h=>⟨⟨pv,p1⟩,h⟩
    | none=>rw [hq]at hk;cases hk
   | _=>cases hk
  case move x=>
   simp only [Uv]at hk
   split at hk
   ·rename_i hs
    cases hk
    exact fun K h=>⟨hs,h⟩
   ·cases hk
  case lookup a b q d=>
   cases q with
   | tmp q=>
    simp only [Uv]at hk
    split at hk
    ·rename_i f m hq
     split at hk
     ·rename_i bb hb
      cases hk
      obtain⟨pv,p1,p2⟩:=he _ _ hq
      obtain⟨g,rfl⟩:=p2.int
      exact⟨_,.ofC (.d rfl fun _=> .inl rfl),fun K hK=>⟨g,m,p1,ME he hb _ hK⟩⟩
     ·cases hk
    ·cases hk
   | _=>exact absurd rfl hp
  all_goals exact absurd rfl hp
theorem AA {X:XT} {gs:List (GE (std n))} {lk:Nat→Option (SV (std n))} {h:List aH} {cur:Option Nat} {op:Op} {ps:List Bool} {v:SVal} (hk:vJ (std n) X lk gs h cur op=some (ps,v)) (hl:isLoad op=true):
  (∃ty x q,op= .load ty x∧evX (std n) X (gU (std n) lk (fD (std n) gs cur)) x=some q)∧∀l∈ig (std n) X (gU (std n) lk (fD (std n) gs cur)) op,l<h.length:=by
 cases op<;>simp only [isLoad,Bool.false_eq_true]at hl
 rename_i ty x
 simp only [vJ,Zn]at hk
 obtain⟨q,hq,hk⟩:=eP hk
 refine⟨⟨ty,x,q,rfl,hq⟩,fun l hl=> ?_⟩
 simp only [ig,hq]at hl
 unfold Ql at hk
 split at hk
 ·cases hk
 ·unfold vL at hl
  split at hl
  ·simp at hl;subst hl
   simp only at hk
   split at hk
   ·rename_i hh;exact(List.getElem?_eq_some_iff.1 hh).1
   ·cases hk
  ·simp at hl;subst hl
   simp only at hk
   split at hk
   ·rename_i hh;exact(List.getElem?_eq_some_iff.1 hh).1
   ·cases hk
  ·simp at hl
end
end Go.TX
namespace Go.TX
open Go Go.AE
variable [ay]
section
variable {n:Nat}
theorem Di (gs:List (GE (std n))):fD (std n) gs none=[]:=by unfold fD;rw [Uu];simp
theorem Gz {E:Tab} {ops:List Oper} {o:Oper} (hg:o.guard=none) (t:Slots) (h:Heap) (K:Option PV→Prop):iK E ops o t h K=gN E o.op t h fun v=>K (some v):=by unfold iK;rw [hg]
theorem sZ {E:Tab} {ops:List Oper} {o:Oper} {j d:Nat} {w:Bool} (hg:o.guard=some (j,w)) (hd:gslot ops j=some d) (t:Slots) (h:Heap) (K:Option PV→Prop):
 iK E ops o t h K=lD (aR t d) w (gN E o.op t h fun v=>K (some v)) (K (some oM)):=by unfold iK;rw [hg];simp only;rw [hd];rfl
theorem ND {X:XT} {E:Tab} (hX:XOK X E) {C:Calls aA} {ops:List Oper} {ρ:Type} {K:RSt (std n)→(ρ→Prop)→Prop} {r:ρ→Prop} {h0:List aH} {m0:Nat}:∀ {rest:List gy} {hs:List (Nat×List Nat)} {hs':List Held} {s':St} {s:RSt (std n)},SR s' s→(∀k,Keep k h0 s.h)→s.m=m0→
    HI E ops s'.h s.h hs' hs→iU (std n) X C ops rest hs K s r→
    fG E (kL C) ops rest hs' (fun s1'=>∃s1,SR s1' s1∧(∀k,Keep k h0 s1.h)∧s1.m=m0∧K s1 r) s'
  | [],hs,hs',s',s,S,hK0,hm0,HH,hk=>⟨s,S,hK0,hm0,hk⟩
  | (i,rs,cs)::rest,hs,hs',s',s,S,hK0,hm0,HH,hk=>by
    generalize hM:iU (std n) X C ops ((i,rs,cs)::rest) hs K s=M at hk
    unfold iU at hM
    unfold fG
    split at hM
    · (subst hM;exact hk.elim)
    · rename_i o ho
      rw [ho]
      simp only [aii]
      split at hM
      · rename_i hdst
        have hd:dOK s'.m o.dst:=by rw [S.m];exact acj hdst
        refine⟨hd,?_⟩
        simp only at hM
        have hlk:∀i sv,(if rs.contains i then dO (std n) s.t i else none)=some sv→dO (std n) s.t i=some sv:=fun i sv h=>by
          split at h
          · exact h
          · cases h
        have acp:∀d,(if rs.contains d then dO (std n) s.t d else none).isSome→aR (cut s'.t rs) d=aR s'.t d:=fun d h=>by
          split at h
          · rename_i hc;exact aco (by simpa using hc)
          · cases h
        have hev:∀ {gs:List (GE (std n))},SR s' {s with gs:=gs}→∀ {al:List Nat},(∀t∈al,∃e,gs[t]? =some e∧e.g=true)→EvR X E n (nmh s.h) (cut s'.t rs) (gU (std n) (fun i=>if rs.contains i then dO (std n) s.t i else none) al):=
          fun S1 _ hal=>rR (t':=s'.t) acp (fun i sv h=>S1.val i sv (hlk i sv h)) hal
        have go:∀ {s2':St} {s2:RSt (std n)} {tag:Option Nat} {v:SVal} {hs2:List (Nat×List Nat)} {aj6:List Held},SR s2' (s2.put (std n) o.dst tag v)→(∀k,Keep k s.h s2.h)→s2.m=s.m→HI E ops s2'.h s2.h aj6 hs2→iU (std n) X C ops rest hs2 K (s2.put (std n) o.dst tag v) r→
            fG E (kL C) ops rest aj6 (fun s1'=>∃s1,SR s1' s1∧(∀k,Keep k h0 s1.h)∧s1.m=m0∧K s1 r) s2':=by
          intro s2' s2 tag v hs2 aj6 S2 hkeep hm2 HI2 hk2
          have e1:=air (n:=n) (s:=s2) (d:=o.dst) (tag:=tag) (v:=v)
          exact ND hX (rest:=rest) S2 (fun k=>by rw [e1.1];exact(hK0 k).trans (hkeep k)) (by rw [e1.2,hm2,hm0]) (by rw [e1.1];exact HI2) hk2
        have NG:∀(d:Option Nat) (v:Option PV),(s'.put d v).h=s'.h:=fun d v=>by cases d<;>rfl
        split at hM
        ·
          rename_i hkind
          split at hM
          · (subst hM;exact hk.elim)
          rename_i hnew
          split at hM
          · rename_i hguard
            rw [hkind]
            split at hM
            · rename_i ps v hv
              subst hM
              obtain⟨hps,hk⟩:=gI hk
              rw [Fg]at hk
              have rT:∀i sv,(if rs.contains i then dO (std n) s.t i else none)=some sv→BL s.gs s'.t (nmh s.h) i sv:=fun i sv h=>S.val i sv (hlk i sv h)
              obtain⟨pv,p1,p2⟩:=yw hX S.heap S.gs acp rT (cur:=none) (fun t h=>by cases h) hv hps
              simp only
              rw [Gz hguard]
              have hE0:=hev S (al:=fD (std n) s.gs none) (fun t h=>by rw [Di]at h;simp at h)
              rw [Di]at hE0
              have hln:=fun hL=>AA hv hL
              rw [Di]at hln
              have hst:∀h'',(∀l∈ig (std n) X (gU (std n) (fun i=>if rs.contains i then dO (std n) s.t i else none) []) o.op,AE.look h'' l=AE.look s'.h l)→iK E ops o (cut s'.t rs) h'' (fun v'=>v'=some pv):=fun h'' hh=>by
                rw [Gz hguard,stable hX hE0 hh (fun hL=>(hln hL).1)]
                exact p2 _ rfl
              have hns:∀l∈ig (std n) X (gU (std n) (fun i=>if rs.contains i then dO (std n) s.t i else none) []) o.op,l<s.h.length:=fun l hl=>by
                cases hL:isLoad o.op with
                | true=>exact(hln hL).2 l hl
                | false => unfold ig at hl; split at hl
                           · rename_i hop;rw [hop]at hL;simp [isLoad]at hL
                           · simp at hl
              exact p2 _ (go (s2:=s) (S.put (tag:=none) ⟨pv,rfl,p1⟩) (fun _=> .refl _ _) rfl (by rw [NG];exact HH.push hnew hns hst) hk)
            · (subst hM;exact hk.elim)
          · rename_i j want hguard
            rw [hkind]
            split at hM
            · rename_i d hgs
              have hgm:=fun hb=>Gx S (lk:=fun i=>if rs.contains i then dO (std n) s.t i else none) hlk (tt:=cut s'.t rs) (d:=d) (want:=want) (acp d) rfl hb
              simp only
              rw [sZ hguard hgs]
              split at hM
              · rename_i hr
                rw [hr]at hgm
                subst hM
                cases hgm (by simp)with | skip h=>
                refine h _ _ (go (s2:=s) (S.put (tag:=none) ⟨oM,rfl,acn⟩) (fun _=> .refl _ _) rfl (by rw [NG];exact HH.push hnew (fun l hl=>by simp at hl) (fun h'' _=>by rw [sZ hguard hgs];exact h _ _ rfl)) hk)
              · rename_i gs t g hr
                rw [hr]at hgm
                cases hgm (by simp)with | run S1 hget hg rT hT hF=>
                rename_i e
                subst hg
                split at hM
                · rename_i ps v hv
                  subst hM
                  obtain⟨hps,hk⟩:=gI hk
                  have hns:∀l∈ig (std n) X (gU (std n) (fun i=>if rs.contains i then dO (std n) s.t i else none) (fD (std n) gs (some t))) o.op,l<s.h.length:=fun l hl=>by
                    cases hL:isLoad o.op with
                    | true=>exact(AA hv hL).2 l hl
                    | false => unfold ig at hl; split at hl
                               · rename_i hop;rw [hop]at hL;simp [isLoad]at hL
                               · simp at hl
                  cases hg:e.g with
                  | true=>
                    have hcur:∀t0,some t=some t0→∃e,gs[t0]? =some e∧e.g=true:=fun t0 ht=>by cases ht;exact⟨e,hget,hg⟩
                    obtain⟨pv,p1,p2⟩:=yw hX S1.heap S1.gs acp (fun i sv h=>rT i sv (hlk i sv h)) hcur hv (BM hps hg)
                    have hE0:EvR X E n (nmh s.h) (cut s'.t rs) (gU (std n) (fun i=>if rs.contains i then dO (std n) s.t i else none) (fD (std n) gs (some t))):=hev S1 (o7 S1.gs hcur (f:=gs.length+1))
                    refine hT hg _ _ (p2 _ (go (s2:={s with gs:=gs}) (S1.put (tag:=some t) ⟨e,hget,fun _=>⟨pv,rfl,p1⟩,fun h=>by rw [hg]at h;cases h⟩) (fun _=> .refl _ _) rfl (by
                      rw [NG]
                      refine HH.push hnew hns (fun h'' hh=> ?_)
                      rw [sZ hguard hgs,stable hX hE0 hh (fun hL=>(AA hv hL).1)]
                      exact hT hg _ _ (p2 _ rfl)) hk))
                  | false=>
                    exact hF hg _ _ (go (s2:={s with gs:=gs}) (S1.put (tag:=some t) ⟨e,hget,fun h=>(by rw [hg]at h;cases h),fun _=>rfl⟩) (fun _=> .refl _ _) rfl (by
                      rw [NG]
                      refine HH.push hnew hns (fun h'' hh=> ?_)
                      rw [sZ hguard hgs]
                      exact hF hg _ _ rfl) hk)
                · (subst hM;exact hk.elim)
              · (subst hM;exact hk.elim)
            · (subst hM;exact hk.elim)
        · rename_i hkind
          rw [hkind]
          split at hM
          · rename_i ps v hv
            subst hM
            obtain⟨hps,hk⟩:=gI hk
            obtain⟨pv,p1,p2⟩:=map_ok hX (ops:=ops) (hev S (al:=[]) (fun t h=>by simp at h)) hv
            simp only
            exact p2 _ (go (s2:=s) (S.put (tag:=none) ⟨pv,rfl,p1⟩) (fun _=> .refl _ _) rfl (by rw [NG];exact HH) hk)
          · rename_i hv
            subst hM
            have p2:=map_ok hX (ops:=ops) (hev S (al:=[]) (fun t h=>by simp at h)) hv
            simp only
            refine p2 _ ?_
            have e1:=atv (n:=n) (s:=s) (d:=o.dst)
            exact ND hX (rest:=rest) S.del (fun k=>by rw [e1.1];exact hK0 k) (by rw [e1.2,hm0]) (by rw [e1.1,NG];exact HH) hk
          · (subst hM;exact hk.elim)
        · rename_i hkind
          rw [hkind]
          split at hM
          · rename_i hr hv
            subst hM
            obtain⟨hps,hk⟩:=gI hk
            have he0:EvR X E n (nmh s.h) [] (fun _=>none):=fun i v h=>by cases h
            obtain⟨pv,h'',j,q1,q2,q3,q4,q5⟩:=NA hX S.heap S.len he0 hv hps
            simp only
            have S2:=S.Az q3.same q2 q4
            have htd:hr.touched=[]:=by
              unfold kindOf at hkind
              split at hkind
              · rename_i ty hop
                rw [hop]at hv
                simp only [Gf]at hv
                split at hv
                · split at hv
                  · split at hv<;>(cases hv;rfl)
                  · cases hv;rfl
                  · cases hv
                · cases hv
              all_goals first | cases hkind | (split at hkind<;>cases hkind)
            have HI2:=HH.turn q3
            rw [htd,BN]at HI2
            exact q5 _ (go (s2:={s with h:=hr.h}) (S2.put (tag:=none) ⟨pv,rfl,q1⟩) q3.QE rfl (by cases o.dst<;>exact HI2) hk)
          · (subst hM;exact hk.elim)
        · rename_i hk0 hk1 hk2
          split at hM
          · rename_i hguard
            split at hM
            · rename_i cr hcr
              split at hM
              · rename_i hcs
                subst hM
                obtain⟨hps,hk⟩:=gI hk
                obtain⟨v,k,hvk,hk⟩:=Dh hk
                obtain⟨v',k',e1,_,e3⟩:=Df hX S.heap S.len (hev S (al:=[]) (fun t h=>by simp at h)) hcr hps ⟨v,k,hvk⟩
                rw [hvk]at e1;cases e1
                split
                · rename_i h;exact absurd h hk0
                · rename_i h;exact absurd h hk1
                · rename_i h;exact absurd h hk2
                · rw [hguard]
                  refine e3 _ fun pv h'' j a1 a2 a3 a4=>⟨Fh HH a3 hcs,?_⟩
                  have S2:=S.Az a3.same a2 a4
                  exact go (s2:={s with h:=k}) (S2.put (tag:=none) ⟨pv,rfl,a1⟩) a3.QE rfl (by cases o.dst<;>exact HH.turn a3) hk
              · (subst hM;exact hk.elim)
            · (subst hM;exact hk.elim)
          · rename_i j want hguard
            split at hM
            · rename_i d hgs
              have hgm:=fun hb=>Gx S (lk:=fun i=>if rs.contains i then dO (std n) s.t i else none) hlk (tt:=cut s'.t rs) (d:=d) (want:=want) (acp d) rfl hb
              have goal:lD (aR (cut s'.t rs) d) want
                  (aaX E (kL C) o (cut s'.t rs) s' fun v h k=>Uk E ops h hs' cs∧fG E (kL C) ops rest hs' (fun s1'=>∃s1,SR s1' s1∧(∀k,Keep k h0 s1.h)∧s1.m=m0∧K s1 r) (St.put {s' with h:=h,k:=k} o.dst (some v)))
                  (fG E (kL C) ops rest hs' (fun s1'=>∃s1,SR s1' s1∧(∀k,Keep k h0 s1.h)∧s1.m=m0∧K s1 r) (s'.put o.dst (some oM))):=by
                split at hM
                · rename_i hr
                  rw [hr]at hgm
                  subst hM
                  cases hgm (by simp)with | skip h=>
                  exact h _ _ (go (s2:=s) (S.put (tag:=none) ⟨oM,rfl,acn⟩) (fun _=> .refl _ _) rfl (by rw [NG];exact HH) hk)
                · rename_i gs t g hr
                  rw [hr]at hgm
                  cases hgm (by simp)with | run S1 hget hg rT hT hF=>
                  rename_i e
                  subst hg
                  have hcur:e.g=true→∀t0,some t=some t0→∃e,gs[t0]? =some e∧e.g=true:=fun h t0 ht=>by cases ht;exact⟨e,hget,h⟩
                  split at hM
                  · rename_i cr hcr
                    split at hM
                    · rename_i hcs
                      split at hM
                      · rename_i hpure
                        subst hM
                        obtain⟨hps,hk⟩:=gI hk
                        obtain⟨v,k,hvk,hk⟩:=Dh hk
                        cases hg:e.g with
                        | true=>
                          obtain⟨v',k',e1,e2,e3⟩:=Df hX S1.heap S1.len (hev S1 (o7 S1.gs (hcur hg) (f:=gs.length+1))) hcr (BM hps hg) ⟨v,k,hvk⟩
                          rw [hvk]at e1;cases e1
                          obtain⟨rfl,htd⟩:=e2 hpure
                          refine hT hg _ _ (e3 _ fun pv h'' j a1 a2 a3 a4=>⟨Fh HH a3 hcs,?_⟩)
                          have S2:=S1.Az (Same.refl _) a2 a4
                          have HI2:=HH.turn a3
                          rw [htd,BN]at HI2
                          exact go (s2:={s with gs:=gs}) (S2.put (tag:=some t) ⟨e,hget,fun _=>⟨pv,rfl,a1⟩,fun h=>by rw [hg]at h;cases h⟩) (fun _=> .refl _ _) rfl (by cases o.dst<;>exact HI2) hk
                        | false=>
                          exact hF hg _ _ (go (s2:={s with gs:=gs}) (S1.put (tag:=some t) ⟨e,hget,fun h=>(by rw [hg]at h;cases h),fun _=>rfl⟩) (fun _=> .refl _ _) rfl (by rw [NG];exact HH) hk)
                      · subst hM
                        obtain⟨hkT,hkF⟩:(e.g=true→gV (std n) cr.ck (uj (std n) cr fun v h=>iU (std n) X C ops rest (nQ hs cr.touched) K (RSt.put (std n) {s with h:=h,gs:=gs} o.dst none v)) r)∧(e.g=false→iU (std n) X C ops rest hs K (RSt.put (std n) {s with gs:=BD (std n) gs t} o.dst none (.tup [])) r):=hk
                        cases hg:e.g with
                        | true=>
                          obtain⟨hps,hk⟩:=gI (hkT hg)
                          obtain⟨v,k,hvk,hk⟩:=Dh hk
                          obtain⟨v',k',e1,e2,e3⟩:=Df hX S1.heap S1.len (hev S1 (o7 S1.gs (hcur hg) (f:=gs.length+1))) hcr hps ⟨v,k,hvk⟩
                          rw [hvk]at e1;cases e1
                          refine hT hg _ _ (e3 _ fun pv h'' j a1 a2 a3 a4=>⟨Fh HH a3 hcs,?_⟩)
                          have S2:=S1.Az a3.same a2 a4
                          exact go (s2:={s with h:=k,gs:=gs}) (S2.put (tag:=none) ⟨pv,rfl,a1⟩) a3.QE rfl (by cases o.dst<;>exact HH.turn a3) hk
                        | false=>
                          have hk:=hkF hg
                          have S2:=S1.kill hget hg
                          exact hF hg _ _ (go (s2:={s with gs:=BD (std n) gs t}) (S2.put (tag:=none) ⟨oM,rfl,acn⟩) (fun _=> .refl _ _) rfl (by rw [NG];exact HH) hk)
                    · (subst hM;exact hk.elim)
                  · (subst hM;exact hk.elim)
                · (subst hM;exact hk.elim)
              split
              · rename_i h;exact absurd h hk0
              · rename_i h;exact absurd h hk1
              · rename_i h;exact absurd h hk2
              · rw [hguard];simp only;rw [hgs];exact goal
            · (subst hM;exact hk.elim)
      · (subst hM;exact hk.elim)
end
end Go.TX
namespace Go.TX
open Go Go.AE
variable [ay]
section
variable {n:Nat}
theorem MF {s:RSt (std n)}:∀ {l:List (Nat×SkV)} {e0 e:ES (std n)},vM (std n) s.t s.h l e0=some e→
  ∃vs,F2 (fun i v=>dO (std n) s.t i=some ⟨none,v⟩) (l.map (·.1)) vs∧oV (std n) s.h (l.map (·.2)) vs e0=some e
 | [],e0,e,h=>by simp only [vM,Option.some.injEq]at h;subst h;exact⟨[],.nil,rfl⟩
 | p::l,e0,e,h=>by
  simp only [vM]at h
  split at h
  ·rename_i v hl
   split at h
   ·rename_i e1 h1
    obtain⟨vs,q1,q2⟩:=MF (l:=l) h
    exact⟨v::vs,.cons hl q1,by simp only [List.map_cons,oV];rw [h1];exact q2⟩
   ·cases h
  ·cases h
theorem NH {k:Nat} {os:List SkO} {i:Nat} (hi:i<k) (hik:i<os.length):(es0 (std n) k os).ren[i]? =some (if sO os[i]? then none else some (some i)):=by
 have hb:Nat.blt i k=true:=by simpa using hi
 simp only [es0,List.getElem?_map,List.getElem?_range hik,Option.map_some,hb,Bool.true_and]
 cases sO os[i]? <;>rfl
theorem NI (k:Nat) (os:List SkO):(es0 (std n) k os).ren.length=os.length:=by simp [es0]
theorem NJ {c:Ctx} {w:World} {N:NM} {us:List Value} {vs:List SVal} (h:F2 (WV c w N) us vs):∃pvs,F2 (bF c w) us pvs∧F2 (PVR N) pvs vs:=by
 induction h with
 | nil=>exact⟨[],.nil,.nil⟩
 | cons h1 _ ih=>
  obtain⟨p,a,b⟩:=h1
  obtain⟨pvs,q1,q2⟩:=ih
  exact⟨p::pvs,.cons a q1,.cons b q2⟩
theorem GA {N:NM}:∀ {ids:List Nat} {vs:List SVal} {pvs:List PV},F2 (PVR N) pvs vs→∀i sv,dO (std n) (ids.zip (vs.map fun v=>(⟨none,v⟩:SV (std n)))) i=some sv→sv.tag=none∧∃pv,aR (ids.zip (pvs.map some)) i=some pv∧PVR N pv sv.v
 | [],vs,pvs,_,i,sv,h=>by simp [dO]at h
 | j::ids,[],pvs,hF,i,sv,h=>by simp [dO]at h
 | j::ids,v::vs,pvs,hF,i,sv,h=>by
  cases hF with | cons h1 h2=>
  simp only [List.map_cons,List.zip_cons_cons,nX]at h ⊢
  simp only [aR]
  split at h
  ·rename_i e;cases h;rw [if_pos e];exact⟨rfl,_,rfl,h1⟩
  ·rename_i e;rw [if_neg e];exact GA h2 i sv h
theorem GD {c:Ctx} {w:World} {a:Act}:∀ {ids:List Nat} {us:List Value} {pvs:List PV},F2 (bF c w) us pvs→F2 (fun i u=>a.tmps[i]? =some u) ids us→∀i v,aR (ids.zip (pvs.map some)) i=some v→∃u,a.tmps[i]? =some u∧bF c w u v
 | [],us,pvs,_,_,i,v,h=>by simp [aR]at h
 | j::ids,us,pvs,hF,hI,i,v,h=>by
  cases hI with | cons h3 h4=>
  cases hF with | cons h1 h2=>
  simp only [List.map_cons,List.zip_cons_cons,aR]at h
  split at h
  ·rename_i e;subst e;cases h;exact⟨_,h3,h1⟩
  ·exact GD h2 h4 i v h
theorem GH {E:Tab} {s':St} {s:RSt (std n)} (S:SR s' s) {c:Ctx} {w:World} {a:Act} (A:lV E s' c w a):∀ {ids:List Nat} {vs:List SVal},F2 (fun i v=>dO (std n) s.t i=some ⟨none,v⟩) ids vs→∃us,F2 (fun i u=>a.tmps[i]? =some u) ids us∧F2 (WV c w (nmh s.h)) us vs
 | [],_,h=>by cases h;exact⟨[],.nil,.nil⟩
 | i::ids,_,.cons h1 h2=>by
  obtain⟨us,q1,q2⟩:=GH S A h2
  obtain⟨pv,p1,p2⟩:=S.val i _ h1
  obtain⟨u,hu,hr⟩:=A.abs.slot i pv p1
  exact⟨u::us,.cons hu q1,.cons ⟨pv,hr,p2⟩ q2⟩
def μX (e:ES (std n)) (c:Ctx) (i:Nat):Option Nat:=match e.ren[i]? with | some (some (some l))=>c.μ l | some (some none)=>none | _=>c.μ i
theorem QI (w:World) (K:Bool→Nat→Prop) (μ:Nat→Option Nat) (k:Nat) (hlow:∀f b,K f b→b<w.heap.size) (hsub:∀b,K true b→K false b):bH {K:=K,μ:=μ,n:=k} w []:=
 ⟨fun l o h=>by simp [AE.look]at h,fun l o l' o' b h=>by simp [AE.look]at h,fun f b ⟨l,o,hl,_⟩=>by simp [AE.look]at hl,hlow,hsub⟩
theorem NK {E:Tab} {k:Nat} {sk:LW} {s:RSt (std n)} {ck:List Bool} {x:iI sk.tys} (hx:Gi (std n) k sk s=some (ck,x)) (hck:∀b∈ck,b=true) {s':St} (S:SR s' s) {c:Ctx} {w:World} {a:Act} (A:lV E s' c w a)
  {c0:Ctx} {w0:World} {h0:Heap} (hc0:c0.n=k) (g:Grow c0 w0 h0 c w s'.h) {m:Nat} (hm:s.m=m):
  ∃c2 s2',Grow c0 w0 h0 c2 w s2'.h∧lV E s2' c2 w a∧SR s2' (um (std n) sk m x)∧Keep k s.h (um (std n) sk m x).h∧(um (std n) sk m x).m=m:=by
 unfold Gi at hx
 split at hx
 ·cases hx
 rename_i hkl
 have hkl:k≤sk.objs.length:=by
  have:Nat.ble k sk.objs.length=true:=by simpa using hkl
  exact Nat.le_of_ble_eq_true this
 split at hx
 ·rename_i e1 he1
  split at hx
  ·rename_i e he
   split at hx
   ·rename_i jr
    split at hx
    ·rename_i x' hx';cases hx
     have jr:=NC jr
     obtain⟨vs,v1,v2⟩:=MF he1
     obtain⟨us,u1,u2⟩:=GH S A v1
     obtain⟨new1,vs2,a1,a2,a3,a4⟩:=vP (fun i=>i) v2
     obtain⟨new2,os2,b1,b2,b3,b4,b5⟩:=rP (fun i=>i) (fun _=>(.gone .i64 0:aH)) (fun _=>⟨.i64,0,rfl⟩) he
     have hlv:e.lv.reverse=new1++new2:=by rw [b1,a1];simp [es0]
     have hun:=unpack_pack hx'
     rw [hlv]at hun
     have hrl:e.ren.length=sk.objs.length:=by rw [b2.len,a2.len,NI]
     have hof:∀(j:Nat) (kk:SkO),sk.objs[j]? =some kk→∃o2,os2[j]? =some o2∧OF e s.h (fun i=>i) j kk (.gone .i64 0) o2:=fun j kk hj=>by
      obtain⟨o2,q1,q2⟩:=b5 e (.refl _) j kk hj
      exact⟨o2,q1,by simpa using q2⟩
     have DZ:um (std n) sk m x={t:=(sk.slots.map (·.1)).zip (vs2.map fun v=>(⟨none,v⟩:SV (std n))),gs:=[],h:=os2,m:=m}:=by
      unfold um
      rw [hun,a3]
      simp only
      have:=b3 []
      rw [List.append_nil]at this
      rw [show sQ aA (fun i=>i) (fun _=>eD.gone Co.i64 ((std n).lit 0)) 0 sk.objs new2=some (os2,[])from this]
     have H:=A.abs.heap
     obtain⟨o',m1,m2,m3,m4,m5,_⟩:=Ay (ks:=sk.objs) (nm:=fun i=>i) (old:=fun _=>(.gone .i64 0:aH)) H S.heap hck jr hrl b4 hof (cb:={K:=fun _ _=>False,μ:=μX e c,n:=k}) (hb':=[])
      (QI w _ _ _ (fun _ _ h=>h.elim) (fun _ h=>h)) false (fun h=>by cases h) (μ2:=μX e c) (n2:=sk.objs.length) hkl (fun _ _=>rfl) (fun i hi=>hi) (fun i j _ _ h=>h)
      (fun i l hi=>by simp only [μX];rw [hi]) (fun i hi=>by simp only [μX];rw [hi]) (h2:=os2) (fun i _=>rfl)
      (fun l o hl ho=>by
       have:sk.objs.length≤l:=by
        rcases Nat.lt_or_ge l sk.objs.length with h | h
        ·exact absurd rfl (hl l h)
        ·exact h
       rw [List.getElem?_eq_none (by omega)]at ho;cases ho) (fun _ _=>rfl)
      (fun b ⟨l,o,hl,_⟩ _=>by simp [AE.look]at hl) (fun f b h _=>h) (fun f b ⟨l,o,hl,_⟩ _=>by simp [AE.look]at hl)
     have hmu:∀l,l<k→μX e c l=c.μ l:=fun l hl=>by
      have h0:=NH (n:=n) hl (Nat.lt_of_lt_of_le hl hkl) (os:=sk.objs)
      unfold μX
      by_cases hg:sO sk.objs[l]? =true
      ·have hgo:sk.objs[l]? =some .gone:=by
        unfold sO at hg;split at hg
        ·assumption
        ·cases hg
       cases hr:e.ren[l]? with
       | none=>rfl
       | some q=>
        cases q with
        | none=>rfl
        | some v=>exact absurd hgo (jr.gone hr)
      ·rw [if_neg hg]at h0
       have:=b2.ren l _ (a2.ren l _ h0)
       rw [this]
     have hgr:Grow c0 w0 h0 {K:=fun f b=>False∨KX e c false f b,μ:=μX e c,n:=sk.objs.length} w (uz (fun i=>i) o' (List.range sk.objs.length) []):=by
      refine⟨⟨fun f b hb=> .inr (.inl (by simpa using g.le.K f b hb)),by rw [hc0];exact hkl,fun l hl=> ?_⟩,g.size,g.stays,g.kept,fun f b hb=> ?_,fun b hb=> ?_,g.os,g.tape,g.output⟩
      ·show μX e c l=c0.μ l
       rw [hmu l (by rw [←hc0];exact hl)];exact g.le.μ l hl
      ·rcases hb with hb | hb | ⟨l,f',q1,q2,q3⟩
       ·exact hb.elim
       ·exact g.yI f b (by simpa using hb)
       ·obtain⟨_,g',cc,xs,hl⟩:=jr.fro l f' q1
        obtain⟨o2,ho2,hO⟩:=S.heap.old l _ hl
        cases hO with | rows _=>
        exact .inr ((g.pW b ⟨l,_,ho2,trivial,q2⟩).elim .inr .inl)
      ·rcases m4 b hb with⟨l,o,hl,_⟩ | ⟨i,lq,q,_,q1,q2,q3⟩
       ·simp [AE.look]at hl
       ·exact g.pW b ⟨lq,q,q1,q2,q3⟩
     obtain⟨pvs,p1,p2⟩:=NJ (a4 H S.heap (b2) hck m3 (fun h=>by cases h) u2)
     refine⟨_,{t:=(sk.slots.map (·.1)).zip (pvs.map some),h:=uz (fun i=>i) o' (List.range sk.objs.length) [],n:=sk.objs.length,k:=0,m:=m},hgr,⟨⟨fun i v hv=>GD p1 u1 i v hv,m1,?_⟩,rfl,A.defers,by rw [A.size,S.m,hm]⟩,?_,?_,by rw [DZ]⟩
     ·intro gg d hd
      obtain⟨q1,u,q2,q3⟩:=A.abs.glob gg d hd
      exact⟨.inr (.inl (by simpa using q1)),u,q2,q3.mono' fun b hb=> .inr (.inl (by simpa using hb))⟩
     ·rw [DZ]
      refine⟨m2,by simp [nm,b4],rfl,fun i sv hi=> ?_,fun t e he=>by simp at he⟩
      obtain⟨q1,q2⟩:=GA p2 i sv hi
      unfold BL
      rw [q1];exact q2
     ·rw [DZ]
      intro i hi
      have hik:i<sk.objs.length:=Nat.lt_of_lt_of_le hi hkl
      have hsk:sk.objs[i]? =some sk.objs[i]:=List.getElem?_eq_getElem hik
      obtain⟨o2,q1,q2⟩:=hof i _ hsk
      have h0:=NH (n:=n) hi hik
      by_cases hg:sk.objs[i]= .gone
      ·have:Gone os2 i:=⟨.i64,0,by rw [q1,q2.gone hg]⟩
       exact⟨fun _=>this,fun _ _=> .inl this⟩
      ·have hig:sO sk.objs[i]? =false:=by
        rw [hsk];unfold sO;split
        ·rename_i hh;exact absurd (Option.some.inj hh) hg
        ·rfl
       rw [hig]at h0
       have h0:(es0 (std n) k sk.objs).ren[i]? =some (some (some i)):=by simpa using h0
       have hre:=b2.ren i _ (a2.ren i _ h0)
       have htr:sN (std n) e i=none:=by rw [b2.tr i _ (a2.ren i _ h0),a2.tr i _ h0];rfl
       refine⟨fun⟨cc,nn,hgo⟩=> ?_,fun x hx=> .inr ?_⟩
       ·obtain⟨oo,r1,r2,r3,r4⟩:=q2.rel H S.heap hck m3 (fun h=>by cases h)
        obtain⟨o3,h3,h4⟩:=r4 i hg hre
        obtain⟨o4,h5,h6⟩:=S.heap.old i _ hgo
        rw [h3]at h5;cases h5
        cases h6;exact h4.elim
       ·have:=q2.s1 i x.1 x.2 hg hre (by rw [hx])
        rw [htr]at this
        simp only [nmh,q1]
        simpa [nmh]using this
    ·cases hx
   ·cases hx
  ·cases hx
 ·cases hx
end
end Go.TX
namespace Go.TX
open Go Go.AE
variable [ay]
section
variable {n:Nat}
def LX (E:Tab) (c0:Ctx) (w0:World) (h0:Heap) (k:Nat) (H0:List aH) (m0:Nat) {ρ:Type} (K:Exit→RSt (std n)→(ρ→Prop)→Prop) (r:ρ→Prop):Exit→Act→World→Prop
 | .outgrown,_,_=>False
 | .panic _,_,_=>False
 | .goto _,_,_=>False
 | e,a,w=>∃c s' s,Grow c0 w0 h0 c w s'.h∧lV E s' c w a∧SR s' s∧Keep k H0 s.h∧s.m=m0∧K e s r
theorem UE {E:Tab} {c0:Ctx} {w0:World} {h0:Heap} {k:Nat} {H0:List aH} {m0:Nat} (hc0:c0.n=k) {code:Code} {a:Act} {w:World} {sk:LW} {pl:Bool} {s:RSt (std n)} (hs:s.m=m0) {ρ:Type} {K:Exit→RSt (std n)→(ρ→Prop)→Prop} {r:ρ→Prop}
  {W: {σ:Type}→(Exit→RSt (std n)→(σ→Prop)→Prop)→(σ→Prop)→Prop} (hW:∀ {σ:Type} {K':Exit→RSt (std n)→(σ→Prop)→Prop} {r':σ→Prop},W K' r'→code.wp E.P (LX E c0 w0 h0 k H0 m0 K' r') a w)
  (h:Uw (std n) k sk pl s K W r):code.wp E.P (LX E c0 w0 h0 k H0 m0 K r) a w:=by
 have step:∀ {t:iI sk.tys} {s1:RSt (std n)} {ck:List Bool},Gi (std n) k sk s1=some (ck,t)→(∀b∈ck,b=true)→K .normal (um (std n) sk s.m t) r→∀ {c s' a w},Grow c0 w0 h0 c w s'.h→lV E s' c w a→SR s' s1→Keep k H0 s1.h→s1.m=m0→LX E c0 w0 h0 k H0 m0 K r .normal a w:=by
  intro t s1 ck h1 h2 h3 c s' a w g A S hK hm
  obtain⟨c2,s2',g2,A2,S2,K2,hm2⟩:=NK h1 h2 S A hc0 g hm
  rw [hs]at h3
  exact⟨c2,s2',_,g2,A2,S2,hK.trans K2,hm2,h3⟩
 unfold Uw at h
 split at h
 ·refine wp_mono (hW h) ?_
  intro e a' w' he
  cases e with
  | outgrown=>exact he.elim
  | panic _=>exact he
  | goto _=>exact he
  | normal=>
   obtain⟨c,s',s1,a1,a2,a3,a4,a5,a6⟩:=he
   simp only at a6
   rcases hx:Gi (std n) k sk s1 with _ | ⟨ck,t'⟩
   ·rw [hx]at a6;exact a6.elim
   ·rw [hx]at a6
    obtain⟨q1,q2⟩:=gI a6
    exact step hx q1 q2 a1 a2 a3 a4 a5
  | ret=>obtain⟨c,s',s1,a1,a2,a3,a4,a5,a6⟩:=he;exact a6.elim
  | exit i=>obtain⟨c,s',s1,a1,a2,a3,a4,a5,a6⟩:=he;exact a6.elim
 ·refine wp_mono (hW h) ?_
  intro e a' w' he
  cases e with
  | outgrown=>exact he.elim
  | panic _=>exact he
  | goto _=>exact he
  | normal=>
   obtain⟨c,s',s1,a1,a2,a3,a4,a5,a6⟩:=he
   simp only at a6
   rcases hx:Gi (std n) k sk s1 with _ | ⟨ck,t'⟩
   ·rw [hx]at a6;exact a6.elim
   ·rw [hx]at a6
    obtain⟨q1,q2⟩:=gI a6
    exact step hx q1 q2 a1 a2 a3 a4 a5
  | ret=>obtain⟨c,s',s1,a1,a2,a3,a4,a5,a6⟩:=he;exact⟨c,s',s1,a1,a2,a3,a4,a5,a6⟩
  | exit i=>obtain⟨c,s',s1,a1,a2,a3,a4,a5,a6⟩:=he;exact⟨c,s',s1,a1,a2,a3,a4,a5,a6⟩
section
variable {X:XT} {E:Tab} (hE:aD E) (hX:XOK X E) {C:Calls aA} (hG:pY E (kL C)) (hm:E.P.follows .mixedOrders=true) {ord:Nat→List gy} {chk:Nat→Array Oper→Nat→Bool} (QJ:∀id ops m,chk id ops m=true→Static E ord id ops m)
 {c0:Ctx} {w0:World} {h0:Heap} {k:Nat} {H0:List aH} {m0:Nat} (hc0:c0.n=k)
include hE hX hG hm QJ
theorem aj7 {id:Nat} {ops:Array Oper} {draw:Bool} {s:RSt (std n)} {ρ:Type} {K:Exit→RSt (std n)→(ρ→Prop)→Prop} {r:ρ→Prop}
  (h:(if draw then(if chk id ops s.m then iU (std n) X C ops.toList (ord id) [] (fun s=>K .normal s) s else(std n).fail)else fH (std n) X C ops.toList ops.toList (fun s=>K .normal s) s:(std n).M ρ) r)
  {s':St} {c:Ctx} {w:World} {a:Act} (A:lV E s' c w a) (g:Grow c0 w0 h0 c w s'.h) (S:SR s' s) (hK:Keep k H0 s.h) (hs:s.m=m0):(Code.region id ops draw).wp E.P (LX E c0 w0 h0 k H0 m0 K r) a w:=by
 have fin:∀ {e:Exit} {a:Act} {w:World},yO E c0 w0 h0 (fun e s1'=>e= .normal∧∃s1,SR s1' s1∧(∀k,Keep k s.h s1.h)∧s1.m=m0∧K .normal s1 r) e a w→LX E c0 w0 h0 k H0 m0 K r e a w:=by
  intro e a w he
  cases e with
  | outgrown=>exact he.elim
  | panic _=>exact he
  | goto _=>exact he
  | normal=>obtain⟨c,s1',a1,a2,_,s1,a3,a4,a5,a6⟩:=he;exact⟨c,s1',s1,a1,a2,a3,hK.trans (a4 k),a5,a6⟩
  | ret=>obtain⟨c,s1',a1,a2,q,_⟩:=he;cases q
  | exit i=>obtain⟨c,s1',a1,a2,q,_⟩:=he;cases q
 split at h
 ·rename_i hd;subst hd
  split at h
  ·rename_i hc
   have hst:=QJ _ _ _ hc
   have hr:=ND hX (h0:=s.h) (m0:=m0) (hs':=[]) S (fun _=> .refl _ _) hs (fun p hp=>by simp at hp) h
   refine wp_mono (ajQ hE hG hm ord id ops (fun e s1'=>e= .normal∧∃s1,SR s1' s1∧(∀k,Keep k s.h s1.h)∧s1.m=m0∧K .normal s1 r) s' c0 w0 h0 c w a A g ⟨by rw [S.m];exact hst,?_⟩) fun e a w=>fin
   simpa using hr
  ·exact h.elim
 ·rename_i hd
  have:draw=false:=by simpa using hd
  subst this
  have hr:=MB hX (h0:=s.h) (m0:=m0) S (fun _=> .refl _ _) hs h
  refine wp_mono (wp_region_list (Bo hE hG (Q:=fun e s1'=>e= .normal∧∃s1,SR s1' s1∧(∀k,Keep k s.h s1.h)∧s1.m=m0∧K .normal s1 r) ops ops.toList A g ?_)) fun e a w=>fin
  simpa using hr
end
end
end Go.TX
namespace Go.TX
open Go Go.AE
variable [ay]
section
variable {n:Nat}
variable {X:XT} {E:Tab} (hE:aD E) (hX:XOK X E) {C:Calls aA} (hG:pY E (kL C)) (hm:E.P.follows .mixedOrders=true) {ord:Nat→List gy} {chk:Nat→Array Oper→Nat→Bool} (QJ:∀id ops m,chk id ops m=true→Static E ord id ops m)
 {c0:Ctx} {w0:World} {h0:Heap} {k:Nat} {H0:List aH} {m0:Nat} (hc0:c0.n=k)
include hE hX hG hm QJ hc0
theorem tq:∀(code:Code) {ρ:Type} {an:Ann} {s:RSt (std n)} {K:Exit→RSt (std n)→(ρ→Prop)→Prop} {r:ρ→Prop},bJ (std n) X C ord chk k an code s K r→∀ {s':St} {c:Ctx} {w:World} {a:Act},lV E s' c w a→Grow c0 w0 h0 c w s'.h→SR s' s→Keep k H0 s.h→s.m=m0→
  code.wp E.P (LX E c0 w0 h0 k H0 m0 K r) a w
 | .skip,ρ,an,s,K,r,h,s',c,w,a,A,g,S,hK,hs=>by
  have h:K .normal s r:=by cases an<;>exact h
  exact wp_skip ⟨c,s',s,g,A,S,hK,hs,h⟩
 | .region id ops draw,ρ,an,s,K,r,h,s',c,w,a,A,g,S,hK,hs=>by
  have base:∀ {σ:Type} {K':Exit→RSt (std n)→(σ→Prop)→Prop} {r':σ→Prop},(if draw then(if chk id ops s.m then iU (std n) X C ops.toList (ord id) [] (fun s=>K' .normal s) s else(std n).fail)else fH (std n) X C ops.toList ops.toList (fun s=>K' .normal s) s:(std n).M σ) r'→
    (Code.region id ops draw).wp E.P (LX E c0 w0 h0 k H0 m0 K' r') a w:=fun h=>aj7 hE hX hG hm QJ h A g S hK hs
  generalize hM:bJ (std n) X C ord chk k an (.region id ops draw) s K=M at h
  simp only [bJ]at hM
  split at hM
  ·subst hM;exact UE hc0 hs base h
  ·subst hM;exact base h
 | .seq x y,ρ,an,s,K,r,h,s',c,w,a,A,g,S,hK,hs=>by
  have main:∀(a1 a2:Ann) (K1:Exit→RSt (std n)→(ρ→Prop)→Prop),(∀s',K1 .normal s'=bJ (std n) X C ord chk k a2 y s' K)→(∀s',K1 .ret s'=K .ret s')→(∀i s',K1 (.exit i) s'=K (.exit i) s')→bJ (std n) X C ord chk k a1 x s K1 r→
    (Code.seq x y).wp E.P (LX E c0 w0 h0 k H0 m0 K r) a w:=by
   intro a1 a2 K1 e1 e2 e3 h
   refine wp_seq (wp_mono (tq x h A g S hK hs) ?_)
   intro e a' w' he
   cases e with
   | outgrown=>exact he.elim
   | panic _=>exact he
   | goto _=>exact he
   | normal=>obtain⟨c,s',s1,b1,b2,b3,b4,b5,b6⟩:=he;rw [e1]at b6;exact tq y b6 b2 b1 b3 b4 b5
   | ret=>obtain⟨c,s',s1,b1,b2,b3,b4,b5,b6⟩:=he;rw [e2]at b6;exact⟨c,s',s1,b1,b2,b3,b4,b5,b6⟩
   | exit i=>obtain⟨c,s',s1,b1,b2,b3,b4,b5,b6⟩:=he;rw [e3]at b6;exact⟨c,s',s1,b1,b2,b3,b4,b5,b6⟩
  cases an with
  | seq a1 a2=>rw [bJ]at h;refine main a1 a2 _ ?_ ?_ ?_ h<;>intros<;>rfl
  | u=>rw [bJ]at h;refine main .u .u _ ?_ ?_ ?_ h<;>intros<;>rfl
  | _=>simp [bJ]at h
 | .cond cd x y,ρ,an,s,K,r,h,s',c,w,a,A,g,S,hK,hs=>by
  have he:EvR X E n (nmh s.h) s'.t (gU (std n) (dO (std n) s.t) []):=rR (fun _ _=>rfl) S.val (fun t h=>by simp at h)
  generalize hM:bJ (std n) X C ord chk k an (.cond cd x y) s K=M at h
  simp only [bJ]at hM
  split at hM
  ·rename_i f b hb
   obtain⟨pv,p1,p2⟩:=dP hX he hb
   obtain⟨gf,rfl⟩:=p2.bool
   have hbv:=kE (PE A.abs p1)
   have main:∀(a1 a2:Ann) {σ:Type} {K':Exit→RSt (std n)→(σ→Prop)→Prop} {r':σ→Prop},((b=true→bJ (std n) X C ord chk k a1 x s K' r')∧(b=false→bJ (std n) X C ord chk k a2 y s K' r'))→(Code.cond cd x y).wp E.P (LX E c0 w0 h0 k H0 m0 K' r') a w:=by
    intro a1 a2 σ K' r' h
    refine wp_cond hbv ?_
    obtain⟨b,rfl⟩:∃b':Bool,b'=b:=⟨b,rfl⟩
    cases b with
    | true=>exact tq x (h.1 rfl) A g S hK hs
    | false=>exact tq y (h.2 rfl) A g S hK hs
   split at hM
   ·subst hM;exact main _ _ h
   ·subst hM;exact main _ _ h
   ·rename_i sk a1 a2
    subst hM;exact UE hc0 hs (fun {σ K' r'} h=>main a1 a2 h) h
   ·subst hM;exact h.elim
  ·subst hM;exact h.elim
 | .block id b,ρ,an,s,K,r,h,s',c,w,a,A,g,S,hK,hs=>by
  have main:∀(a1:Ann) {σ:Type} {K':Exit→RSt (std n)→(σ→Prop)→Prop} {r':σ→Prop} (K1:Exit→RSt (std n)→(σ→Prop)→Prop),(∀s',K1 .normal s'=K' .normal s')→(∀s',K1 .ret s'=K' .ret s')→(∀i s',K1 (.exit i) s'=if i==id then K' .normal s' else K' (.exit i) s')→
    bJ (std n) X C ord chk k a1 b s K1 r'→(Code.block id b).wp E.P (LX E c0 w0 h0 k H0 m0 K' r') a w:=by
   intro a1 σ K' r' K1 e1 e2 e3 h
   refine wp_block (wp_mono (tq b h A g S hK hs) ?_)
   intro e a' w' he
   cases e with
   | outgrown=>exact he.elim
   | panic _=>exact he
   | goto _=>exact he
   | normal=>obtain⟨c,s',s1,b1,b2,b3,b4,b5,b6⟩:=he;rw [e1]at b6;exact⟨c,s',s1,b1,b2,b3,b4,b5,b6⟩
   | ret=>obtain⟨c,s',s1,b1,b2,b3,b4,b5,b6⟩:=he;rw [e2]at b6;exact⟨c,s',s1,b1,b2,b3,b4,b5,b6⟩
   | exit i=>
    obtain⟨c,s',s1,b1,b2,b3,b4,b5,b6⟩:=he
    rw [e3]at b6
    simp only [Exit.inBlock]
    simp only [beq_iff_eq]at b6
    split
    ·rename_i e;rw [if_pos e]at b6;exact⟨c,s',s1,b1,b2,b3,b4,b5,b6⟩
    ·rename_i e;rw [if_neg e]at b6;exact⟨c,s',s1,b1,b2,b3,b4,b5,b6⟩
  generalize hM:bJ (std n) X C ord chk k an (.block id b) s K=M at h
  simp only [bJ]at hM
  split at hM
  ·subst hM;refine main _ _ ?_ ?_ ?_ h<;>intros<;>rfl
  ·subst hM;refine main _ _ ?_ ?_ ?_ h<;>intros<;>rfl
  ·rename_i sk a1
   subst hM
   exact UE hc0 hs (fun {σ K' r'} h=>by refine main a1 _ ?_ ?_ ?_ h<;>intros<;>rfl) h
  ·subst hM;exact h.elim
 | .loop b,ρ,an,s,K,r,h,s',c,w,a,A,g,S,hK,hs=>by
  cases an with
  | loop sk a1=>
   rw [bJ]at h
   rcases hx0:Gi (std n) k sk s with _ | ⟨ck,x0⟩
   ·rw [hx0]at h;exact h.elim
   ·rw [hx0]at h
    obtain⟨hck,h⟩:=gI h
    obtain⟨I,μ,hI0,h⟩:=h
    obtain⟨c1,s1',g1,A1,S1,K1,hm1⟩:=NK hx0 hck S A hc0 g hs
    rw [hs]at h
    refine wp_loop_ghost (fun N a' w'=>∃c s' x,Grow c0 w0 h0 c w' s'.h∧lV E s' c w' a'∧SR s' (um (std n) sk m0 x)∧Keep k H0 (um (std n) sk m0 x).h∧(um (std n) sk m0 x).m=m0∧I x∧μ x=N) (μ x0) ⟨c1,s1',x0,g1,A1,S1,hK.trans K1,hm1,hI0,rfl⟩ ?_
    rintro N a' w' ⟨c2,s2',x,g2,A2,S2,K2,hm2,hi,rfl⟩
    have hq:=h x hi
    refine wp_mono (tq b hq A2 g2 S2 K2 hm2) ?_
    intro e a3 w3 he
    cases e with
    | outgrown=>exact he.elim
    | panic _=>exact he
    | goto _=>exact he
    | normal=>
     obtain⟨c4,s4',s4,b1,b2,b3,b4,b5,b6⟩:=he
     simp only at b6
     rcases hx4:Gi (std n) k sk s4 with _ | ⟨ck4,t4⟩
     ·rw [hx4]at b6;exact b6.elim
     ·rw [hx4]at b6
      obtain⟨azh,b6⟩:=gI b6
      obtain⟨c5,s5',g5,A5,S5,K5,hm5⟩:=NK hx4 azh b3 b2 hc0 b1 b5
      exact⟨μ t4,b6.2,c5,s5',_,g5,A5,S5,b4.trans K5,hm5,b6.1,rfl⟩
    | ret=>obtain⟨c4,s4',s4,b1,b2,b3,b4,b5,b6⟩:=he;exact⟨c4,s4',s4,b1,b2,b3,b4,b5,b6⟩
    | exit i=>obtain⟨c4,s4',s4,b1,b2,b3,b4,b5,b6⟩:=he;exact⟨c4,s4',s4,b1,b2,b3,b4,b5,b6⟩
  | _=>simp [bJ]at h
 | .exit i,ρ,an,s,K,r,h,s',c,w,a,A,g,S,hK,hs=>by
  have h:K (.exit i) s r:=by cases an<;>exact h
  exact wp_exit ⟨c,s',s,g,A,S,hK,hs,h⟩
 | .ret,ρ,an,s,K,r,h,s',c,w,a,A,g,S,hK,hs=>by
  have h:K .ret s r:=by cases an<;>exact h
  exact wp_ret ⟨c,s',s,g,A,S,hK,hs,h⟩
 | .rangeFunc ..,ρ,an,s,K,r,h,_,_,_,_,_,_,_,_,_=>by cases an<;>simp [bJ]at h
 | .scope _,ρ,an,s,K,r,h,_,_,_,_,_,_,_,_,_=>by cases an<;>simp [bJ]at h
 | .label _,ρ,an,s,K,r,h,_,_,_,_,_,_,_,_,_=>by cases an<;>simp [bJ]at h
 | .goto _,ρ,an,s,K,r,h,_,_,_,_,_,_,_,_,_=>by cases an<;>simp [bJ]at h
 | .refuse _,ρ,an,s,K,r,h,_,_,_,_,_,_,_,_,_=>by cases an<;>simp [bJ]at h
end
end Go.TX
namespace Go.TX
open Go Go.AE
variable [ay]
section
variable {n:Nat}
theorem iJ:∀(r:List (Option (Option Nat))) (m k:Nat),(newNames r m k).length=k
 | _,_,0=>by simp [newNames]
 | [],m,k+1=>by simp [newNames,iJ [] (m+1) k]
 | some (some l)::r,m,k+1=>by simp [newNames,iJ r m k]
 | some none::r,m,k+1=>by simp [newNames,iJ r (m+1) k]
 | none::r,m,k+1=>by simp [newNames,iJ r (m+1) k]
structure acr (r:List (Option (Option Nat))) (h:List aH) (os:List aH) (nms:List Nat) (kT:List aH):Prop where
 len:h.length≤kT.length
 at_:∀(i:Nat),i<os.length→∃l,nms[i]? =some l∧kT[l]? =os[i]? ∧(r[i]? =some (some (some l))∨(h.length≤l∧∀q:Nat,r[i]? ≠some (some (some q))))
 old:∀l,l<h.length→(∀i:Nat,i<os.length→r[i]? ≠some (some (some l)))→kT[l]? =h[l]?
 inj:∀(i j l:Nat),nms[i]? =some l→nms[j]? =some l→i=j
 new:∀l,h.length≤l→l<kT.length→∃i:Nat,i<os.length∧nms[i]? =some l
theorem UF:∀(os:List aH) (r:List (Option (Option Nat))) (h:List aH),(∀i l:Nat,r[i]? =some (some (some l))→i<os.length→l<h.length)→(∀i j l:Nat,r[i]? =some (some (some l))→r[j]? =some (some (some l))→i=j)→
  acr r h os (newNames r h.length os.length) (iH (std n) h (newNames r h.length os.length) os)
 | [],r,h,h1,h2=>by
  refine⟨?_,fun i hi=>by simp at hi,fun l _ _=> ?_,fun i j l hi=>by simp [newNames]at hi,fun l a b=> ?_⟩<;>simp only [List.length_nil,newNames,iH]at* <;>first | exact Nat.le_refl _ | rfl | omega
 | o::os,r,h,h1,h2=>by
  have fresh:∀r',(∀(i:Nat),r'[i]? =r[i+1]?)→(∀q:Nat,r[0]? ≠some (some (some q)))→newNames r h.length (os.length+1)=h.length::newNames r' (h.length+1) os.length→acr r h (o::os) (newNames r h.length (os.length+1)) (iH (std n) h (newNames r h.length (os.length+1)) (o::os)):=by
   intro r' hr h0 e
   rw [e]
   have hl:(h++ [o]).length=h.length+1:=by simp
   have P:=UF os r' (h++ [o]) (fun i l hi hi2=>by rw [hl];have:=h1 (i+1) l (by rw [←hr];exact hi) (by simp;omega);omega) (fun i j l hi hj=>by have:=h2 (i+1) (j+1) l (by rw [←hr];exact hi) (by rw [←hr];exact hj);omega)
   rw [hl]at P
   have hput:iH (std n) h (h.length::newNames r' (h.length+1) os.length) (o::os)=iH (std n) (h++ [o]) (newNames r' (h.length+1) os.length) os:=by
    simp [iH]
   rw [hput]
   have hcur:(iH (std n) (h++ [o]) (newNames r' (h.length+1) os.length) os)[h.length]? =some o:=by
    rw [P.old h.length (by simp) (fun i hi hh=>by have:=h1 (i+1) h.length (by rw [←hr];exact hh) (by simp;omega);omega)]
    simp
   refine⟨by have:=P.len;simp at this;omega,fun i hi=> ?_,fun l hl2 hn=> ?_,fun i j l hi hj=> ?_,fun l ha hb=> ?_⟩
   ·cases i with
    | zero=>exact⟨h.length,rfl,by rw [hcur];rfl,.inr ⟨Nat.le_refl _,h0⟩⟩
    | succ i=>
     obtain⟨l,q1,q2,q3⟩:=P.at_ i (by simpa using hi)
     refine⟨l,by simpa using q1,by rw [q2];simp,?_⟩
     rw [←hr]
     rcases q3 with q3 | ⟨q3,q4⟩
     ·exact .inl q3
     ·exact .inr ⟨by simp at q3;omega,q4⟩
   ·rw [P.old l (by simp;omega) (fun i hi hh=>hn (i+1) (by simp;omega) (by rw [←hr];exact hh))]
    exact List.getElem?_append_left hl2
   ·have ne:∀(j:Nat),(newNames r' (h.length+1) os.length)[j]? =some h.length→False:=by
     intro j hj
     have hj2:j<os.length:=by have:=(List.getElem?_eq_some_iff.1 hj).1;rw [iJ]at this;exact this
     obtain⟨l,q1,q2,q3⟩:=P.at_ j hj2
     rw [hj]at q1;cases q1
     rcases q3 with q3 | ⟨q3,q4⟩
     ·have:=h1 (j+1) h.length (by rw [←hr];exact q3) (by simp;omega);omega
     ·simp at q3;omega
    cases i with
    | zero=>
     simp at hi;subst hi
     cases j with
     | zero=>rfl
     | succ j=>exact(ne j (by simpa using hj)).elim
    | succ i=>
     cases j with
     | zero=>simp at hj;subst hj;exact(ne i (by simpa using hi)).elim
     | succ j=>rw [P.inj i j l (by simpa using hi) (by simpa using hj)]
   ·by_cases e:l=h.length
    ·subst e;exact⟨0,by simp,rfl⟩
    ·obtain⟨i,q1,q2⟩:=P.new l (by simp;omega) hb
     exact⟨i+1,by simp;omega,by simpa using q2⟩
  match r,h1,h2,fresh with
  | [],h1,h2,fresh=>exact fresh [] (fun i=>by simp) (fun q=>by simp) rfl
  | none::r',h1,h2,fresh=>exact fresh r' (fun i=>by simp) (fun q=>by simp) rfl
  | some none::r',h1,h2,fresh=>exact fresh r' (fun i=>by simp) (fun q=>by simp) rfl
  | some (some l0)::r',h1,h2,_=>
   have hl0:l0<h.length:=h1 0 l0 rfl (by simp)
   have e:newNames (some (some l0)::r') h.length (os.length+1)=l0::newNames r' h.length os.length:=rfl
   show acr _ _ _ (newNames (some (some l0)::r') h.length (os.length+1)) (iH (std n) h (newNames (some (some l0)::r') h.length (os.length+1)) (o::os))
   rw [e]
   have hl:(h.set l0 o).length=h.length:=by simp
   have P:=UF os r' (h.set l0 o) (fun i l hi hi2=>by rw [hl];exact h1 (i+1) l (by simpa using hi) (by simp;omega)) (fun i j l hi hj=>by have:=h2 (i+1) (j+1) l (by simpa using hi) (by simpa using hj);omega)
   rw [hl]at P
   have hput:iH (std n) h (l0::newNames r' h.length os.length) (o::os)=iH (std n) (h.set l0 o) (newNames r' h.length os.length) os:=by
    have:Nat.blt l0 h.length=true:=by simpa using hl0
    simp [iH,hl0]
   rw [hput]
   have hcur:(iH (std n) (h.set l0 o) (newNames r' h.length os.length) os)[l0]? =some o:=by
    rw [P.old l0 (by simpa using hl0) (fun i hi hh=>by have:=h2 0 (i+1) l0 rfl (by simpa using hh);omega)]
    rw [List.getElem?_set_self hl0]
   refine⟨by have:=P.len;rw [hl]at this;exact this,fun i hi=> ?_,fun l hl2 hn=> ?_,fun i j l hi hj=> ?_,fun l ha hb=> ?_⟩
   ·cases i with
    | zero=>exact⟨l0,rfl,by rw [hcur];rfl,.inl rfl⟩
    | succ i=>
     obtain⟨l,q1,q2,q3⟩:=P.at_ i (by simpa using hi)
     refine⟨l,by simpa using q1,by rw [q2];simp,?_⟩
     simp only [List.getElem?_cons_succ]
     rcases q3 with q3 | ⟨q3,q4⟩
     ·exact .inl q3
     ·exact .inr ⟨by rw [hl]at q3;exact q3,q4⟩
   ·rw [P.old l (by rw [hl];exact hl2) (fun i hi hh=>hn (i+1) (by simp;omega) (by simpa using hh))]
    have:l0≠l:=fun e=>hn 0 (by simp) (by rw [e];rfl)
    exact List.getElem?_set_ne this
   ·have ne:∀(j:Nat),(newNames r' h.length os.length)[j]? =some l0→False:=by
     intro j hj
     have hj2:j<os.length:=by have:=(List.getElem?_eq_some_iff.1 hj).1;rw [iJ]at this;exact this
     obtain⟨l,q1,q2,q3⟩:=P.at_ j hj2
     rw [hj]at q1;cases q1
     rcases q3 with q3 | ⟨q3,q4⟩
     ·have:=h2 0 (j+1) l0 rfl (by simpa using q3);omega
     ·rw [hl]at q3;omega
    cases i with
    | zero=>
     simp at hi;subst hi
     cases j with
     | zero=>rfl
     | succ j=>exact(ne j (by simpa using hj)).elim
    | succ i=>
     cases j with
     | zero=>simp at hj;subst hj;exact(ne i (by simpa using hi)).elim
     | succ j=>rw [P.inj i j l (by simpa using hi) (by simpa using hj)]
   ·obtain⟨i,q1,q2⟩:=P.new l (by rw [hl];exact ha) hb
    exact⟨i+1,by simp;omega,by simpa using q2⟩
theorem abg {nm:Nat→Nat} {k:SkV} {r r':List (LV aA)} {v:SVal} (h:BA aA nm k r=some (v,r')):oZ v=false:=by
 cases k with
 | c k=>simp only [BA]at h;split at h<;>cases h;rfl
 | agg ks=>simp only [BA]at h;split at h<;>cases h;rfl
 | sv f c=>
  unfold BA at h
  split at h<;>first | (cases h;rfl) | (split at h<;>cases h<;>rfl) | cases h
theorem GI {nm:Nat→Nat}:∀ {ks:List SkV} {r r':List (LV aA)} {vs:List SVal},sP aA nm ks r=some (vs,r')→∀v∈vs,oZ v=false
 | [],r,r',vs,h=>by simp only [sP,Option.some.injEq,Prod.mk.injEq]at h;obtain⟨rfl,_⟩:=h;simp
 | k::ks,r,r',vs,h=>by
  simp only [sP]at h
  split at h
  ·rename_i x r1 hx
   split at h
   ·rename_i xs r2 hxs;cases h
    intro v hv
    cases hv with
    | head=>exact abg hx
    | tail _ hv=>exact GI hxs v hv
   ·cases h
  ·cases h
theorem BO:∀ {ls:List Nat} {h:List aH} {l:Nat} {g:Bool} {c:Co} {xs:List c.den},l∈ls→h[l]? =some (.rows g c xs)→Gone (bq (std n) h ls) l
 | [],_,_,_,_,_,hm,_=>by simp at hm
 | a::ls,h,l,g,c,xs,hm,hl=>by
  rw [gP]
  have stays:∀(ls:List Nat) (h:List aH),Gone h l→Gone (bq (std n) h ls) l:=by
   intro ls
   induction ls with
   | nil=>intro h hg;exact hg
   | cons b ls ih=>
    intro h ⟨cc,nn,hg⟩
    rw [gP]
    refine ih _ ⟨cc,nn,?_⟩
    by_cases e:b=l
    ·subst e;unfold fJ;split
     ·rename_i hh;rw [hg]at hh;cases hh
     ·exact hg
    ·rw [yh e];exact hg
  by_cases e:a=l
  ·subst e
   refine stays ls _ ⟨c,(xs.length:Int),?_⟩
   unfold fJ;rw [hl];simp only
   rw [List.getElem?_set_self (List.getElem?_eq_some_iff.1 hl).1]
  ·refine BO (g:=g) (c:=c) (xs:=xs) ?_ (by rw [yh e];exact hl)
   cases hm with
   | head=>exact absurd rfl e
   | tail _ h=>exact h
theorem MG {h:List aH}:∀ {ks:List SkO} {j:Nat} {s s':ES (std n)},Bz (std n) h j ks s=some s'→∀ {i:Nat} {k:SkO},ks[i]? =some k→k≠ .gone→∀ {l:Nat} (_:s'.ren[j+i]? =some (some (some l))),∃o,h[l]? =some o∧¬Gone [o] 0
 | [],_,_,_,_,i,k,hk,_,_,_=>by simp at hk
 | q::ks,j,s,s',hx,i,k,hk,hg,l,h5=>by
  simp only [Bz]at hx
  split at hx
  ·rename_i s1 h1
   cases i with
   | succ i=>
    have:=MG hx (i:=i) (k:=k) (by simpa using hk) hg (l:=l) (by rw [show j+1+i=j+(i+1) by omega];exact h5)
    exact this
   | zero=>
    simp at hk;subst hk
    rw [Nat.add_zero]at h5
    have e1:ELe s s':=by
     obtain⟨_,_,_,a2,_⟩:=ZE (m:=n) (fun i=>i) h1 (.gone .i64 0) ⟨.i64,0,rfl⟩
     obtain⟨_,_,_,b2,_⟩:=rP (m:=n) (fun i=>i) (fun _=> .gone .i64 0) (fun _=>⟨.i64,0,rfl⟩) hx
     exact a2.trans b2
    cases q with
    | gone=>exact absurd rfl hg
    | box kk=>
     rcases hr:s.ren[j]? with _ | _ | _ | l0<;>simp only [Ut,hr,reduceCtorEq]at h1
     have:=e1.ren j _ hr
     rw [h5]at this;cases this
     split at h1
     ·rename_i v hv;exact⟨_,hv,fun⟨c,m,hgo⟩=>by simp at hgo⟩
     ·cases h1
    | rows f c=>
     rcases hr:s.ren[j]? with _ | _ | _ | l0<;>simp only [Ut,hr,reduceCtorEq]at h1
     ·have:=e1.ren j _ hr
      rw [h5]at this;cases this
     ·have:=e1.ren j _ hr
      rw [h5]at this;cases this
      split at h1
      ·rename_i g c' xs hv;exact⟨_,hv,fun⟨c,m,hgo⟩=>by simp at hgo⟩
      ·cases h1
  ·cases hx
end
end Go.TX
namespace Go.TX
open Go Go.AE
variable [ay]
section
variable {n:Nat}
theorem NP {X:XT} {E:Tab} (hX:XOK X E) {s':St} {s:RSt (std n)} (S:SR s' s):∀ {rs:List ResultVar} {qs:List SVal},Ux (std n) X s rs=some qs→∃ps,F2 (PVR (nmh s.h)) ps qs∧∀K,K ps→Qb E s' rs K
 | [],qs,h=>by simp only [Ux,Option.some.injEq]at h;subst h;exact⟨[],.nil,fun K hK=>hK⟩
 | .tmp t::r,qs,h=>by
  simp only [Ux]at h
  split at h
  ·rename_i v hv
   split at h
   ·rename_i vs hvs;cases h
    obtain⟨pv,p1,p2⟩:=S.val t _ hv
    obtain⟨ps,q1,q2⟩:=NP hX S hvs
    exact⟨pv::ps,.cons p2 q1,fun K hK=>by unfold Qb;exact iL p1 _ (q2 _ hK)⟩
   ·cases h
  ·cases h
 | .cell t ty::r,qs,h=>by
  simp only [Ux]at h
  split at h
  ·rename_i p hp
   split at h
   ·rename_i v hv
    split at h
    ·rename_i vs hvs;cases h
     obtain⟨pv,p1,p2⟩:=S.val t _ hp
     obtain⟨pr,r1,r2⟩:=Qs hX S.heap p2 hv (fun b hb=>by simp at hb)
     obtain⟨ps,q1,q2⟩:=NP hX S hvs
     exact⟨pr::ps,.cons r1 q1,fun K hK=>by unfold Qb;exact iL p1 _ (r2 _ (q2 _ hK))⟩
    ·cases h
   ·cases h
  ·cases h
theorem aj8 {N:NM}:∀ {ps:List PV} {vs:List SVal},F2 (PVR N) ps vs→(∀v∈vs,oZ v=false)→PVR N (one ps) (as9 (std n) vs)
 | [],_,h,_=>by cases h;exact .tup .nil
 | [p],_,.cons h1 h2,_=>by cases h2;exact h1
 | p::q::ps,_,.cons h1 (.cons h2 h3),ht=>by
  have up:∀ {p v},PVR N p v→oZ v=false→PV0 N p v:=fun h hv=>by
   cases h with
   | one h=>exact h
   | tup _=>simp [oZ]at hv
  have all:∀ {ps:List PV} {vs:List SVal},F2 (PVR N) ps vs→(∀v∈vs,oZ v=false)→F2 (PV0 N) ps vs:=by
   intro ps vs h
   induction h with
   | nil=>intro _;exact .nil
   | cons a _ ih=>intro ht;exact .cons (up a (ht _ (by simp))) (ih fun v hv=>ht v (List.mem_cons_of_mem _ hv))
  exact .tup (all (.cons h1 (.cons h2 h3)) ht)
theorem ahz {c:Ctx} {w:World} {us:List Value} {ps:List PV} (h:F2 (bF c w) us ps):bF c w (if h:us.toArray.size=1 then us.toArray[0]else .tuple us.toArray) (one ps):=by
 cases h with
 | nil=>exact P9 _ _
 | cons q1 q2=>
  cases q2 with
  | nil=>simpa [one]using q1
  | cons q3 q4=>
   have hl:=(F2.cons q1 (F2.cons q3 q4)).length
   rw [dif_neg (by simp)]
   refine .tup _ _ hl (fun i hi=> ?_)
   have hx:∀(l:List PV),i<l.length→l[i]? =some (l.getD i default):=fun l hl=>by simp [List.getD,List.getElem?_eq_getElem hl]
   obtain⟨u,hu,hr⟩:=(F2.cons q1 (F2.cons q3 q4)).get (hx _ hi)
   rw [nD hu];exact hr
theorem QK (h:List aH) (l:Nat):Gone [vK (std n) h l] 0:=by
 unfold vK;split
 ·exact⟨_,_,rfl⟩
 ·exact⟨_,_,rfl⟩
 ·exact⟨_,_,rfl⟩
def BP (D:List Nat) (h:Heap):Heap:=D.map (fun l=>(l,fM.gone))++h
theorem GJ {D:List Nat} {h:Heap} {l:Nat} (hl:l∈D):AE.look (BP D h) l=some .gone:=by
 induction D with
 | nil=>simp at hl
 | cons d D ih=>
  show AE.look ((d,.gone)::BP D h) l=_
  by_cases e:d=l
  ·subst e;rw [aF]
  ·rw [au _ _ e]
   exact ih (by cases hl with | head=>exact absurd rfl e | tail _ h=>exact h)
theorem rU {D:List Nat} {h:Heap} {l:Nat} (hl:l∉D):AE.look (BP D h) l=AE.look h l:=by
 induction D with
 | nil=>rfl
 | cons d D ih=>
  show AE.look ((d,.gone)::BP D h) l=_
  rw [au _ _ (fun e=>hl (by simp [e]))]
  exact ih (fun h=>hl (List.mem_cons_of_mem _ h))
section
variable {X:XT} {E:Tab} (hE:aD E) (hX:XOK X E) {C:Calls aA} (hG:pY E (kL C)) (hm:E.P.follows .mixedOrders=true) {ord:Nat→List gy} {chk:Nat→Array Oper→Nat→Bool} (QJ:∀id ops m,chk id ops m=true→Static E ord id ops m)
include hE hX hG hm QJ
theorem aty {f:FuncId} {fn:Func} {code:Code} (hf:E.P.funcs[f]? =some fn) (hb:fn.body=some code) (hent:Enters E.P f) {sg:Sig} {an:Ann} {ct:Ct aA sg}
  (hrun:∀x,ct.pre x=true→Uy (std 0) X C ord chk an sg fn code x (fun y=>y=ct.fn x)):dB E f (cu ct) where
 enters:=hent
 calls:=by
  rintro args h nn K ⟨m,qs,hs,hargs,HR,hlen,cr,hcall,ahA,v,kT,hvk,hK⟩ c w vs hcn rT H Gl
  subst hlen
  unfold sS at hcall
  split at hcall
  ·rename_i e1 he1
   split at hcall
   ·rename_i e he
    split at hcall
    ·rename_i jr
     simp only [Bool.and_eq_true,List.isEmpty_iff]at jr
     obtain⟨jr,htr⟩:=jr
     have jr:=NC jr
     split at hcall
     ·rename_i x hx
      simp only [Option.some.injEq]at hcall
      subst hcall
      have hck:∀b∈e.ck,b=true:=fun b hb=>ahA b (List.mem_append_left _ hb)
      have hpre:ct.pre x=true:=ahA _ (List.mem_append_right _ (by simp))
      obtain⟨N,hrun⟩:∃N:Nat,Uy (std N) X C ord chk an sg fn code x (fun y=>y=ct.fn x):=⟨0,hrun x hpre⟩
      simp only at hvk hK
      obtain⟨new1,qs1,a1,a2,a3,a4⟩:=vP (fun i=>i) he1
      obtain⟨new2,os1,b1,b2,b3,b4,b5⟩:=rP (fun i=>i) (fun _=>(.gone .i64 0:aH)) (fun _=>⟨.i64,0,rfl⟩) he
      have hlv:e.lv.reverse=new1++new2:=by rw [b1,a1];simp [es0]
      have hun:=unpack_pack hx
      rw [hlv]at hun
      have hrl:e.ren.length=sg.objs.length:=by rw [b2.len,a2.len,NI]
      have hof:∀(j:Nat) (kk:SkO),sg.objs[j]? =some kk→∃o2,os1[j]? =some o2∧OF e hs (fun i=>i) j kk (.gone .i64 0) o2:=fun j kk hj=>by
       obtain⟨o2,q1,q2⟩:=b5 e (.refl _) j kk hj
       exact⟨o2,q1,by simpa using q2⟩
      obtain⟨o1,m1,m2,m3,m4,_,_⟩:=Ay (ks:=sg.objs) (nm:=fun i=>i) (old:=fun _=>(.gone .i64 0:aH)) H HR hck jr hrl b4 hof (cb:={K:=fun _ _=>False,μ:=μX e c,n:=0}) (hb':=[])
       (QI w _ _ _ (fun _ _ h=>h.elim) (fun _ h=>h)) false (fun h=>by cases h) (μ2:=μX e c) (n2:=sg.objs.length) (Nat.zero_le _) (fun _ _=>rfl) (fun i hi=>hi) (fun i j _ _ h=>h)
       (fun i l hi=>by simp only [μX];rw [hi]) (fun i hi=>by simp only [μX];rw [hi]) (h2:=os1) (fun i _=>rfl)
       (fun l o hl ho=>by
        have:sg.objs.length≤l:=by
         rcases Nat.lt_or_ge l sg.objs.length with h | h
         ·exact absurd rfl (hl l h)
         ·exact h
        rw [List.getElem?_eq_none (by omega)]at ho;cases ho) (fun _ _=>rfl)
       (fun b ⟨l,o,hl,_⟩ _=>by simp [AE.look]at hl) (fun f b h _=>h) (fun f b ⟨l,o,hl,_⟩ _=>by simp [AE.look]at hl)
      generalize hc1:({K:=fun f b=>False∨KX e c false f b,μ:=μX e c,n:=sg.objs.length}:Ctx)=c1 at m1 m2 m3 m4
      generalize hh1:uz (fun i=>i) o1 (List.range sg.objs.length) []=h1' at m1 m2 m4
      have c1n:c1.n=sg.objs.length:=by rw [←hc1]
      have c1K:∀f b,c1.K f b→c.K f b∨∃l g,(l,g)∈e.fro∧c.μ l=some b∧(f=true→g=true):=fun f b hb=>by
       rw [←hc1]at hb
       rcases hb with hb | hb | ⟨l,g,q1,q2,q3⟩
       ·exact hb.elim
       ·exact .inl (by simpa using hb)
       ·exact .inr ⟨l,g,q1,q2,fun h=>q3 (by simp [h])⟩
      have aj9:∀f b,c.K f b→c1.K f b:=fun f b hb=>by rw [←hc1];exact .inr (.inl (by simpa using hb))
      have atz:∀b,fT c1 h1' b→∃(i lq:Nat) (q:fM),e.ren[i]? =some (some (some lq))∧AE.look h lq=some q∧q.live∧c.μ lq=some b:=fun b hb=>by
       rcases m4 b hb with⟨l,o,hl,_⟩ | hb
       ·simp [AE.look]at hl
       ·exact hb
      have atA:F2 (WV c w (nmh hs)) vs qs:=by
       clear he1 a1 a2 a3 a4 hvk hrun
       induction rT generalizing qs with
       | nil=>cases hargs;exact .nil
       | cons q1 _ ih=>cases hargs with | cons q3 q4=>exact .cons ⟨_,q1,q3⟩ (ih _ q4)
      obtain⟨atB,p1,p2⟩:=NJ (a4 H HR b2 hck m3 (fun h=>by cases h) atA)
      unfold Uy at hrun
      split at hrun
      ·exact hrun.elim
      rename_i hkk
      have hkk:sg.objs.length≤sg.eF.length:=by
       have:Nat.ble sg.objs.length sg.eF.length=true:=by simpa using hkk
       exact Nat.le_of_ble_eq_true this
      rw [show unpack (std N).ah sg.inp x=new1++new2 from hun,a3]at hrun
      simp only at hrun
      have hb3:=b3 []
      rw [List.append_nil]at hb3
      rw [show sQ (std N).ah (fun i=>i) (fun _=>eD.gone Co.i64 ((std N).lit 0)) 0 sg.objs new2=some (os1,[])from hb3]at hrun
      simp only at hrun
      have hql:qs1.length=vs.length:=by rw [←p2.length,←p1.length]
      refine calls_of_wp hf hb ?_
      have A1:lV E {t:=(List.range qs1.length).zip (atB.map some),h:=h1',n:=sg.objs.length,k:=0,m:=qs1.length+(fn.ntmps-qs1.length)} c1 w {tmps:=vs.toArray++Array.replicate (fn.ntmps-vs.toArray.size) undef,defers:=[]}:=by
       refine⟨⟨fun i u hu=>GD p1 ?_ i u hu,m1,?_⟩,c1n,rfl,by simp [hql]⟩
       ·refine F2.Fw (by simp [hql]) fun j i u hj hu=> ?_
        have:i=j:=by
         have h3:=(List.getElem?_eq_some_iff.1 hj).1
         simp at h3
         rw [List.getElem?_range h3]at hj;cases hj;rfl
        subst this
        have hlt:i<vs.length:=(List.getElem?_eq_some_iff.1 hu).1
        simp only
        rw [Array.getElem?_append_left (by simpa using hlt)]
        simpa using hu
       ·intro gg d hd
        obtain⟨q1,u,q2,q3⟩:=Gl gg d hd
        exact⟨aj9 _ _ q1,u,q2,q3.mono' fun b hb=>aj9 _ _ hb⟩
      have S1:SR {t:=(List.range qs1.length).zip (atB.map some),h:=h1',n:=sg.objs.length,k:=0,m:=qs1.length+(fn.ntmps-qs1.length)}
        ({t:=(List.range qs1.length).zip (qs1.map fun v=>⟨none,v⟩),gs:=[],h:=os1,m:=qs1.length+(fn.ntmps-qs1.length)}:RSt (std N)):=by
       refine⟨m2,by simp [nm,b4],rfl,fun i sv hi=> ?_,fun t e he=>by simp at he⟩
       obtain⟨q1,q2⟩:=GA p2 i sv hi
       unfold BL
       rw [q1];exact q2
      refine wp_mono (tq hE hX hG hm QJ c1n code hrun A1 (.refl _ _ _) S1 (.refl _ os1) rfl) ?_
      have fin:∀ {c3:Ctx} {s3':St} {s3:RSt (std N)} {a3x:Act} {w3:World},Grow c1 w h1' c3 w3 s3'.h→lV E s3' c3 w3 a3x→SR s3' s3→Keep sg.objs.length os1 s3.h→
        aa6 (std N) X sg fn s3 (fun y=>y=ct.fn x)→
        a3x.defers=[]∧∃v,(results fn a3x.tmps).run E.P w3= .ok v w3∧
         Post (fun v w'=>∃c' r h' j,Grow c w h c' w' h'∧bH c' w' h'∧c'.n=nm hs.length j∧bF c' w' v r∧K r h' j) (.returned v) w3:=by
       intro c3 s3' s3 aAp w3 g3 A3 S3 K3 hfin
       refine⟨A3.defers,?_⟩
       generalize hM:aa6 (std N) X sg fn s3=M at hfin
       unfold aa6 at hM
       split at hM
       ·rename_i rs hrs
        split at hM
        ·rename_i e2 he2
         split at hM
         ·rename_i e3 he3
          split at hM
          ·rename_i GK
           have GK:=NC GK
           split at hM
           ·rename_i y hy
            subst hM
            obtain⟨atC,hfin⟩:=gI hfin
            have hfin:y=ct.fn x:=hfin
            subst hfin
            obtain⟨ps,rp1,rp2⟩:=NP (E:=E) hX S3 hrs
            obtain⟨us,ps',u1,u2,u3⟩:=CU hE A3 _ (fun q=>q=ps) (rp2 _ rfl)
            subst u3
            refine⟨_,Qc u1,?_⟩
            generalize hbr:(sg.fresh&&e.fro.all fun p=> !p.2)=br at hvk hK
            generalize abh:(if br=true then hs else bq (std m) hs (e.fro.map (·.1)))=h1T at hvk
            have GL:h1T.length=hs.length:=by
             rw [←abh];split
             ·rfl
             ·exact lY _ _ _
            have atD:nmh h1T=nmh hs:=by
             rw [←abh];split
             ·rfl
             ·exact vN _ _ _
            obtain⟨nms,akb⟩:∃nms,newNames e.ren h1T.length sg.eF.length=nms:=⟨_,rfl⟩
            rw [akb]at hvk
            have atE:nms.length=sg.eF.length:=by rw [←akb];exact iJ _ _ _
            obtain⟨atF,qs3,x1,x2,x3,x4⟩:=vP (fun i=>nms.getD i 0) he2
            obtain⟨akc,os3,y1,y2,y3,y4,y5⟩:=rP (fun i=>nms.getD i 0) (fun i=>vK (std m) h1T (nms.getD i 0)) (fun j=>QK h1T _) he3
            have hlv3:e3.lv.reverse=atF++akc:=by rw [y1,x1];simp [es0]
            have atG:=unpack_pack hy
            rw [hlv3]at atG
            rw [show unpack (std m).ah sg.out (ct.fn x)=atF++akc from atG,x3]at hvk
            simp only at hvk
            have hy3:=y3 []
            rw [List.append_nil]at hy3
            rw [hy3]at hvk
            simp only [Option.some.injEq,Prod.mk.injEq]at hvk
            obtain⟨hv,hkT⟩:=hvk
            have hrl3:e3.ren.length=sg.eF.length:=by rw [y2.len,x2.len,NI]
            have MH:∀(i l:Nat),e.ren[i]? =some (some (some l))→i<sg.objs.length:=fun i l hi=>by rw [←hrl];exact(List.getElem?_eq_some_iff.1 hi).1
            have passed:∀(i l:Nat),e.ren[i]? =some (some (some l))→∃o',AE.look h l=some o'∧o'.live:=fun i l hi=>by
             have hik:=MH i l hi
             obtain⟨o2,q1,q2⟩:=hof i _ (List.getElem?_eq_getElem hik)
             obtain⟨_,_,_,_,q3⟩:=q2.rel H HR hck m3 (fun h=>by cases h)
             exact q3 l (fun hg=>jr.gone hi (by rw [List.getElem?_eq_getElem hik,hg])) hi
            have hlh:∀l o',AE.look h l=some o'→l<hs.length:=fun l o' hl=>by rw [←hcn];exact(H.obj l o' hl).1
            have P:=UF (n:=m) os3 e.ren h1T (fun i l hi _=>by rw [GL];obtain⟨o',q,_⟩:=passed i l hi;exact hlh l o' q) (fun i j l hi hj=>jr.dist hi hj)
            rw [y4,akb,hkT]at P
            have ahB:∀i,i<sg.eF.length→nms[i]? =some (nms.getD i 0):=fun i hi=>by
             have:i<nms.length:=by rw [atE];exact hi
             simp [List.getD,List.getElem?_eq_getElem this]
            have nmP:∀i,i<sg.eF.length→kT[nms.getD i 0]? =os3[i]? ∧(e.ren[i]? =some (some (some (nms.getD i 0)))∨(hs.length≤nms.getD i 0∧∀q:Nat,e.ren[i]? ≠some (some (some q)))):=fun i hi=>by
             obtain⟨l,q1,q2,q3⟩:=P.at_ i (by rw [y4];exact hi)
             rw [ahB i hi]at q1
             have q1:=Option.some.inj q1
             subst q1
             rw [GL]at q3
             exact⟨q2,q3⟩
            have acs:∀i j,i<sg.eF.length→j<sg.eF.length→nms.getD i 0=nms.getD j 0→i=j:=fun i j hi hj hij=>P.inj i j _ (ahB i hi) (by rw [hij];exact ahB j hj)
            have azi:∀i,i<sg.eF.length→nms.getD i 0<kT.length:=fun i hi=>by
             have h3:=(nmP i hi).1
             rw [List.getElem?_eq_getElem (show i<os3.length by rw [y4];exact hi)]at h3
             exact(List.getElem?_eq_some_iff.1 h3).1
            have ZH:∀(i l:Nat),e.ren[i]? =some (some (some l))→nms.getD i 0=l:=fun i l hi=>by
             have hik:=Nat.lt_of_lt_of_le (MH i l hi) hkk
             rcases(nmP i hik).2 with q | ⟨_,q⟩
             ·rw [hi]at q;cases q;rfl
             ·exact absurd hi (q l)
            have hD:∀l,l∈bI e.ren→∃i,i<sg.eF.length∧nms.getD i 0=l∧e.ren[i]? =some (some (some l)):=fun l hl=>by
             obtain⟨i,hi⟩:=yu hl
             exact⟨i,Nat.lt_of_lt_of_le (MH i l hi) hkk,ZH i l hi,hi⟩
            obtain⟨D,ais⟩:∃D,bI e.ren++(if br=true then []else e.fro.map (·.1))=D:=⟨_,rfl⟩
            rw [ais]at hK
            have QL:∀l,l∈D↔l∈bI e.ren∨(br=false∧∃f,(l,f)∈e.fro):=fun l=>by
             rw [←ais];cases br<;>simp
            have yx:∀l f,(l,f)∈e.fro→(∃g cc xs,hs[l]? =some (.rows g cc xs))∧∃o',AE.look h l=some o'∧o'.live:=fun l f hl=>by
             obtain⟨_,g,cc,xs,q⟩:=jr.fro l f hl
             obtain⟨o',q1,q2⟩:=HR.old l _ q
             cases q2 with | rows _=>exact⟨⟨g,cc,xs,q⟩,_,q1,trivial⟩
            have MI:∀l o,AE.look (BP D h) l=some o→o.live→l∉D∧AE.look h l=some o:=fun l o hl hlv=>by
             by_cases hd:l∈D
             ·rw [GJ hd]at hl;cases hl;exact hlv.elim
             ·rw [rU hd]at hl;exact⟨hd,hl⟩
            have NQ:∀l o b,l∉D→AE.look h l=some o→o.live→c.μ l=some b→¬fT c1 h1' b:=fun l o b hd hl hlv hb ho=>by
             obtain⟨i,lq,q,q1,q2,q3,q4⟩:=atz b ho
             have:=H.inj l o lq q b hl hlv q2 q3 hb q4
             subst this
             exact hd ((QL l).2 (.inl (rQ q1)))
            have ZI:∀b,fT c1 h1' b→fT c h b:=fun b hb=>by
             obtain⟨i,lq,q,_,q2,q3,q4⟩:=atz b hb
             exact⟨lq,q,q2,q3,q4⟩
            have kept:∀f b,c.K f b→w3.heap[b]? =w.heap[b]? :=fun f b hb=>g3.kept b (H.low f b hb) (fun ho=>H.own f b (ZI b ho) hb)
            have Hb:bH c w3 (BP D h):=by
             refine⟨fun l o hl=> ?_,fun l o l' o' b q1 q2 q3 q4 q5 q6=> ?_,?_,fun f b hb=>Nat.lt_of_lt_of_le (H.low f b hb) g3.size,H.sub⟩
             ·by_cases hd:l∈D
              ·rw [GJ hd]at hl;cases hl
               refine⟨?_,trivial⟩
               rcases(QL l).1 hd with h3 | ⟨_,f,h3⟩
               ·obtain⟨i,hi⟩:=yu h3
                obtain⟨o',q,_⟩:=passed i l hi
                exact(H.obj l o' q).1
               ·obtain⟨_,o',q,_⟩:=yx l f h3
                exact(H.obj l o' q).1
              ·rw [rU hd]at hl
               obtain⟨q1,q2⟩:=H.obj l o hl
               exact⟨q1,q2.mono (.refl c) kept g3.stays q1 (fun b hlv hb=>g3.kept b (q2.lt hlv hb) (NQ l o b hd hl hlv hb))⟩
             ·obtain⟨_,r1⟩:=MI l o q1 q2
              obtain⟨_,r2⟩:=MI l' o' q3 q4
              exact H.inj l o l' o' b r1 q2 r2 q4 q5 q6
             ·rintro f b ⟨l,o,hl,hlv,hb⟩ hk
              obtain⟨_,r1⟩:=MI l o hl hlv
              exact H.own f b ⟨l,o,r1,hlv,hb⟩ hk
            have acu:∀l o b,AE.look h l=some o→o.live→c.μ l=some b→b<w.heap.size:=fun l o b hl hlv hb=>(H.obj l o hl).2.lt hlv hb
            have ait:∀l o b,l∉D→AE.look h l=some o→o.live→c.μ l=some b→¬fT c3 s3'.h b:=fun l o b hd hl hlv hb ho=>by
             rcases g3.pW b ho with h3 | h3
             ·exact NQ l o b hd hl hlv hb h3
             ·have:=acu l o b hl hlv hb;omega
            have ZJ:∀q g b,(q,g)∈e3.fro→c3.μ q=some b→fT c3 s3'.h b:=fun q g b hq hb=>by
             obtain⟨_,g',cc,xs,hl⟩:=GK.fro q g hq
             obtain⟨o',q1,q2⟩:=S3.heap.old q _ hl
             cases q2 with | rows _=>exact⟨q,_,q1,trivial,hb⟩
            have atH:br=true→∀l f,(l,f)∈e.fro→f=false:=fun hb l f hl=>by
             rw [←hbr]at hb
             simp only [Bool.and_eq_true]at hb
             have:=List.all_eq_true.1 hb.2 _ hl
             simpa using this
            have aj3:∀f b,fT c (BP D h) b→KX e3 c3 br f b→False:=by
             rintro f b ⟨l,o,hl,hlv,hb⟩ hk
             obtain⟨hd,hl⟩:=MI l o hl hlv
             rcases hk with hk | ⟨q,g,q1,q2,_⟩
             ·rcases g3.yI _ b hk with h3 | h3 | h3
              ·rcases c1K _ b h3 with h3 | ⟨l2,g2,q1,q2,q3⟩
               ·exact H.own _ b ⟨l,o,hl,hlv,hb⟩ h3
               ·obtain⟨_,o2,r1,r2⟩:=yx l2 g2 q1
                have:=H.inj l o l2 o2 b hl hlv r1 r2 hb q2
                subst this
                cases hbb:br with
                | false=>exact hd ((QL l).2 (.inr ⟨hbb,g2,q1⟩))
                | true=>
                 have h5:=q3 (by rw [hbb];simp)
                 have h6:=atH hbb l g2 q1
                 rw [h5]at h6;cases h6
              ·have:=acu l o b hl hlv hb;omega
              ·exact NQ l o b hd hl hlv hb h3
             ·exact ait l o b hd hl hlv hb (ZJ q g b q1 q2)
            have azj:∃μ2:Nat→Option Nat,(∀l,l<hs.length→μ2 l=c.μ l)∧(∀(i q:Nat),i<sg.eF.length→hs.length≤nms.getD i 0→e3.ren[i]? =some (some (some q))→μ2 (nms.getD i 0)=c3.μ q)∧
              (∀i:Nat,i<sg.eF.length→hs.length≤nms.getD i 0→e3.ren[i]? =some (some none)→μ2 (nms.getD i 0)=none):=by
             have hch:∀l,∃ob:Option Nat,(l<hs.length→ob=c.μ l)∧(∀(i q:Nat),i<sg.eF.length→hs.length≤l→nms.getD i 0=l→e3.ren[i]? =some (some (some q))→ob=c3.μ q)∧
               (∀i:Nat,i<sg.eF.length→hs.length≤l→nms.getD i 0=l→e3.ren[i]? =some (some none)→ob=none):=by
              intro l
              by_cases hl:l<hs.length
              ·exact⟨c.μ l,fun _=>rfl,fun i q _ h4=>by omega,fun i _ h4=>by omega⟩
              ·by_cases hx:∃i q:Nat,i<sg.eF.length∧nms.getD i 0=l∧e3.ren[i]? =some (some (some q))
               ·obtain⟨i,q,h4,h5,h6⟩:=hx
                refine⟨c3.μ q,fun h=>absurd h hl,fun j q' h7 _ h9 h10=> ?_,fun j h7 _ h9 h10=> ?_⟩
                ·have:=acs i j h4 h7 (h5.trans h9.symm);subst this
                 rw [h6]at h10;cases h10;rfl
                ·have:=acs i j h4 h7 (h5.trans h9.symm);subst this
                 rw [h6]at h10;cases h10
               ·exact⟨none,fun h=>absurd h hl,fun j q' h7 _ h9 h10=>absurd ⟨j,q',h7,h9,h10⟩ hx,fun _ _ _ _ _=>rfl⟩
             obtain⟨μ2,akd⟩:=Classical.axiomOfChoice hch
             exact⟨μ2,fun l hl=>(akd l).1 hl,fun i q h4 h5 h6=>(akd _).2.1 i q h4 h5 rfl h6,fun i h4 h5 h6=>(akd _).2.2 i h4 h5 rfl h6⟩
            obtain⟨μ2,μa,μb,μc⟩:=azj
            have UG:∀(i:Nat) (v:Option Nat),i<sg.objs.length→e3.ren[i]? =some (some v)→v=some i∧(es0 (std N) sg.objs.length sg.eF).ren[i]? =some (some (some i)):=fun i v hi hv=>by
             have hik:=Nat.lt_of_lt_of_le hi hkk
             have h0:=NH (n:=N) hi hik
             have hg:sO sg.eF[i]? =false:=by
              unfold sO;split
              ·rename_i hh;exact absurd hh (GK.gone hv)
              ·rfl
             rw [hg]at h0
             have h0:(es0 (std N) sg.objs.length sg.eF).ren[i]? =some (some (some i)):=by simpa using h0
             have:=y2.ren i _ (x2.ren i _ h0)
             rw [hv]at this;cases this
             exact⟨rfl,h0⟩
            have hname:∀(i q:Nat),e3.ren[i]? =some (some (some q))→μ2 (nms.getD i 0)=c3.μ q:=fun i q hi=>by
             have hik:i<sg.eF.length:=by rw [←hrl3];exact(List.getElem?_eq_some_iff.1 hi).1
             rcases(nmP i hik).2 with h4 | ⟨h4,_⟩
             ·have hio:=MH i _ h4
              obtain⟨h5,_⟩:=UG i _ hio hi
              cases h5
              obtain⟨o',h6,_⟩:=passed i _ h4
              rw [μa _ (hlh _ o' h6),g3.le.μ i (by rw [c1n];exact hio)]
              exact(m3.name i _ h4).2.symm
             ·exact μb i q hik h4 hi
            have hnil:∀(i:Nat),e3.ren[i]? =some (some none)→μ2 (nms.getD i 0)=none:=fun i hi=>by
             have hik:i<sg.eF.length:=by rw [←hrl3];exact(List.getElem?_eq_some_iff.1 hi).1
             rcases Nat.lt_or_ge i sg.objs.length with h4 | h4
             ·obtain⟨h5,_⟩:=UG i _ h4 hi;cases h5
             ·rcases(nmP i hik).2 with h5 | ⟨h5,_⟩
              ·have:=MH i _ h5;omega
              ·exact μc i hik h5 hi
            have hsame:Same hs kT:=fun l z hz=>by
             have hll:l<hs.length:=by
              rcases Nat.lt_or_ge l hs.length with hl | hl
              ·exact hl
              ·simp [nmh,List.getElem?_eq_none hl]at hz
             by_cases hp:∃i:Nat,e.ren[i]? =some (some (some l))
             ·obtain⟨i,hi⟩:=hp
              have hio:=MH i l hi
              have hik:=Nat.lt_of_lt_of_le hio hkk
              have hn:=ZH i l hi
              have hat:=(nmP i hik).1
              rw [hn]at hat
              obtain⟨k3,hk3⟩:∃k3,sg.eF[i]? =some k3:=⟨_,List.getElem?_eq_getElem hik⟩
              obtain⟨o3,r1,r2⟩:=y5 e3 (.refl _) i k3 hk3
              rw [Nat.zero_add]at r2
              have goal:nmh [o3] 0=some z→nmh kT l=some z:=fun hh=>by
               simp only [nmh,hat,r1];simpa [nmh]using hh
              by_cases hg:k3= .gone
              ·refine goal ?_
               rw [r2.gone hg]
               show nmh [vK (std m) h1T (nms.getD i 0)] 0=some z
               rw [hn]
               rw [←atD]at hz
               unfold vK
               simp only [nmh]at hz ⊢
               split at hz
               ·rename_i hh;rw [hh];simpa using hz
               ·rename_i hh;rw [hh];simpa using hz
               ·cases hz
              ·obtain⟨v3,hv3⟩:=r2.live hg
               obtain⟨h5,h6⟩:=UG i _ hio hv3
               subst h5
               obtain⟨o1',s1,s2⟩:=hof i _ (List.getElem?_eq_getElem hio)
               have azk:sg.objs[i]≠ .gone:=fun hh=>jr.gone hi (by rw [List.getElem?_eq_getElem hio,hh])
               have t1:=s2.s1 l z.1 z.2 azk hi (by rw [hz])
               have azl:sN (std m) e i=none:=by simp [sN,htr]
               rw [azl]at t1
               have t2:nmh os1 i=some z:=by simp only [nmh,s1];simpa [nmh]using t1
               rcases(K3 i hio).2 z t2 with⟨cc,nn,hgo⟩ | t3
               ·exfalso
                obtain⟨v3',aAq⟩:=r2.live hg
                have:=MG he3 (i:=i) hk3 hg (l:=i) (by rw [Nat.zero_add];exact hv3)
                obtain⟨o4,ho4,azm⟩:=this
                rw [hgo]at ho4;cases ho4
                exact azm ⟨_,_,rfl⟩
               ·have azn:sN (std N) e3 i=none:=by rw [y2.tr i _ (x2.ren i _ h6),x2.tr i _ h6];rfl
                have t4:=r2.s1 i z.1 z.2 hg hv3 (by rw [t3])
                rw [azn]at t4
                exact goal t4
             ·have hp':∀i:Nat,i<os3.length→e.ren[i]? ≠some (some (some l)):=fun i _ hi=>hp ⟨i,hi⟩
              have:=P.old l (by rw [GL];exact hll) hp'
              rw [←atD]at hz
              simp only [nmh,this]
              exact hz
            have azo:∀(j:Nat) (kk:SkO),sg.eF[j]? =some kk→∃o2,os3[j]? =some o2∧OF e3 s3.h (fun i=>nms.getD i 0) j kk (vK (std m) h1T (nms.getD j 0)) o2:=fun j kk hj=>by
             obtain⟨o2,q1,q2⟩:=y5 e3 (.refl _) j kk hj
             exact⟨o2,q1,by simpa using q2⟩
            have azp:br=true→sg.eF.all SkO.fresh=true:=fun hb=>by
             rw [←hbr]at hb
             simp only [Bool.and_eq_true,Sig.fresh]at hb
             exact hb.1.2
            have azq:br=true→sg.res.all SkV.fresh=true:=fun hb=>by
             rw [←hbr]at hb
             simp only [Bool.and_eq_true,Sig.fresh]at hb
             exact hb.1.1
            obtain⟨o3f,z1,z2,z3,z4,z5,z6⟩:=Ay (ks:=sg.eF) (nm:=fun i=>nms.getD i 0) (old:=fun i=>vK (std m) h1T (nms.getD i 0)) A3.abs.heap S3.heap atC GK hrl3 y4 azo (cb:=c) (hb':=BP D h)
             Hb br azp (μ2:=μ2) (n2:=kT.length) (by rw [hcn,←GL];exact P.len) (fun l hl=>μa l (by rw [←hcn];exact hl)) azi acs hname hnil (h2:=kT) (fun i hi=>(nmP i hi).1)
             (fun l o hl ho=>by
              have hll:l<hs.length:=by
               rcases Nat.lt_or_ge l hs.length with h4 | h4
               ·exact h4
               ·obtain⟨i,q1,q2⟩:=P.new l (by rw [GL];exact h4) (List.getElem?_eq_some_iff.1 ho).1
                rw [y4]at q1
                rw [ahB i q1]at q2
                exact absurd (Option.some.inj q2) (hl i q1)
              have hnp:l∉bI e.ren:=fun hp=>by
               obtain⟨i,q1,q2,_⟩:=hD l hp
               exact hl i q1 q2
              have h5:=P.old l (by rw [GL];exact hll) (fun i hi hh=>hnp (rQ hh))
              rw [h5]at ho
              by_cases hd:l∈D
              ·rcases(QL l).1 hd with h6 | ⟨hb0,f,h6⟩
               ·exact absurd h6 hnp
               ·rw [←abh,hb0]at ho
                simp only [Bool.false_eq_true,if_false]at ho
                obtain⟨⟨g,cc,xs,h7⟩,_⟩:=yx l f h6
                have:Gone (bq (std m) hs (e.fro.map (·.1))) l:=BO (List.mem_map.2 ⟨_,h6,rfl⟩) h7
                obtain⟨c5,n5,h8⟩:=this
                rw [h8]at ho;cases ho
                exact⟨.gone,GJ hd,.gone⟩
              ·have h7:hs[l]? =some o:=by
                rw [←abh]at ho
                split at ho
                ·exact ho
                ·rename_i hb0
                 rw [jZ m _ _ (fun h8=>hd ((QL l).2 (.inr ⟨by simpa using hb0,by
                  obtain⟨p,hp,rfl⟩:=List.mem_map.1 h8
                  exact⟨p.2,hp⟩⟩)))]at ho
                 exact ho
               obtain⟨o',r1,r2⟩:=HR.old l _ h7
               exact⟨o',by rw [rU hd];exact r1,r2.mono hsame⟩)
             (fun l hl=>by
              have hll:hs.length≤l:=by have:=P.len;rw [GL]at this;omega
              have hnd:l∉D:=fun hd=>by
               rcases(QL l).1 hd with h4 | ⟨_,f,h4⟩
               ·obtain⟨i,hi⟩:=yu h4
                obtain⟨o',q,_⟩:=passed i l hi
                have:=hlh l o' q;omega
               ·obtain⟨_,o',q,_⟩:=yx l f h4
                have:=hlh l o' q;omega
              rw [rU hnd]
              exact HR.new l hll)
             (fun b ⟨l,o,hl,hlv,hb⟩ ho=>by
              obtain⟨hd,hl⟩:=MI l o hl hlv
              exact ait l o b hd hl hlv hb ho)
             (fun f b hk ho=>A3.abs.heap.own f b ho (g3.le.K f b (aj9 f b hk))) aj3
            have wvs:F2 (WV c3 w3 (nmh s3.h)) us rs:=by
             clear he2 x1 x2 x3 x4 hrs u1 rp2
             induction u2 generalizing rs with
             | nil=>cases rp1;exact .nil
             | cons q1 _ ih=>cases rp1 with | cons q3 q4=>exact .cons ⟨_,q1,q3⟩ (ih _ q4)
            obtain⟨azr,w1,w2⟩:=NJ (x4 A3.abs.heap S3.heap y2 atC z3 azq wvs)
            have hv3:PVR (nmh kT) (one azr) v:=by rw [←hv];exact aj8 w2 (GI (x3 akc))
            have hkl:kT.length=nm hs.length (kT.length-hs.length):=by have:=P.len;rw [GL]at this;simp [nm];omega
            have azs:∀b,fT c (BP D h) b→fT c h b:=fun b ⟨l,o,hl,hlv,hb⟩=>⟨l,o,(MI l o hl hlv).2,hlv,hb⟩
            have aiu:∀b,fT c3 s3'.h b→fT c h b∨w.heap.size≤b:=fun b hb=>(g3.pW b hb).imp (ZI b) id
            refine⟨_,_,_,kT.length-hs.length,?_,z1,hkl,ahz w1,hK _ _ _ hv3 z2 ?_ hkl⟩
            ·refine⟨z5,g3.size,g3.stays,fun b hb hno=>g3.kept b hb (fun ho=>hno (ZI b ho)),fun f b hb=> ?_,fun b hb=> ?_,g3.os,g3.tape,g3.output⟩
             ·rcases hb with hb | hb | ⟨q,g,q1,q2,_⟩
              ·exact .inl hb
              ·rcases g3.yI _ b hb with h4 | h4 | h4
               ·rcases c1K _ b h4 with h5 | ⟨l2,g2,q1,q2,q3⟩
                ·left
                 cases f with
                 | true=>simpa using h5
                 | false=>cases br with
                  | true=>exact H.sub b (by simpa using h5)
                  | false=>simpa using h5
                ·obtain⟨_,o2,r1,r2⟩:=yx l2 g2 q1
                 exact .inr (.inr ⟨l2,o2,r1,r2,q2⟩)
               ·exact .inr (.inl h4)
               ·exact .inr (.inr (ZI b h4))
              ·rcases aiu b (ZJ q g b q1 q2)with h4 | h4
               ·exact .inr (.inr h4)
               ·exact .inr (.inl h4)
             ·rcases z4 b hb with h4 | ⟨i,lq,q,_,q2,q3,q4⟩
              ·exact .inl (azs b h4)
              ·exact aiu b ⟨lq,q,q2,q3,q4⟩
            ·refine⟨hsame,by have:=P.len;rw [GL]at this;exact this,fun l ⟨cc,nn,hgo⟩=> ?_,fun l hl hnd=> ?_⟩
             ·have hll:=(List.getElem?_eq_some_iff.1 hgo).1
              have hnp:∀i:Nat,e.ren[i]? ≠some (some (some l)):=fun i hi=>by
               obtain⟨o',q1,q2⟩:=passed i l hi
               obtain⟨o2,q3,q4⟩:=HR.old l _ hgo
               rw [q1]at q3;cases q3;cases q4;exact q2.elim
              have hnf:∀f,(l,f)∉e.fro:=fun f hf=>by
               obtain⟨⟨g,c5,xs,h7⟩,_⟩:=yx l f hf
               rw [hgo]at h7;cases h7
              refine⟨cc,nn,?_⟩
              rw [P.old l (by rw [GL];exact hll) (fun i _=>hnp i),←abh]
              split
              ·exact hgo
              ·rw [jZ m _ _ (fun h8=>by
                obtain⟨p,hp,rfl⟩:=List.mem_map.1 h8
                exact hnf p.2 hp)]
               exact hgo
             ·have hnp:∀i:Nat,e.ren[i]? ≠some (some (some l)):=fun i hi=>hnd ((QL l).2 (.inl (rQ hi)))
              refine⟨?_,?_⟩
              ·rw [P.old l (by rw [GL];exact hl) (fun i _=>hnp i),←abh]
               split
               ·rfl
               ·rename_i hb0
                exact jZ m _ _ (fun h8=>hnd ((QL l).2 (.inr ⟨by simpa using hb0,by
                 obtain⟨p,hp,rfl⟩:=List.mem_map.1 h8
                 exact⟨p.2,hp⟩⟩)))
              ·rw [z6 l (fun i hi hh=>by
                rcases(nmP i hi).2 with h4 | ⟨h4,_⟩
                ·rw [hh]at h4;exact hnp i h4
                ·omega),rU hnd]
           ·(subst hM;exact hfin.elim)
          ·(subst hM;exact hfin.elim)
         ·(subst hM;exact hfin.elim)
        ·(subst hM;exact hfin.elim)
       ·(subst hM;exact hfin.elim)
      intro ex a' w' he
      cases ex with
      | outgrown=>exact he.elim
      | panic _=>exact he.elim
      | goto _=>exact he.elim
      | normal=>obtain⟨c3,s3',s3,g1,g2,g3,g4,_,g6⟩:=he;exact fin g1 g2 g3 g4 g6
      | ret=>obtain⟨c3,s3',s3,g1,g2,g3,g4,_,g6⟩:=he;exact fin g1 g2 g3 g4 g6
      | exit i=>obtain⟨c3,s3',s3,g1,g2,g3,g4,_,g6⟩:=he;exact g6.elim
     ·cases hcall
    ·cases hcall
   ·cases hcall
  ·cases hcall
end
end
end Go.TX
namespace Go.TX
open Go Go.AE
structure FM {ρ:Type} (m:(ρ→Prop)→Prop):Prop where
 mono:∀Q Q':ρ→Prop,(∀y,Q y→Q' y)→m Q→m Q'
 one:∀Q:ρ→Prop,m Q→∃y,Q y∧m (fun z=>z=y)
 two:∀Q Q':ρ→Prop,m Q→m Q'→∃y,Q y∧Q' y
section
variable {n:Nat} {ρ:Type}
theorem FM.fail:FM (fun _:ρ→Prop=>False):=⟨fun _ _ _ h=>h,fun _ h=>h.elim,fun _ _ h=>h.elim⟩
theorem FM.ret (t:ρ):FM (fun Q:ρ→Prop=>Q t):=⟨fun _ _ h hq=>h _ hq,fun _ hq=>⟨t,hq,rfl⟩,fun _ _ h g=>⟨t,h,g⟩⟩
theorem FM.bind {α:Type} {m:(α→Prop)→Prop} {k:α→(ρ→Prop)→Prop} (hm:FM m) (hk:∀t,FM (k t)):FM (fun Q=>m fun t=>k t Q):=
 ⟨fun Q Q' h hq=>hm.mono _ _ (fun t ht=>(hk t).mono _ _ h ht) hq,fun Q hq=>by
  obtain⟨t,h1,h2⟩:=hm.one _ hq
  obtain⟨y,h3,h4⟩:=(hk t).one _ h1
  exact⟨y,h3,hm.mono _ _ (fun t' e=>by subst e;exact h4) h2⟩,fun Q Q' h g=>by
  obtain⟨t,h1,h2⟩:=hm.two _ _ h g
  exact(hk t).two _ _ h1 h2⟩
theorem FM.kZ {α:Type} {m:(α ⊕ ρ→Prop)→Prop} {k:α→(ρ→Prop)→Prop} (hm:FM m) (hk:∀t,FM (k t)):FM (fun Q=>m (E8 k Q)):=
 ⟨fun Q Q' h hq=>hm.mono _ _ (fun t ht=>by
  cases t with
  | inl x=>exact(hk x).mono _ _ h ht
  | inr r=>exact h _ ht) hq,fun Q hq=>by
  obtain⟨t,h1,h2⟩:=hm.one _ hq
  cases t with
  | inl x=>
   obtain⟨y,h3,h4⟩:=(hk x).one _ h1
   exact⟨y,h3,hm.mono _ _ (fun t' e=>by subst e;exact h4) h2⟩
  | inr r=>exact⟨r,h1,hm.mono _ _ (fun t' e=>by subst e;rfl) h2⟩,fun Q Q' h g=>by
  obtain⟨t,h1,h2⟩:=hm.two _ _ h g
  cases t with
  | inl x=>exact(hk x).two _ _ h1 h2
  | inr r=>exact⟨r,h1,h2⟩⟩
theorem FM.itW {α:Type} {f:α→(α ⊕ ρ→Prop)→Prop} (hf:∀x,FM (f x)):∀(N:Nat) (x:α),FM (TX.itW N f x)
 | 0,x=>by
  have e:TX.itW 0 f x=fun _=>False:=by funext Q;rw [TX.itW]
  rw [e];exact .fail
 | N+1,x=>by
  have e:TX.itW (N+1) f x=fun Q=>f x (E8 (TX.itW N f) Q):=by funext Q;rw [TX.itW]
  rw [e];exact .kZ (hf x) (FM.itW hf N)
theorem Dj {α:Type} {k k':α→(ρ→Prop)→Prop} {Q Q':ρ→Prop} (hk:∀x,k x Q→k' x Q') (hq:∀y,Q y→Q' y):∀s,E8 k Q s→E8 k' Q' s
 | .inl x=>hk x
 | .inr r=>hq r
theorem UH {α:Type} {f:α→(α ⊕ ρ→Prop)→Prop} (hf:∀x,FM (f x)) {Q:ρ→Prop}:∀ {N M:Nat} {x:α},N≤M→TX.itW N f x Q→TX.itW M f x Q
 | 0,_,_,_,h=>by rw [TX.itW]at h;exact h.elim
 | N+1,0,_,h,_=>absurd h (by omega)
 | N+1,M+1,x,h,g=>by
  rw [TX.itW]at g ⊢
  exact(hf x).mono _ _ (Dj (fun y k=>UH hf (by omega) k) (fun _ k=>k)) g
theorem GN {α:Type} {f:α→(α ⊕ ρ→Prop)→Prop} (hf:∀x,FM (f x)) {x:α} {Q:ρ→Prop} (h:Zt f x Q):∃r,Q r∧∃N,TX.itW N f x (fun z=>z=r):=by
 obtain⟨I,μ,h0,hs⟩:=h
 have key:∀(n:Nat) (y:α),μ y<n→I y→∃r,Q r∧∃N,TX.itW N f y (fun z=>z=r):=by
  intro n
  induction n with
  | zero=>intro y h;omega
  | succ n ih=>
   intro y hy hI
   obtain⟨s,h1,h2⟩:=(hf y).one _ (hs y hI)
   cases s with
   | inl z=>
    obtain⟨r,q1,N,q2⟩:=ih z (by have:=h1.2;omega) h1.1
    refine⟨r,q1,N+1,?_⟩
    rw [TX.itW]
    exact(hf y).mono _ _ (fun s e=>by subst e;exact q2) h2
   | inr r=>
    refine⟨r,h1,1,?_⟩
    rw [TX.itW]
    exact(hf y).mono _ _ (fun s e=>by subst e;rfl) h2
 exact key _ x (Nat.lt_succ_self _) h0
theorem FM.iter {α:Type} {f:α→(α ⊕ ρ→Prop)→Prop} (hf:∀x,FM (f x)) (x:α):FM (fun Q=>Zt f x Q):=by
 refine⟨fun Q Q' h ⟨I,μ,h0,hs⟩=>⟨I,μ,h0,fun y hy=>(hf y).mono _ _ (Dj (fun _ h=>h) h) (hs y hy)⟩,fun Q h=> ?_,fun Q Q' h g=> ?_⟩
 rotate_left
 ·obtain⟨r,q1,N,q2⟩:=GN hf h
  obtain⟨t,g1,M,g2⟩:=GN hf g
  obtain⟨z,rfl,rfl⟩:=(FM.itW hf (max N M) x).two _ _ (UH hf (Nat.le_max_left ..) q2) (UH hf (Nat.le_max_right ..) g2)
  exact⟨_,q1,g1⟩
 obtain⟨r,q1,N,q2⟩:=GN hf h
 refine⟨r,q1,?_⟩
 have least:∀y,(∃N,TX.itW N f y (fun z=>z=r))→∃N,TX.itW N f y (fun z=>z=r)∧∀M,M<N→¬TX.itW M f y (fun z=>z=r):=by
  intro y ⟨N,hN⟩
  induction N using Nat.strongRecOn with
  | ind N ih=>
   by_cases h:∃M,M<N∧TX.itW M f y (fun z=>z=r)
   ·obtain⟨M,h1,h2⟩:=h;exact ih M h1 h2
   ·exact⟨N,hN,fun M hM hh=>h ⟨M,hM,hh⟩⟩
 have pick:∀y,∃N,(∃N,TX.itW N f y (fun z=>z=r))→TX.itW N f y (fun z=>z=r)∧∀M,M<N→¬TX.itW M f y (fun z=>z=r):=fun y=>by
  by_cases h:∃N,TX.itW N f y (fun z=>z=r)
  ·obtain⟨N,hN⟩:=least y h;exact⟨N,fun _=>hN⟩
  ·exact⟨0,fun hh=>absurd hh h⟩
 obtain⟨ν,hν⟩:=Classical.axiomOfChoice pick
 refine⟨fun y=>∃N,TX.itW N f y (fun z=>z=r),ν,⟨N,q2⟩,fun y hy=> ?_⟩
 obtain⟨h1,h2⟩:=hν y hy
 cases hn:ν y with
 | zero=>rw [hn]at h1;rw [TX.itW]at h1;exact h1.elim
 | succ k=>
  rw [hn]at h1
  rw [TX.itW]at h1
  refine(hf y).mono _ _ (Dj (fun z hz=> ?_) (fun _ h=>h)) h1
  refine⟨⟨k,hz⟩,?_⟩
  have hz':=hν z ⟨k,hz⟩
  by_cases hlt:ν z<k+1
  ·exact hlt
  ·exact absurd hz (hz'.2 k (by omega))
theorem FM.chk {b:Bool} {m:(ρ→Prop)→Prop} (h:FM m):FM (fun Q=>b=true∧m Q):=
 ⟨fun _ _ hq ⟨a,c⟩=>⟨a,h.mono _ _ hq c⟩,fun _ ⟨a,c⟩=>let⟨y,q1,q2⟩:=h.one _ c;⟨y,q1,a,q2⟩,fun _ _ ⟨_,c⟩ ⟨_,d⟩=>h.two _ _ c d⟩
theorem FM.gV {m:(ρ→Prop)→Prop} (h:FM m):∀(ps:List Bool),FM (TX.gV (std n) ps m)
 | []=>h
 | _::ps=> .chk (FM.gV h ps)
theorem FM.cond {b:Bool} {x y:(ρ→Prop)→Prop} (hx:FM x) (hy:FM y):FM (fun Q=>(b=true→x Q)∧(b=false→y Q)):=
 ⟨fun _ _ hq ⟨a,c⟩=>⟨fun h=>hx.mono _ _ hq (a h),fun h=>hy.mono _ _ hq (c h)⟩,fun _ ⟨a,c⟩=>by
  cases b with
  | true=>obtain⟨y,q1,q2⟩:=hx.one _ (a rfl);exact⟨y,q1,fun _=>q2,fun h=>by cases h⟩
  | false=>obtain⟨y,q1,q2⟩:=hy.one _ (c rfl);exact⟨y,q1,fun h=>(by cases h),fun _=>q2⟩,fun _ _ ⟨a,c⟩ ⟨a',c'⟩=>by
  cases b with
  | true=>exact hx.two _ _ (a rfl) (a' rfl)
  | false=>exact hy.two _ _ (c rfl) (c' rfl)⟩
theorem FM.bind' {ts:List LTy} {m:(iI ts→Prop)→Prop} {k:iI ts→(ρ→Prop)→Prop} (hm:FM m) (hk:∀t,FM (k t)):FM ((std n).bind ts m k):=by
 have:=FM.bind hm hk
 exact this
theorem FM.ake {ts:List LTy} {m:(iI ts ⊕ ρ→Prop)→Prop} {k:iI ts→(ρ→Prop)→Prop} (hm:FM m) (hk:∀t,FM (k t)):FM ((std n).kZ ts m k):=by
 have:=FM.kZ hm hk
 exact this
theorem FM.inl' {ts:List LTy} (t:iI ts):FM ((std n).inl (ρ:=ρ) ts t):=FM.ret _
theorem FM.inr' {ts:List LTy} {m:(ρ→Prop)→Prop} (h:FM m):FM ((std n).inr (ρ:=ρ) ts m):=by
 have:=FM.bind (k:=fun(r:ρ) (Q:iI ts ⊕ ρ→Prop)=>Q (Sum.inr r)) h fun r=>FM.ret _
 exact this
theorem FM.iter' {ts:List LTy} {f:iI ts→(iI ts ⊕ ρ→Prop)→Prop} (hf:∀x,FM (f x)) (x:iI ts):FM ((std n).iter ts f x):=FM.iter hf x
theorem FM.ret' {ts:List LTy} (t:iI ts):FM ((std n).ret ts t):=FM.ret t
theorem FM.use {cr:CR (std n)} {K:SVal→List aH→(ρ→Prop)→Prop} (h:∀v k,FM (K v k)):FM (uj (std n) cr K):=by
  obtain⟨ck,ts,y,k,td,p⟩:=cr
  unfold uj
  cases ts with
  | nil => simp only; split
           · exact h _ _
           · exact .fail
  | cons a b=>
    simp only
    split
    · exact h _ _
    · exact .fail
end
theorem vR:∀(ts:List LTy),Nonempty (iI ts)
 | []=>⟨()⟩
 | t::r=>by
  obtain⟨y⟩:=vR r
  have x:Nonempty (LT aA t):=by
   cases t with
   | i=>exact⟨(0:Int)⟩
   | b=>exact⟨false⟩
   | s=>exact⟨(default:ByteArray)⟩
   | l c=>exact⟨([]:List c.den)⟩
   | x c=>exact⟨(default:c.den)⟩
  obtain⟨x⟩:=x
  exact⟨(x,y)⟩
noncomputable def cn {s:Sig} (F:iI s.inp→(iI s.out→Prop)→Prop):Ct aA s:=
 {pre:=fun x=> @decide (∃y,F x fun z=>z=y) (Classical.propDecidable _)
  fn:=fun x=> @Classical.epsilon _ (vR _) fun y=>F x fun z=>z=y}
structure Fn (E:Tab) (f:FuncId) {s:Sig} (F:iI s.inp→(iI s.out→Prop)→Prop) (c:Ct aA s):Prop where
 e:c=cn F
 fm:∀x,FM (F x)
 ok:dB E f (cu c)
theorem Fn.cs {E:Tab} {f:FuncId} {s:Sig} {F:iI s.inp→(iI s.out→Prop)→Prop} {c:Ct aA s} (h:Fn E f F c) {x:iI s.inp} {Q:iI s.out→Prop} (g:F x Q):c.pre x=true∧Q (c.fn x):=by
 rw [h.e]
 obtain⟨y,h1,h2⟩:=(h.fm x).one _ g
 have e:∃y,F x fun z=>z=y:=⟨y,h2⟩
 refine⟨by simp only [cn];exact @decide_eq_true _ (Classical.propDecidable _) e,?_⟩
 obtain⟨z,k1,k2⟩:=(h.fm x).two _ _ g (@Classical.epsilon_spec _ (fun y=>F x fun z=>z=y) e)
 have k2:z=(cn F).fn x:=k2
 rw [←k2];exact k1
variable [ay]
section
variable {n:Nat} {ρ:Type}
theorem FM.region {X:XT} {C:Calls aA} {ops:List Oper} {K:RSt (std n)→(ρ→Prop)→Prop} (hK:∀s,FM (K s)):∀(rest:List Oper) (s:RSt (std n)),FM (fH (std n) X C ops rest K s)
 | [],s=>by unfold fH;exact hK s
 | o::rest,s=>by
  have ih:=FM.region (X:=X) (C:=C) (ops:=ops) hK rest
  unfold fH
  split
  ·split
   ·split
    ·split
     ·refine FM.gV ?_ _
      rw [Fg];exact ih _
     ·exact .fail
    ·split
     ·exact FM.gV (FM.use fun v k=>ih _) _
     ·exact .fail
   ·split
    ·split
     ·exact ih _
     ·split
      ·split
       ·exact FM.gV (ih _) _
       ·exact .fail
      ·split
       ·split
        ·exact FM.gV (FM.use fun v k=>ih _) _
        ·exact .cond (FM.gV (FM.use fun v k=>ih _) _) (ih _)
       ·exact .fail
     ·exact .fail
    ·exact .fail
  ·exact .fail
theorem FM.draw {X:XT} {C:Calls aA} {ops:List Oper} {K:RSt (std n)→(ρ→Prop)→Prop} (hK:∀s,FM (K s)):∀(rest:List gy) (hs:List (Nat×List Nat)) (s:RSt (std n)),FM (iU (std n) X C ops rest hs K s)
 | [],hs,s=>by unfold iU;exact hK s
 | (i,rs,cs)::rest,hs,s=>by
  have ih:=FM.draw (X:=X) (C:=C) (ops:=ops) hK rest
  unfold iU
  split
  ·exact .fail
  ·split
   ·simp only
    split
    ·split
     ·exact .fail
     ·split
      ·split
       ·refine FM.gV ?_ _
        rw [Fg];exact ih _ _
       ·exact .fail
      ·split
       ·split
        ·exact ih _ _
        ·split
         ·exact FM.gV (ih _ _) _
         ·exact .fail
        ·exact .fail
       ·exact .fail
    ·split
     ·exact FM.gV (ih _ _) _
     ·exact ih _ _
     ·exact .fail
    ·split
     ·exact FM.gV (ih _ _) _
     ·exact .fail
    ·split
     ·split
      ·split
       ·exact FM.gV (FM.use fun v k=>ih _ _) _
       ·exact .fail
      ·exact .fail
     ·split
      ·split
       ·exact ih _ _
       ·split
        ·split
         ·split
          ·exact FM.gV (FM.use fun v k=>ih _ _) _
          ·exact .cond (FM.gV (FM.use fun v k=>ih _ _) _) (ih _ _)
         ·exact .fail
        ·exact .fail
       ·exact .fail
      ·exact .fail
   ·exact .fail
theorem FM.cut {k:Nat} {sk:LW} {pl:Bool} {s:RSt (std n)} {K:Exit→RSt (std n)→(ρ→Prop)→Prop} (hK:∀e s,FM (K e s)) {W: {σ:Type}→(Exit→RSt (std n)→(σ→Prop)→Prop)→(σ→Prop)→Prop}
  (hW:∀ {σ:Type} {K':Exit→RSt (std n)→(σ→Prop)→Prop},(∀e s,FM (K' e s))→FM (W K')):FM (Uw (std n) k sk pl s K W):=by
 unfold Uw
 split
 ·refine FM.bind' (hW fun e s=> ?_) (fun t=>hK _ _)
  split
  ·split
   ·exact FM.gV (FM.ret' _) _
   ·exact .fail
  ·exact .fail
 ·refine FM.ake (hW fun e s=> ?_) (fun t=>hK _ _)
  split
  ·split
   ·exact FM.gV (FM.inl' _) _
   ·exact .fail
  ·exact FM.inr' (hK _ _)
theorem FM.reg {X:XT} {C:Calls aA} {ord:Nat→List gy} {chk:Nat→Array Oper→Nat→Bool} {id:Nat} {ops:Array Oper} {draw:Bool} {s:RSt (std n)} {K:Exit→RSt (std n)→(ρ→Prop)→Prop} (hK:∀e s,FM (K e s)):
  FM ((if draw then(if chk id ops s.m then iU (std n) X C ops.toList (ord id) [] (fun s=>K .normal s) s else(std n).fail)else fH (std n) X C ops.toList ops.toList (fun s=>K .normal s) s:(std n).M ρ)):=by
 split
 ·split
  ·exact FM.draw (fun s=>hK _ s) _ _ _
  ·exact .fail
 ·exact FM.region (fun s=>hK _ s) _ _
end
theorem FM.exec {n:Nat} {X:XT} {C:Calls aA} {ord:Nat→List gy} {chk:Nat→Array Oper→Nat→Bool} {k:Nat}:∀(code:Code) {ρ:Type} (an:Ann) (s:RSt (std n)) (K:Exit→RSt (std n)→(ρ→Prop)→Prop),(∀e s,FM (K e s))→FM (bJ (std n) X C ord chk k an code s K)
  | .skip,ρ,an,s,K,hK=>by cases an<;>exact hK _ _
  | .region id ops draw,ρ,an,s,K,hK=>by
    simp only [bJ]
    split
    · exact FM.cut hK fun hK'=>FM.reg hK'
    · exact FM.reg hK
  | .seq x y,ρ,an,s,K,hK=>by
    have main:∀a1 a2 (K1:Exit→RSt (std n)→(ρ→Prop)→Prop),(∀s',K1 .normal s'=bJ (std n) X C ord chk k a2 y s' K)→(∀e s',e≠ .normal→K1 e s'=K e s')→FM (bJ (std n) X C ord chk k a1 x s K1):=by
      intro a1 a2 K1 h1 h2
      refine FM.exec x a1 s K1 fun e s'=> ?_
      by_cases he:e= .normal
      · subst he;rw [h1];exact FM.exec y a2 s' K hK
      · rw [h2 e s' he];exact hK _ _
    cases an with
    | seq a1 a2=>rw [bJ];exact main a1 a2 _ (fun _=>rfl) (fun e s' he=>by cases e<;>first | rfl | exact absurd rfl he)
    | u=>rw [bJ];exact main .u .u _ (fun _=>rfl) (fun e s' he=>by cases e<;>first | rfl | exact absurd rfl he)
    | _=>simp only [bJ];exact .fail
  | .cond cd x y,ρ,an,s,K,hK=>by
    simp only [bJ]
    split
    · split
      · exact .cond (FM.exec x _ s K hK) (FM.exec y _ s K hK)
      · exact .cond (FM.exec x _ s K hK) (FM.exec y _ s K hK)
      · exact FM.cut hK fun hK'=> .cond (FM.exec x _ s _ hK') (FM.exec y _ s _ hK')
      · exact .fail
    · exact .fail
  | .block id b,ρ,an,s,K,hK=>by
    have main:∀ {σ:Type} {K':Exit→RSt (std n)→(σ→Prop)→Prop},(∀e s,FM (K' e s))→∀a1 (K1:Exit→RSt (std n)→(σ→Prop)→Prop),(∀e s',K1 e s'=K' e s'∨K1 e s'=K' .normal s')→FM (bJ (std n) X C ord chk k a1 b s K1):=by
      intro σ K' hK' a1 K1 h1
      refine FM.exec b a1 s K1 fun e s'=> ?_
      rcases h1 e s' with h | h<;>rw [h]<;>exact hK' _ _
    have alt:∀ {σ:Type} {K':Exit→RSt (std n)→(σ→Prop)→Prop} (e:Exit) (s':RSt (std n)),(match e with | .exit i=>if i==id then K' .normal s' else K' (.exit i) s' | e=>K' e s':(std n).M σ)=K' e s'∨(match e with | .exit i=>if i==id then K' .normal s' else K' (.exit i) s' | e=>K' e s':(std n).M σ)=K' .normal s':=by
      intro σ K' e s'
      cases e with
      | exit i => simp only; split
                  · exact .inr rfl
                  · exact .inl rfl
      | _=>exact .inl rfl
    simp only [bJ]
    split
    · exact main hK _ _ alt
    · exact main hK _ _ alt
    · exact FM.cut hK fun hK'=>main hK' _ _ alt
    · exact .fail
  | .loop b,ρ,an,s,K,hK=>by
    cases an with
    | loop sk a1=>
      rw [bJ]
      split
      · refine FM.gV (FM.iter' (fun x=>FM.exec b a1 _ _ fun e s'=> ?_) _) _
        split
        · split
          · exact FM.gV (FM.inl' _) _
          · exact .fail
        · exact FM.inr' (hK _ _)
      · exact .fail
    | _=>simp only [bJ];exact .fail
  | .exit i,ρ,an,s,K,hK=>by cases an<;>exact hK _ _
  | .ret,ρ,an,s,K,hK=>by cases an<;>exact hK _ _
  | .rangeFunc ..,ρ,an,s,K,hK=>by cases an<;>(simp only [bJ];exact .fail)
  | .scope _,ρ,an,s,K,hK=>by cases an<;>(simp only [bJ];exact .fail)
  | .label _,ρ,an,s,K,hK=>by cases an<;>(simp only [bJ];exact .fail)
  | .goto _,ρ,an,s,K,hK=>by cases an<;>(simp only [bJ];exact .fail)
  | .refuse _,ρ,an,s,K,hK=>by cases an<;>(simp only [bJ];exact .fail)
theorem FM.run {n:Nat} {X:XT} {C:Calls aA} {ord:Nat→List gy} {chk:Nat→Array Oper→Nat→Bool} {an:Ann} {sg:Sig} {fn:Func} {code:Code} (x:iI sg.inp):FM (Uy (std n) X C ord chk an sg fn code x):=by
 unfold Uy
 split
 ·exact .fail
 ·split
  ·split
   ·refine FM.exec code an _ _ fun e s=> ?_
    have he:FM (aa6 (std n) X sg fn s):=by
     unfold aa6
     split
     ·split
      ·split
       ·split
        ·split
         ·exact FM.gV (FM.ret' _) _
         ·exact .fail
        ·exact .fail
       ·exact .fail
      ·exact .fail
     ·exact .fail
    split
    ·exact he
    ·exact he
    ·exact .fail
   ·exact .fail
  ·exact .fail
def ofL (C:Car) (l:List (FuncId×Sigma (Ct C))):Calls C:=fun f=>(l.filter fun p=>p.1==f).map (·.2)
def acv (l:List (Nat×List gy)) (i:Nat):List gy:=match l.find? fun p=>p.1==i with | some p=>p.2 | none=> []
def ahC (E:Tab) (l:List (Nat×List gy)) (id:Nat) (ops:Array Oper) (m:Nat):Bool:=Nk ops.toList (acv l id)&&Bv E m ops.toList&&Nn E.P ops.toList
theorem ahD {E:Tab} {l:List (Nat×List gy)}:∀id ops m,ahC E l id ops m=true→Static E (acv l) id ops m:=fun _ _ _ h=>h
theorem akf {E:Tab} {l:List (FuncId×Sigma (Ct aA))} (h:∀p∈l,dB E p.1 (cu p.2.2)):pY E (kL (ofL aA l)):=by
 intro f R hR
 unfold kL at hR
 split at hR
 ·cases hR
 ·cases hR
  rename_i hne
  have hall:∀ct∈ofL aA l f,dB E f (cu ct.2):=fun ct hct=>by
   obtain⟨p,hp,rfl⟩:=List.mem_map.1 hct
   obtain⟨hp1,hp2⟩:=List.mem_filter.1 hp
   have:p.1=f:=by simpa using hp2
   rw [←this];exact h p hp1
  obtain⟨ct,hct⟩:=List.exists_mem_of_ne_nil _ hne
  exact⟨(hall ct hct).enters,fun args h n K ⟨ct,hct,hk⟩=>(hall ct hct).calls args h n K hk⟩
def Ru (X:XT) (E:Tab) (A:Alg) (ord:List (Nat×List gy)) (an:Ann) (s:Sig) (fn:Func) (l:List (FuncId×Sigma (Ct A.ah))) (F:Tup A.ah s.inp→A.M (Tup A.ah s.out)):Prop:=
 ∀x,Uy A X (ofL A.ah l) (acv ord) (ahC E ord) an s fn (fn.body.getD .skip) x=F x
section
variable {X:XT} {E:Tab} (hE:aD E) (hX:XOK X E) (hm:E.P.follows .mixedOrders=true)
include hE hX hm
theorem azt {f:FuncId} {fn:Func} (hf:E.P.funcs[f]? =some fn) (hb:fn.body.isSome=true) (hent:∀c,fn.body=some c→Enters E.P f) {l:List (FuncId×Sigma (Ct aA))} (hl:∀p∈l,dB E p.1 (cu p.2.2)) {ord:List (Nat×List gy)} {sg:Sig} {an:Ann}
  {F:iI sg.inp→(iI sg.out→Prop)→Prop} (hrun:Ru X E (std 0) ord an sg fn l F):Fn E f F (cn F):=by
 obtain⟨code,hb⟩:=Option.isSome_iff_exists.1 hb
 have hr:∀x,Uy (std 0) X (ofL aA l) (acv ord) (ahC E ord) an sg fn code x=F x:=fun x=>by have:=hrun x;rw [hb]at this;exact this
 have hFM:∀x,FM (F x):=fun x=>by rw [←hr x];exact FM.run x
 refine⟨rfl,hFM,aty hE hX (akf hl) hm (ord:=acv ord) (chk:=ahC E ord) ahD hf hb (hent _ hb) (an:=an) (fun x hx=> ?_)⟩
 rw [hr x]
 simp only [cn]at hx
 exact @Classical.epsilon_spec _ (fun y=>F x fun z=>z=y) (@of_decide_eq_true _ (Classical.propDecidable _) hx)
end
@[reducible] def ay.z : ay := ⟨[], []⟩
@[reducible] def Tup.q {C : Car} {a b c d : LTy} {ts : List LTy} (x : Tup C (a :: b :: c :: d :: ts)) : Tup C ts := x.2.2.2.2
@[reducible] def Tup.o {C : Car} {a b c d e f g h : LTy} {ts : List LTy} (x : Tup C (a :: b :: c :: d :: e :: f :: g :: h :: ts)) : Tup C ts := x.2.2.2.2.2.2.2.2
@[reducible] def Pt (A : Alg) (s : Sig) : Type := Tup A.ah s.inp → A.B
@[reducible] def Ft (A : Alg) (s : Sig) : Type := Tup A.ah s.inp → Tup A.ah s.out
@[reducible] def Ot (A : Alg) (s : Sig) : Type := A.M (Tup A.ah s.out)
structure Al (A:Alg) where
 n:Int→A.I
 z:A.I
 u:A.I
 T:A.B
 F:A.B
 e:A.I→A.I→A.B
 d:A.I→A.I→A.B
 l:A.I→A.I→A.B
 m:A.I→A.I→A.B
 g:A.I→A.I→A.B
 h:A.I→A.I→A.B
 p:A.I→A.I→A.I
 q:A.I→A.I→A.I
 t:A.I→A.I→A.I
 i: {ρ:Type}→A.I→(Tup A.ah [.i]→A.M ρ)→A.M ρ
 b: {ρ:Type}→A.B→(Tup A.ah [.b]→A.M ρ)→A.M ρ
 s: {ρ:Type}→(t:LTy)→LT A.ah t→(Tup A.ah [t]→A.M ρ)→A.M ρ
 j: {ρ:Type}→{i o:List LTy}→(Tup A.ah i→A.B)→(Tup A.ah i→Tup A.ah o)→Tup A.ah i→(Tup A.ah o→A.M ρ)→A.M ρ
 k: {ρ:Type}→{i o:List LTy}→A.B→(Tup A.ah i→A.B)→(Tup A.ah i→Tup A.ah o)→Tup A.ah i→(Tup A.ah o→A.M ρ)→A.M ρ
 v:A.B→A.M (Tup A.ah [.b])
 w: {ρ:Type}→(c:Co)→A.L c→A.I→A.M ρ→A.M ρ
 c: {ρ:Type}→A.B→A.M ρ→A.M ρ→A.M ρ
 C: {ρ:Type}→A.B→A.M ρ→A.M ρ
 r: {ts:List LTy}→Tup A.ah ts→A.M (Tup A.ah ts)
 L: {ρ:Type}→{ts:List LTy}→Tup A.ah ts→A.M (Sum (Tup A.ah ts) ρ)
 R: {ρ:Type}→{ts:List LTy}→A.M ρ→A.M (Sum (Tup A.ah ts) ρ)
 I: {ρ:Type}→(ts:List LTy)→(Tup A.ah ts→A.M (Sum (Tup A.ah ts) ρ))→Tup A.ah ts→A.M ρ
 f:(c:Co)→Nat→A.X c→A.I
 D:(c:Co)→Nat→(c':Co)→A.X c→A.L c'
 x:(c:Co)→Tup A.ah c.vH→A.X c
 y:(c:Co)→A.L c→A.I
 o:(c:Co)→A.L c→A.I→A.X c
 a:A.B→A.B→A.B→A.B
 N:A.B→A.B
 O:A.B→A.B→A.B
@[reducible] def Alg.al (A : Alg) : Al A where
 n:=A.lit
 z:=A.lit 0
 u:=A.lit 1
 T:=A.bl true
 F:=A.bl false
 e:=A.cmp .eql
 d:=A.cmp .neq
 l:=A.cmp .lss
 m:=A.cmp .leq
 g:=A.cmp .gtr
 h:=A.cmp .geq
 p:=A.arith .add .i64
 q:=A.arith .sub .i64
 t:=A.arith .mul .i64
 i:=fun v k=>A.Gb [.i] (v,()) k
 b:=fun v k=>A.Gb [.b] (v,()) k
 s:=fun t v k=>A.Gb [t] (v,()) k
 j:=fun p f a k=>A.chk (p a) (A.Gb _ (f a) k)
 k:=fun b p f a k=>A.chk (A.orB (A.LU b) (p a)) (A.Gb _ (f a) k)
 v:=fun v=>A.Gb [.b] (v,()) fun x=>A.ret [.b] (x.1,())
 w:=fun c l i m=>A.chk (A.cmp .leq (A.lit 0) i) (A.chk (A.cmp .lss i (A.len c l)) m)
 c:=A.cond
 C:=A.chk
 r:=A.ret _
 L:=A.inl _
 R:=A.inr _
 I:=A.iter
 f:=A.fI
 D:=A.fL
 x:=A.mkX
 y:=A.len
 o:=A.get
 a:=A.aho
 N:=A.LU
 O:=A.orB
@[reducible] def SkC.i : SkC := .int .i64
@[reducible] def SkV.i : SkV := .c (.int .i64)
@[reducible] def SkV.b : SkV := .c .bool
@[reducible] def SkV.p (l s : Nat) : SkV := .c (.pb l s 0)
@[reducible] def SkV.o (l : Nat) : SkV := .c (.own l)
@[reducible] def SkV.r (f : Bool) (c : Co) : SkV := .c (.rows f c)
@[reducible] def SkO.g (l : List SkC) : SkO := .box (.agg l)
@[reducible] def SkO.s (f : Bool) (c : Co) : SkO := .box (.sv f c)
@[reducible] def Ann.v (a : Ann) : Ann := .seq .u a
@[reducible] def od (n : Nat) (l : List Nat) : gy := (n, l, [])
end Go.TX
