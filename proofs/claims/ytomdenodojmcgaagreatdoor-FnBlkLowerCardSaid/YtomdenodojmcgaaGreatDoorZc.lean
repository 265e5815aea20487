/- Part 3 of a proof: what the last part needs. No condition. -/
import Derived.Test.YtomdenodojmcgaaGreatDoorZb
set_option linter.all false
set_option linter.unusedSectionVars false
set_option linter.unusedVariables false
set_option linter.unusedSimpArgs false
namespace Go.TX
open Go Go.AE
variable [aL]
section
variable {n:Nat}
theorem WI {t:Slots} {r:Nat}:∀ {rs:List Nat},r∈rs->aV (cut t rs) r=aV t r
 | [],h=>by simp at h
 | x::rs,h=>by
  simp only [cut,aV]
  split
  ·rename_i e;rw [e]
  ·rename_i e
   cases h with
   | head=>exact absurd rfl e
   | tail _ h=>exact WI h
theorem ae5 {h:List aM} {x:Cell} {y:SC} (hr:RC (nmh h) x y) {s:Sh} {f:Bool} {v:LV aC} (hk:dD (std n) h s y=some (f,v,[])):∃g,(f=true->g=true)/\ZC x g (lvD s v):=by
 unfold dD at hk
 split at hk
 ·rename_i f0 lf
  split at hk
  ·rename_i e;subst e;cases hk
   cases hr with | d hx hf=>
   rename_i g0 x0
   subst hx
   rw [Eb]
   refine⟨g0 || (l8 lf).lD,λh=> ?_,.d _ _⟩
   rw [gX]
   cases lf with
   | rows c xs=>simp only [Leaf.flag]at h;rcases hf h with h | h<;>simp_all [Leaf.scalar]
   | _=>simp [Leaf.scalar]
  ·cases hk
 ·cases hr
  split at hk
  ·cases hk;exact⟨true,λ_=>rfl,.nil _⟩
  ·cases hk
 ·rename_i f0 c xs
  cases hr with | clip hf=>
  split at hk
  ·rename_i e;subst e;cases hk;exact⟨_,hf,.clip _ _ _⟩
  ·cases hk
 ·split at hk
  ·split at hk
   ·cases hk
   ·cases hk
  ·cases hk
 ·cases hk
theorem KM {h:List aM}:∀ {ss:List Sh} {ys:List SC} {xs:List Cell} (_:F2 (RC (nmh h)) xs ys) {f:Bool} {vs:List (LV aC)},aP (std n) h ss ys=some (f,vs,[])->∃g,(f=true->g=true)/\ZCs xs g (List.zipWith lvD ss vs)
 | [],[],xs,hF,f,vs,hk=>by simp [aP]at hk;obtain⟨rfl,rfl⟩:=hk;cases hF;exact⟨true,λ_=>rfl,.nil⟩
 | [],_::_,_,_,_,_,hk=>by simp [aP]at hk
 | _::_,[],_,_,_,_,hk=>by simp [aP]at hk
 | s::ss,y::ys,xs,hF,f,vs,hk=>by
  cases hF with | cons h1 h2=>
  unfold aP at hk
  split at hk
  ·rename_i f1 v1 l1 hv1
   split at hk
   ·rename_i g2 vs2 ls2 hv2
    split at hk
    ·simp only [Option.some.injEq,Prod.mk.injEq,List.append_eq_nil_iff]at hk
     obtain⟨rfl,rfl,rfl,rfl⟩:=hk
     obtain⟨ga,a1,a2⟩:=ae5 h1 hv1
     obtain⟨gb,b1,b2⟩:=KM h2 hv2
     exact⟨ga&&gb,λh=>by simp at h;simp [a1 h.1,b1 h.2],.cons a2 b2⟩
    ·cases hk
   ·cases hk
  ·cases hk
theorem G6 {N:NM}:∀ {ys:List (Leaf aC)} {xs:List Cell} {f:Bool},F2 (RC N) xs (ys.map (.d f))->∃g,(f=true\/(∀y∈ys,y.scalar=true)->g=true)/\ZCs xs g (ys.map l8)
 | [],_,_,h=>by cases h;exact⟨true,λ_=>rfl,.nil⟩
 | y::ys,_,f,.cons h1 h2=>by
  obtain⟨g,q1,q2⟩:=G6 h2
  cases h1 with | d hx hf=>
  rename_i g0 x0
  subst hx
  refine⟨(g0 || (l8 y).lD)&&g,λh=> ?_,.cons (.d _ _) q2⟩
  rw [gX]
  rcases h with h | h
  ·rcases hf h with h' | h'<;>simp [h',q1 (.inl h)]
  ·simp [h y (by simp),q1 (.inr λy hy=>h y (List.mem_cons_of_mem _ hy))]
theorem aiD {h:List aM} {p:PV} {q:SVal} (hp:PVR (nmh h) p q) {c:Co} {f:Bool} {x:c.den} (hk:toX (std n) h c q=some (f,x,[])):∃g,(f=true->g=true)/\ZCs (aO p) g (c.row x):=by
 unfold toX at hk
 split at hk
 ·rename_i f' c' x'
  split at hk
  ·rename_i e;subst e;cases hk
   have hF:=hp.cells
   have hx:cellsS (.sv f' c' x')=(dS (std 0) c' x' 0 c'.fields).map (.d f'):=rfl
   rw [hx]at hF
   obtain⟨g,q1,q2⟩:=G6 hF
   rw [jV]at q2
   refine⟨g,λh=>q1 ?_,q2⟩
   rcases Bool.or_eq_true _ _▸h with h | h
   ·exact .inl h
   ·exact .inr (jd c' h x')
  ·cases hk
 ·cases hk
 ·split at hk
  ·rename_i f1 ys ls1 h1
   split at hk
   ·rename_i t ht
    simp only [Option.some.injEq,Prod.mk.injEq]at hk
    obtain⟨rfl,rfl,rfl⟩:=hk
    rw [bY]at h1
    obtain⟨g,q1,q2⟩:=KM hp.cells h1
    rw [yV c t ht]at q2
    exact⟨g,q1,q2⟩
   ·cases hk
  ·cases hk
theorem Sc {X:XT} {E:Tab} (hX:XOK X E) {t:Slots} {e:Nat->Option SVal} {c:Co} {h:List aM} (he:EvR X E n (nmh h) t e):∀ {parts:List (Nat×Operand)} {f:Bool} {xs:List c.den} {k:List aM},pX (std n) X e c h parts=some (f,xs,k,[])->
  ∃g,(f=true->g=true)/\xs.length=parts.length/\ZPs E t c.size parts g (aI c xs)
 | [],f,xs,k,hk=>by
  simp only [pX,Option.some.injEq,Prod.mk.injEq]at hk
  obtain⟨rfl,rfl,_⟩:=hk
  exact⟨true,λ_=>rfl,rfl,.nil⟩
 | (i,x)::r,f,xs,k,hk=>by
  simp only [pX]at hk
  split at hk
  ·rename_i v hv
   split at hk
   ·rename_i f1 y l1 hy
    split at hk
    ·rename_i g1 ys k1 l2 hys
     simp only [Option.some.injEq,Prod.mk.injEq,List.append_eq_nil_iff]at hk
     obtain⟨rfl,rfl,_,rfl,rfl⟩:=hk
     obtain⟨pv,p1,p2⟩:=cu hX he hv
     obtain⟨ga,a1,a2⟩:=aiD p2 hy
     obtain⟨gb,b1,b2,b3⟩:=Sc hX he (h:=h) hys
     have hl:(aO pv).length=c.size:=by
      have:∀ {cs:List Cell} {g:Bool} {ds:List D},ZCs cs g ds->cs.length=ds.length:=by
       intro cs g ds hz
       induction hz with
       | nil=>rfl
       | cons _ _ ih=>simp [ih]
      rw [this a2,nA]
     exact⟨ga&&gb,λh=>by simp at h;simp [a1 h.1,b1 h.2],by simp [b2],.cons p1 hl a2 b3⟩
    ·cases hk
   ·cases hk
  ·cases hk
theorem apk {X:XT} {E:Tab} (hX:XOK X E) {t:Slots} {e:Nat->Option SVal} {h:List aM} (he:EvR X E n (nmh h) t e) {op:Op} {ps:List Bool} {v:SVal} (hk:zX (std n) X e h op=some (ps,v)):Gv (zA E op t) (nmh h) v:=by
 unfold zX at hk
 split at hk
 ·rename_i ty len parts
  rw [hX.ty]at hk
  split at hk
  ·rename_i y hy
   split at hk
   ·rename_i el hd
    split at hk
    ·rename_i z c hz hco
     split at hk
     ·rename_i hcond
      simp only [Bool.and_eq_true,Bool.not_eq_true',beq_iff_eq,beq_eq_false_iff_ne,ne_eq]at hcond
      obtain⟨⟨⟨hsz,hne⟩,hrange⟩,hbig⟩:=hcond
      have hbig:=Nat.le_of_ble_eq_true hbig
      obtain⟨z',hz',hzs⟩:=eF hX hsz
      rw [hz]at hz';cases hz'
      split at hk
      ·rename_i f xs k hps;cases hk
       obtain⟨g,q1,q2,q3⟩:=Sc hX he hps
       have hlen:xs.length=len:=by
        have:=congrArg List.length hrange
        simp at this;rw [q2];simpa using this
       refine⟨.c (.clip g c.size (aI c xs)),.ofC (.clip q1),λK hK=> ?_⟩
       unfold zA;simp only;rw [hy];simp only [au];rw [hd];simp only;rw [hz]
       exact⟨hne,hrange,hbig,g,aI c xs,by rw [hzs];exact q3,by rw [aR];exact hlen,by rw [hzs];exact hK⟩
      ·cases hk
     ·cases hk
    ·cases hk
   ·cases hk
  ·cases hk
 ·cases hk
theorem KN {E:Tab} {N:NM} {h' h'':Heap} {ty:TypeId} {pv:PV} {q:SVal} (hp:PVR N pv q) (hl:∀l∈sH (std n) q,AE.look h'' l=AE.look h' l) (K:PV->Prop):jM E h'' ty pv K=jM E h' ty pv K:=by
 have key:∀l sz i j,pv= .c (.ptr l sz i j)->AE.look h'' l=AE.look h' l:=by
  intro l sz i j e
  subst e
  cases hp with | one hp=>cases hp with | c hc=>
  cases hc with
  | pb=>exact hl _ (by simp [sH])
  | pr _=>exact hl _ (by simp [sH])
 unfold jM
 cases E.ty ty with
 | none=>rfl
 | some y=>
  simp only [au]
  split
  ·rename_i l sz i j;rw [key l sz i j rfl]
  ·rfl
  ·rfl
theorem stable {X:XT} {E:Tab} (hX:XOK X E) {N:NM} {h' h'':Heap} {t:Slots} {e:Nat->Option SVal} (he:EvR X E n N t e) {op:Op} (hl:∀l∈fF (std n) X e op,AE.look h'' l=AE.look h' l) (hev:isLoad op=true->∃ty x q,op= .load ty x/\evX (std n) X e x=some q) (K:PV->Prop):
  eO E op t h'' K=eO E op t h' K:=by
 cases hL:isLoad op with
 | false=>rw [xQ hL]
 | true=>
  obtain⟨ty,x,q,rfl,hq⟩:=hev hL
  obtain⟨pv,p1,p2⟩:=cu hX he hq
  simp only [fF,hq]at hl
  unfold eO;simp only
  rw [p1];simp only [aQ]
  exact KN p2 hl K
def HI (E:Tab) (ops:List Oper) (h':Heap) (h:List aM) (hs':List Held) (hs:List (Nat×List Nat)):Prop:=∀p∈hs,(∀l∈p.2,l<h.length)/\∃o t v,ny hs' p.1=some (o,t,v)/\
 ∀h'',(∀l∈p.2,AE.look h'' l=AE.look h' l)->gu E ops o t h'' (λv'=>v'=v)
theorem HI.turn {E:Tab} {ops:List Oper} {h' h'':Heap} {h k:List aM} {hs':List Held} {hs:List (Nat×List Nat)} (H:HI E ops h' h hs' hs) {td:List Nat} (x:gB h' h h'' k td):HI E ops h'' k hs' (lZ hs td):=by
 intro p hp
 simp only [lZ,List.mem_filter]at hp
 obtain⟨hp,hn⟩:=hp
 obtain⟨h1,o,t,v,h2,h3⟩:=H p hp
 refine⟨λl hl=>Nat.lt_of_lt_of_le (h1 l hl) x.len,o,t,v,h2,λh3' hh=>h3 h3' λl hl=> ?_⟩
 have:=List.all_eq_true.1 hn l hl
 rw [hh l hl,(x.keep l (h1 l hl) (by simpa using this)).2]
theorem y8 (hs:List (Nat×List Nat)):lZ hs []=hs:=by
 unfold lZ;rw [List.filter_eq_self];intro p _;simp
theorem CY {E:Tab} {ops:List Oper} {h' h'':Heap} {h k:List aM} {hs':List Held} {hs:List (Nat×List Nat)} (H:HI E ops h' h hs' hs) {td:List Nat} (x:gB h' h h'' k td):∀ {cs:List Nat},cs.all (IZ hs td)=true->Pm E ops h'' hs' cs
 | [],_=>trivial
 | j::r,hc=>by
  simp only [List.all_cons,Bool.and_eq_true]at hc
  refine⟨?_,CY H x hc.2⟩
  have hj:=hc.1
  simp only [IZ,List.any_eq_true,Bool.and_eq_true,beq_iff_eq]at hj
  obtain⟨p,hp,hpj,hall⟩:=hj
  obtain⟨h1,o,t,v,h2,h3⟩:=H p hp
  rw [<-hpj,h2]
  refine h3 h'' λl hl=>(x.keep l (h1 l hl) ?_).2
  have:=List.all_eq_true.1 hall l hl
  simpa using this
theorem HI.push {E:Tab} {ops:List Oper} {h':Heap} {h:List aM} {hs':List Held} {hs:List (Nat×List Nat)} (H:HI E ops h' h hs' hs) {i:Nat} (hi:¬(hs.any λp=>p.1==i)=true) {ns:List Nat} {o:Oper} {t:Slots} {v:Option PV}
  (hns:∀l∈ns,l<h.length) (hst:∀h'',(∀l∈ns,AE.look h'' l=AE.look h' l)->gu E ops o t h'' (λv'=>v'=v)):HI E ops h' h ((i,o,t,v)::hs') ((i,ns)::hs):=by
 intro p hp
 cases hp with
 | head=>exact⟨hns,o,t,v,by simp [ny],hst⟩
 | tail _ hp=>
  obtain⟨h1,o',t',v',h2,h3⟩:=H p hp
  have hne:i≠p.1:=λe=>hi (by rw [List.any_eq_true];exact⟨p,hp,by simp [e]⟩)
  exact⟨h1,o',t',v',by rw [Ki hne];exact h2,h3⟩
theorem G7 {E:Tab} {X:XT} {N:NM} {t:Slots} {e:Nat->Option SVal} (he:EvR X E n N t e) {k:Int}:∀ {l:List (Int×Nat)} {b:Bool},CW (std n) e k l=some b->∀K:Bool->Prop,K b->Dz t k l K
 | [],b,h,K,hb=>by cases h;exact hb
 | (k',r)::rest,b,h,K,hb=>by
  unfold CW at h
  split at h
  ·rename_i f b1 hr
   split at h
   ·rename_i q hq
    cases h
    obtain⟨pv,h1,h2⟩:=he r _ hr
    obtain⟨g,rfl⟩:=h2.bool
    refine⟨g,b1,h1,?_⟩
    have hb:K (bif decide (k=k')then b1 else q):=hb
    by_cases c:k=k'
    ·rw [if_pos c];rw [decide_eq_true c]at hb;exact hb
    ·rw [if_neg c];rw [decide_eq_false c]at hb;exact G7 he hq K hb
   ·cases h
  ·cases h
theorem PS {X:XT} {ops:List Oper} {e:Nat->Option SVal} {h:List aM} {op:Op} (hp:DF op=true):PE (std n) X ops e h op=match zX (std n) X e h op with | some r=>some (some r) | none=>none:=by
 cases op
 case makeMap=>cases hp
 case insert=>cases hp
 case move=>cases hp
 case lookup a b q d=>cases q<;>first | rfl | cases hp
 all_goals first | rfl | (simp only [PE];generalize zX (std n) X e h _=z;cases z<;>rfl)
theorem map_ok {X:XT} {E:Tab} (hX:XOK X E) {ops:List Oper} {t:Slots} {e:Nat->Option SVal} {h:List aM} (he:EvR X E n (nmh h) t e) {op:Op} {r:Option (List Bool×SVal)} (hk:PE (std n) X ops e h op=some r):
  match r with | none=>∀K:Option PV->Prop,K none->zM E ops op t K | some (_,v)=>∃pv,PVR (nmh h) pv v/\∀K:Option PV->Prop,K (some pv)->zM E ops op t K:=by
 by_cases hp:DF op=true
 ·rw [PS hp]at hk
  split at hk
  ·rename_i q hq
   cases hk
   obtain⟨ps,v⟩:=q
   obtain⟨pv,p1,p2⟩:=apk hX he hq
   exact⟨pv,p1,λK hK=>by rw [yH hp];exact p2 _ hK⟩
  ·cases hk
 ·cases op
  case makeMap=>cases hk;exact λK h=>h
  case insert a b c v=>
   cases v with
   | tmp r=>
    simp only [PE]at hk
    cases hq:e r with
    | some q=>
     rw [hq]at hk
     cases hk
     obtain⟨pv,p1,_⟩:=he _ _ hq
     exact λK h=>⟨⟨pv,p1⟩,h⟩
    | none=>rw [hq]at hk;cases hk
   | _=>cases hk
  case move x=>
   simp only [PE]at hk
   split at hk
   ·rename_i hs
    cases hk
    exact λK h=>⟨hs,h⟩
   ·cases hk
  case lookup a b q d=>
   cases q with
   | tmp q=>
    simp only [PE]at hk
    split at hk
    ·rename_i f m hq
     split at hk
     ·rename_i bb hb
      cases hk
      obtain⟨pv,p1,p2⟩:=he _ _ hq
      obtain⟨g,rfl⟩:=p2.int
      exact⟨_,.ofC (.d rfl λ_=> .inl rfl),λK hK=>⟨g,m,p1,G7 he hb _ hK⟩⟩
     ·cases hk
    ·cases hk
   | _=>exact absurd rfl hp
  all_goals exact absurd rfl hp
theorem xW {X:XT} {gs:List (GE (std n))} {lk:Nat->Option (SV (std n))} {h:List aM} {cur:Option Nat} {op:Op} {ps:List Bool} {v:SVal} (hk:sF (std n) X lk gs h cur op=some (ps,v)) (hl:isLoad op=true):
  (∃ty x q,op= .load ty x/\evX (std n) X (eZ (std n) lk (dG (std n) gs cur)) x=some q)/\∀l∈fF (std n) X (eZ (std n) lk (dG (std n) gs cur)) op,l<h.length:=by
 cases op<;>simp only [isLoad,Bool.false_eq_true]at hl
 rename_i ty x
 simp only [sF,RN]at hk
 obtain⟨q,hq,hk⟩:=dA hk
 refine⟨⟨ty,x,q,rfl,hq⟩,λl hl=> ?_⟩
 simp only [fF,hq]at hl
 unfold Kl at hk
 split at hk
 ·cases hk
 ·unfold sH at hl
  split at hl
  ·simp at hl;subst hl
   simp only at hk
   split at hk
   ·rename_i hh;exact(List.getElem?_eq_some_iff.1 hh).1
   ·cases hk
  ·simp at hl;subst hl
   simp only at hk
   split at hk
   ·rename_i hh;exact(List.getElem?_eq_some_iff.1 hh).1
   ·cases hk
  ·simp at hl
end
end Go.TX
namespace Go.TX
open Go Go.AE
variable [aL]
section
variable {n:Nat}
theorem Aw (gs:List (GE (std n))):dG (std n) gs none=[]:=by unfold dG;rw [PD];simp
theorem El {E:Tab} {ops:List Oper} {o:Oper} (hg:o.guard=none) (t:Slots) (h:Heap) (K:Option PV->Prop):gu E ops o t h K=eO E o.op t h λv=>K (some v):=by unfold gu;rw [hg]
theorem qp {E:Tab} {ops:List Oper} {o:Oper} {j d:Nat} {w:Bool} (hg:o.guard=some (j,w)) (hd:gslot ops j=some d) (t:Slots) (h:Heap) (K:Option PV->Prop):
 gu E ops o t h K=jS (aV t d) w (eO E o.op t h λv=>K (some v)) (K (some mX)):=by unfold gu;rw [hg];simp only;rw [hd];rfl
theorem I9 {X:XT} {E:Tab} (hX:XOK X E) {C:Calls aC} {ops:List Oper} {ρ:Type} {K:RSt (std n)->(ρ->Prop)->Prop} {r:ρ->Prop} {h0:List aM} {m0:Nat}:∀ {rest:List dY} {hs:List (Nat×List Nat)} {hs':List Held} {s':St} {s:RSt (std n)},SR s' s->(∀k,Keep k h0 s.h)->s.m=m0->
    HI E ops s'.h s.h hs' hs->gJ (std n) X C ops rest hs K s r->
    dK E (jy C) ops rest hs' (λs1'=>∃s1,SR s1' s1/\(∀k,Keep k h0 s1.h)/\s1.m=m0/\K s1 r) s'
  | [],hs,hs',s',s,S,hK0,hm0,HH,hk=>⟨s,S,hK0,hm0,hk⟩
  | (i,rs,cs)::rest,hs,hs',s',s,S,hK0,hm0,HH,hk=>by
    generalize hM:gJ (std n) X C ops ((i,rs,cs)::rest) hs K s=M at hk
    unfold gJ at hM
    unfold dK
    split at hM
    · (subst hM;exact hk.elim)
    · rename_i o ho
      rw [ho]
      simp only [ac1]
      split at hM
      · rename_i hdst
        have hd:dOK s'.m o.dst:=by rw [S.m];exact WG hdst
        refine⟨hd,?_⟩
        simp only at hM
        have hlk:∀i sv,(if rs.contains i then bZ (std n) s.t i else none)=some sv->bZ (std n) s.t i=some sv:=λi sv h=>by
          split at h
          · exact h
          · cases h
        have WJ:∀d,(if rs.contains d then bZ (std n) s.t d else none).isSome->aV (cut s'.t rs) d=aV s'.t d:=λd h=>by
          split at h
          · rename_i hc;exact WI (by simpa using hc)
          · cases h
        have hev:∀ {gs:List (GE (std n))},SR s' {s with gs:=gs}->∀ {al:List Nat},(∀t∈al,∃e,gs[t]? =some e/\e.g=true)->EvR X E n (nmh s.h) (cut s'.t rs) (eZ (std n) (λi=>if rs.contains i then bZ (std n) s.t i else none) al):=
          λS1 _ hal=>pq (t':=s'.t) WJ (λi sv h=>S1.val i sv (hlk i sv h)) hal
        have go:∀ {s2':St} {s2:RSt (std n)} {tag:Option Nat} {v:SVal} {hs2:List (Nat×List Nat)} {ae6:List Held},SR s2' (s2.put (std n) o.dst tag v)->(∀k,Keep k s.h s2.h)->s2.m=s.m->HI E ops s2'.h s2.h ae6 hs2->gJ (std n) X C ops rest hs2 K (s2.put (std n) o.dst tag v) r->
            dK E (jy C) ops rest ae6 (λs1'=>∃s1,SR s1' s1/\(∀k,Keep k h0 s1.h)/\s1.m=m0/\K s1 r) s2':=by
          intro s2' s2 tag v hs2 ae6 S2 hkeep hm2 HI2 hk2
          have e1:=ac8 (n:=n) (s:=s2) (d:=o.dst) (tag:=tag) (v:=v)
          exact I9 hX (rest:=rest) S2 (λk=>by rw [e1.1];exact(hK0 k).trans (hkeep k)) (by rw [e1.2,hm2,hm0]) (by rw [e1.1];exact HI2) hk2
        have Ja:∀(d:Option Nat) (v:Option PV),(s'.put d v).h=s'.h:=λd v=>by cases d<;>rfl
        split at hM
        ·
          rename_i hkind
          split at hM
          · (subst hM;exact hk.elim)
          rename_i hnew
          split at hM
          · rename_i hguard
            rw [hkind]
            split at hM
            · rename_i ps v hv
              subst hM
              obtain⟨hps,hk⟩:=dZ hk
              rw [CX]at hk
              have sQ:∀i sv,(if rs.contains i then bZ (std n) s.t i else none)=some sv->yZ s.gs s'.t (nmh s.h) i sv:=λi sv h=>S.val i sv (hlk i sv h)
              obtain⟨pv,p1,p2⟩:=vC hX S.heap S.gs WJ sQ (cur:=none) (λt h=>by cases h) hv hps
              simp only
              rw [El hguard]
              have hE0:=hev S (al:=dG (std n) s.gs none) (λt h=>by rw [Aw]at h;simp at h)
              rw [Aw]at hE0
              have hln:=λhL=>xW hv hL
              rw [Aw]at hln
              have hst:∀h'',(∀l∈fF (std n) X (eZ (std n) (λi=>if rs.contains i then bZ (std n) s.t i else none) []) o.op,AE.look h'' l=AE.look s'.h l)->gu E ops o (cut s'.t rs) h'' (λv'=>v'=some pv):=λh'' hh=>by
                rw [El hguard,stable hX hE0 hh (λhL=>(hln hL).1)]
                exact p2 _ rfl
              have hns:∀l∈fF (std n) X (eZ (std n) (λi=>if rs.contains i then bZ (std n) s.t i else none) []) o.op,l<s.h.length:=λl hl=>by
                cases hL:isLoad o.op with
                | true=>exact(hln hL).2 l hl
                | false => unfold fF at hl; split at hl
                           · rename_i hop;rw [hop]at hL;simp [isLoad]at hL
                           · simp at hl
              exact p2 _ (go (s2:=s) (S.put (tag:=none) ⟨pv,rfl,p1⟩) (λ_=> .refl _ _) rfl (by rw [Ja];exact HH.push hnew hns hst) hk)
            · (subst hM;exact hk.elim)
          · rename_i j want hguard
            rw [hkind]
            split at hM
            · rename_i d hgs
              have hgm:=λhb=>Ei S (lk:=λi=>if rs.contains i then bZ (std n) s.t i else none) hlk (tt:=cut s'.t rs) (d:=d) (want:=want) (WJ d) rfl hb
              simp only
              rw [qp hguard hgs]
              split at hM
              · rename_i hr
                rw [hr]at hgm
                subst hM
                cases hgm (by simp)with | skip h=>
                refine h _ _ (go (s2:=s) (S.put (tag:=none) ⟨mX,rfl,WH⟩) (λ_=> .refl _ _) rfl (by rw [Ja];exact HH.push hnew (λl hl=>by simp at hl) (λh'' _=>by rw [qp hguard hgs];exact h _ _ rfl)) hk)
              · rename_i gs t g hr
                rw [hr]at hgm
                cases hgm (by simp)with | run S1 hget hg sQ hT hF=>
                rename_i e
                subst hg
                split at hM
                · rename_i ps v hv
                  subst hM
                  obtain⟨hps,hk⟩:=dZ hk
                  have hns:∀l∈fF (std n) X (eZ (std n) (λi=>if rs.contains i then bZ (std n) s.t i else none) (dG (std n) gs (some t))) o.op,l<s.h.length:=λl hl=>by
                    cases hL:isLoad o.op with
                    | true=>exact(xW hv hL).2 l hl
                    | false => unfold fF at hl; split at hl
                               · rename_i hop;rw [hop]at hL;simp [isLoad]at hL
                               · simp at hl
                  cases hg:e.g with
                  | true=>
                    have hcur:∀t0,some t=some t0->∃e,gs[t0]? =some e/\e.g=true:=λt0 ht=>by cases ht;exact⟨e,hget,hg⟩
                    obtain⟨pv,p1,p2⟩:=vC hX S1.heap S1.gs WJ (λi sv h=>sQ i sv (hlk i sv h)) hcur hv (y7 hps hg)
                    have hE0:EvR X E n (nmh s.h) (cut s'.t rs) (eZ (std n) (λi=>if rs.contains i then bZ (std n) s.t i else none) (dG (std n) gs (some t))):=hev S1 (nG S1.gs hcur (f:=gs.length+1))
                    refine hT hg _ _ (p2 _ (go (s2:={s with gs:=gs}) (S1.put (tag:=some t) ⟨e,hget,λ_=>⟨pv,rfl,p1⟩,λh=>by rw [hg]at h;cases h⟩) (λ_=> .refl _ _) rfl (by
                      rw [Ja]
                      refine HH.push hnew hns (λh'' hh=> ?_)
                      rw [qp hguard hgs,stable hX hE0 hh (λhL=>(xW hv hL).1)]
                      exact hT hg _ _ (p2 _ rfl)) hk))
                  | false=>
                    exact hF hg _ _ (go (s2:={s with gs:=gs}) (S1.put (tag:=some t) ⟨e,hget,λh=>(by rw [hg]at h;cases h),λ_=>rfl⟩) (λ_=> .refl _ _) rfl (by
                      rw [Ja]
                      refine HH.push hnew hns (λh'' hh=> ?_)
                      rw [qp hguard hgs]
                      exact hF hg _ _ rfl) hk)
                · (subst hM;exact hk.elim)
              · (subst hM;exact hk.elim)
            · (subst hM;exact hk.elim)
        · rename_i hkind
          rw [hkind]
          split at hM
          · rename_i ps v hv
            subst hM
            obtain⟨hps,hk⟩:=dZ hk
            obtain⟨pv,p1,p2⟩:=map_ok hX (ops:=ops) (hev S (al:=[]) (λt h=>by simp at h)) hv
            simp only
            exact p2 _ (go (s2:=s) (S.put (tag:=none) ⟨pv,rfl,p1⟩) (λ_=> .refl _ _) rfl (by rw [Ja];exact HH) hk)
          · rename_i hv
            subst hM
            have p2:=map_ok hX (ops:=ops) (hev S (al:=[]) (λt h=>by simp at h)) hv
            simp only
            refine p2 _ ?_
            have e1:=aiB (n:=n) (s:=s) (d:=o.dst)
            exact I9 hX (rest:=rest) S.del (λk=>by rw [e1.1];exact hK0 k) (by rw [e1.2,hm0]) (by rw [e1.1,Ja];exact HH) hk
          · (subst hM;exact hk.elim)
        · rename_i hkind
          rw [hkind]
          split at hM
          · rename_i hr hv
            subst hM
            obtain⟨hps,hk⟩:=dZ hk
            have he0:EvR X E n (nmh s.h) [] (λ_=>none):=λi v h=>by cases h
            obtain⟨pv,h'',j,q1,q2,q3,q4,q5⟩:=I7 hX S.heap S.len he0 hv hps
            simp only
            have S2:=S.xV q3.same q2 q4
            have htd:hr.touched=[]:=by
              unfold kindOf at hkind
              split at hkind
              · rename_i ty hop
                rw [hop]at hv
                simp only [DY]at hv
                split at hv
                · split at hv
                  · split at hv<;>(cases hv;rfl)
                  · cases hv;rfl
                  · cases hv
                · cases hv
              all_goals first | cases hkind | (split at hkind<;>cases hkind)
            have HI2:=HH.turn q3
            rw [htd,y8]at HI2
            exact q5 _ (go (s2:={s with h:=hr.h}) (S2.put (tag:=none) ⟨pv,rfl,q1⟩) q3.KJ rfl (by cases o.dst<;>exact HI2) hk)
          · (subst hM;exact hk.elim)
        · rename_i hk0 hk1 hk2
          split at hM
          · rename_i hguard
            split at hM
            · rename_i cr hcr
              split at hM
              · rename_i hcs
                subst hM
                obtain⟨hps,hk⟩:=dZ hk
                obtain⟨v,k,hvk,hk⟩:=Av hk
                obtain⟨v',k',e1,_,e3⟩:=Au hX S.heap S.len (hev S (al:=[]) (λt h=>by simp at h)) hcr hps ⟨v,k,hvk⟩
                rw [hvk]at e1;cases e1
                split
                · rename_i h;exact absurd h hk0
                · rename_i h;exact absurd h hk1
                · rename_i h;exact absurd h hk2
                · rw [hguard]
                  refine e3 _ λpv h'' j a1 a2 a3 a4=>⟨CY HH a3 hcs,?_⟩
                  have S2:=S.xV a3.same a2 a4
                  exact go (s2:={s with h:=k}) (S2.put (tag:=none) ⟨pv,rfl,a1⟩) a3.KJ rfl (by cases o.dst<;>exact HH.turn a3) hk
              · (subst hM;exact hk.elim)
            · (subst hM;exact hk.elim)
          · rename_i j want hguard
            split at hM
            · rename_i d hgs
              have hgm:=λhb=>Ei S (lk:=λi=>if rs.contains i then bZ (std n) s.t i else none) hlk (tt:=cut s'.t rs) (d:=d) (want:=want) (WJ d) rfl hb
              have goal:jS (aV (cut s'.t rs) d) want
                  (UL E (jy C) o (cut s'.t rs) s' λv h k=>Pm E ops h hs' cs/\dK E (jy C) ops rest hs' (λs1'=>∃s1,SR s1' s1/\(∀k,Keep k h0 s1.h)/\s1.m=m0/\K s1 r) (St.put {s' with h:=h,k:=k} o.dst (some v)))
                  (dK E (jy C) ops rest hs' (λs1'=>∃s1,SR s1' s1/\(∀k,Keep k h0 s1.h)/\s1.m=m0/\K s1 r) (s'.put o.dst (some mX))):=by
                split at hM
                · rename_i hr
                  rw [hr]at hgm
                  subst hM
                  cases hgm (by simp)with | skip h=>
                  exact h _ _ (go (s2:=s) (S.put (tag:=none) ⟨mX,rfl,WH⟩) (λ_=> .refl _ _) rfl (by rw [Ja];exact HH) hk)
                · rename_i gs t g hr
                  rw [hr]at hgm
                  cases hgm (by simp)with | run S1 hget hg sQ hT hF=>
                  rename_i e
                  subst hg
                  have hcur:e.g=true->∀t0,some t=some t0->∃e,gs[t0]? =some e/\e.g=true:=λh t0 ht=>by cases ht;exact⟨e,hget,h⟩
                  split at hM
                  · rename_i cr hcr
                    split at hM
                    · rename_i hcs
                      split at hM
                      · rename_i hpure
                        subst hM
                        obtain⟨hps,hk⟩:=dZ hk
                        obtain⟨v,k,hvk,hk⟩:=Av hk
                        cases hg:e.g with
                        | true=>
                          obtain⟨v',k',e1,e2,e3⟩:=Au hX S1.heap S1.len (hev S1 (nG S1.gs (hcur hg) (f:=gs.length+1))) hcr (y7 hps hg) ⟨v,k,hvk⟩
                          rw [hvk]at e1;cases e1
                          obtain⟨rfl,htd⟩:=e2 hpure
                          refine hT hg _ _ (e3 _ λpv h'' j a1 a2 a3 a4=>⟨CY HH a3 hcs,?_⟩)
                          have S2:=S1.xV (Same.refl _) a2 a4
                          have HI2:=HH.turn a3
                          rw [htd,y8]at HI2
                          exact go (s2:={s with gs:=gs}) (S2.put (tag:=some t) ⟨e,hget,λ_=>⟨pv,rfl,a1⟩,λh=>by rw [hg]at h;cases h⟩) (λ_=> .refl _ _) rfl (by cases o.dst<;>exact HI2) hk
                        | false=>
                          exact hF hg _ _ (go (s2:={s with gs:=gs}) (S1.put (tag:=some t) ⟨e,hget,λh=>(by rw [hg]at h;cases h),λ_=>rfl⟩) (λ_=> .refl _ _) rfl (by rw [Ja];exact HH) hk)
                      · subst hM
                        obtain⟨hkT,hkF⟩:(e.g=true->fA (std n) cr.ck (qI (std n) cr λv h=>gJ (std n) X C ops rest (lZ hs cr.touched) K (RSt.put (std n) {s with h:=h,gs:=gs} o.dst none v)) r)/\(e.g=false->gJ (std n) X C ops rest hs K (RSt.put (std n) {s with gs:=yQ (std n) gs t} o.dst none (.tup [])) r):=hk
                        cases hg:e.g with
                        | true=>
                          obtain⟨hps,hk⟩:=dZ (hkT hg)
                          obtain⟨v,k,hvk,hk⟩:=Av hk
                          obtain⟨v',k',e1,e2,e3⟩:=Au hX S1.heap S1.len (hev S1 (nG S1.gs (hcur hg) (f:=gs.length+1))) hcr hps ⟨v,k,hvk⟩
                          rw [hvk]at e1;cases e1
                          refine hT hg _ _ (e3 _ λpv h'' j a1 a2 a3 a4=>⟨CY HH a3 hcs,?_⟩)
                          have S2:=S1.xV a3.same a2 a4
                          exact go (s2:={s with h:=k,gs:=gs}) (S2.put (tag:=none) ⟨pv,rfl,a1⟩) a3.KJ rfl (by cases o.dst<;>exact HH.turn a3) hk
                        | false=>
                          have hk:=hkF hg
                          have S2:=S1.kill hget hg
                          exact hF hg _ _ (go (s2:={s with gs:=yQ (std n) gs t}) (S2.put (tag:=none) ⟨mX,rfl,WH⟩) (λ_=> .refl _ _) rfl (by rw [Ja];exact HH) hk)
                    · (subst hM;exact hk.elim)
                  · (subst hM;exact hk.elim)
                · (subst hM;exact hk.elim)
              split
              · rename_i h;exact absurd h hk0
              · rename_i h;exact absurd h hk1
              · rename_i h;exact absurd h hk2
              · rw [hguard];simp only;rw [hgs];exact goal
            · (subst hM;exact hk.elim)
      · (subst hM;exact hk.elim)
end
end Go.TX
namespace Go.TX
open Go Go.AE
variable [aL]
section
variable {n:Nat}
theorem G8 {s:RSt (std n)}:∀ {l:List (Nat×SkV)} {e0 e:ES (std n)},sI (std n) s.t s.h l e0=some e->
  ∃vs,F2 (λi v=>bZ (std n) s.t i=some ⟨none,v⟩) (l.map (·.1)) vs/\vU (std n) s.h (l.map (·.2)) vs e0=some e
 | [],e0,e,h=>by simp only [sI,Option.some.injEq]at h;subst h;exact⟨[],.nil,rfl⟩
 | p::l,e0,e,h=>by
  simp only [sI]at h
  split at h
  ·rename_i v hl
   split at h
   ·rename_i e1 h1
    obtain⟨vs,q1,q2⟩:=G8 (l:=l) h
    exact⟨v::vs,.cons hl q1,by simp only [List.map_cons,vU];rw [h1];exact q2⟩
   ·cases h
  ·cases h
theorem Jb {k:Nat} {os:List SkO} {i:Nat} (hi:i<k) (hik:i<os.length):(es0 (std n) k os).ren[i]? =some (if qc os[i]? then none else some (some i)):=by
 have hb:Nat.blt i k=true:=by simpa using hi
 simp only [es0,List.getElem?_map,List.getElem?_range hik,Option.map_some,hb,Bool.true_and]
 cases qc os[i]? <;>rfl
theorem Jc (k:Nat) (os:List SkO):(es0 (std n) k os).ren.length=os.length:=by simp [es0]
theorem Jd {c:Ctx} {w:World} {N:NM} {us:List Value} {vs:List SVal} (h:F2 (WV c w N) us vs):∃pvs,F2 (bD c w) us pvs/\F2 (PVR N) pvs vs:=by
 induction h with
 | nil=>exact⟨[],.nil,.nil⟩
 | cons h1 _ ih=>
  obtain⟨p,a,b⟩:=h1
  obtain⟨pvs,q1,q2⟩:=ih
  exact⟨p::pvs,.cons a q1,.cons b q2⟩
theorem Em {N:NM}:∀ {ids:List Nat} {vs:List SVal} {pvs:List PV},F2 (PVR N) pvs vs->∀i sv,bZ (std n) (ids.zip (vs.map λv=>(⟨none,v⟩:SV (std n)))) i=some sv->sv.tag=none/\∃pv,aV (ids.zip (pvs.map some)) i=some pv/\PVR N pv sv.v
 | [],vs,pvs,_,i,sv,h=>by simp [bZ]at h
 | j::ids,[],pvs,hF,i,sv,h=>by simp [bZ]at h
 | j::ids,v::vs,pvs,hF,i,sv,h=>by
  cases hF with | cons h1 h2=>
  simp only [List.map_cons,List.zip_cons_cons,mg]at h ⊢
  simp only [aV]
  split at h
  ·rename_i e;cases h;rw [if_pos e];exact⟨rfl,_,rfl,h1⟩
  ·rename_i e;rw [if_neg e];exact Em h2 i sv h
theorem En {c:Ctx} {w:World} {a:Act}:∀ {ids:List Nat} {us:List Value} {pvs:List PV},F2 (bD c w) us pvs->F2 (λi u=>a.tmps[i]? =some u) ids us->∀i v,aV (ids.zip (pvs.map some)) i=some v->∃u,a.tmps[i]? =some u/\bD c w u v
 | [],us,pvs,_,_,i,v,h=>by simp [aV]at h
 | j::ids,us,pvs,hF,hI,i,v,h=>by
  cases hI with | cons h3 h4=>
  cases hF with | cons h1 h2=>
  simp only [List.map_cons,List.zip_cons_cons,aV]at h
  split at h
  ·rename_i e;subst e;cases h;exact⟨_,h3,h1⟩
  ·exact En h2 h4 i v h
theorem Eo {E:Tab} {s':St} {s:RSt (std n)} (S:SR s' s) {c:Ctx} {w:World} {a:Act} (A:iO E s' c w a):∀ {ids:List Nat} {vs:List SVal},F2 (λi v=>bZ (std n) s.t i=some ⟨none,v⟩) ids vs->∃us,F2 (λi u=>a.tmps[i]? =some u) ids us/\F2 (WV c w (nmh s.h)) us vs
 | [],_,h=>by cases h;exact⟨[],.nil,.nil⟩
 | i::ids,_,.cons h1 h2=>by
  obtain⟨us,q1,q2⟩:=Eo S A h2
  obtain⟨pv,p1,p2⟩:=S.val i _ h1
  obtain⟨u,hu,hr⟩:=A.abs.slot i pv p1
  exact⟨u::us,.cons hu q1,.cons ⟨pv,hr,p2⟩ q2⟩
def μX (e:ES (std n)) (c:Ctx) (i:Nat):Option Nat:=match e.ren[i]? with | some (some (some l))=>c.μ l | some (some none)=>none | _=>c.μ i
theorem KO (w:World) (K:Bool->Nat->Prop) (μ:Nat->Option Nat) (k:Nat) (hlow:∀f b,K f b->b<w.heap.size) (hsub:∀b,K true b->K false b):bG {K:=K,μ:=μ,n:=k} w []:=
 ⟨λl o h=>by simp [AE.look]at h,λl o l' o' b h=>by simp [AE.look]at h,λf b ⟨l,o,hl,_⟩=>by simp [AE.look]at hl,hlow,hsub⟩
theorem Je {E:Tab} {k:Nat} {sk:Gn} {s:RSt (std n)} {ck:List Bool} {x:fV sk.tys} (hx:D6 (std n) k sk s=some (ck,x)) (hck:∀b∈ck,b=true) {s':St} (S:SR s' s) {c:Ctx} {w:World} {a:Act} (A:iO E s' c w a)
  {c0:Ctx} {w0:World} {h0:Heap} (hc0:c0.n=k) (g:Grow c0 w0 h0 c w s'.h) {m:Nat} (hm:s.m=m):
  ∃c2 s2',Grow c0 w0 h0 c2 w s2'.h/\iO E s2' c2 w a/\SR s2' (qJ (std n) sk m x)/\Keep k s.h (qJ (std n) sk m x).h/\(qJ (std n) sk m x).m=m:=by
 unfold D6 at hx
 split at hx
 ·cases hx
 rename_i hkl
 have hkl:k<=sk.objs.length:=by
  have:Nat.ble k sk.objs.length=true:=by simpa using hkl
  exact Nat.le_of_ble_eq_true this
 split at hx
 ·rename_i e1 he1
  split at hx
  ·rename_i e he
   split at hx
   ·rename_i iA
    split at hx
    ·rename_i x' hx';cases hx
     have iA:=I8 iA
     obtain⟨vs,v1,v2⟩:=G8 he1
     obtain⟨us,u1,u2⟩:=Eo S A v1
     obtain⟨new1,vs2,a1,a2,a3,a4⟩:=sO (λi=>i) v2
     obtain⟨new2,os2,b1,b2,b3,b4,b5⟩:=o8 (λi=>i) (λ_=>(.gone .i64 0:aM)) (λ_=>⟨.i64,0,rfl⟩) he
     have hlv:e.lv.reverse=new1++new2:=by rw [b1,a1];simp [es0]
     have hun:=unpack_pack hx'
     rw [hlv]at hun
     have hrl:e.ren.length=sk.objs.length:=by rw [b2.len,a2.len,Jc]
     have hof:∀(j:Nat) (kk:SkO),sk.objs[j]? =some kk->∃o2,os2[j]? =some o2/\OF e s.h (λi=>i) j kk (.gone .i64 0) o2:=λj kk hj=>by
      obtain⟨o2,q1,q2⟩:=b5 e (.refl _) j kk hj
      exact⟨o2,q1,by simpa using q2⟩
     have Bh:qJ (std n) sk m x={t:=(sk.slots.map (·.1)).zip (vs2.map λv=>(⟨none,v⟩:SV (std n))),gs:=[],h:=os2,m:=m}:=by
      unfold qJ
      rw [hun,a3]
      simp only
      have:=b3 []
      rw [List.append_nil]at this
      rw [show qg aC (λi=>i) (λ_=>dx.gone Co.i64 ((std n).lit 0)) 0 sk.objs new2=some (os2,[])from this]
     have H:=A.abs.heap
     obtain⟨o',m1,m2,m3,m4,m5,_⟩:=xU (ks:=sk.objs) (nm:=λi=>i) (old:=λ_=>(.gone .i64 0:aM)) H S.heap hck iA hrl b4 hof (cb:={K:=λ_ _=>False,μ:=μX e c,n:=k}) (hb':=[])
      (KO w _ _ _ (λ_ _ h=>h.elim) (λ_ h=>h)) false (λh=>by cases h) (μ2:=μX e c) (n2:=sk.objs.length) hkl (λ_ _=>rfl) (λi hi=>hi) (λi j _ _ h=>h)
      (λi l hi=>by simp only [μX];rw [hi]) (λi hi=>by simp only [μX];rw [hi]) (h2:=os2) (λi _=>rfl)
      (λl o hl ho=>by
       have:sk.objs.length<=l:=by
        rcases Nat.lt_or_ge l sk.objs.length with h | h
        ·exact absurd rfl (hl l h)
        ·exact h
       rw [List.getElem?_eq_none (by omega)]at ho;cases ho) (λ_ _=>rfl)
      (λb ⟨l,o,hl,_⟩ _=>by simp [AE.look]at hl) (λf b h _=>h) (λf b ⟨l,o,hl,_⟩ _=>by simp [AE.look]at hl)
     have hmu:∀l,l<k->μX e c l=c.μ l:=λl hl=>by
      have h0:=Jb (n:=n) hl (Nat.lt_of_lt_of_le hl hkl) (os:=sk.objs)
      unfold μX
      by_cases hg:qc sk.objs[l]? =true
      ·have hgo:sk.objs[l]? =some .gone:=by
        unfold qc at hg;split at hg
        ·assumption
        ·cases hg
       cases hr:e.ren[l]? with
       | none=>rfl
       | some q=>
        cases q with
        | none=>rfl
        | some v=>exact absurd hgo (iA.gone hr)
      ·rw [if_neg hg]at h0
       have:=b2.ren l _ (a2.ren l _ h0)
       rw [this]
     have hgr:Grow c0 w0 h0 {K:=λf b=>False\/KX e c false f b,μ:=μX e c,n:=sk.objs.length} w (qM (λi=>i) o' (List.range sk.objs.length) []):=by
      refine⟨⟨λf b hb=> .inr (.inl (by simpa using g.le.K f b hb)),by rw [hc0];exact hkl,λl hl=> ?_⟩,g.size,g.stays,g.kept,λf b hb=> ?_,λb hb=> ?_,g.os,g.tape,g.output⟩
      ·show μX e c l=c0.μ l
       rw [hmu l (by rw [<-hc0];exact hl)];exact g.le.μ l hl
      ·rcases hb with hb | hb | ⟨l,f',q1,q2,q3⟩
       ·exact hb.elim
       ·exact g.vL f b (by simpa using hb)
       ·obtain⟨_,g',cc,xs,hl⟩:=iA.fro l f' q1
        obtain⟨o2,ho2,hO⟩:=S.heap.old l _ hl
        cases hO with | rows _=>
        exact .inr ((g.nS b ⟨l,_,ho2,trivial,q2⟩).elim .inr .inl)
      ·rcases m4 b hb with⟨l,o,hl,_⟩ | ⟨i,lq,q,_,q1,q2,q3⟩
       ·simp [AE.look]at hl
       ·exact g.nS b ⟨lq,q,q1,q2,q3⟩
     obtain⟨pvs,p1,p2⟩:=Jd (a4 H S.heap (b2) hck m3 (λh=>by cases h) u2)
     refine⟨_,{t:=(sk.slots.map (·.1)).zip (pvs.map some),h:=qM (λi=>i) o' (List.range sk.objs.length) [],n:=sk.objs.length,k:=0,m:=m},hgr,⟨⟨λi v hv=>En p1 u1 i v hv,m1,?_⟩,rfl,A.defers,by rw [A.size,S.m,hm]⟩,?_,?_,by rw [Bh]⟩
     ·intro gg d hd
      obtain⟨q1,u,q2,q3⟩:=A.abs.glob gg d hd
      exact⟨.inr (.inl (by simpa using q1)),u,q2,q3.mono' λb hb=> .inr (.inl (by simpa using hb))⟩
     ·rw [Bh]
      refine⟨m2,by simp [nm,b4],rfl,λi sv hi=> ?_,λt e he=>by simp at he⟩
      obtain⟨q1,q2⟩:=Em p2 i sv hi
      unfold yZ
      rw [q1];exact q2
     ·rw [Bh]
      intro i hi
      have hik:i<sk.objs.length:=Nat.lt_of_lt_of_le hi hkl
      have hsk:sk.objs[i]? =some sk.objs[i]:=List.getElem?_eq_getElem hik
      obtain⟨o2,q1,q2⟩:=hof i _ hsk
      have h0:=Jb (n:=n) hi hik
      by_cases hg:sk.objs[i]= .gone
      ·have:Gone os2 i:=⟨.i64,0,by rw [q1,q2.gone hg]⟩
       exact⟨λ_=>this,λ_ _=> .inl this⟩
      ·have hig:qc sk.objs[i]? =false:=by
        rw [hsk];unfold qc;split
        ·rename_i hh;exact absurd (Option.some.inj hh) hg
        ·rfl
       rw [hig]at h0
       have h0:(es0 (std n) k sk.objs).ren[i]? =some (some (some i)):=by simpa using h0
       have hre:=b2.ren i _ (a2.ren i _ h0)
       have htr:qb (std n) e i=none:=by rw [b2.tr i _ (a2.ren i _ h0),a2.tr i _ h0];rfl
       refine⟨λ⟨cc,nn,hgo⟩=> ?_,λx hx=> .inr ?_⟩
       ·obtain⟨oo,r1,r2,r3,r4⟩:=q2.rel H S.heap hck m3 (λh=>by cases h)
        obtain⟨o3,h3,h4⟩:=r4 i hg hre
        obtain⟨o4,h5,h6⟩:=S.heap.old i _ hgo
        rw [h3]at h5;cases h5
        cases h6;exact h4.elim
       ·have:=q2.s1 i x.1 x.2 hg hre (by rw [hx])
        rw [htr]at this
        simp only [nmh,q1]
        simpa [nmh]using this
    ·cases hx
   ·cases hx
  ·cases hx
 ·cases hx
end
end Go.TX
namespace Go.TX
open Go Go.AE
variable [aL]
section
variable {n:Nat}
def LX (E:Tab) (c0:Ctx) (w0:World) (h0:Heap) (k:Nat) (H0:List aM) (m0:Nat) {ρ:Type} (K:Exit->RSt (std n)->(ρ->Prop)->Prop) (r:ρ->Prop):Exit->Act->World->Prop
 | .outgrown,_,_=>False
 | .panic _,_,_=>False
 | .goto _,_,_=>False
 | e,a,w=>∃c s' s,Grow c0 w0 h0 c w s'.h/\iO E s' c w a/\SR s' s/\Keep k H0 s.h/\s.m=m0/\K e s r
theorem PU {E:Tab} {c0:Ctx} {w0:World} {h0:Heap} {k:Nat} {H0:List aM} {m0:Nat} (hc0:c0.n=k) {code:Code} {a:Act} {w:World} {sk:Gn} {pl:Bool} {s:RSt (std n)} (hs:s.m=m0) {ρ:Type} {K:Exit->RSt (std n)->(ρ->Prop)->Prop} {r:ρ->Prop}
  {W: {σ:Type}->(Exit->RSt (std n)->(σ->Prop)->Prop)->(σ->Prop)->Prop} (hW:∀ {σ:Type} {K':Exit->RSt (std n)->(σ->Prop)->Prop} {r':σ->Prop},W K' r'->code.wp E.P (LX E c0 w0 h0 k H0 m0 K' r') a w)
  (h:PG (std n) k sk pl s K W r):code.wp E.P (LX E c0 w0 h0 k H0 m0 K r) a w:=by
 have step:∀ {t:fV sk.tys} {s1:RSt (std n)} {ck:List Bool},D6 (std n) k sk s1=some (ck,t)->(∀b∈ck,b=true)->K .normal (qJ (std n) sk s.m t) r->∀ {c s' a w},Grow c0 w0 h0 c w s'.h->iO E s' c w a->SR s' s1->Keep k H0 s1.h->s1.m=m0->LX E c0 w0 h0 k H0 m0 K r .normal a w:=by
  intro t s1 ck h1 h2 h3 c s' a w g A S hK hm
  obtain⟨c2,s2',g2,A2,S2,K2,hm2⟩:=Je h1 h2 S A hc0 g hm
  rw [hs]at h3
  exact⟨c2,s2',_,g2,A2,S2,hK.trans K2,hm2,h3⟩
 unfold PG at h
 split at h
 ·refine wp_mono (hW h) ?_
  intro e a' w' he
  cases e with
  | outgrown=>exact he.elim
  | panic _=>exact he
  | goto _=>exact he
  | normal=>
   obtain⟨c,s',s1,a1,a2,a3,a4,a5,a6⟩:=he
   simp only at a6
   rcases hx:D6 (std n) k sk s1 with _ | ⟨ck,t'⟩
   ·rw [hx]at a6;exact a6.elim
   ·rw [hx]at a6
    obtain⟨q1,q2⟩:=dZ a6
    exact step hx q1 q2 a1 a2 a3 a4 a5
  | ret=>obtain⟨c,s',s1,a1,a2,a3,a4,a5,a6⟩:=he;exact a6.elim
  | exit i=>obtain⟨c,s',s1,a1,a2,a3,a4,a5,a6⟩:=he;exact a6.elim
 ·refine wp_mono (hW h) ?_
  intro e a' w' he
  cases e with
  | outgrown=>exact he.elim
  | panic _=>exact he
  | goto _=>exact he
  | normal=>
   obtain⟨c,s',s1,a1,a2,a3,a4,a5,a6⟩:=he
   simp only at a6
   rcases hx:D6 (std n) k sk s1 with _ | ⟨ck,t'⟩
   ·rw [hx]at a6;exact a6.elim
   ·rw [hx]at a6
    obtain⟨q1,q2⟩:=dZ a6
    exact step hx q1 q2 a1 a2 a3 a4 a5
  | ret=>obtain⟨c,s',s1,a1,a2,a3,a4,a5,a6⟩:=he;exact⟨c,s',s1,a1,a2,a3,a4,a5,a6⟩
  | exit i=>obtain⟨c,s',s1,a1,a2,a3,a4,a5,a6⟩:=he;exact⟨c,s',s1,a1,a2,a3,a4,a5,a6⟩
section
variable {X:XT} {E:Tab} (hE:aK E) (hX:XOK X E) {C:Calls aC} (hG:nY E (jy C)) (hm:E.P.follows .mixedOrders=true) {ord:Nat->List dY} {chk:Nat->Array Oper->Nat->Bool} (KQ:∀id ops m,chk id ops m=true->Static E ord id ops m)
 {c0:Ctx} {w0:World} {h0:Heap} {k:Nat} {H0:List aM} {m0:Nat} (hc0:c0.n=k)
include hE hX hG hm KQ
theorem ae7 {id:Nat} {ops:Array Oper} {draw:Bool} {s:RSt (std n)} {ρ:Type} {K:Exit->RSt (std n)->(ρ->Prop)->Prop} {r:ρ->Prop}
  (h:(if draw then(if chk id ops s.m then gJ (std n) X C ops.toList (ord id) [] (λs=>K .normal s) s else(std n).fail)else dL (std n) X C ops.toList ops.toList (λs=>K .normal s) s:(std n).M ρ) r)
  {s':St} {c:Ctx} {w:World} {a:Act} (A:iO E s' c w a) (g:Grow c0 w0 h0 c w s'.h) (S:SR s' s) (hK:Keep k H0 s.h) (hs:s.m=m0):(Code.region id ops draw).wp E.P (LX E c0 w0 h0 k H0 m0 K r) a w:=by
 have fin:∀ {e:Exit} {a:Act} {w:World},vR E c0 w0 h0 (λe s1'=>e= .normal/\∃s1,SR s1' s1/\(∀k,Keep k s.h s1.h)/\s1.m=m0/\K .normal s1 r) e a w->LX E c0 w0 h0 k H0 m0 K r e a w:=by
  intro e a w he
  cases e with
  | outgrown=>exact he.elim
  | panic _=>exact he
  | goto _=>exact he
  | normal=>obtain⟨c,s1',a1,a2,_,s1,a3,a4,a5,a6⟩:=he;exact⟨c,s1',s1,a1,a2,a3,hK.trans (a4 k),a5,a6⟩
  | ret=>obtain⟨c,s1',a1,a2,q,_⟩:=he;cases q
  | exit i=>obtain⟨c,s1',a1,a2,q,_⟩:=he;cases q
 split at h
 ·rename_i hd;subst hd
  split at h
  ·rename_i hc
   have hst:=KQ _ _ _ hc
   have hr:=I9 hX (h0:=s.h) (m0:=m0) (hs':=[]) S (λ_=> .refl _ _) hs (λp hp=>by simp at hp) h
   refine wp_mono (aeR hE hG hm ord id ops (λe s1'=>e= .normal/\∃s1,SR s1' s1/\(∀k,Keep k s.h s1.h)/\s1.m=m0/\K .normal s1 r) s' c0 w0 h0 c w a A g ⟨by rw [S.m];exact hst,?_⟩) λe a w=>fin
   simpa using hr
  ·exact h.elim
 ·rename_i hd
  have:draw=false:=by simpa using hd
  subst this
  have hr:=G5 hX (h0:=s.h) (m0:=m0) S (λ_=> .refl _ _) hs h
  refine wp_mono (wp_region_list (yG hE hG (Q:=λe s1'=>e= .normal/\∃s1,SR s1' s1/\(∀k,Keep k s.h s1.h)/\s1.m=m0/\K .normal s1 r) ops ops.toList A g ?_)) λe a w=>fin
  simpa using hr
end
end
end Go.TX
namespace Go.TX
open Go Go.AE
variable [aL]
section
variable {n:Nat}
variable {X:XT} {E:Tab} (hE:aK E) (hX:XOK X E) {C:Calls aC} (hG:nY E (jy C)) (hm:E.P.follows .mixedOrders=true) {ord:Nat->List dY} {chk:Nat->Array Oper->Nat->Bool} (KQ:∀id ops m,chk id ops m=true->Static E ord id ops m)
 {c0:Ctx} {w0:World} {h0:Heap} {k:Nat} {H0:List aM} {m0:Nat} (hc0:c0.n=k)
include hE hX hG hm KQ hc0
theorem lJ:∀(code:Code) {ρ:Type} {an:Ann} {s:RSt (std n)} {K:Exit->RSt (std n)->(ρ->Prop)->Prop} {r:ρ->Prop},bI (std n) X C ord chk k an code s K r->∀ {s':St} {c:Ctx} {w:World} {a:Act},iO E s' c w a->Grow c0 w0 h0 c w s'.h->SR s' s->Keep k H0 s.h->s.m=m0->
  code.wp E.P (LX E c0 w0 h0 k H0 m0 K r) a w
 | .skip,ρ,an,s,K,r,h,s',c,w,a,A,g,S,hK,hs=>by
  have h:K .normal s r:=by cases an<;>exact h
  exact wp_skip ⟨c,s',s,g,A,S,hK,hs,h⟩
 | .region id ops draw,ρ,an,s,K,r,h,s',c,w,a,A,g,S,hK,hs=>by
  have base:∀ {σ:Type} {K':Exit->RSt (std n)->(σ->Prop)->Prop} {r':σ->Prop},(if draw then(if chk id ops s.m then gJ (std n) X C ops.toList (ord id) [] (λs=>K' .normal s) s else(std n).fail)else dL (std n) X C ops.toList ops.toList (λs=>K' .normal s) s:(std n).M σ) r'->
    (Code.region id ops draw).wp E.P (LX E c0 w0 h0 k H0 m0 K' r') a w:=λh=>ae7 hE hX hG hm KQ h A g S hK hs
  generalize hM:bI (std n) X C ord chk k an (.region id ops draw) s K=M at h
  simp only [bI]at hM
  split at hM
  ·subst hM;exact PU hc0 hs base h
  ·subst hM;exact base h
 | .seq x y,ρ,an,s,K,r,h,s',c,w,a,A,g,S,hK,hs=>by
  have main:∀(a1 a2:Ann) (K1:Exit->RSt (std n)->(ρ->Prop)->Prop),(∀s',K1 .normal s'=bI (std n) X C ord chk k a2 y s' K)->(∀s',K1 .ret s'=K .ret s')->(∀i s',K1 (.exit i) s'=K (.exit i) s')->bI (std n) X C ord chk k a1 x s K1 r->
    (Code.seq x y).wp E.P (LX E c0 w0 h0 k H0 m0 K r) a w:=by
   intro a1 a2 K1 e1 e2 e3 h
   refine wp_seq (wp_mono (lJ x h A g S hK hs) ?_)
   intro e a' w' he
   cases e with
   | outgrown=>exact he.elim
   | panic _=>exact he
   | goto _=>exact he
   | normal=>obtain⟨c,s',s1,b1,b2,b3,b4,b5,b6⟩:=he;rw [e1]at b6;exact lJ y b6 b2 b1 b3 b4 b5
   | ret=>obtain⟨c,s',s1,b1,b2,b3,b4,b5,b6⟩:=he;rw [e2]at b6;exact⟨c,s',s1,b1,b2,b3,b4,b5,b6⟩
   | exit i=>obtain⟨c,s',s1,b1,b2,b3,b4,b5,b6⟩:=he;rw [e3]at b6;exact⟨c,s',s1,b1,b2,b3,b4,b5,b6⟩
  cases an with
  | seq a1 a2=>rw [bI]at h;refine main a1 a2 _ ?_ ?_ ?_ h<;>intros<;>rfl
  | u=>rw [bI]at h;refine main .u .u _ ?_ ?_ ?_ h<;>intros<;>rfl
  | _=>simp [bI]at h
 | .cond cd x y,ρ,an,s,K,r,h,s',c,w,a,A,g,S,hK,hs=>by
  have he:EvR X E n (nmh s.h) s'.t (eZ (std n) (bZ (std n) s.t) []):=pq (λ_ _=>rfl) S.val (λt h=>by simp at h)
  generalize hM:bI (std n) X C ord chk k an (.cond cd x y) s K=M at h
  simp only [bI]at hM
  split at hM
  ·rename_i f b hb
   obtain⟨pv,p1,p2⟩:=cu hX he hb
   obtain⟨gf,rfl⟩:=p2.bool
   have hbv:=jm (JL A.abs p1)
   have main:∀(a1 a2:Ann) {σ:Type} {K':Exit->RSt (std n)->(σ->Prop)->Prop} {r':σ->Prop},((b=true->bI (std n) X C ord chk k a1 x s K' r')/\(b=false->bI (std n) X C ord chk k a2 y s K' r'))->(Code.cond cd x y).wp E.P (LX E c0 w0 h0 k H0 m0 K' r') a w:=by
    intro a1 a2 σ K' r' h
    refine wp_cond hbv ?_
    obtain⟨b,rfl⟩:∃b':Bool,b'=b:=⟨b,rfl⟩
    cases b with
    | true=>exact lJ x (h.1 rfl) A g S hK hs
    | false=>exact lJ y (h.2 rfl) A g S hK hs
   split at hM
   ·subst hM;exact main _ _ h
   ·subst hM;exact main _ _ h
   ·rename_i sk a1 a2
    subst hM;exact PU hc0 hs (λ{σ K' r'} h=>main a1 a2 h) h
   ·subst hM;exact h.elim
  ·subst hM;exact h.elim
 | .block id b,ρ,an,s,K,r,h,s',c,w,a,A,g,S,hK,hs=>by
  have main:∀(a1:Ann) {σ:Type} {K':Exit->RSt (std n)->(σ->Prop)->Prop} {r':σ->Prop} (K1:Exit->RSt (std n)->(σ->Prop)->Prop),(∀s',K1 .normal s'=K' .normal s')->(∀s',K1 .ret s'=K' .ret s')->(∀i s',K1 (.exit i) s'=if i==id then K' .normal s' else K' (.exit i) s')->
    bI (std n) X C ord chk k a1 b s K1 r'->(Code.block id b).wp E.P (LX E c0 w0 h0 k H0 m0 K' r') a w:=by
   intro a1 σ K' r' K1 e1 e2 e3 h
   refine wp_block (wp_mono (lJ b h A g S hK hs) ?_)
   intro e a' w' he
   cases e with
   | outgrown=>exact he.elim
   | panic _=>exact he
   | goto _=>exact he
   | normal=>obtain⟨c,s',s1,b1,b2,b3,b4,b5,b6⟩:=he;rw [e1]at b6;exact⟨c,s',s1,b1,b2,b3,b4,b5,b6⟩
   | ret=>obtain⟨c,s',s1,b1,b2,b3,b4,b5,b6⟩:=he;rw [e2]at b6;exact⟨c,s',s1,b1,b2,b3,b4,b5,b6⟩
   | exit i=>
    obtain⟨c,s',s1,b1,b2,b3,b4,b5,b6⟩:=he
    rw [e3]at b6
    simp only [Exit.inBlock]
    simp only [beq_iff_eq]at b6
    split
    ·rename_i e;rw [if_pos e]at b6;exact⟨c,s',s1,b1,b2,b3,b4,b5,b6⟩
    ·rename_i e;rw [if_neg e]at b6;exact⟨c,s',s1,b1,b2,b3,b4,b5,b6⟩
  generalize hM:bI (std n) X C ord chk k an (.block id b) s K=M at h
  simp only [bI]at hM
  split at hM
  ·subst hM;refine main _ _ ?_ ?_ ?_ h<;>intros<;>rfl
  ·subst hM;refine main _ _ ?_ ?_ ?_ h<;>intros<;>rfl
  ·rename_i sk a1
   subst hM
   exact PU hc0 hs (λ{σ K' r'} h=>by refine main a1 _ ?_ ?_ ?_ h<;>intros<;>rfl) h
  ·subst hM;exact h.elim
 | .loop b,ρ,an,s,K,r,h,s',c,w,a,A,g,S,hK,hs=>by
  cases an with
  | loop sk a1=>
   rw [bI]at h
   rcases hx0:D6 (std n) k sk s with _ | ⟨ck,x0⟩
   ·rw [hx0]at h;exact h.elim
   ·rw [hx0]at h
    obtain⟨hck,h⟩:=dZ h
    obtain⟨I,μ,hI0,h⟩:=h
    obtain⟨c1,s1',g1,A1,S1,K1,hm1⟩:=Je hx0 hck S A hc0 g hs
    rw [hs]at h
    refine wp_loop_ghost (λN a' w'=>∃c s' x,Grow c0 w0 h0 c w' s'.h/\iO E s' c w' a'/\SR s' (qJ (std n) sk m0 x)/\Keep k H0 (qJ (std n) sk m0 x).h/\(qJ (std n) sk m0 x).m=m0/\I x/\μ x=N) (μ x0) ⟨c1,s1',x0,g1,A1,S1,hK.trans K1,hm1,hI0,rfl⟩ ?_
    rintro N a' w' ⟨c2,s2',x,g2,A2,S2,K2,hm2,hi,rfl⟩
    have hq:=h x hi
    refine wp_mono (lJ b hq A2 g2 S2 K2 hm2) ?_
    intro e a3 w3 he
    cases e with
    | outgrown=>exact he.elim
    | panic _=>exact he
    | goto _=>exact he
    | normal=>
     obtain⟨c4,s4',s4,b1,b2,b3,b4,b5,b6⟩:=he
     simp only at b6
     rcases hx4:D6 (std n) k sk s4 with _ | ⟨ck4,t4⟩
     ·rw [hx4]at b6;exact b6.elim
     ·rw [hx4]at b6
      obtain⟨apl,b6⟩:=dZ b6
      obtain⟨c5,s5',g5,A5,S5,K5,hm5⟩:=Je hx4 apl b3 b2 hc0 b1 b5
      exact⟨μ t4,b6.2,c5,s5',_,g5,A5,S5,b4.trans K5,hm5,b6.1,rfl⟩
    | ret=>obtain⟨c4,s4',s4,b1,b2,b3,b4,b5,b6⟩:=he;exact⟨c4,s4',s4,b1,b2,b3,b4,b5,b6⟩
    | exit i=>obtain⟨c4,s4',s4,b1,b2,b3,b4,b5,b6⟩:=he;exact⟨c4,s4',s4,b1,b2,b3,b4,b5,b6⟩
  | _=>simp [bI]at h
 | .exit i,ρ,an,s,K,r,h,s',c,w,a,A,g,S,hK,hs=>by
  have h:K (.exit i) s r:=by cases an<;>exact h
  exact wp_exit ⟨c,s',s,g,A,S,hK,hs,h⟩
 | .ret,ρ,an,s,K,r,h,s',c,w,a,A,g,S,hK,hs=>by
  have h:K .ret s r:=by cases an<;>exact h
  exact wp_ret ⟨c,s',s,g,A,S,hK,hs,h⟩
 | .rangeFunc ..,ρ,an,s,K,r,h,_,_,_,_,_,_,_,_,_=>by cases an<;>simp [bI]at h
 | .scope _,ρ,an,s,K,r,h,_,_,_,_,_,_,_,_,_=>by cases an<;>simp [bI]at h
 | .label _,ρ,an,s,K,r,h,_,_,_,_,_,_,_,_,_=>by cases an<;>simp [bI]at h
 | .goto _,ρ,an,s,K,r,h,_,_,_,_,_,_,_,_,_=>by cases an<;>simp [bI]at h
 | .refuse _,ρ,an,s,K,r,h,_,_,_,_,_,_,_,_,_=>by cases an<;>simp [bI]at h
end
end Go.TX
namespace Go.TX
open Go Go.AE
variable [aL]
section
variable {n:Nat}
theorem gq:∀(r:List (Option (Option Nat))) (m k:Nat),(newNames r m k).length=k
 | _,_,0=>by simp [newNames]
 | [],m,k+1=>by simp [newNames,gq [] (m+1) k]
 | some (some l)::r,m,k+1=>by simp [newNames,gq r m k]
 | some none::r,m,k+1=>by simp [newNames,gq r (m+1) k]
 | none::r,m,k+1=>by simp [newNames,gq r (m+1) k]
structure WK (r:List (Option (Option Nat))) (h:List aM) (os:List aM) (nms:List Nat) (kT:List aM):Prop where
 len:h.length<=kT.length
 at_:∀(i:Nat),i<os.length->∃l,nms[i]? =some l/\kT[l]? =os[i]? /\(r[i]? =some (some (some l))\/(h.length<=l/\∀q:Nat,r[i]? ≠some (some (some q))))
 old:∀l,l<h.length->(∀i:Nat,i<os.length->r[i]? ≠some (some (some l)))->kT[l]? =h[l]?
 inj:∀(i j l:Nat),nms[i]? =some l->nms[j]? =some l->i=j
 new:∀l,h.length<=l->l<kT.length->∃i:Nat,i<os.length/\nms[i]? =some l
theorem PW:∀(os:List aM) (r:List (Option (Option Nat))) (h:List aM),(∀i l:Nat,r[i]? =some (some (some l))->i<os.length->l<h.length)->(∀i j l:Nat,r[i]? =some (some (some l))->r[j]? =some (some (some l))->i=j)->
  WK r h os (newNames r h.length os.length) (fU (std n) h (newNames r h.length os.length) os)
 | [],r,h,h1,h2=>by
  refine⟨?_,λi hi=>by simp at hi,λl _ _=> ?_,λi j l hi=>by simp [newNames]at hi,λl a b=> ?_⟩<;>simp only [List.length_nil,newNames,fU]at* <;>first | exact Nat.le_refl _ | rfl | omega
 | o::os,r,h,h1,h2=>by
  have fresh:∀r',(∀(i:Nat),r'[i]? =r[i+1]?)->(∀q:Nat,r[0]? ≠some (some (some q)))->newNames r h.length (os.length+1)=h.length::newNames r' (h.length+1) os.length->WK r h (o::os) (newNames r h.length (os.length+1)) (fU (std n) h (newNames r h.length (os.length+1)) (o::os)):=by
   intro r' hr h0 e
   rw [e]
   have hl:(h++ [o]).length=h.length+1:=by simp
   have P:=PW os r' (h++ [o]) (λi l hi hi2=>by rw [hl];have:=h1 (i+1) l (by rw [<-hr];exact hi) (by simp;omega);omega) (λi j l hi hj=>by have:=h2 (i+1) (j+1) l (by rw [<-hr];exact hi) (by rw [<-hr];exact hj);omega)
   rw [hl]at P
   have hput:fU (std n) h (h.length::newNames r' (h.length+1) os.length) (o::os)=fU (std n) (h++ [o]) (newNames r' (h.length+1) os.length) os:=by
    simp [fU]
   rw [hput]
   have hcur:(fU (std n) (h++ [o]) (newNames r' (h.length+1) os.length) os)[h.length]? =some o:=by
    rw [P.old h.length (by simp) (λi hi hh=>by have:=h1 (i+1) h.length (by rw [<-hr];exact hh) (by simp;omega);omega)]
    simp
   refine⟨by have:=P.len;simp at this;omega,λi hi=> ?_,λl hl2 hn=> ?_,λi j l hi hj=> ?_,λl ha hb=> ?_⟩
   ·cases i with
    | zero=>exact⟨h.length,rfl,by rw [hcur];rfl,.inr ⟨Nat.le_refl _,h0⟩⟩
    | succ i=>
     obtain⟨l,q1,q2,q3⟩:=P.at_ i (by simpa using hi)
     refine⟨l,by simpa using q1,by rw [q2];simp,?_⟩
     rw [<-hr]
     rcases q3 with q3 | ⟨q3,q4⟩
     ·exact .inl q3
     ·exact .inr ⟨by simp at q3;omega,q4⟩
   ·rw [P.old l (by simp;omega) (λi hi hh=>hn (i+1) (by simp;omega) (by rw [<-hr];exact hh))]
    exact List.getElem?_append_left hl2
   ·have ne:∀(j:Nat),(newNames r' (h.length+1) os.length)[j]? =some h.length->False:=by
     intro j hj
     have hj2:j<os.length:=by have:=(List.getElem?_eq_some_iff.1 hj).1;rw [gq]at this;exact this
     obtain⟨l,q1,q2,q3⟩:=P.at_ j hj2
     rw [hj]at q1;cases q1
     rcases q3 with q3 | ⟨q3,q4⟩
     ·have:=h1 (j+1) h.length (by rw [<-hr];exact q3) (by simp;omega);omega
     ·simp at q3;omega
    cases i with
    | zero=>
     simp at hi;subst hi
     cases j with
     | zero=>rfl
     | succ j=>exact(ne j (by simpa using hj)).elim
    | succ i=>
     cases j with
     | zero=>simp at hj;subst hj;exact(ne i (by simpa using hi)).elim
     | succ j=>rw [P.inj i j l (by simpa using hi) (by simpa using hj)]
   ·by_cases e:l=h.length
    ·subst e;exact⟨0,by simp,rfl⟩
    ·obtain⟨i,q1,q2⟩:=P.new l (by simp;omega) hb
     exact⟨i+1,by simp;omega,by simpa using q2⟩
  match r,h1,h2,fresh with
  | [],h1,h2,fresh=>exact fresh [] (λi=>by simp) (λq=>by simp) rfl
  | none::r',h1,h2,fresh=>exact fresh r' (λi=>by simp) (λq=>by simp) rfl
  | some none::r',h1,h2,fresh=>exact fresh r' (λi=>by simp) (λq=>by simp) rfl
  | some (some l0)::r',h1,h2,_=>
   have hl0:l0<h.length:=h1 0 l0 rfl (by simp)
   have e:newNames (some (some l0)::r') h.length (os.length+1)=l0::newNames r' h.length os.length:=rfl
   show WK _ _ _ (newNames (some (some l0)::r') h.length (os.length+1)) (fU (std n) h (newNames (some (some l0)::r') h.length (os.length+1)) (o::os))
   rw [e]
   have hl:(h.set l0 o).length=h.length:=by simp
   have P:=PW os r' (h.set l0 o) (λi l hi hi2=>by rw [hl];exact h1 (i+1) l (by simpa using hi) (by simp;omega)) (λi j l hi hj=>by have:=h2 (i+1) (j+1) l (by simpa using hi) (by simpa using hj);omega)
   rw [hl]at P
   have hput:fU (std n) h (l0::newNames r' h.length os.length) (o::os)=fU (std n) (h.set l0 o) (newNames r' h.length os.length) os:=by
    have:Nat.blt l0 h.length=true:=by simpa using hl0
    simp [fU,hl0]
   rw [hput]
   have hcur:(fU (std n) (h.set l0 o) (newNames r' h.length os.length) os)[l0]? =some o:=by
    rw [P.old l0 (by simpa using hl0) (λi hi hh=>by have:=h2 0 (i+1) l0 rfl (by simpa using hh);omega)]
    rw [List.getElem?_set_self hl0]
   refine⟨by have:=P.len;rw [hl]at this;exact this,λi hi=> ?_,λl hl2 hn=> ?_,λi j l hi hj=> ?_,λl ha hb=> ?_⟩
   ·cases i with
    | zero=>exact⟨l0,rfl,by rw [hcur];rfl,.inl rfl⟩
    | succ i=>
     obtain⟨l,q1,q2,q3⟩:=P.at_ i (by simpa using hi)
     refine⟨l,by simpa using q1,by rw [q2];simp,?_⟩
     simp only [List.getElem?_cons_succ]
     rcases q3 with q3 | ⟨q3,q4⟩
     ·exact .inl q3
     ·exact .inr ⟨by rw [hl]at q3;exact q3,q4⟩
   ·rw [P.old l (by rw [hl];exact hl2) (λi hi hh=>hn (i+1) (by simp;omega) (by simpa using hh))]
    have:l0≠l:=λe=>hn 0 (by simp) (by rw [e];rfl)
    exact List.getElem?_set_ne this
   ·have ne:∀(j:Nat),(newNames r' h.length os.length)[j]? =some l0->False:=by
     intro j hj
     have hj2:j<os.length:=by have:=(List.getElem?_eq_some_iff.1 hj).1;rw [gq]at this;exact this
     obtain⟨l,q1,q2,q3⟩:=P.at_ j hj2
     rw [hj]at q1;cases q1
     rcases q3 with q3 | ⟨q3,q4⟩
     ·have:=h2 0 (j+1) l0 rfl (by simpa using q3);omega
     ·rw [hl]at q3;omega
    cases i with
    | zero=>
     simp at hi;subst hi
     cases j with
     | zero=>rfl
     | succ j=>exact(ne j (by simpa using hj)).elim
    | succ i=>
     cases j with
     | zero=>simp at hj;subst hj;exact(ne i (by simpa using hi)).elim
     | succ j=>rw [P.inj i j l (by simpa using hi) (by simpa using hj)]
   ·obtain⟨i,q1,q2⟩:=P.new l (by rw [hl];exact ha) hb
    exact⟨i+1,by simp;omega,by simpa using q2⟩
theorem Vj {nm:Nat->Nat} {k:SkV} {r r':List (LV aC)} {v:SVal} (h:yO aC nm k r=some (v,r')):nD v=false:=by
 cases k with
 | c k=>simp only [yO]at h;split at h<;>cases h;rfl
 | agg ks=>simp only [yO]at h;split at h<;>cases h;rfl
 | sv f c=>
  unfold yO at h
  split at h<;>first | (cases h;rfl) | (split at h<;>cases h<;>rfl) | cases h
theorem Ep {nm:Nat->Nat}:∀ {ks:List SkV} {r r':List (LV aC)} {vs:List SVal},qd aC nm ks r=some (vs,r')->∀v∈vs,nD v=false
 | [],r,r',vs,h=>by simp only [qd,Option.some.injEq,Prod.mk.injEq]at h;obtain⟨rfl,_⟩:=h;simp
 | k::ks,r,r',vs,h=>by
  simp only [qd]at h
  split at h
  ·rename_i x r1 hx
   split at h
   ·rename_i xs r2 hxs;cases h
    intro v hv
    cases hv with
    | head=>exact Vj hx
    | tail _ hv=>exact Ep hxs v hv
   ·cases h
  ·cases h
theorem y9:∀ {ls:List Nat} {h:List aM} {l:Nat} {g:Bool} {c:Co} {xs:List c.den},l∈ls->h[l]? =some (.rows g c xs)->Gone (bg (std n) h ls) l
 | [],_,_,_,_,_,hm,_=>by simp at hm
 | a::ls,h,l,g,c,xs,hm,hl=>by
  rw [eP]
  have stays:∀(ls:List Nat) (h:List aM),Gone h l->Gone (bg (std n) h ls) l:=by
   intro ls
   induction ls with
   | nil=>intro h hg;exact hg
   | cons b ls ih=>
    intro h ⟨cc,nn,hg⟩
    rw [eP]
    refine ih _ ⟨cc,nn,?_⟩
    by_cases e:b=l
    ·subst e;unfold dM;split
     ·rename_i hh;rw [hg]at hh;cases hh
     ·exact hg
    ·rw [vo e];exact hg
  by_cases e:a=l
  ·subst e
   refine stays ls _ ⟨c,(xs.length:Int),?_⟩
   unfold dM;rw [hl];simp only
   rw [List.getElem?_set_self (List.getElem?_eq_some_iff.1 hl).1]
  ·refine y9 (g:=g) (c:=c) (xs:=xs) ?_ (by rw [vo e];exact hl)
   cases hm with
   | head=>exact absurd rfl e
   | tail _ h=>exact h
theorem G9 {h:List aM}:∀ {ks:List SkO} {j:Nat} {s s':ES (std n)},yN (std n) h j ks s=some s'->∀ {i:Nat} {k:SkO},ks[i]? =some k->k≠ .gone->∀ {l:Nat} (_:s'.ren[j+i]? =some (some (some l))),∃o,h[l]? =some o/\¬Gone [o] 0
 | [],_,_,_,_,i,k,hk,_,_,_=>by simp at hk
 | q::ks,j,s,s',hx,i,k,hk,hg,l,h5=>by
  simp only [yN]at hx
  split at hx
  ·rename_i s1 h1
   cases i with
   | succ i=>
    have:=G9 hx (i:=i) (k:=k) (by simpa using hk) hg (l:=l) (by rw [show j+1+i=j+(i+1) by omega];exact h5)
    exact this
   | zero=>
    simp at hk;subst hk
    rw [Nat.add_zero]at h5
    have e1:ELe s s':=by
     obtain⟨_,_,_,a2,_⟩:=R9 (m:=n) (λi=>i) h1 (.gone .i64 0) ⟨.i64,0,rfl⟩
     obtain⟨_,_,_,b2,_⟩:=o8 (m:=n) (λi=>i) (λ_=> .gone .i64 0) (λ_=>⟨.i64,0,rfl⟩) hx
     exact a2.trans b2
    cases q with
    | gone=>exact absurd rfl hg
    | box kk=>
     rcases hr:s.ren[j]? with _ | _ | _ | l0<;>simp only [Pz,hr,reduceCtorEq]at h1
     have:=e1.ren j _ hr
     rw [h5]at this;cases this
     split at h1
     ·rename_i v hv;exact⟨_,hv,λ⟨c,m,hgo⟩=>by simp at hgo⟩
     ·cases h1
    | rows f c=>
     rcases hr:s.ren[j]? with _ | _ | _ | l0<;>simp only [Pz,hr,reduceCtorEq]at h1
     ·have:=e1.ren j _ hr
      rw [h5]at this;cases this
     ·have:=e1.ren j _ hr
      rw [h5]at this;cases this
      split at h1
      ·rename_i g c' xs hv;exact⟨_,hv,λ⟨c,m,hgo⟩=>by simp at hgo⟩
      ·cases h1
  ·cases hx
end
end Go.TX
namespace Go.TX
open Go Go.AE
variable [aL]
section
variable {n:Nat}
theorem Jf {X:XT} {E:Tab} (hX:XOK X E) {s':St} {s:RSt (std n)} (S:SR s' s):∀ {rs:List ResultVar} {qs:List SVal},PI (std n) X s rs=some qs->∃ps,F2 (PVR (nmh s.h)) ps qs/\∀K,K ps->J8 E s' rs K
 | [],qs,h=>by simp only [PI,Option.some.injEq]at h;subst h;exact⟨[],.nil,λK hK=>hK⟩
 | .tmp t::r,qs,h=>by
  simp only [PI]at h
  split at h
  ·rename_i v hv
   split at h
   ·rename_i vs hvs;cases h
    obtain⟨pv,p1,p2⟩:=S.val t _ hv
    obtain⟨ps,q1,q2⟩:=Jf hX S hvs
    exact⟨pv::ps,.cons p2 q1,λK hK=>by unfold J8;exact gy p1 _ (q2 _ hK)⟩
   ·cases h
  ·cases h
 | .cell t ty::r,qs,h=>by
  simp only [PI]at h
  split at h
  ·rename_i p hp
   split at h
   ·rename_i v hv
    split at h
    ·rename_i vs hvs;cases h
     obtain⟨pv,p1,p2⟩:=S.val t _ hp
     obtain⟨pr,r1,r2⟩:=Ku hX S.heap p2 hv (λb hb=>by simp at hb)
     obtain⟨ps,q1,q2⟩:=Jf hX S hvs
     exact⟨pr::ps,.cons r1 q1,λK hK=>by unfold J8;exact gy p1 _ (r2 _ (q2 _ hK))⟩
    ·cases h
   ·cases h
  ·cases h
theorem ae8 {N:NM}:∀ {ps:List PV} {vs:List SVal},F2 (PVR N) ps vs->(∀v∈vs,nD v=false)->PVR N (one ps) (aif (std n) vs)
 | [],_,h,_=>by cases h;exact .tup .nil
 | [p],_,.cons h1 h2,_=>by cases h2;exact h1
 | p::q::ps,_,.cons h1 (.cons h2 h3),ht=>by
  have up:∀ {p v},PVR N p v->nD v=false->PV0 N p v:=λh hv=>by
   cases h with
   | one h=>exact h
   | tup _=>simp [nD]at hv
  have all:∀ {ps:List PV} {vs:List SVal},F2 (PVR N) ps vs->(∀v∈vs,nD v=false)->F2 (PV0 N) ps vs:=by
   intro ps vs h
   induction h with
   | nil=>intro _;exact .nil
   | cons a _ ih=>intro ht;exact .cons (up a (ht _ (by simp))) (ih λv hv=>ht v (List.mem_cons_of_mem _ hv))
  exact .tup (all (.cons h1 (.cons h2 h3)) ht)
theorem abU {c:Ctx} {w:World} {us:List Value} {ps:List PV} (h:F2 (bD c w) us ps):bD c w (if h:us.toArray.size=1 then us.toArray[0]else .tuple us.toArray) (one ps):=by
 cases h with
 | nil=>exact J6 _ _
 | cons q1 q2=>
  cases q2 with
  | nil=>simpa [one]using q1
  | cons q3 q4=>
   have hl:=(F2.cons q1 (F2.cons q3 q4)).length
   rw [dif_neg (by simp)]
   refine .tup _ _ hl (λi hi=> ?_)
   have hx:∀(l:List PV),i<l.length->l[i]? =some (l.getD i default):=λl hl=>by simp [List.getD,List.getElem?_eq_getElem hl]
   obtain⟨u,hu,hr⟩:=(F2.cons q1 (F2.cons q3 q4)).get (hx _ hi)
   rw [lF hu];exact hr
theorem KR (h:List aM) (l:Nat):Gone [sG (std n) h l] 0:=by
 unfold sG;split
 ·exact⟨_,_,rfl⟩
 ·exact⟨_,_,rfl⟩
 ·exact⟨_,_,rfl⟩
def za (D:List Nat) (h:Heap):Heap:=D.map (λl=>(l,dP.gone))++h
theorem Er {D:List Nat} {h:Heap} {l:Nat} (hl:l∈D):AE.look (za D h) l=some .gone:=by
 induction D with
 | nil=>simp at hl
 | cons d D ih=>
  show AE.look ((d,.gone)::za D h) l=_
  by_cases e:d=l
  ·subst e;rw [aJ]
  ·rw [ak _ _ e]
   exact ih (by cases hl with | head=>exact absurd rfl e | tail _ h=>exact h)
theorem pz {D:List Nat} {h:Heap} {l:Nat} (hl:l∉D):AE.look (za D h) l=AE.look h l:=by
 induction D with
 | nil=>rfl
 | cons d D ih=>
  show AE.look ((d,.gone)::za D h) l=_
  rw [ak _ _ (λe=>hl (by simp [e]))]
  exact ih (λh=>hl (List.mem_cons_of_mem _ h))
section
variable {X:XT} {E:Tab} (hE:aK E) (hX:XOK X E) {C:Calls aC} (hG:nY E (jy C)) (hm:E.P.follows .mixedOrders=true) {ord:Nat->List dY} {chk:Nat->Array Oper->Nat->Bool} (KQ:∀id ops m,chk id ops m=true->Static E ord id ops m)
include hE hX hG hm KQ
theorem aiE {f:FuncId} {fn:Func} {code:Code} (hf:E.P.funcs[f]? =some fn) (hb:fn.body=some code) (hent:Enters E.P f) {sg:Sig} {an:Ann} {ct:Ct aC sg}
  (hrun:∀x,ct.pre x=true->jU (std 0) X C ord chk an sg fn code x (λy=>y=ct.fn x)):iL E f (gY ct) where
 enters:=hent
 calls:=by
  rintro args h nn K ⟨m,qs,hs,hargs,HR,hlen,cr,hcall,aiF,v,kT,hvk,hK⟩ c w vs hcn sQ H Gl
  subst hlen
  unfold Am at hcall
  split at hcall
  ·rename_i e1 he1
   split at hcall
   ·rename_i e he
    split at hcall
    ·rename_i iA
     simp only [Bool.and_eq_true,List.isEmpty_iff]at iA
     obtain⟨iA,htr⟩:=iA
     have iA:=I8 iA
     split at hcall
     ·rename_i x hx
      simp only [Option.some.injEq]at hcall
      subst hcall
      have hck:∀b∈e.ck,b=true:=λb hb=>aiF b (List.mem_append_left _ hb)
      have hpre:ct.pre x=true:=aiF _ (List.mem_append_right _ (by simp))
      obtain⟨N,hrun⟩:∃N:Nat,jU (std N) X C ord chk an sg fn code x (λy=>y=ct.fn x):=⟨0,hrun x hpre⟩
      simp only at hvk hK
      obtain⟨new1,qs1,a1,a2,a3,a4⟩:=sO (λi=>i) he1
      obtain⟨new2,os1,b1,b2,b3,b4,b5⟩:=o8 (λi=>i) (λ_=>(.gone .i64 0:aM)) (λ_=>⟨.i64,0,rfl⟩) he
      have hlv:e.lv.reverse=new1++new2:=by rw [b1,a1];simp [es0]
      have hun:=unpack_pack hx
      rw [hlv]at hun
      have hrl:e.ren.length=sg.objs.length:=by rw [b2.len,a2.len,Jc]
      have hof:∀(j:Nat) (kk:SkO),sg.objs[j]? =some kk->∃o2,os1[j]? =some o2/\OF e hs (λi=>i) j kk (.gone .i64 0) o2:=λj kk hj=>by
       obtain⟨o2,q1,q2⟩:=b5 e (.refl _) j kk hj
       exact⟨o2,q1,by simpa using q2⟩
      obtain⟨o1,m1,m2,m3,m4,_,_⟩:=xU (ks:=sg.objs) (nm:=λi=>i) (old:=λ_=>(.gone .i64 0:aM)) H HR hck iA hrl b4 hof (cb:={K:=λ_ _=>False,μ:=μX e c,n:=0}) (hb':=[])
       (KO w _ _ _ (λ_ _ h=>h.elim) (λ_ h=>h)) false (λh=>by cases h) (μ2:=μX e c) (n2:=sg.objs.length) (Nat.zero_le _) (λ_ _=>rfl) (λi hi=>hi) (λi j _ _ h=>h)
       (λi l hi=>by simp only [μX];rw [hi]) (λi hi=>by simp only [μX];rw [hi]) (h2:=os1) (λi _=>rfl)
       (λl o hl ho=>by
        have:sg.objs.length<=l:=by
         rcases Nat.lt_or_ge l sg.objs.length with h | h
         ·exact absurd rfl (hl l h)
         ·exact h
        rw [List.getElem?_eq_none (by omega)]at ho;cases ho) (λ_ _=>rfl)
       (λb ⟨l,o,hl,_⟩ _=>by simp [AE.look]at hl) (λf b h _=>h) (λf b ⟨l,o,hl,_⟩ _=>by simp [AE.look]at hl)
      generalize hc1:({K:=λf b=>False\/KX e c false f b,μ:=μX e c,n:=sg.objs.length}:Ctx)=c1 at m1 m2 m3 m4
      generalize hh1:qM (λi=>i) o1 (List.range sg.objs.length) []=h1' at m1 m2 m4
      have c1n:c1.n=sg.objs.length:=by rw [<-hc1]
      have c1K:∀f b,c1.K f b->c.K f b\/∃l g,(l,g)∈e.fro/\c.μ l=some b/\(f=true->g=true):=λf b hb=>by
       rw [<-hc1]at hb
       rcases hb with hb | hb | ⟨l,g,q1,q2,q3⟩
       ·exact hb.elim
       ·exact .inl (by simpa using hb)
       ·exact .inr ⟨l,g,q1,q2,λh=>q3 (by simp [h])⟩
      have ae9:∀f b,c.K f b->c1.K f b:=λf b hb=>by rw [<-hc1];exact .inr (.inl (by simpa using hb))
      have aiG:∀b,dB c1 h1' b->∃(i lq:Nat) (q:dP),e.ren[i]? =some (some (some lq))/\AE.look h lq=some q/\q.live/\c.μ lq=some b:=λb hb=>by
       rcases m4 b hb with⟨l,o,hl,_⟩ | hb
       ·simp [AE.look]at hl
       ·exact hb
      have aiH:F2 (WV c w (nmh hs)) vs qs:=by
       clear he1 a1 a2 a3 a4 hvk hrun
       induction sQ generalizing qs with
       | nil=>cases hargs;exact .nil
       | cons q1 _ ih=>cases hargs with | cons q3 q4=>exact .cons ⟨_,q1,q3⟩ (ih _ q4)
      obtain⟨aiI,p1,p2⟩:=Jd (a4 H HR b2 hck m3 (λh=>by cases h) aiH)
      unfold jU at hrun
      split at hrun
      ·exact hrun.elim
      rename_i hkk
      have hkk:sg.objs.length<=sg.dF.length:=by
       have:Nat.ble sg.objs.length sg.dF.length=true:=by simpa using hkk
       exact Nat.le_of_ble_eq_true this
      rw [show unpack (std N).ah sg.inp x=new1++new2 from hun,a3]at hrun
      simp only at hrun
      have hb3:=b3 []
      rw [List.append_nil]at hb3
      rw [show qg (std N).ah (λi=>i) (λ_=>dx.gone Co.i64 ((std N).lit 0)) 0 sg.objs new2=some (os1,[])from hb3]at hrun
      simp only at hrun
      have hql:qs1.length=vs.length:=by rw [<-p2.length,<-p1.length]
      refine calls_of_wp hf hb ?_
      have A1:iO E {t:=(List.range qs1.length).zip (aiI.map some),h:=h1',n:=sg.objs.length,k:=0,m:=qs1.length+(fn.ntmps-qs1.length)} c1 w {tmps:=vs.toArray++Array.replicate (fn.ntmps-vs.toArray.size) undef,defers:=[]}:=by
       refine⟨⟨λi u hu=>En p1 ?_ i u hu,m1,?_⟩,c1n,rfl,by simp [hql]⟩
       ·refine F2.Db (by simp [hql]) λj i u hj hu=> ?_
        have:i=j:=by
         have h3:=(List.getElem?_eq_some_iff.1 hj).1
         simp at h3
         rw [List.getElem?_range h3]at hj;cases hj;rfl
        subst this
        have hlt:i<vs.length:=(List.getElem?_eq_some_iff.1 hu).1
        simp only
        rw [Array.getElem?_append_left (by simpa using hlt)]
        simpa using hu
       ·intro gg d hd
        obtain⟨q1,u,q2,q3⟩:=Gl gg d hd
        exact⟨ae9 _ _ q1,u,q2,q3.mono' λb hb=>ae9 _ _ hb⟩
      have S1:SR {t:=(List.range qs1.length).zip (aiI.map some),h:=h1',n:=sg.objs.length,k:=0,m:=qs1.length+(fn.ntmps-qs1.length)}
        ({t:=(List.range qs1.length).zip (qs1.map λv=>⟨none,v⟩),gs:=[],h:=os1,m:=qs1.length+(fn.ntmps-qs1.length)}:RSt (std N)):=by
       refine⟨m2,by simp [nm,b4],rfl,λi sv hi=> ?_,λt e he=>by simp at he⟩
       obtain⟨q1,q2⟩:=Em p2 i sv hi
       unfold yZ
       rw [q1];exact q2
      refine wp_mono (lJ hE hX hG hm KQ c1n code hrun A1 (.refl _ _ _) S1 (.refl _ os1) rfl) ?_
      have fin:∀ {c3:Ctx} {s3':St} {s3:RSt (std N)} {a3x:Act} {w3:World},Grow c1 w h1' c3 w3 s3'.h->iO E s3' c3 w3 a3x->SR s3' s3->Keep sg.objs.length os1 s3.h->
        U0 (std N) X sg fn s3 (λy=>y=ct.fn x)->
        a3x.defers=[]/\∃v,(results fn a3x.tmps).run E.P w3= .ok v w3/\
         Post (λv w'=>∃c' r h' j,Grow c w h c' w' h'/\bG c' w' h'/\c'.n=nm hs.length j/\bD c' w' v r/\K r h' j) (.returned v) w3:=by
       intro c3 s3' s3 aqX w3 g3 A3 S3 K3 hfin
       refine⟨A3.defers,?_⟩
       generalize hM:U0 (std N) X sg fn s3=M at hfin
       unfold U0 at hM
       split at hM
       ·rename_i rs hrs
        split at hM
        ·rename_i e2 he2
         split at hM
         ·rename_i e3 he3
          split at hM
          ·rename_i Es
           have Es:=I8 Es
           split at hM
           ·rename_i y hy
            subst hM
            obtain⟨aiJ,hfin⟩:=dZ hfin
            have hfin:y=ct.fn x:=hfin
            subst hfin
            obtain⟨ps,rp1,rp2⟩:=Jf (E:=E) hX S3 hrs
            obtain⟨us,ps',u1,u2,u3⟩:=Af hE A3 _ (λq=>q=ps) (rp2 _ rfl)
            subst u3
            refine⟨_,J9 u1,?_⟩
            generalize hbr:(sg.fresh&&e.fro.all λp=> !p.2)=br at hvk hK
            generalize Vk:(if br=true then hs else bg (std m) hs (e.fro.map (·.1)))=h1T at hvk
            have Eu:h1T.length=hs.length:=by
             rw [<-Vk];split
             ·rfl
             ·exact kK _ _ _
            have aiK:nmh h1T=nmh hs:=by
             rw [<-Vk];split
             ·rfl
             ·exact sK _ _ _
            obtain⟨nms,afa⟩:∃nms,newNames e.ren h1T.length sg.dF.length=nms:=⟨_,rfl⟩
            rw [afa]at hvk
            have aiL:nms.length=sg.dF.length:=by rw [<-afa];exact gq _ _ _
            obtain⟨aiM,qs3,x1,x2,x3,x4⟩:=sO (λi=>nms.getD i 0) he2
            obtain⟨afb,os3,y1,y2,y3,y4,y5⟩:=o8 (λi=>nms.getD i 0) (λi=>sG (std m) h1T (nms.getD i 0)) (λj=>KR h1T _) he3
            have hlv3:e3.lv.reverse=aiM++afb:=by rw [y1,x1];simp [es0]
            have aiN:=unpack_pack hy
            rw [hlv3]at aiN
            rw [show unpack (std m).ah sg.out (ct.fn x)=aiM++afb from aiN,x3]at hvk
            simp only at hvk
            have hy3:=y3 []
            rw [List.append_nil]at hy3
            rw [hy3]at hvk
            simp only [Option.some.injEq,Prod.mk.injEq]at hvk
            obtain⟨hv,hkT⟩:=hvk
            have hrl3:e3.ren.length=sg.dF.length:=by rw [y2.len,x2.len,Jc]
            have Hg:∀(i l:Nat),e.ren[i]? =some (some (some l))->i<sg.objs.length:=λi l hi=>by rw [<-hrl];exact(List.getElem?_eq_some_iff.1 hi).1
            have passed:∀(i l:Nat),e.ren[i]? =some (some (some l))->∃o',AE.look h l=some o'/\o'.live:=λi l hi=>by
             have hik:=Hg i l hi
             obtain⟨o2,q1,q2⟩:=hof i _ (List.getElem?_eq_getElem hik)
             obtain⟨_,_,_,_,q3⟩:=q2.rel H HR hck m3 (λh=>by cases h)
             exact q3 l (λhg=>iA.gone hi (by rw [List.getElem?_eq_getElem hik,hg])) hi
            have hlh:∀l o',AE.look h l=some o'->l<hs.length:=λl o' hl=>by rw [<-hcn];exact(H.obj l o' hl).1
            have P:=PW (n:=m) os3 e.ren h1T (λi l hi _=>by rw [Eu];obtain⟨o',q,_⟩:=passed i l hi;exact hlh l o' q) (λi j l hi hj=>iA.dist hi hj)
            rw [y4,afa,hkT]at P
            have abV:∀i,i<sg.dF.length->nms[i]? =some (nms.getD i 0):=λi hi=>by
             have:i<nms.length:=by rw [aiL];exact hi
             simp [List.getD,List.getElem?_eq_getElem this]
            have nmP:∀i,i<sg.dF.length->kT[nms.getD i 0]? =os3[i]? /\(e.ren[i]? =some (some (some (nms.getD i 0)))\/(hs.length<=nms.getD i 0/\∀q:Nat,e.ren[i]? ≠some (some (some q)))):=λi hi=>by
             obtain⟨l,q1,q2,q3⟩:=P.at_ i (by rw [y4];exact hi)
             rw [abV i hi]at q1
             have q1:=Option.some.inj q1
             subst q1
             rw [Eu]at q3
             exact⟨q2,q3⟩
            have WL:∀i j,i<sg.dF.length->j<sg.dF.length->nms.getD i 0=nms.getD j 0->i=j:=λi j hi hj hij=>P.inj i j _ (abV i hi) (by rw [hij];exact abV j hj)
            have apm:∀i,i<sg.dF.length->nms.getD i 0<kT.length:=λi hi=>by
             have h3:=(nmP i hi).1
             rw [List.getElem?_eq_getElem (show i<os3.length by rw [y4];exact hi)]at h3
             exact(List.getElem?_eq_some_iff.1 h3).1
            have Sd:∀(i l:Nat),e.ren[i]? =some (some (some l))->nms.getD i 0=l:=λi l hi=>by
             have hik:=Nat.lt_of_lt_of_le (Hg i l hi) hkk
             rcases(nmP i hik).2 with q | ⟨_,q⟩
             ·rw [hi]at q;cases q;rfl
             ·exact absurd hi (q l)
            have hD:∀l,l∈bH e.ren->∃i,i<sg.dF.length/\nms.getD i 0=l/\e.ren[i]? =some (some (some l)):=λl hl=>by
             obtain⟨i,hi⟩:=vB hl
             exact⟨i,Nat.lt_of_lt_of_le (Hg i l hi) hkk,Sd i l hi,hi⟩
            obtain⟨D,ac9⟩:∃D,bH e.ren++(if br=true then []else e.fro.map (·.1))=D:=⟨_,rfl⟩
            rw [ac9]at hK
            have KS:∀l,l∈D↔l∈bH e.ren\/(br=false/\∃f,(l,f)∈e.fro):=λl=>by
             rw [<-ac9];cases br<;>simp
            have vD:∀l f,(l,f)∈e.fro->(∃g cc xs,hs[l]? =some (.rows g cc xs))/\∃o',AE.look h l=some o'/\o'.live:=λl f hl=>by
             obtain⟨_,g,cc,xs,q⟩:=iA.fro l f hl
             obtain⟨o',q1,q2⟩:=HR.old l _ q
             cases q2 with | rows _=>exact⟨⟨g,cc,xs,q⟩,_,q1,trivial⟩
            have Hl:∀l o,AE.look (za D h) l=some o->o.live->l∉D/\AE.look h l=some o:=λl o hl hlv=>by
             by_cases hd:l∈D
             ·rw [Er hd]at hl;cases hl;exact hlv.elim
             ·rw [pz hd]at hl;exact⟨hd,hl⟩
            have Jg:∀l o b,l∉D->AE.look h l=some o->o.live->c.μ l=some b->¬dB c1 h1' b:=λl o b hd hl hlv hb ho=>by
             obtain⟨i,lq,q,q1,q2,q3,q4⟩:=aiG b ho
             have:=H.inj l o lq q b hl hlv q2 q3 hb q4
             subst this
             exact hd ((KS l).2 (.inl (o9 q1)))
            have Sg:∀b,dB c1 h1' b->dB c h b:=λb hb=>by
             obtain⟨i,lq,q,_,q2,q3,q4⟩:=aiG b hb
             exact⟨lq,q,q2,q3,q4⟩
            have kept:∀f b,c.K f b->w3.heap[b]? =w.heap[b]? :=λf b hb=>g3.kept b (H.low f b hb) (λho=>H.own f b (Sg b ho) hb)
            have Hb:bG c w3 (za D h):=by
             refine⟨λl o hl=> ?_,λl o l' o' b q1 q2 q3 q4 q5 q6=> ?_,?_,λf b hb=>Nat.lt_of_lt_of_le (H.low f b hb) g3.size,H.sub⟩
             ·by_cases hd:l∈D
              ·rw [Er hd]at hl;cases hl
               refine⟨?_,trivial⟩
               rcases(KS l).1 hd with h3 | ⟨_,f,h3⟩
               ·obtain⟨i,hi⟩:=vB h3
                obtain⟨o',q,_⟩:=passed i l hi
                exact(H.obj l o' q).1
               ·obtain⟨_,o',q,_⟩:=vD l f h3
                exact(H.obj l o' q).1
              ·rw [pz hd]at hl
               obtain⟨q1,q2⟩:=H.obj l o hl
               exact⟨q1,q2.mono (.refl c) kept g3.stays q1 (λb hlv hb=>g3.kept b (q2.lt hlv hb) (Jg l o b hd hl hlv hb))⟩
             ·obtain⟨_,r1⟩:=Hl l o q1 q2
              obtain⟨_,r2⟩:=Hl l' o' q3 q4
              exact H.inj l o l' o' b r1 q2 r2 q4 q5 q6
             ·rintro f b ⟨l,o,hl,hlv,hb⟩ hk
              obtain⟨_,r1⟩:=Hl l o hl hlv
              exact H.own f b ⟨l,o,r1,hlv,hb⟩ hk
            have WM:∀l o b,AE.look h l=some o->o.live->c.μ l=some b->b<w.heap.size:=λl o b hl hlv hb=>(H.obj l o hl).2.lt hlv hb
            have ada:∀l o b,l∉D->AE.look h l=some o->o.live->c.μ l=some b->¬dB c3 s3'.h b:=λl o b hd hl hlv hb ho=>by
             rcases g3.nS b ho with h3 | h3
             ·exact Jg l o b hd hl hlv hb h3
             ·have:=WM l o b hl hlv hb;omega
            have Si:∀q g b,(q,g)∈e3.fro->c3.μ q=some b->dB c3 s3'.h b:=λq g b hq hb=>by
             obtain⟨_,g',cc,xs,hl⟩:=Es.fro q g hq
             obtain⟨o',q1,q2⟩:=S3.heap.old q _ hl
             cases q2 with | rows _=>exact⟨q,_,q1,trivial,hb⟩
            have aiO:br=true->∀l f,(l,f)∈e.fro->f=false:=λhb l f hl=>by
             rw [<-hbr]at hb
             simp only [Bool.and_eq_true]at hb
             have:=List.all_eq_true.1 hb.2 _ hl
             simpa using this
            have ae3:∀f b,dB c (za D h) b->KX e3 c3 br f b->False:=by
             rintro f b ⟨l,o,hl,hlv,hb⟩ hk
             obtain⟨hd,hl⟩:=Hl l o hl hlv
             rcases hk with hk | ⟨q,g,q1,q2,_⟩
             ·rcases g3.vL _ b hk with h3 | h3 | h3
              ·rcases c1K _ b h3 with h3 | ⟨l2,g2,q1,q2,q3⟩
               ·exact H.own _ b ⟨l,o,hl,hlv,hb⟩ h3
               ·obtain⟨_,o2,r1,r2⟩:=vD l2 g2 q1
                have:=H.inj l o l2 o2 b hl hlv r1 r2 hb q2
                subst this
                cases hbb:br with
                | false=>exact hd ((KS l).2 (.inr ⟨hbb,g2,q1⟩))
                | true=>
                 have h5:=q3 (by rw [hbb];simp)
                 have h6:=aiO hbb l g2 q1
                 rw [h5]at h6;cases h6
              ·have:=WM l o b hl hlv hb;omega
              ·exact Jg l o b hd hl hlv hb h3
             ·exact ada l o b hd hl hlv hb (Si q g b q1 q2)
            have apn:∃μ2:Nat->Option Nat,(∀l,l<hs.length->μ2 l=c.μ l)/\(∀(i q:Nat),i<sg.dF.length->hs.length<=nms.getD i 0->e3.ren[i]? =some (some (some q))->μ2 (nms.getD i 0)=c3.μ q)/\
              (∀i:Nat,i<sg.dF.length->hs.length<=nms.getD i 0->e3.ren[i]? =some (some none)->μ2 (nms.getD i 0)=none):=by
             have hch:∀l,∃ob:Option Nat,(l<hs.length->ob=c.μ l)/\(∀(i q:Nat),i<sg.dF.length->hs.length<=l->nms.getD i 0=l->e3.ren[i]? =some (some (some q))->ob=c3.μ q)/\
               (∀i:Nat,i<sg.dF.length->hs.length<=l->nms.getD i 0=l->e3.ren[i]? =some (some none)->ob=none):=by
              intro l
              by_cases hl:l<hs.length
              ·exact⟨c.μ l,λ_=>rfl,λi q _ h4=>by omega,λi _ h4=>by omega⟩
              ·by_cases hx:∃i q:Nat,i<sg.dF.length/\nms.getD i 0=l/\e3.ren[i]? =some (some (some q))
               ·obtain⟨i,q,h4,h5,h6⟩:=hx
                refine⟨c3.μ q,λh=>absurd h hl,λj q' h7 _ h9 h10=> ?_,λj h7 _ h9 h10=> ?_⟩
                ·have:=WL i j h4 h7 (h5.trans h9.symm);subst this
                 rw [h6]at h10;cases h10;rfl
                ·have:=WL i j h4 h7 (h5.trans h9.symm);subst this
                 rw [h6]at h10;cases h10
               ·exact⟨none,λh=>absurd h hl,λj q' h7 _ h9 h10=>absurd ⟨j,q',h7,h9,h10⟩ hx,λ_ _ _ _ _=>rfl⟩
             obtain⟨μ2,afc⟩:=Classical.axiomOfChoice hch
             exact⟨μ2,λl hl=>(afc l).1 hl,λi q h4 h5 h6=>(afc _).2.1 i q h4 h5 rfl h6,λi h4 h5 h6=>(afc _).2.2 i h4 h5 rfl h6⟩
            obtain⟨μ2,μa,μb,μc⟩:=apn
            have PX:∀(i:Nat) (v:Option Nat),i<sg.objs.length->e3.ren[i]? =some (some v)->v=some i/\(es0 (std N) sg.objs.length sg.dF).ren[i]? =some (some (some i)):=λi v hi hv=>by
             have hik:=Nat.lt_of_lt_of_le hi hkk
             have h0:=Jb (n:=N) hi hik
             have hg:qc sg.dF[i]? =false:=by
              unfold qc;split
              ·rename_i hh;exact absurd hh (Es.gone hv)
              ·rfl
             rw [hg]at h0
             have h0:(es0 (std N) sg.objs.length sg.dF).ren[i]? =some (some (some i)):=by simpa using h0
             have:=y2.ren i _ (x2.ren i _ h0)
             rw [hv]at this;cases this
             exact⟨rfl,h0⟩
            have hname:∀(i q:Nat),e3.ren[i]? =some (some (some q))->μ2 (nms.getD i 0)=c3.μ q:=λi q hi=>by
             have hik:i<sg.dF.length:=by rw [<-hrl3];exact(List.getElem?_eq_some_iff.1 hi).1
             rcases(nmP i hik).2 with h4 | ⟨h4,_⟩
             ·have hio:=Hg i _ h4
              obtain⟨h5,_⟩:=PX i _ hio hi
              cases h5
              obtain⟨o',h6,_⟩:=passed i _ h4
              rw [μa _ (hlh _ o' h6),g3.le.μ i (by rw [c1n];exact hio)]
              exact(m3.name i _ h4).2.symm
             ·exact μb i q hik h4 hi
            have hnil:∀(i:Nat),e3.ren[i]? =some (some none)->μ2 (nms.getD i 0)=none:=λi hi=>by
             have hik:i<sg.dF.length:=by rw [<-hrl3];exact(List.getElem?_eq_some_iff.1 hi).1
             rcases Nat.lt_or_ge i sg.objs.length with h4 | h4
             ·obtain⟨h5,_⟩:=PX i _ h4 hi;cases h5
             ·rcases(nmP i hik).2 with h5 | ⟨h5,_⟩
              ·have:=Hg i _ h5;omega
              ·exact μc i hik h5 hi
            have hsame:Same hs kT:=λl z hz=>by
             have hll:l<hs.length:=by
              rcases Nat.lt_or_ge l hs.length with hl | hl
              ·exact hl
              ·simp [nmh,List.getElem?_eq_none hl]at hz
             by_cases hp:∃i:Nat,e.ren[i]? =some (some (some l))
             ·obtain⟨i,hi⟩:=hp
              have hio:=Hg i l hi
              have hik:=Nat.lt_of_lt_of_le hio hkk
              have hn:=Sd i l hi
              have hat:=(nmP i hik).1
              rw [hn]at hat
              obtain⟨k3,hk3⟩:∃k3,sg.dF[i]? =some k3:=⟨_,List.getElem?_eq_getElem hik⟩
              obtain⟨o3,r1,r2⟩:=y5 e3 (.refl _) i k3 hk3
              rw [Nat.zero_add]at r2
              have goal:nmh [o3] 0=some z->nmh kT l=some z:=λhh=>by
               simp only [nmh,hat,r1];simpa [nmh]using hh
              by_cases hg:k3= .gone
              ·refine goal ?_
               rw [r2.gone hg]
               show nmh [sG (std m) h1T (nms.getD i 0)] 0=some z
               rw [hn]
               rw [<-aiK]at hz
               unfold sG
               simp only [nmh]at hz ⊢
               split at hz
               ·rename_i hh;rw [hh];simpa using hz
               ·rename_i hh;rw [hh];simpa using hz
               ·cases hz
              ·obtain⟨v3,hv3⟩:=r2.live hg
               obtain⟨h5,h6⟩:=PX i _ hio hv3
               subst h5
               obtain⟨o1',s1,s2⟩:=hof i _ (List.getElem?_eq_getElem hio)
               have apo:sg.objs[i]≠ .gone:=λhh=>iA.gone hi (by rw [List.getElem?_eq_getElem hio,hh])
               have t1:=s2.s1 l z.1 z.2 apo hi (by rw [hz])
               have apq:qb (std m) e i=none:=by simp [qb,htr]
               rw [apq]at t1
               have t2:nmh os1 i=some z:=by simp only [nmh,s1];simpa [nmh]using t1
               rcases(K3 i hio).2 z t2 with⟨cc,nn,hgo⟩ | t3
               ·exfalso
                obtain⟨v3',aqY⟩:=r2.live hg
                have:=G9 he3 (i:=i) hk3 hg (l:=i) (by rw [Nat.zero_add];exact hv3)
                obtain⟨o4,ho4,apr⟩:=this
                rw [hgo]at ho4;cases ho4
                exact apr ⟨_,_,rfl⟩
               ·have aps:qb (std N) e3 i=none:=by rw [y2.tr i _ (x2.ren i _ h6),x2.tr i _ h6];rfl
                have t4:=r2.s1 i z.1 z.2 hg hv3 (by rw [t3])
                rw [aps]at t4
                exact goal t4
             ·have hp':∀i:Nat,i<os3.length->e.ren[i]? ≠some (some (some l)):=λi _ hi=>hp ⟨i,hi⟩
              have:=P.old l (by rw [Eu];exact hll) hp'
              rw [<-aiK]at hz
              simp only [nmh,this]
              exact hz
            have apt:∀(j:Nat) (kk:SkO),sg.dF[j]? =some kk->∃o2,os3[j]? =some o2/\OF e3 s3.h (λi=>nms.getD i 0) j kk (sG (std m) h1T (nms.getD j 0)) o2:=λj kk hj=>by
             obtain⟨o2,q1,q2⟩:=y5 e3 (.refl _) j kk hj
             exact⟨o2,q1,by simpa using q2⟩
            have apu:br=true->sg.dF.all SkO.fresh=true:=λhb=>by
             rw [<-hbr]at hb
             simp only [Bool.and_eq_true,Sig.fresh]at hb
             exact hb.1.2
            have apv:br=true->sg.res.all SkV.fresh=true:=λhb=>by
             rw [<-hbr]at hb
             simp only [Bool.and_eq_true,Sig.fresh]at hb
             exact hb.1.1
            obtain⟨o3f,z1,z2,z3,z4,z5,z6⟩:=xU (ks:=sg.dF) (nm:=λi=>nms.getD i 0) (old:=λi=>sG (std m) h1T (nms.getD i 0)) A3.abs.heap S3.heap aiJ Es hrl3 y4 apt (cb:=c) (hb':=za D h)
             Hb br apu (μ2:=μ2) (n2:=kT.length) (by rw [hcn,<-Eu];exact P.len) (λl hl=>μa l (by rw [<-hcn];exact hl)) apm WL hname hnil (h2:=kT) (λi hi=>(nmP i hi).1)
             (λl o hl ho=>by
              have hll:l<hs.length:=by
               rcases Nat.lt_or_ge l hs.length with h4 | h4
               ·exact h4
               ·obtain⟨i,q1,q2⟩:=P.new l (by rw [Eu];exact h4) (List.getElem?_eq_some_iff.1 ho).1
                rw [y4]at q1
                rw [abV i q1]at q2
                exact absurd (Option.some.inj q2) (hl i q1)
              have hnp:l∉bH e.ren:=λhp=>by
               obtain⟨i,q1,q2,_⟩:=hD l hp
               exact hl i q1 q2
              have h5:=P.old l (by rw [Eu];exact hll) (λi hi hh=>hnp (o9 hh))
              rw [h5]at ho
              by_cases hd:l∈D
              ·rcases(KS l).1 hd with h6 | ⟨hb0,f,h6⟩
               ·exact absurd h6 hnp
               ·rw [<-Vk,hb0]at ho
                simp only [Bool.false_eq_true,if_false]at ho
                obtain⟨⟨g,cc,xs,h7⟩,_⟩:=vD l f h6
                have:Gone (bg (std m) hs (e.fro.map (·.1))) l:=y9 (List.mem_map.2 ⟨_,h6,rfl⟩) h7
                obtain⟨c5,n5,h8⟩:=this
                rw [h8]at ho;cases ho
                exact⟨.gone,Er hd,.gone⟩
              ·have h7:hs[l]? =some o:=by
                rw [<-Vk]at ho
                split at ho
                ·exact ho
                ·rename_i hb0
                 rw [jc m _ _ (λh8=>hd ((KS l).2 (.inr ⟨by simpa using hb0,by
                  obtain⟨p,hp,rfl⟩:=List.mem_map.1 h8
                  exact⟨p.2,hp⟩⟩)))]at ho
                 exact ho
               obtain⟨o',r1,r2⟩:=HR.old l _ h7
               exact⟨o',by rw [pz hd];exact r1,r2.mono hsame⟩)
             (λl hl=>by
              have hll:hs.length<=l:=by have:=P.len;rw [Eu]at this;omega
              have hnd:l∉D:=λhd=>by
               rcases(KS l).1 hd with h4 | ⟨_,f,h4⟩
               ·obtain⟨i,hi⟩:=vB h4
                obtain⟨o',q,_⟩:=passed i l hi
                have:=hlh l o' q;omega
               ·obtain⟨_,o',q,_⟩:=vD l f h4
                have:=hlh l o' q;omega
              rw [pz hnd]
              exact HR.new l hll)
             (λb ⟨l,o,hl,hlv,hb⟩ ho=>by
              obtain⟨hd,hl⟩:=Hl l o hl hlv
              exact ada l o b hd hl hlv hb ho)
             (λf b hk ho=>A3.abs.heap.own f b ho (g3.le.K f b (ae9 f b hk))) ae3
            have wvs:F2 (WV c3 w3 (nmh s3.h)) us rs:=by
             clear he2 x1 x2 x3 x4 hrs u1 rp2
             induction u2 generalizing rs with
             | nil=>cases rp1;exact .nil
             | cons q1 _ ih=>cases rp1 with | cons q3 q4=>exact .cons ⟨_,q1,q3⟩ (ih _ q4)
            obtain⟨apw,w1,w2⟩:=Jd (x4 A3.abs.heap S3.heap y2 aiJ z3 apv wvs)
            have hv3:PVR (nmh kT) (one apw) v:=by rw [<-hv];exact ae8 w2 (Ep (x3 afb))
            have hkl:kT.length=nm hs.length (kT.length-hs.length):=by have:=P.len;rw [Eu]at this;simp [nm];omega
            have apx:∀b,dB c (za D h) b->dB c h b:=λb ⟨l,o,hl,hlv,hb⟩=>⟨l,o,(Hl l o hl hlv).2,hlv,hb⟩
            have adb:∀b,dB c3 s3'.h b->dB c h b\/w.heap.size<=b:=λb hb=>(g3.nS b hb).imp (Sg b) id
            refine⟨_,_,_,kT.length-hs.length,?_,z1,hkl,abU w1,hK _ _ _ hv3 z2 ?_ hkl⟩
            ·refine⟨z5,g3.size,g3.stays,λb hb hno=>g3.kept b hb (λho=>hno (Sg b ho)),λf b hb=> ?_,λb hb=> ?_,g3.os,g3.tape,g3.output⟩
             ·rcases hb with hb | hb | ⟨q,g,q1,q2,_⟩
              ·exact .inl hb
              ·rcases g3.vL _ b hb with h4 | h4 | h4
               ·rcases c1K _ b h4 with h5 | ⟨l2,g2,q1,q2,q3⟩
                ·left
                 cases f with
                 | true=>simpa using h5
                 | false=>cases br with
                  | true=>exact H.sub b (by simpa using h5)
                  | false=>simpa using h5
                ·obtain⟨_,o2,r1,r2⟩:=vD l2 g2 q1
                 exact .inr (.inr ⟨l2,o2,r1,r2,q2⟩)
               ·exact .inr (.inl h4)
               ·exact .inr (.inr (Sg b h4))
              ·rcases adb b (Si q g b q1 q2)with h4 | h4
               ·exact .inr (.inr h4)
               ·exact .inr (.inl h4)
             ·rcases z4 b hb with h4 | ⟨i,lq,q,_,q2,q3,q4⟩
              ·exact .inl (apx b h4)
              ·exact adb b ⟨lq,q,q2,q3,q4⟩
            ·refine⟨hsame,by have:=P.len;rw [Eu]at this;exact this,λl ⟨cc,nn,hgo⟩=> ?_,λl hl hnd=> ?_⟩
             ·have hll:=(List.getElem?_eq_some_iff.1 hgo).1
              have hnp:∀i:Nat,e.ren[i]? ≠some (some (some l)):=λi hi=>by
               obtain⟨o',q1,q2⟩:=passed i l hi
               obtain⟨o2,q3,q4⟩:=HR.old l _ hgo
               rw [q1]at q3;cases q3;cases q4;exact q2.elim
              have hnf:∀f,(l,f)∉e.fro:=λf hf=>by
               obtain⟨⟨g,c5,xs,h7⟩,_⟩:=vD l f hf
               rw [hgo]at h7;cases h7
              refine⟨cc,nn,?_⟩
              rw [P.old l (by rw [Eu];exact hll) (λi _=>hnp i),<-Vk]
              split
              ·exact hgo
              ·rw [jc m _ _ (λh8=>by
                obtain⟨p,hp,rfl⟩:=List.mem_map.1 h8
                exact hnf p.2 hp)]
               exact hgo
             ·have hnp:∀i:Nat,e.ren[i]? ≠some (some (some l)):=λi hi=>hnd ((KS l).2 (.inl (o9 hi)))
              refine⟨?_,?_⟩
              ·rw [P.old l (by rw [Eu];exact hl) (λi _=>hnp i),<-Vk]
               split
               ·rfl
               ·rename_i hb0
                exact jc m _ _ (λh8=>hnd ((KS l).2 (.inr ⟨by simpa using hb0,by
                 obtain⟨p,hp,rfl⟩:=List.mem_map.1 h8
                 exact⟨p.2,hp⟩⟩)))
              ·rw [z6 l (λi hi hh=>by
                rcases(nmP i hi).2 with h4 | ⟨h4,_⟩
                ·rw [hh]at h4;exact hnp i h4
                ·omega),pz hnd]
           ·(subst hM;exact hfin.elim)
          ·(subst hM;exact hfin.elim)
         ·(subst hM;exact hfin.elim)
        ·(subst hM;exact hfin.elim)
       ·(subst hM;exact hfin.elim)
      intro ex a' w' he
      cases ex with
      | outgrown=>exact he.elim
      | panic _=>exact he.elim
      | goto _=>exact he.elim
      | normal=>obtain⟨c3,s3',s3,g1,g2,g3,g4,_,g6⟩:=he;exact fin g1 g2 g3 g4 g6
      | ret=>obtain⟨c3,s3',s3,g1,g2,g3,g4,_,g6⟩:=he;exact fin g1 g2 g3 g4 g6
      | exit i=>obtain⟨c3,s3',s3,g1,g2,g3,g4,_,g6⟩:=he;exact g6.elim
     ·cases hcall
    ·cases hcall
   ·cases hcall
  ·cases hcall
end
end
end Go.TX
namespace Go.TX
open Go Go.AE
structure FM {ρ:Type} (m:(ρ->Prop)->Prop):Prop where
 mono:∀Q Q':ρ->Prop,(∀y,Q y->Q' y)->m Q->m Q'
 one:∀Q:ρ->Prop,m Q->∃y,Q y/\m (λz=>z=y)
 two:∀Q Q':ρ->Prop,m Q->m Q'->∃y,Q y/\Q' y
section
variable {n:Nat} {ρ:Type}
theorem FM.fail:FM (λ_:ρ->Prop=>False):=⟨λ_ _ _ h=>h,λ_ h=>h.elim,λ_ _ h=>h.elim⟩
theorem FM.ret (t:ρ):FM (λQ:ρ->Prop=>Q t):=⟨λ_ _ h hq=>h _ hq,λ_ hq=>⟨t,hq,rfl⟩,λ_ _ h g=>⟨t,h,g⟩⟩
theorem FM.bind {α:Type} {m:(α->Prop)->Prop} {k:α->(ρ->Prop)->Prop} (hm:FM m) (hk:∀t,FM (k t)):FM (λQ=>m λt=>k t Q):=
 ⟨λQ Q' h hq=>hm.mono _ _ (λt ht=>(hk t).mono _ _ h ht) hq,λQ hq=>by
  obtain⟨t,h1,h2⟩:=hm.one _ hq
  obtain⟨y,h3,h4⟩:=(hk t).one _ h1
  exact⟨y,h3,hm.mono _ _ (λt' e=>by subst e;exact h4) h2⟩,λQ Q' h g=>by
  obtain⟨t,h1,h2⟩:=hm.two _ _ h g
  exact(hk t).two _ _ h1 h2⟩
theorem FM.eY {α:Type} {m:(α ⊕ ρ->Prop)->Prop} {k:α->(ρ->Prop)->Prop} (hm:FM m) (hk:∀t,FM (k t)):FM (λQ=>m (CO k Q)):=
 ⟨λQ Q' h hq=>hm.mono _ _ (λt ht=>by
  cases t with
  | inl x=>exact(hk x).mono _ _ h ht
  | inr r=>exact h _ ht) hq,λQ hq=>by
  obtain⟨t,h1,h2⟩:=hm.one _ hq
  cases t with
  | inl x=>
   obtain⟨y,h3,h4⟩:=(hk x).one _ h1
   exact⟨y,h3,hm.mono _ _ (λt' e=>by subst e;exact h4) h2⟩
  | inr r=>exact⟨r,h1,hm.mono _ _ (λt' e=>by subst e;rfl) h2⟩,λQ Q' h g=>by
  obtain⟨t,h1,h2⟩:=hm.two _ _ h g
  cases t with
  | inl x=>exact(hk x).two _ _ h1 h2
  | inr r=>exact⟨r,h1,h2⟩⟩
theorem FM.itW {α:Type} {f:α->(α ⊕ ρ->Prop)->Prop} (hf:∀x,FM (f x)):∀(N:Nat) (x:α),FM (TX.itW N f x)
 | 0,x=>by
  have e:TX.itW 0 f x=λ_=>False:=by funext Q;rw [TX.itW]
  rw [e];exact .fail
 | N+1,x=>by
  have e:TX.itW (N+1) f x=λQ=>f x (CO (TX.itW N f) Q):=by funext Q;rw [TX.itW]
  rw [e];exact .eY (hf x) (FM.itW hf N)
theorem Ay {α:Type} {k k':α->(ρ->Prop)->Prop} {Q Q':ρ->Prop} (hk:∀x,k x Q->k' x Q') (hq:∀y,Q y->Q' y):∀s,CO k Q s->CO k' Q' s
 | .inl x=>hk x
 | .inr r=>hq r
theorem PY {α:Type} {f:α->(α ⊕ ρ->Prop)->Prop} (hf:∀x,FM (f x)) {Q:ρ->Prop}:∀ {N M:Nat} {x:α},N<=M->TX.itW N f x Q->TX.itW M f x Q
 | 0,_,_,_,h=>by rw [TX.itW]at h;exact h.elim
 | N+1,0,_,h,_=>absurd h (by omega)
 | N+1,M+1,x,h,g=>by
  rw [TX.itW]at g ⊢
  exact(hf x).mono _ _ (Ay (λy k=>PY hf (by omega) k) (λ_ k=>k)) g
theorem Ew {α:Type} {f:α->(α ⊕ ρ->Prop)->Prop} (hf:∀x,FM (f x)) {x:α} {Q:ρ->Prop} (h:RX f x Q):∃r,Q r/\∃N,TX.itW N f x (λz=>z=r):=by
 obtain⟨I,μ,h0,hs⟩:=h
 have key:∀(n:Nat) (y:α),μ y<n->I y->∃r,Q r/\∃N,TX.itW N f y (λz=>z=r):=by
  intro n
  induction n with
  | zero=>intro y h;omega
  | succ n ih=>
   intro y hy hI
   obtain⟨s,h1,h2⟩:=(hf y).one _ (hs y hI)
   cases s with
   | inl z=>
    obtain⟨r,q1,N,q2⟩:=ih z (by have:=h1.2;omega) h1.1
    refine⟨r,q1,N+1,?_⟩
    rw [TX.itW]
    exact(hf y).mono _ _ (λs e=>by subst e;exact q2) h2
   | inr r=>
    refine⟨r,h1,1,?_⟩
    rw [TX.itW]
    exact(hf y).mono _ _ (λs e=>by subst e;rfl) h2
 exact key _ x (Nat.lt_succ_self _) h0
theorem FM.iter {α:Type} {f:α->(α ⊕ ρ->Prop)->Prop} (hf:∀x,FM (f x)) (x:α):FM (λQ=>RX f x Q):=by
 refine⟨λQ Q' h ⟨I,μ,h0,hs⟩=>⟨I,μ,h0,λy hy=>(hf y).mono _ _ (Ay (λ_ h=>h) h) (hs y hy)⟩,λQ h=> ?_,λQ Q' h g=> ?_⟩
 rotate_left
 ·obtain⟨r,q1,N,q2⟩:=Ew hf h
  obtain⟨t,g1,M,g2⟩:=Ew hf g
  obtain⟨z,rfl,rfl⟩:=(FM.itW hf (max N M) x).two _ _ (PY hf (Nat.le_max_left ..) q2) (PY hf (Nat.le_max_right ..) g2)
  exact⟨_,q1,g1⟩
 obtain⟨r,q1,N,q2⟩:=Ew hf h
 refine⟨r,q1,?_⟩
 have least:∀y,(∃N,TX.itW N f y (λz=>z=r))->∃N,TX.itW N f y (λz=>z=r)/\∀M,M<N->¬TX.itW M f y (λz=>z=r):=by
  intro y ⟨N,hN⟩
  induction N using Nat.strongRecOn with
  | ind N ih=>
   by_cases h:∃M,M<N/\TX.itW M f y (λz=>z=r)
   ·obtain⟨M,h1,h2⟩:=h;exact ih M h1 h2
   ·exact⟨N,hN,λM hM hh=>h ⟨M,hM,hh⟩⟩
 have pick:∀y,∃N,(∃N,TX.itW N f y (λz=>z=r))->TX.itW N f y (λz=>z=r)/\∀M,M<N->¬TX.itW M f y (λz=>z=r):=λy=>by
  by_cases h:∃N,TX.itW N f y (λz=>z=r)
  ·obtain⟨N,hN⟩:=least y h;exact⟨N,λ_=>hN⟩
  ·exact⟨0,λhh=>absurd hh h⟩
 obtain⟨ν,hν⟩:=Classical.axiomOfChoice pick
 refine⟨λy=>∃N,TX.itW N f y (λz=>z=r),ν,⟨N,q2⟩,λy hy=> ?_⟩
 obtain⟨h1,h2⟩:=hν y hy
 cases hn:ν y with
 | zero=>rw [hn]at h1;rw [TX.itW]at h1;exact h1.elim
 | succ k=>
  rw [hn]at h1
  rw [TX.itW]at h1
  refine(hf y).mono _ _ (Ay (λz hz=> ?_) (λ_ h=>h)) h1
  refine⟨⟨k,hz⟩,?_⟩
  have hz':=hν z ⟨k,hz⟩
  by_cases hlt:ν z<k+1
  ·exact hlt
  ·exact absurd hz (hz'.2 k (by omega))
theorem FM.chk {b:Bool} {m:(ρ->Prop)->Prop} (h:FM m):FM (λQ=>b=true/\m Q):=
 ⟨λ_ _ hq ⟨a,c⟩=>⟨a,h.mono _ _ hq c⟩,λ_ ⟨a,c⟩=>let⟨y,q1,q2⟩:=h.one _ c;⟨y,q1,a,q2⟩,λ_ _ ⟨_,c⟩ ⟨_,d⟩=>h.two _ _ c d⟩
theorem FM.fA {m:(ρ->Prop)->Prop} (h:FM m):∀(ps:List Bool),FM (TX.fA (std n) ps m)
 | []=>h
 | _::ps=> .chk (FM.fA h ps)
theorem FM.cond {b:Bool} {x y:(ρ->Prop)->Prop} (hx:FM x) (hy:FM y):FM (λQ=>(b=true->x Q)/\(b=false->y Q)):=
 ⟨λ_ _ hq ⟨a,c⟩=>⟨λh=>hx.mono _ _ hq (a h),λh=>hy.mono _ _ hq (c h)⟩,λ_ ⟨a,c⟩=>by
  cases b with
  | true=>obtain⟨y,q1,q2⟩:=hx.one _ (a rfl);exact⟨y,q1,λ_=>q2,λh=>by cases h⟩
  | false=>obtain⟨y,q1,q2⟩:=hy.one _ (c rfl);exact⟨y,q1,λh=>(by cases h),λ_=>q2⟩,λ_ _ ⟨a,c⟩ ⟨a',c'⟩=>by
  cases b with
  | true=>exact hx.two _ _ (a rfl) (a' rfl)
  | false=>exact hy.two _ _ (c rfl) (c' rfl)⟩
theorem FM.bind' {ts:List LTy} {m:(fV ts->Prop)->Prop} {k:fV ts->(ρ->Prop)->Prop} (hm:FM m) (hk:∀t,FM (k t)):FM ((std n).bind ts m k):=by
 have:=FM.bind hm hk
 exact this
theorem FM.afd {ts:List LTy} {m:(fV ts ⊕ ρ->Prop)->Prop} {k:fV ts->(ρ->Prop)->Prop} (hm:FM m) (hk:∀t,FM (k t)):FM ((std n).eY ts m k):=by
 have:=FM.eY hm hk
 exact this
theorem FM.inl' {ts:List LTy} (t:fV ts):FM ((std n).inl (ρ:=ρ) ts t):=FM.ret _
theorem FM.inr' {ts:List LTy} {m:(ρ->Prop)->Prop} (h:FM m):FM ((std n).inr (ρ:=ρ) ts m):=by
 have:=FM.bind (k:=λ(r:ρ) (Q:fV ts ⊕ ρ->Prop)=>Q (Sum.inr r)) h λr=>FM.ret _
 exact this
theorem FM.iter' {ts:List LTy} {f:fV ts->(fV ts ⊕ ρ->Prop)->Prop} (hf:∀x,FM (f x)) (x:fV ts):FM ((std n).iter ts f x):=FM.iter hf x
theorem FM.ret' {ts:List LTy} (t:fV ts):FM ((std n).ret ts t):=FM.ret t
theorem FM.use {cr:CR (std n)} {K:SVal->List aM->(ρ->Prop)->Prop} (h:∀v k,FM (K v k)):FM (qI (std n) cr K):=by
  obtain⟨ck,ts,y,k,td,p⟩:=cr
  unfold qI
  cases ts with
  | nil => simp only; split
           · exact h _ _
           · exact .fail
  | cons a b=>
    simp only
    split
    · exact h _ _
    · exact .fail
end
theorem Bz:∀(ts:List LTy),Nonempty (fV ts)
 | []=>⟨()⟩
 | t::r=>by
  obtain⟨y⟩:=Bz r
  have x:Nonempty (LT aC t):=by
   cases t with
   | i=>exact⟨(0:Int)⟩
   | b=>exact⟨false⟩
   | s=>exact⟨(default:ByteArray)⟩
   | l c=>exact⟨([]:List c.den)⟩
   | x c=>exact⟨(default:c.den)⟩
  obtain⟨x⟩:=x
  exact⟨(x,y)⟩
noncomputable def cn {s:Sig} (F:fV s.inp->(fV s.out->Prop)->Prop):Ct aC s:=
 {pre:=λx=> @decide (∃y,F x λz=>z=y) (Classical.propDecidable _)
  fn:=λx=> @Classical.epsilon _ (Bz _) λy=>F x λz=>z=y}
structure Fn (E:Tab) (f:FuncId) {s:Sig} (F:fV s.inp->(fV s.out->Prop)->Prop) (c:Ct aC s):Prop where
 e:c=cn F
 fm:∀x,FM (F x)
 ok:iL E f (gY c)
theorem Fn.cs {E:Tab} {f:FuncId} {s:Sig} {F:fV s.inp->(fV s.out->Prop)->Prop} {c:Ct aC s} (h:Fn E f F c) {x:fV s.inp} {Q:fV s.out->Prop} (g:F x Q):c.pre x=true/\Q (c.fn x):=by
 rw [h.e]
 obtain⟨y,h1,h2⟩:=(h.fm x).one _ g
 have e:∃y,F x λz=>z=y:=⟨y,h2⟩
 refine⟨by simp only [cn];exact @decide_eq_true _ (Classical.propDecidable _) e,?_⟩
 obtain⟨z,k1,k2⟩:=(h.fm x).two _ _ g (@Classical.epsilon_spec _ (λy=>F x λz=>z=y) e)
 have k2:z=(cn F).fn x:=k2
 rw [<-k2];exact k1
variable [aL]
section
variable {n:Nat} {ρ:Type}
theorem FM.region {X:XT} {C:Calls aC} {ops:List Oper} {K:RSt (std n)->(ρ->Prop)->Prop} (hK:∀s,FM (K s)):∀(rest:List Oper) (s:RSt (std n)),FM (dL (std n) X C ops rest K s)
 | [],s=>by unfold dL;exact hK s
 | o::rest,s=>by
  have ih:=FM.region (X:=X) (C:=C) (ops:=ops) hK rest
  unfold dL
  split
  ·split
   ·split
    ·split
     ·refine FM.fA ?_ _
      rw [CX];exact ih _
     ·exact .fail
    ·split
     ·exact FM.fA (FM.use λv k=>ih _) _
     ·exact .fail
   ·split
    ·split
     ·exact ih _
     ·split
      ·split
       ·exact FM.fA (ih _) _
       ·exact .fail
      ·split
       ·split
        ·exact FM.fA (FM.use λv k=>ih _) _
        ·exact .cond (FM.fA (FM.use λv k=>ih _) _) (ih _)
       ·exact .fail
     ·exact .fail
    ·exact .fail
  ·exact .fail
theorem FM.draw {X:XT} {C:Calls aC} {ops:List Oper} {K:RSt (std n)->(ρ->Prop)->Prop} (hK:∀s,FM (K s)):∀(rest:List dY) (hs:List (Nat×List Nat)) (s:RSt (std n)),FM (gJ (std n) X C ops rest hs K s)
 | [],hs,s=>by unfold gJ;exact hK s
 | (i,rs,cs)::rest,hs,s=>by
  have ih:=FM.draw (X:=X) (C:=C) (ops:=ops) hK rest
  unfold gJ
  split
  ·exact .fail
  ·split
   ·simp only
    split
    ·split
     ·exact .fail
     ·split
      ·split
       ·refine FM.fA ?_ _
        rw [CX];exact ih _ _
       ·exact .fail
      ·split
       ·split
        ·exact ih _ _
        ·split
         ·exact FM.fA (ih _ _) _
         ·exact .fail
        ·exact .fail
       ·exact .fail
    ·split
     ·exact FM.fA (ih _ _) _
     ·exact ih _ _
     ·exact .fail
    ·split
     ·exact FM.fA (ih _ _) _
     ·exact .fail
    ·split
     ·split
      ·split
       ·exact FM.fA (FM.use λv k=>ih _ _) _
       ·exact .fail
      ·exact .fail
     ·split
      ·split
       ·exact ih _ _
       ·split
        ·split
         ·split
          ·exact FM.fA (FM.use λv k=>ih _ _) _
          ·exact .cond (FM.fA (FM.use λv k=>ih _ _) _) (ih _ _)
         ·exact .fail
        ·exact .fail
       ·exact .fail
      ·exact .fail
   ·exact .fail
theorem FM.cut {k:Nat} {sk:Gn} {pl:Bool} {s:RSt (std n)} {K:Exit->RSt (std n)->(ρ->Prop)->Prop} (hK:∀e s,FM (K e s)) {W: {σ:Type}->(Exit->RSt (std n)->(σ->Prop)->Prop)->(σ->Prop)->Prop}
  (hW:∀ {σ:Type} {K':Exit->RSt (std n)->(σ->Prop)->Prop},(∀e s,FM (K' e s))->FM (W K')):FM (PG (std n) k sk pl s K W):=by
 unfold PG
 split
 ·refine FM.bind' (hW λe s=> ?_) (λt=>hK _ _)
  split
  ·split
   ·exact FM.fA (FM.ret' _) _
   ·exact .fail
  ·exact .fail
 ·refine FM.afd (hW λe s=> ?_) (λt=>hK _ _)
  split
  ·split
   ·exact FM.fA (FM.inl' _) _
   ·exact .fail
  ·exact FM.inr' (hK _ _)
theorem FM.reg {X:XT} {C:Calls aC} {ord:Nat->List dY} {chk:Nat->Array Oper->Nat->Bool} {id:Nat} {ops:Array Oper} {draw:Bool} {s:RSt (std n)} {K:Exit->RSt (std n)->(ρ->Prop)->Prop} (hK:∀e s,FM (K e s)):
  FM ((if draw then(if chk id ops s.m then gJ (std n) X C ops.toList (ord id) [] (λs=>K .normal s) s else(std n).fail)else dL (std n) X C ops.toList ops.toList (λs=>K .normal s) s:(std n).M ρ)):=by
 split
 ·split
  ·exact FM.draw (λs=>hK _ s) _ _ _
  ·exact .fail
 ·exact FM.region (λs=>hK _ s) _ _
end
theorem FM.exec {n:Nat} {X:XT} {C:Calls aC} {ord:Nat->List dY} {chk:Nat->Array Oper->Nat->Bool} {k:Nat}:∀(code:Code) {ρ:Type} (an:Ann) (s:RSt (std n)) (K:Exit->RSt (std n)->(ρ->Prop)->Prop),(∀e s,FM (K e s))->FM (bI (std n) X C ord chk k an code s K)
  | .skip,ρ,an,s,K,hK=>by cases an<;>exact hK _ _
  | .region id ops draw,ρ,an,s,K,hK=>by
    simp only [bI]
    split
    · exact FM.cut hK λhK'=>FM.reg hK'
    · exact FM.reg hK
  | .seq x y,ρ,an,s,K,hK=>by
    have main:∀a1 a2 (K1:Exit->RSt (std n)->(ρ->Prop)->Prop),(∀s',K1 .normal s'=bI (std n) X C ord chk k a2 y s' K)->(∀e s',e≠ .normal->K1 e s'=K e s')->FM (bI (std n) X C ord chk k a1 x s K1):=by
      intro a1 a2 K1 h1 h2
      refine FM.exec x a1 s K1 λe s'=> ?_
      by_cases he:e= .normal
      · subst he;rw [h1];exact FM.exec y a2 s' K hK
      · rw [h2 e s' he];exact hK _ _
    cases an with
    | seq a1 a2=>rw [bI];exact main a1 a2 _ (λ_=>rfl) (λe s' he=>by cases e<;>first | rfl | exact absurd rfl he)
    | u=>rw [bI];exact main .u .u _ (λ_=>rfl) (λe s' he=>by cases e<;>first | rfl | exact absurd rfl he)
    | _=>simp only [bI];exact .fail
  | .cond cd x y,ρ,an,s,K,hK=>by
    simp only [bI]
    split
    · split
      · exact .cond (FM.exec x _ s K hK) (FM.exec y _ s K hK)
      · exact .cond (FM.exec x _ s K hK) (FM.exec y _ s K hK)
      · exact FM.cut hK λhK'=> .cond (FM.exec x _ s _ hK') (FM.exec y _ s _ hK')
      · exact .fail
    · exact .fail
  | .block id b,ρ,an,s,K,hK=>by
    have main:∀ {σ:Type} {K':Exit->RSt (std n)->(σ->Prop)->Prop},(∀e s,FM (K' e s))->∀a1 (K1:Exit->RSt (std n)->(σ->Prop)->Prop),(∀e s',K1 e s'=K' e s'\/K1 e s'=K' .normal s')->FM (bI (std n) X C ord chk k a1 b s K1):=by
      intro σ K' hK' a1 K1 h1
      refine FM.exec b a1 s K1 λe s'=> ?_
      rcases h1 e s' with h | h<;>rw [h]<;>exact hK' _ _
    have alt:∀ {σ:Type} {K':Exit->RSt (std n)->(σ->Prop)->Prop} (e:Exit) (s':RSt (std n)),(match e with | .exit i=>if i==id then K' .normal s' else K' (.exit i) s' | e=>K' e s':(std n).M σ)=K' e s'\/(match e with | .exit i=>if i==id then K' .normal s' else K' (.exit i) s' | e=>K' e s':(std n).M σ)=K' .normal s':=by
      intro σ K' e s'
      cases e with
      | exit i => simp only; split
                  · exact .inr rfl
                  · exact .inl rfl
      | _=>exact .inl rfl
    simp only [bI]
    split
    · exact main hK _ _ alt
    · exact main hK _ _ alt
    · exact FM.cut hK λhK'=>main hK' _ _ alt
    · exact .fail
  | .loop b,ρ,an,s,K,hK=>by
    cases an with
    | loop sk a1=>
      rw [bI]
      split
      · refine FM.fA (FM.iter' (λx=>FM.exec b a1 _ _ λe s'=> ?_) _) _
        split
        · split
          · exact FM.fA (FM.inl' _) _
          · exact .fail
        · exact FM.inr' (hK _ _)
      · exact .fail
    | _=>simp only [bI];exact .fail
  | .exit i,ρ,an,s,K,hK=>by cases an<;>exact hK _ _
  | .ret,ρ,an,s,K,hK=>by cases an<;>exact hK _ _
  | .rangeFunc ..,ρ,an,s,K,hK=>by cases an<;>(simp only [bI];exact .fail)
  | .scope _,ρ,an,s,K,hK=>by cases an<;>(simp only [bI];exact .fail)
  | .label _,ρ,an,s,K,hK=>by cases an<;>(simp only [bI];exact .fail)
  | .goto _,ρ,an,s,K,hK=>by cases an<;>(simp only [bI];exact .fail)
  | .refuse _,ρ,an,s,K,hK=>by cases an<;>(simp only [bI];exact .fail)
theorem FM.run {n:Nat} {X:XT} {C:Calls aC} {ord:Nat->List dY} {chk:Nat->Array Oper->Nat->Bool} {an:Ann} {sg:Sig} {fn:Func} {code:Code} (x:fV sg.inp):FM (jU (std n) X C ord chk an sg fn code x):=by
 unfold jU
 split
 ·exact .fail
 ·split
  ·split
   ·refine FM.exec code an _ _ λe s=> ?_
    have he:FM (U0 (std n) X sg fn s):=by
     unfold U0
     split
     ·split
      ·split
       ·split
        ·split
         ·exact FM.fA (FM.ret' _) _
         ·exact .fail
        ·exact .fail
       ·exact .fail
      ·exact .fail
     ·exact .fail
    split
    ·exact he
    ·exact he
    ·exact .fail
   ·exact .fail
  ·exact .fail
def ofL (C:Car) (l:List (FuncId×Sigma (Ct C))):Calls C:=λf=>(l.filter λp=>p.1==f).map (·.2)
def WO (l:List (Nat×List dY)) (i:Nat):List dY:=match l.find? λp=>p.1==i with | some p=>p.2 | none=> []
def abW (E:Tab) (l:List (Nat×List dY)) (id:Nat) (ops:Array Oper) (m:Nat):Bool:=IK ops.toList (WO l id)&&yL E m ops.toList&&IQ E.P ops.toList
theorem abX {E:Tab} {l:List (Nat×List dY)}:∀id ops m,abW E l id ops m=true->Static E (WO l) id ops m:=λ_ _ _ h=>h
theorem afe {E:Tab} {l:List (FuncId×Sigma (Ct aC))} (h:∀p∈l,iL E p.1 (gY p.2.2)):nY E (jy (ofL aC l)):=by
 intro f R hR
 unfold jy at hR
 split at hR
 ·cases hR
 ·cases hR
  rename_i hne
  have hall:∀ct∈ofL aC l f,iL E f (gY ct.2):=λct hct=>by
   obtain⟨p,hp,rfl⟩:=List.mem_map.1 hct
   obtain⟨hp1,hp2⟩:=List.mem_filter.1 hp
   have:p.1=f:=by simpa using hp2
   rw [<-this];exact h p hp1
  obtain⟨ct,hct⟩:=List.exists_mem_of_ne_nil _ hne
  exact⟨(hall ct hct).enters,λargs h n K ⟨ct,hct,hk⟩=>(hall ct hct).calls args h n K hk⟩
def Ru (X:XT) (E:Tab) (A:Alg) (ord:List (Nat×List dY)) (an:Ann) (s:Sig) (fn:Func) (l:List (FuncId×Sigma (Ct A.ah))) (F:Tup A.ah s.inp->A.M (Tup A.ah s.out)):Prop:=
 ∀x,jU A X (ofL A.ah l) (WO ord) (abW E ord) an s fn (fn.body.getD .skip) x=F x
section
variable {X:XT} {E:Tab} (hE:aK E) (hX:XOK X E) (hm:E.P.follows .mixedOrders=true)
include hE hX hm
theorem apy {f:FuncId} {fn:Func} (hf:E.P.funcs[f]? =some fn) (hb:fn.body.isSome=true) (hent:∀c,fn.body=some c->Enters E.P f) {l:List (FuncId×Sigma (Ct aC))} (hl:∀p∈l,iL E p.1 (gY p.2.2)) {ord:List (Nat×List dY)} {sg:Sig} {an:Ann}
  {F:fV sg.inp->(fV sg.out->Prop)->Prop} (hrun:Ru X E (std 0) ord an sg fn l F):Fn E f F (cn F):=by
 obtain⟨code,hb⟩:=Option.isSome_iff_exists.1 hb
 have hr:∀x,jU (std 0) X (ofL aC l) (WO ord) (abW E ord) an sg fn code x=F x:=λx=>by have:=hrun x;rw [hb]at this;exact this
 have hFM:∀x,FM (F x):=λx=>by rw [<-hr x];exact FM.run x
 refine⟨rfl,hFM,aiE hE hX (afe hl) hm (ord:=WO ord) (chk:=abW E ord) abX hf hb (hent _ hb) (an:=an) (λx hx=> ?_)⟩
 rw [hr x]
 simp only [cn]at hx
 exact @Classical.epsilon_spec _ (λy=>F x λz=>z=y) (@of_decide_eq_true _ (Classical.propDecidable _) hx)
end
abbrev aL.z : aL := ⟨[], []⟩
abbrev Tup.q {C : Car} {a b c d : LTy} {ts : List LTy} (x : Tup C (a :: b :: c :: d :: ts)) : Tup C ts := x.2.2.2.2
abbrev Tup.o {C : Car} {a b c d e f g h : LTy} {ts : List LTy} (x : Tup C (a :: b :: c :: d :: e :: f :: g :: h :: ts)) : Tup C ts := x.2.2.2.2.2.2.2.2
abbrev Pt (A : Alg) (s : Sig) : Type := Tup A.ah s.inp -> A.B
abbrev Ft (A : Alg) (s : Sig) : Type := Tup A.ah s.inp -> Tup A.ah s.out
abbrev Ot (A : Alg) (s : Sig) : Type := A.M (Tup A.ah s.out)
structure Al (A:Alg) where
 n:Int->A.I
 z:A.I
 u:A.I
 T:A.B
 F:A.B
 e:A.I->A.I->A.B
 d:A.I->A.I->A.B
 l:A.I->A.I->A.B
 m:A.I->A.I->A.B
 g:A.I->A.I->A.B
 h:A.I->A.I->A.B
 p:A.I->A.I->A.I
 q:A.I->A.I->A.I
 t:A.I->A.I->A.I
 i: {ρ:Type}->A.I->(Tup A.ah [.i]->A.M ρ)->A.M ρ
 b: {ρ:Type}->A.B->(Tup A.ah [.b]->A.M ρ)->A.M ρ
 s: {ρ:Type}->(t:LTy)->LT A.ah t->(Tup A.ah [t]->A.M ρ)->A.M ρ
 j: {ρ:Type}->{i o:List LTy}->(Tup A.ah i->A.B)->(Tup A.ah i->Tup A.ah o)->Tup A.ah i->(Tup A.ah o->A.M ρ)->A.M ρ
 k: {ρ:Type}->{i o:List LTy}->A.B->(Tup A.ah i->A.B)->(Tup A.ah i->Tup A.ah o)->Tup A.ah i->(Tup A.ah o->A.M ρ)->A.M ρ
 v:A.B->A.M (Tup A.ah [.b])
 w: {ρ:Type}->(c:Co)->A.L c->A.I->A.M ρ->A.M ρ
 c: {ρ:Type}->A.B->A.M ρ->A.M ρ->A.M ρ
 C: {ρ:Type}->A.B->A.M ρ->A.M ρ
 r: {ts:List LTy}->Tup A.ah ts->A.M (Tup A.ah ts)
 L: {ρ:Type}->{ts:List LTy}->Tup A.ah ts->A.M (Sum (Tup A.ah ts) ρ)
 R: {ρ:Type}->{ts:List LTy}->A.M ρ->A.M (Sum (Tup A.ah ts) ρ)
 I: {ρ:Type}->(ts:List LTy)->(Tup A.ah ts->A.M (Sum (Tup A.ah ts) ρ))->Tup A.ah ts->A.M ρ
 f:(c:Co)->Nat->A.X c->A.I
 D:(c:Co)->Nat->(c':Co)->A.X c->A.L c'
 x:(c:Co)->Tup A.ah c.sj->A.X c
 y:(c:Co)->A.L c->A.I
 o:(c:Co)->A.L c->A.I->A.X c
 a:A.B->A.B->A.B->A.B
 N:A.B->A.B
 O:A.B->A.B->A.B
abbrev Alg.al (A : Alg) : Al A where
 n:=A.lit
 z:=A.lit 0
 u:=A.lit 1
 T:=A.bl true
 F:=A.bl false
 e:=A.cmp .eql
 d:=A.cmp .neq
 l:=A.cmp .lss
 m:=A.cmp .leq
 g:=A.cmp .gtr
 h:=A.cmp .geq
 p:=A.arith .add .i64
 q:=A.arith .sub .i64
 t:=A.arith .mul .i64
 i:=λv k=>A.bV [.i] (v,()) k
 b:=λv k=>A.bV [.b] (v,()) k
 s:=λt v k=>A.bV [t] (v,()) k
 j:=λp f a k=>A.chk (p a) (A.bV _ (f a) k)
 k:=λb p f a k=>A.chk (A.orB (A.Gm b) (p a)) (A.bV _ (f a) k)
 v:=λv=>A.bV [.b] (v,()) λx=>A.ret [.b] (x.1,())
 w:=λc l i m=>A.chk (A.cmp .leq (A.lit 0) i) (A.chk (A.cmp .lss i (A.len c l)) m)
 c:=A.cond
 C:=A.chk
 r:=A.ret _
 L:=A.inl _
 R:=A.inr _
 I:=A.iter
 f:=A.fI
 D:=A.fL
 x:=A.mkX
 y:=A.len
 o:=A.get
 a:=A.abJ
 N:=A.Gm
 O:=A.orB
abbrev SkC.i : SkC := .int .i64
abbrev SkV.i : SkV := .c (.int .i64)
abbrev SkV.b : SkV := .c .bool
abbrev SkV.p (l s : Nat) : SkV := .c (.pb l s 0)
abbrev SkV.o (l : Nat) : SkV := .c (.own l)
abbrev SkV.r (f : Bool) (c : Co) : SkV := .c (.rows f c)
abbrev SkO.g (l : List SkC) : SkO := .box (.agg l)
abbrev SkO.s (f : Bool) (c : Co) : SkO := .box (.sv f c)
abbrev Ann.v (a : Ann) : Ann := .seq .u a
abbrev od (n : Nat) (l : List Nat) : dY := (n, l, [])
end Go.TX
namespace Go.TX.F
open Go Go.AE Go.TX
set_option maxRecDepth 100000
abbrev _root_.Go.TX.Tup.e1 {C : Car} {a0 : LTy} (x : Tup C [a0]) : Tup C [a0] := (x.1, ())
abbrev _root_.Go.TX.Tup.e2 {C : Car} {a0 a1 : LTy} (x : Tup C [a0, a1]) : Tup C [a0, a1] := (x.1, x.2.1, ())
abbrev _root_.Go.TX.Tup.e3 {C : Car} {a0 a1 a2 : LTy} (x : Tup C [a0, a1, a2]) : Tup C [a0, a1, a2] := (x.1, x.2.1, x.2.2.1, ())
abbrev _root_.Go.TX.Tup.e4 {C : Car} {a0 a1 a2 a3 : LTy} (x : Tup C [a0, a1, a2, a3]) : Tup C [a0, a1, a2, a3] := (x.1, x.2.1, x.2.2.1, x.2.2.2.1, ())
abbrev _root_.Go.TX.Tup.e5 {C : Car} {a0 a1 a2 a3 a4 : LTy} (x : Tup C [a0, a1, a2, a3, a4]) : Tup C [a0, a1, a2, a3, a4] := (x.1, x.2.1, x.2.2.1, x.2.2.2.1, x.2.2.2.2.1, ())
abbrev _root_.Go.TX.Tup.e6 {C : Car} {a0 a1 a2 a3 a4 a5 : LTy} (x : Tup C [a0, a1, a2, a3, a4, a5]) : Tup C [a0, a1, a2, a3, a4, a5] := (x.1, x.2.1, x.2.2.1, x.2.2.2.1, x.2.2.2.2.1, x.2.2.2.2.2.1, ())
abbrev _root_.Go.TX.Tup.e7 {C : Car} {a0 a1 a2 a3 a4 a5 a6 : LTy} (x : Tup C [a0, a1, a2, a3, a4, a5, a6]) : Tup C [a0, a1, a2, a3, a4, a5, a6] := (x.1, x.2.1, x.2.2.1, x.2.2.2.1, x.2.2.2.2.1, x.2.2.2.2.2.1, x.2.2.2.2.2.2.1, ())
abbrev _root_.Go.TX.Tup.e8 {C : Car} {a0 a1 a2 a3 a4 a5 a6 a7 : LTy} (x : Tup C [a0, a1, a2, a3, a4, a5, a6, a7]) : Tup C [a0, a1, a2, a3, a4, a5, a6, a7] := (x.1, x.2.1, x.2.2.1, x.2.2.2.1, x.2.2.2.2.1, x.2.2.2.2.2.1, x.2.2.2.2.2.2.1, x.2.2.2.2.2.2.2.1, ())
abbrev _root_.Go.TX.Tup.e9 {C : Car} {a0 a1 a2 a3 a4 a5 a6 a7 a8 : LTy} (x : Tup C [a0, a1, a2, a3, a4, a5, a6, a7, a8]) : Tup C [a0, a1, a2, a3, a4, a5, a6, a7, a8] := (x.1, x.2.1, x.2.2.1, x.2.2.2.1, x.2.2.2.2.1, x.2.2.2.2.2.1, x.2.2.2.2.2.2.1, x.2.2.2.2.2.2.2.1, x.2.2.2.2.2.2.2.2.1, ())
abbrev _root_.Go.TX.Tup.e10 {C : Car} {a0 a1 a2 a3 a4 a5 a6 a7 a8 a9 : LTy} (x : Tup C [a0, a1, a2, a3, a4, a5, a6, a7, a8, a9]) : Tup C [a0, a1, a2, a3, a4, a5, a6, a7, a8, a9] := (x.1, x.2.1, x.2.2.1, x.2.2.2.1, x.2.2.2.2.1, x.2.2.2.2.2.1, x.2.2.2.2.2.2.1, x.2.2.2.2.2.2.2.1, x.2.2.2.2.2.2.2.2.1, x.2.2.2.2.2.2.2.2.2.1, ())
abbrev _root_.Go.TX.Tup.e11 {C : Car} {a0 a1 a2 a3 a4 a5 a6 a7 a8 a9 a10 : LTy} (x : Tup C [a0, a1, a2, a3, a4, a5, a6, a7, a8, a9, a10]) : Tup C [a0, a1, a2, a3, a4, a5, a6, a7, a8, a9, a10] := (x.1, x.2.1, x.2.2.1, x.2.2.2.1, x.2.2.2.2.1, x.2.2.2.2.2.1, x.2.2.2.2.2.2.1, x.2.2.2.2.2.2.2.1, x.2.2.2.2.2.2.2.2.1, x.2.2.2.2.2.2.2.2.2.1, x.2.2.2.2.2.2.2.2.2.2.1, ())
abbrev _root_.Go.TX.Tup.e12 {C : Car} {a0 a1 a2 a3 a4 a5 a6 a7 a8 a9 a10 a11 : LTy} (x : Tup C [a0, a1, a2, a3, a4, a5, a6, a7, a8, a9, a10, a11]) : Tup C [a0, a1, a2, a3, a4, a5, a6, a7, a8, a9, a10, a11] := (x.1, x.2.1, x.2.2.1, x.2.2.2.1, x.2.2.2.2.1, x.2.2.2.2.2.1, x.2.2.2.2.2.2.1, x.2.2.2.2.2.2.2.1, x.2.2.2.2.2.2.2.2.1, x.2.2.2.2.2.2.2.2.2.1, x.2.2.2.2.2.2.2.2.2.2.1, x.2.2.2.2.2.2.2.2.2.2.2.1, ())
abbrev _root_.Go.TX.Tup.e13 {C : Car} {a0 a1 a2 a3 a4 a5 a6 a7 a8 a9 a10 a11 a12 : LTy} (x : Tup C [a0, a1, a2, a3, a4, a5, a6, a7, a8, a9, a10, a11, a12]) : Tup C [a0, a1, a2, a3, a4, a5, a6, a7, a8, a9, a10, a11, a12] := (x.1, x.2.1, x.2.2.1, x.2.2.2.1, x.2.2.2.2.1, x.2.2.2.2.2.1, x.2.2.2.2.2.2.1, x.2.2.2.2.2.2.2.1, x.2.2.2.2.2.2.2.2.1, x.2.2.2.2.2.2.2.2.2.1, x.2.2.2.2.2.2.2.2.2.2.1, x.2.2.2.2.2.2.2.2.2.2.2.1, x.2.2.2.2.2.2.2.2.2.2.2.2.1, ())
abbrev _root_.Go.TX.Tup.e14 {C : Car} {a0 a1 a2 a3 a4 a5 a6 a7 a8 a9 a10 a11 a12 a13 : LTy} (x : Tup C [a0, a1, a2, a3, a4, a5, a6, a7, a8, a9, a10, a11, a12, a13]) : Tup C [a0, a1, a2, a3, a4, a5, a6, a7, a8, a9, a10, a11, a12, a13] := (x.1, x.2.1, x.2.2.1, x.2.2.2.1, x.2.2.2.2.1, x.2.2.2.2.2.1, x.2.2.2.2.2.2.1, x.2.2.2.2.2.2.2.1, x.2.2.2.2.2.2.2.2.1, x.2.2.2.2.2.2.2.2.2.1, x.2.2.2.2.2.2.2.2.2.2.1, x.2.2.2.2.2.2.2.2.2.2.2.1, x.2.2.2.2.2.2.2.2.2.2.2.2.1, x.2.2.2.2.2.2.2.2.2.2.2.2.2.1, ())
abbrev _root_.Go.TX.Tup.e15 {C : Car} {a0 a1 a2 a3 a4 a5 a6 a7 a8 a9 a10 a11 a12 a13 a14 : LTy} (x : Tup C [a0, a1, a2, a3, a4, a5, a6, a7, a8, a9, a10, a11, a12, a13, a14]) : Tup C [a0, a1, a2, a3, a4, a5, a6, a7, a8, a9, a10, a11, a12, a13, a14] := (x.1, x.2.1, x.2.2.1, x.2.2.2.1, x.2.2.2.2.1, x.2.2.2.2.2.1, x.2.2.2.2.2.2.1, x.2.2.2.2.2.2.2.1, x.2.2.2.2.2.2.2.2.1, x.2.2.2.2.2.2.2.2.2.1, x.2.2.2.2.2.2.2.2.2.2.1, x.2.2.2.2.2.2.2.2.2.2.2.1, x.2.2.2.2.2.2.2.2.2.2.2.2.1, x.2.2.2.2.2.2.2.2.2.2.2.2.2.1, x.2.2.2.2.2.2.2.2.2.2.2.2.2.2.1, ())
abbrev _root_.Go.TX.Tup.e16 {C : Car} {a0 a1 a2 a3 a4 a5 a6 a7 a8 a9 a10 a11 a12 a13 a14 a15 : LTy} (x : Tup C [a0, a1, a2, a3, a4, a5, a6, a7, a8, a9, a10, a11, a12, a13, a14, a15]) : Tup C [a0, a1, a2, a3, a4, a5, a6, a7, a8, a9, a10, a11, a12, a13, a14, a15] := (x.1, x.2.1, x.2.2.1, x.2.2.2.1, x.2.2.2.2.1, x.2.2.2.2.2.1, x.2.2.2.2.2.2.1, x.2.2.2.2.2.2.2.1, x.2.2.2.2.2.2.2.2.1, x.2.2.2.2.2.2.2.2.2.1, x.2.2.2.2.2.2.2.2.2.2.1, x.2.2.2.2.2.2.2.2.2.2.2.1, x.2.2.2.2.2.2.2.2.2.2.2.2.1, x.2.2.2.2.2.2.2.2.2.2.2.2.2.1, x.2.2.2.2.2.2.2.2.2.2.2.2.2.2.1, x.2.2.2.2.2.2.2.2.2.2.2.2.2.2.2.1, ())
abbrev _root_.Go.TX.Tup.e17 {C : Car} {a0 a1 a2 a3 a4 a5 a6 a7 a8 a9 a10 a11 a12 a13 a14 a15 a16 : LTy} (x : Tup C [a0, a1, a2, a3, a4, a5, a6, a7, a8, a9, a10, a11, a12, a13, a14, a15, a16]) : Tup C [a0, a1, a2, a3, a4, a5, a6, a7, a8, a9, a10, a11, a12, a13, a14, a15, a16] := (x.1, x.2.1, x.2.2.1, x.2.2.2.1, x.2.2.2.2.1, x.2.2.2.2.2.1, x.2.2.2.2.2.2.1, x.2.2.2.2.2.2.2.1, x.2.2.2.2.2.2.2.2.1, x.2.2.2.2.2.2.2.2.2.1, x.2.2.2.2.2.2.2.2.2.2.1, x.2.2.2.2.2.2.2.2.2.2.2.1, x.2.2.2.2.2.2.2.2.2.2.2.2.1, x.2.2.2.2.2.2.2.2.2.2.2.2.2.1, x.2.2.2.2.2.2.2.2.2.2.2.2.2.2.1, x.2.2.2.2.2.2.2.2.2.2.2.2.2.2.2.1, x.2.2.2.2.2.2.2.2.2.2.2.2.2.2.2.2.1, ())
abbrev _root_.Go.TX.Tup.e18 {C : Car} {a0 a1 a2 a3 a4 a5 a6 a7 a8 a9 a10 a11 a12 a13 a14 a15 a16 a17 : LTy} (x : Tup C [a0, a1, a2, a3, a4, a5, a6, a7, a8, a9, a10, a11, a12, a13, a14, a15, a16, a17]) : Tup C [a0, a1, a2, a3, a4, a5, a6, a7, a8, a9, a10, a11, a12, a13, a14, a15, a16, a17] := (x.1, x.2.1, x.2.2.1, x.2.2.2.1, x.2.2.2.2.1, x.2.2.2.2.2.1, x.2.2.2.2.2.2.1, x.2.2.2.2.2.2.2.1, x.2.2.2.2.2.2.2.2.1, x.2.2.2.2.2.2.2.2.2.1, x.2.2.2.2.2.2.2.2.2.2.1, x.2.2.2.2.2.2.2.2.2.2.2.1, x.2.2.2.2.2.2.2.2.2.2.2.2.1, x.2.2.2.2.2.2.2.2.2.2.2.2.2.1, x.2.2.2.2.2.2.2.2.2.2.2.2.2.2.1, x.2.2.2.2.2.2.2.2.2.2.2.2.2.2.2.1, x.2.2.2.2.2.2.2.2.2.2.2.2.2.2.2.2.1, x.2.2.2.2.2.2.2.2.2.2.2.2.2.2.2.2.2.1, ())
abbrev _root_.Go.TX.Tup.e19 {C : Car} {a0 a1 a2 a3 a4 a5 a6 a7 a8 a9 a10 a11 a12 a13 a14 a15 a16 a17 a18 : LTy} (x : Tup C [a0, a1, a2, a3, a4, a5, a6, a7, a8, a9, a10, a11, a12, a13, a14, a15, a16, a17, a18]) : Tup C [a0, a1, a2, a3, a4, a5, a6, a7, a8, a9, a10, a11, a12, a13, a14, a15, a16, a17, a18] := (x.1, x.2.1, x.2.2.1, x.2.2.2.1, x.2.2.2.2.1, x.2.2.2.2.2.1, x.2.2.2.2.2.2.1, x.2.2.2.2.2.2.2.1, x.2.2.2.2.2.2.2.2.1, x.2.2.2.2.2.2.2.2.2.1, x.2.2.2.2.2.2.2.2.2.2.1, x.2.2.2.2.2.2.2.2.2.2.2.1, x.2.2.2.2.2.2.2.2.2.2.2.2.1, x.2.2.2.2.2.2.2.2.2.2.2.2.2.1, x.2.2.2.2.2.2.2.2.2.2.2.2.2.2.1, x.2.2.2.2.2.2.2.2.2.2.2.2.2.2.2.1, x.2.2.2.2.2.2.2.2.2.2.2.2.2.2.2.2.1, x.2.2.2.2.2.2.2.2.2.2.2.2.2.2.2.2.2.1, x.2.2.2.2.2.2.2.2.2.2.2.2.2.2.2.2.2.2.1, ())
abbrev bA : Sig := ⟨[.p 0 2, .i], [.g [.rows true .u8, .i]], [.i], [.g [.rows true .u8, .i]]⟩
abbrev gN : Sig := ⟨[.p 0 2, .i], [.g [.rows true .u8, .i]], [.b], [.g [.rows true .u8, .i]]⟩
abbrev fJ : Sig := ⟨[.i, .i, .i], [], [.b], []⟩
abbrev Ey : Sig := ⟨[.sv false .ins], [], [.b], []⟩
abbrev nH : Sig := ⟨[.sv false .ins], [], [.b], []⟩
abbrev BA : Sig := ⟨[.i], [], [.b], []⟩
abbrev mh : Sig := ⟨[.sv false .ins], [], [.b], []⟩
abbrev sS : Sig := ⟨[.p 0 2], [.g [.rows true .u8, .i]], [.agg [.i, .i, .i, .i]], [.g [.rows true .u8, .i]]⟩
abbrev nI : Sig := ⟨[.p 0 2], [.g [.rows true .u8, .i]], [.agg [.i, .i, .i, .i]], [.g [.rows true .u8, .i]]⟩
abbrev sU : Sig := ⟨[.p 0 2], [.g [.rows true .u8, .i]], [.o 1], [.g [.rows true .u8, .i], .rows true .ins]⟩
abbrev KT : Sig := ⟨[.p 0 2, .i], [.g [.rows true .u8, .i]], [.agg [.i, .i, .i, .i]], [.g [.rows true .u8, .i]]⟩
abbrev KU : Sig := ⟨[.p 0 2, .i], [.g [.rows true .u8, .i]], [.i, .o 1], [.g [.rows true .u8, .i], .rows true .ins]⟩
abbrev BD : Sig := ⟨[.r true .u8], [], [.p 0 2], [.g [.rows true .u8, .i]]⟩
abbrev KV : Sig := ⟨[.r true .u8], [], [.i, .o 0], [.rows true .ins]⟩
abbrev BF : Sig := ⟨[.i, .r false .ins], [], [.b], []⟩
abbrev gP : Sig := ⟨[.agg [.i, .i, .own 0, .i, .i, .i, .i], .sv false .iop], [.rows true .iop], [.agg [.i, .i, .own 1, .i, .i, .i, .i], .i], [.gone, .rows true .iop]⟩
abbrev sV : Sig := ⟨[.agg [.i, .i, .own 0, .i, .i, .i, .i], .i, .i], [.rows true .iop], [.agg [.i, .i, .own 1, .i, .i, .i, .i]], [.gone, .rows true .iop]⟩
abbrev jA : Sig := ⟨[.agg [.i, .i, .own 0, .i, .i, .i, .i], .i], [.rows true .iop], [.agg [.i, .i, .own 1, .i, .i, .i, .i], .i], [.gone, .rows true .iop]⟩
abbrev sW : Sig := ⟨[.agg [.i, .i, .own 0, .i, .i, .i, .i], .i, .i, .sv false .iop], [.rows true .iop], [.agg [.i, .i, .own 1, .i, .i, .i, .i], .i], [.gone, .rows true .iop]⟩
abbrev Ez : Sig := ⟨[.i], [], [.i], []⟩
abbrev EA : Sig := ⟨[.agg [.i, .i, .own 0, .i, .i, .i, .i], .sv false .ins, .i], [.rows true .iop], [.agg [.i, .i, .own 1, .i, .i, .i, .i]], [.gone, .rows true .iop]⟩
abbrev EB : Sig := ⟨[.agg [.i, .i, .own 0, .i, .i, .i, .i], .sv false .ins], [.rows true .iop], [.agg [.i, .i, .own 1, .i, .i, .i, .i]], [.gone, .rows true .iop]⟩
abbrev EC : Sig := ⟨[.agg [.i, .i, .own 0, .i, .i, .i, .i], .sv false .ins, .i], [.rows true .iop], [.agg [.i, .i, .own 1, .i, .i, .i, .i]], [.gone, .rows true .iop]⟩
abbrev sZ : Sig := ⟨[.i, .r false .ins], [], [.agg [.i, .i, .own 0, .i, .i, .i, .i]], [.rows true .iop]⟩
abbrev je : Sig := ⟨[.i], [], [.b], []⟩
abbrev BG : Sig := ⟨[.r false .i64], [], [.b], []⟩
abbrev KW : Sig := ⟨[.r false .i64, .r false .i64], [], [.agg [.own 0, .i, .own 1, .i, .bool, .bool, .i, .own 2, .nil, .i]], [.rows true .i64, .rows true .i64, .rows true .i64]⟩
abbrev KY : Sig := ⟨[.p 0 2, .i], [.g [.rows true .u8, .i]], [.o 1], [.g [.rows true .u8, .i], .rows true .ins]⟩
abbrev KZ : Sig := ⟨[.p 0 2, .i], [.g [.rows true .u8, .i]], [.o 1], [.g [.rows true .u8, .i], .rows true .ins]⟩
abbrev BH : Sig := ⟨[.sv false .ins], [], [.i], []⟩
abbrev K4 : Sig := ⟨[.r false .ins], [], [.o 0], [.rows true .i64]⟩
abbrev BI : Sig := ⟨[.p 0 2], [.g [.rows true .u8, .i]], [.i], [.g [.rows true .u8, .i]]⟩
abbrev K6 : Sig := ⟨[.p 0 2], [.g [.rows true .u8, .i]], [.o 1], [.g [.rows true .u8, .i], .rows true .i64]⟩
abbrev K7 : Sig := ⟨[.p 0 2, .i], [.g [.rows true .u8, .i]], [.o 1], [.g [.rows true .u8, .i], .rows true .i64]⟩
abbrev tq : Sig := ⟨[.sv false .aB], [], [.b], []⟩
abbrev tu : Sig := ⟨[.sv false .aB], [], [.agg [.own 0, .i, .own 1, .i, .bool, .bool, .i, .own 2, .own 3, .i]], [.rows true .i64, .rows true .i64, .rows true .i64, .rows true .i64]⟩
abbrev EF : Sig := ⟨[.agg [.own 0, .i, .own 1, .i, .bool, .bool, .i, .rows true .i64, .own 2, .i], .b], [.rows true .i64, .rows true .i64, .rows true .i64], [.agg [.own 0, .i, .own 1, .i, .bool, .bool, .i, .rows true .i64, .own 2, .i]], [.rows true .i64, .rows true .i64, .rows true .i64]⟩
abbrev mq : Sig := ⟨[.agg [.own 0, .i, .own 1, .i, .bool, .bool, .i, .rows true .i64, .own 2, .i], .i], [.rows true .i64, .rows true .i64, .rows true .i64], [.agg [.own 0, .i, .own 1, .i, .bool, .bool, .i, .rows true .i64, .own 2, .i]], [.rows true .i64, .rows true .i64, .rows true .i64]⟩
abbrev K8 : Sig := ⟨[.i], [], [.agg [.i, .i, .i, .i], .b], []⟩
abbrev nJ : Sig := ⟨[.i], [], [.i], []⟩
abbrev BJ : Sig := ⟨[.i, .i, .i], [], [.i], []⟩
abbrev gQ : Sig := ⟨[.agg [.own 0, .i, .own 1, .i, .bool, .bool, .i, .rows true .i64, .own 2, .i], .i], [.rows true .i64, .rows true .i64, .rows true .i64], [.agg [.own 0, .i, .own 1, .i, .bool, .bool, .i, .rows true .i64, .own 2, .i]], [.rows true .i64, .rows true .i64, .rows true .i64]⟩
abbrev EG : Sig := ⟨[.agg [.own 0, .i, .own 1, .i, .bool, .bool, .i, .rows true .i64, .own 2, .i], .i], [.rows true .i64, .rows true .i64, .rows true .i64], [.agg [.own 0, .i, .own 1, .i, .bool, .bool, .i, .rows true .i64, .own 2, .i]], [.rows true .i64, .rows true .i64, .rows true .i64]⟩
abbrev mF : Sig := ⟨[.agg [.own 0, .i, .own 1, .i, .bool, .bool, .i, .rows true .i64, .own 2, .i], .i, .i], [.rows true .i64, .rows true .i64, .rows true .i64], [.agg [.own 0, .i, .own 1, .i, .bool, .bool, .i, .rows true .i64, .own 2, .i]], [.rows true .i64, .rows true .i64, .rows true .i64]⟩
abbrev EH : Sig := ⟨[.i, .i], [], [.i], []⟩
abbrev EI : Sig := ⟨[.agg [.own 0, .i, .own 1, .i, .bool, .bool, .i, .rows true .i64, .own 2, .i], .sv false .ins], [.rows true .i64, .rows true .i64, .rows true .i64], [.agg [.own 0, .i, .own 1, .i, .bool, .bool, .i, .rows true .i64, .own 2, .i]], [.rows true .i64, .rows true .i64, .rows true .i64]⟩
abbrev EJ : Sig := ⟨[.agg [.own 0, .i, .own 1, .i, .bool, .bool, .i, .rows true .i64, .own 2, .i], .sv false .ins], [.rows true .i64, .rows true .i64, .rows true .i64], [.agg [.own 0, .i, .own 1, .i, .bool, .bool, .i, .rows true .i64, .own 3, .i]], [.rows true .i64, .rows true .i64, .gone, .rows true .i64]⟩
abbrev EK : Sig := ⟨[.agg [.own 0, .i, .own 1, .i, .bool, .bool, .i, .rows true .i64, .own 2, .i], .sv false .ins], [.rows true .i64, .rows true .i64, .rows true .i64], [.agg [.own 0, .i, .own 1, .i, .bool, .bool, .i, .rows true .i64, .own 3, .i]], [.rows true .i64, .rows true .i64, .gone, .rows true .i64]⟩
abbrev K9 : Sig := ⟨[.sv false .aB, .b], [], [.agg [.own 0, .i, .own 1, .i, .bool, .bool, .i, .rows true .i64, .own 2, .i]], [.rows true .i64, .rows true .i64, .rows true .i64]⟩
abbrev EL : Sig := ⟨[.r false .i64, .i], [], [.b], []⟩
abbrev La : Sig := ⟨[.sv false .aB, .r false .i64, .i], [], [.agg [.own 0, .i, .own 1, .i, .bool, .bool, .i, .rows true .i64, .own 2, .i]], [.rows true .i64, .rows true .i64, .rows true .i64]⟩
abbrev Lb : Sig := ⟨[.p 0 2], [.g [.rows true .u8, .i]], [.o 1], [.g [.rows true .u8, .i], .rows true .i64]⟩
abbrev BK : Sig := ⟨[.p 0 2], [.g [.rows true .u8, .i]], [.agg [.own 1, .i, .own 2, .i, .bool, .bool, .i, .rows true .i64, .own 3, .i]], [.g [.rows true .u8, .i], .rows true .i64, .rows true .i64, .rows true .i64]⟩
abbrev BL : Sig := ⟨[.p 0 2, .sv false .blk], [.g [.rows true .u8, .i]], [.agg [.own 1, .i, .own 2, .i, .bool, .bool, .i, .rows true .i64, .own 3, .i]], [.g [.rows true .u8, .i], .rows true .i64, .rows true .i64, .rows true .i64]⟩
abbrev EM : Sig := ⟨[.i], [], [.b], []⟩
abbrev tC : Sig := ⟨[.r false .iop, .i, .i], [], [.b], []⟩
abbrev EN : Sig := ⟨[.r false .iop, .i, .i], [], [.b], []⟩
abbrev EO : Sig := ⟨[.sv false .blk], [], [.b], []⟩
abbrev kL : Sig := ⟨[.sv false .blk], [], [.b], []⟩
abbrev BM : Sig := ⟨[.sv false .iop, .r false .i64], [], [.sv true .iop], []⟩
abbrev BN : Sig := ⟨[.sv false .blk, .r false .bool], [], [.agg [.i, .i, .own 0, .i, .i, .i, .i]], [.rows true .iop]⟩
abbrev Lc : Sig := ⟨[.sv false .blk], [], [.o 0], [.rows true .bool]⟩
abbrev Ld : Sig := ⟨[.sv false .blk], [], [.agg [.i, .i, .own 0, .i, .i, .i, .i]], [.rows true .iop]⟩
abbrev Le : Sig := ⟨[.r false .iop, .i], [], [.b], []⟩
abbrev Lf : Sig := ⟨[.sv false .blk], [], [.agg [.i, .i, .own 0, .i, .i, .i, .i]], [.rows true .iop]⟩
abbrev mG : Sig := ⟨[.sv false .blk], [], [.agg [.i, .i, .own 0, .i, .i, .i, .i]], [.rows true .iop]⟩
abbrev BO : Sig := ⟨[.r false .iop, .i], [], [.i, .b], []⟩
abbrev Lg : Sig := ⟨[.sv false .blk, .i], [], [.agg [.i, .i, .rows false .iop, .i, .i, .i, .i]], []⟩
abbrev Lh : Sig := ⟨[.sv false .blk], [], [.sv false .blk], []⟩
abbrev Li : Sig := ⟨[.sv false .blk], [], [.sv false .blk], []⟩
abbrev BP : Sig := ⟨[.sv false .blk], [], [.agg [.i, .i, .own 0, .i, .i, .i, .i]], [.rows true .iop]⟩
abbrev BQ : Sig := ⟨[.sv false .blk], [], [.agg [.i, .i, .own 0, .i, .i, .i, .i]], [.rows true .iop]⟩
abbrev EP : Sig := ⟨[.p 0 2], [.g [.rows true .u8, .i]], [.agg [.i, .i, .own 1, .i, .i, .i, .i], .agg [.own 2, .i, .own 3, .i, .bool, .bool, .i, .rows true .i64, .own 4, .i]], [.g [.rows true .u8, .i], .rows true .iop, .rows true .i64, .rows true .i64, .rows true .i64]⟩
abbrev Lj : Sig := ⟨[.p 0 2], [.g [.rows true .u8, .i]], [.agg [.i, .i, .own 1, .i, .i, .i, .i]], [.g [.rows true .u8, .i], .rows true .iop]⟩
abbrev Ll : Sig := ⟨[.p 0 2, .sv false .blk], [.g [.rows true .u8, .i]], [.agg [.i, .i, .own 1, .i, .i, .i, .i]], [.g [.rows true .u8, .i], .rows true .iop]⟩
abbrev Lm : Sig := ⟨[.p 0 2, .i], [.g [.rows true .u8, .i]], [.sv true .blk], [.g [.rows true .u8, .i]]⟩
abbrev Lp : Sig := ⟨[.p 0 2, .i], [.g [.rows true .u8, .i]], [.agg [.own 1, .i, .rows true .i64, .i, .bool, .bool, .i, .rows true .i64, .own 2, .i]], [.g [.rows true .u8, .i], .rows true .i64, .rows true .i64]⟩
abbrev Lr : Sig := ⟨[.r true .u8], [], [.sv true .blk, .agg [.own 0, .i, .rows true .i64, .i, .bool, .bool, .i, .rows true .i64, .own 1, .i]], [.rows true .i64, .rows true .i64]⟩
abbrev bR : Sig := ⟨[.i, .i, .i], [], [.b], []⟩
abbrev fK : Sig := ⟨[.i], [], [.b], []⟩
abbrev Ls : Sig := ⟨[], [], [.b], []⟩
abbrev BR : Sig := ⟨[.i], [], [.b], []⟩
abbrev Lu : Sig := ⟨[.sv false .iop], [], [.b, .b, .b, .b], []⟩
abbrev Lv : Sig := ⟨[.i], [], [.b], []⟩
abbrev Lx : Sig := ⟨[.sv false .iop], [], [.b], []⟩
abbrev BS : Sig := ⟨[.sv false .blk, .i, .i], [], [.b], []⟩
abbrev LA : Sig := ⟨[.sv false .blk, .i], [], [.b], []⟩
abbrev WQ : Sig := ⟨[.sv false .blk], [], [.b, .b, .b], []⟩
abbrev WR : Sig := ⟨[.sv false .blk], [], [.b], []⟩
abbrev BU : Sig := ⟨[.sv false .blk], [], [.b], []⟩
abbrev LB : Sig := ⟨[.r false .i64], [], [.b], []⟩
abbrev BX : Sig := ⟨[.sv false .aB], [], [.b], []⟩
abbrev LC : Sig := ⟨[.r false .i64], [], [.o 0], [.rows true .i64]⟩
abbrev BZ : Sig := ⟨[.sv false .aB], [], [.agg [.own 0, .i, .own 1, .i, .bool, .bool, .i, .own 2, .own 3, .i]], [.rows true .i64, .rows true .i64, .rows true .i64, .rows true .i64]⟩
abbrev Ca : Sig := ⟨[.i], [], [.i], []⟩
abbrev Cc : Sig := ⟨[.i, .i, .i], [], [.i], []⟩
abbrev Ce : Sig := ⟨[.p 0 10], [.g [.own 1, .i, .own 2, .i, .bool, .bool, .i, .rows true .i64, .own 3, .i], .rows true .i64, .rows true .i64, .rows true .i64], [.i], [.g [.own 1, .i, .own 2, .i, .bool, .bool, .i, .rows true .i64, .own 3, .i], .rows true .i64, .rows true .i64, .rows true .i64]⟩
abbrev Cg : Sig := ⟨[.i, .i, .i], [], [.b], []⟩
abbrev LD : Sig := ⟨[.sv false .blk, .p 0 10], [.g [.own 1, .i, .own 2, .i, .bool, .bool, .i, .rows true .i64, .own 3, .i], .rows true .i64, .rows true .i64, .rows true .i64], [], [.g [.own 1, .i, .own 2, .i, .bool, .bool, .i, .rows true .i64, .own 4, .i], .rows true .i64, .rows true .i64, .gone, .rows true .i64]⟩
abbrev LG : Sig := ⟨[.sv false .blk, .sv false .aB], [], [.agg [.own 0, .i, .own 1, .i, .bool, .bool, .i, .own 2, .own 3, .i], .b], [.rows true .i64, .rows true .i64, .rows true .i64, .rows true .i64]⟩
abbrev ER : Sig := ⟨[.sv false .ins], [], [.b], []⟩
abbrev WS : Sig := ⟨[.i], [], [.b], []⟩
abbrev LH : Sig := ⟨[.i, .r false .ins], [], [.b], []⟩
abbrev LJ : Sig := ⟨[.sv false .iop], [], [.b], []⟩
abbrev kM : Sig := ⟨[.p 0 8, .i, .i, .i, .i], [.g [.i, .i, .own 1, .i, .i, .i, .i, .i], .rows true .iop], [.i], [.g [.i, .i, .own 2, .i, .i, .i, .i, .i], .gone, .rows true .iop]⟩
abbrev LK : Sig := ⟨[.i, .p 0 1, .p 1 4], [.box (.p 2 8), .s false .ins, .g [.i, .i, .own 3, .i, .i, .i, .i, .i], .rows true .iop], [], [.box (.p 2 8), .s false .ins, .g [.i, .i, .own 4, .i, .i, .i, .i, .i], .gone, .rows true .iop]⟩
abbrev LM : Sig := ⟨[.p 0 8, .i], [.g [.i, .i, .own 1, .i, .i, .i, .i, .i], .rows true .iop], [.i], [.g [.i, .i, .own 2, .i, .i, .i, .i, .i], .gone, .rows true .iop]⟩
abbrev LP : Sig := ⟨[.p 0 8, .i], [.g [.i, .i, .own 1, .i, .i, .i, .i, .i], .rows true .iop], [.i], [.g [.i, .i, .own 2, .i, .i, .i, .i, .i], .gone, .rows true .iop]⟩
abbrev LQ : Sig := ⟨[.p 0 8, .i, .i, .i], [.g [.i, .i, .own 1, .i, .i, .i, .i, .i], .rows true .iop], [.i], [.g [.i, .i, .own 2, .i, .i, .i, .i, .i], .gone, .rows true .iop]⟩
abbrev LU : Sig := ⟨[.p 0 8, .sv false .ins], [.g [.i, .i, .own 1, .i, .i, .i, .i, .i], .rows true .iop], [], [.g [.i, .i, .own 2, .i, .i, .i, .i, .i], .gone, .rows true .iop]⟩
abbrev WT : Sig := ⟨[.sv false .blk], [], [.agg [.i, .i, .own 0, .i, .i, .i, .i]], [.rows true .iop]⟩
abbrev WU : Sig := ⟨[.i, .r false .ins], [], [.agg [.i, .i, .own 0, .i, .i, .i, .i]], [.rows true .iop]⟩
abbrev LW : Sig := ⟨[.r false .i64, .r false .i64], [], [.b], []⟩
abbrev LY : Sig := ⟨[.sv false .aB, .sv false .aB], [], [.b], []⟩
abbrev LZ : Sig := ⟨[.sv false .blk, .sv false .blk], [], [.b], []⟩
abbrev WW : Sig := ⟨[.sv false .ins], [], [.i], []⟩
abbrev WX : Sig := ⟨[.r false .ins], [], [.o 0], [.rows true .i64]⟩
abbrev L6 : Sig := ⟨[.sv false .aB], [], [.b], []⟩
abbrev WY : Sig := ⟨[.i], [], [.agg [.i, .i, .i, .i], .b], []⟩
abbrev L8 : Sig := ⟨[.p 0 10, .sv false .ins], [.g [.own 1, .i, .own 2, .i, .bool, .bool, .i, .rows true .i64, .own 3, .i], .rows true .i64, .rows true .i64, .rows true .i64], [], [.g [.own 1, .i, .own 2, .i, .bool, .bool, .i, .rows true .i64, .own 4, .i], .rows true .i64, .rows true .i64, .gone, .rows true .i64]⟩
abbrev L9 : Sig := ⟨[.p 0 10, .b], [.g [.own 1, .i, .own 2, .i, .bool, .bool, .i, .rows true .i64, .own 3, .i], .rows true .i64, .rows true .i64, .rows true .i64], [], [.g [.own 1, .i, .own 2, .i, .bool, .bool, .i, .rows true .i64, .own 4, .i], .rows true .i64, .rows true .i64, .gone, .rows true .i64]⟩
abbrev Ma : Sig := ⟨[.r false .i64, .i], [], [.i], []⟩
abbrev Mc : Sig := ⟨[.r false .i64, .i], [], [.b], []⟩
abbrev Md : Sig := ⟨[.sv false .aB, .r false .i64, .i], [], [.agg [.own 0, .i, .own 1, .i, .bool, .bool, .i, .own 2, .own 3, .i]], [.rows true .i64, .rows true .i64, .rows true .i64, .rows true .i64]⟩
abbrev Me : Sig := ⟨[.sv false .blk, .sv false .aB], [], [.b], []⟩
abbrev ade : Sig := ⟨[.r true .u8, .r true .u8], [], [.b], []⟩
variable {A:Alg} (B:Al A)
def WZ (x:Tup A.ah [.i,.l .u8,.i]):Ot A bA:=
 B.i B.z λx0=>
 B.i (B.p x.2.2.1 B.u) λx1=>
 B.c (B.a (B.l x.1 B.u) B.T (B.e (B.y .u8 x.2.1) B.z)) (B.i B.z λx2=>
 B.r (x2.1,x.2.1,x1.e1))<|
 B.i (B.q x1.1 B.u) λx2=>
 B.c (B.l x2.1 (B.y .u8 x.2.1)) (B.w .u8 x.2.1 x2.1<|
 B.C (B.d x.1 B.z)<|
 B.i (A.arith .rem .i64 (A.conv .i64 (B.f .u8 0 (B.o .u8 x.2.1 x2.1))) x.1) λx3=>
 B.r (x3.1,x.2.1,x1.e1))<|
 B.C (B.d (B.y .u8 x.2.1) B.z)<|
 B.w .u8 x.2.1 (A.arith .rem .i64 x2.1 (B.y .u8 x.2.1))<|
 B.C (B.d (B.y .u8 x.2.1) B.z)<|
 B.w .u8 x.2.1 (A.arith .rem .i64 (B.p (B.t x2.1 (B.n 7)) (B.n 3)) (B.y .u8 x.2.1))<|
 B.C (B.d (B.y .u8 x.2.1) B.z)<|
 B.i (B.p (B.p (B.p (B.t (A.conv .i64 (B.f .u8 0 (B.o .u8 x.2.1 (A.arith .rem .i64 x2.1 (B.y .u8 x.2.1))))) (B.n 131)) (B.t (A.conv .i64 (B.f .u8 0 (B.o .u8 x.2.1 (A.arith .rem .i64 (B.p (B.t x2.1 (B.n 7)) (B.n 3)) (B.y .u8 x.2.1))))) (B.n 1117))) (B.t x2.1 (B.n 29))) (B.t (A.arith .quo .i64 x2.1 (B.y .u8 x.2.1)) (B.n 53))) λx3=>
 B.C (B.d (B.n 64) B.z)<|
 B.i (A.arith .xor .i64 x3.1 (A.arith .quo .i64 x3.1 (B.n 64))) λx4=>
 B.C (B.d x.1 B.z)<|
 B.i (A.arith .rem .i64 x4.1 x.1) λx5=>
 B.r (x5.1,x.2.1,x1.e1)
def Xa (aD:Pt A bA) (aF:Ft A bA) (x:Tup A.ah [.i,.l .u8,.i]):Ot A gN:=
 B.b B.F λx0=>
 B.j aD aF x.e3 λx1=>
 B.b (B.e x1.1 (B.q x.1 B.u)) λx2=>
 B.r (x2.1,x1.2.e2)
def Xb (x:Tup A.ah [.i,.i,.i]):Ot A fJ:=
 B.b B.F λx0=>
 B.b (B.a (B.h x.1 x.2.1) (B.m x.1 x.2.2.1) B.F) λx1=>
 B.r x1.e1
def PZ (x:Tup A.ah [.x .ins]):Ot A Ey:=
 B.b B.F λx0=>
 B.b (B.e (B.f .ins 0 x.1) B.z) λx1=>
 B.c x1.1 (B.b (B.a (B.a (B.e (B.f .ins 1 x.1) B.z) (B.e (B.f .ins 2 x.1) B.z) B.F) (B.m (B.f .ins 3 x.1) (B.n 3)) B.F) λx2=>
 B.r x2.e1)<|
 B.b (B.e (B.f .ins 0 x.1) B.u) λx2=>
 B.c x2.1 (B.b (B.e (B.f .ins 2 x.1) B.z) λx3=>
 B.r x3.e1)<|
 B.b (B.e (B.f .ins 0 x.1) (B.n 2)) λx3=>
 B.c x3.1 (B.b (B.e (B.f .ins 3 x.1) B.z) λx4=>
 B.r x4.e1)<|
 B.b (B.e (B.f .ins 0 x.1) (B.n 3)) λx4=>
 A.bind [.i,.b,.x .ins] (B.c x4.1 (B.r (B.f .ins 0 x.1,x4.1,x.e1))<|
 B.b (B.e (B.f .ins 0 x.1) (B.n 4)) λx5=>
 A.bind [.i,.b,.x .ins] (B.c x5.1 (B.r (B.f .ins 0 x.1,x5.1,x.e1))<|
 B.b (B.e (B.f .ins 0 x.1) (B.n 5)) λx6=>
 A.bind [.i,.b,.x .ins] (B.c x6.1 (B.r (B.f .ins 0 x.1,x6.1,x.e1))<|
 B.b (B.e (B.f .ins 0 x.1) (B.n 6)) λx7=>
 A.bind [.i,.b,.x .ins] (B.c x7.1 (B.r (B.f .ins 0 x.1,x7.1,x.e1))<|
 B.b (B.e (B.f .ins 0 x.1) (B.n 7)) λx8=>
 B.r (B.f .ins 0 x.1,x8.1,x.e1)) λx8=>
 B.r x8.e3) λx7=>
 B.r x7.e3) λx6=>
 B.r x6.e3) λx5=>
 B.c x5.2.1 (B.b (B.l (B.f .ins 3 x5.2.2.1) (B.n 4)) λx6=>
 B.r x6.e1)<|
 B.b (B.e x5.1 (B.n 8)) λx6=>
 B.c x6.1 (B.b (B.l (B.f .ins 3 x5.2.2.1) (B.n 16)) λx7=>
 B.r x7.e1)<|
 B.b (B.e x5.1 (B.n 13)) λx7=>
 B.c x7.1 (B.b (B.a (B.e (B.f .ins 1 x5.2.2.1) B.z) (B.e (B.f .ins 3 x5.2.2.1) B.z) B.F) λx8=>
 B.r x8.e1)<|
 B.b (B.e x5.1 (B.n 14)) λx8=>
 A.bind [.b,.x .ins] (B.c x8.1 (B.r (x8.1,x5.2.2.e1))<|
 B.b (B.e x5.1 (B.n 15)) λx9=>
 B.r (x9.1,x5.2.2.e1)) λx9=>
 B.c x9.1 (B.b (B.a (B.e (B.f .ins 2 x9.2.1) B.z) (B.e (B.f .ins 3 x9.2.1) B.z) B.F) λx10=>
 B.r x10.e1)<|
 B.b B.T λx10=>
 B.r x10.e1
def Xc (fM:Pt A fJ) (fO:Ft A fJ) (aff:Pt A Ey) (afg:Ft A Ey) (x:Tup A.ah [.x .ins]):Ot A nH:=
 B.b B.F λx0=>
 B.j fM fO (B.f .ins 0 x.1,B.z,B.n 15,()) λx1=>
 B.k x1.1 fM fO (B.f .ins 1 x.1,B.z,B.n 3,()) λx2=>
 B.k (B.a x1.1 x2.1 B.F) fM fO (B.f .ins 2 x.1,B.z,B.n 3,()) λx3=>
 B.k (B.a (B.a x1.1 x2.1 B.F) x3.1 B.F) fM fO (B.f .ins 3 x.1,B.z,B.n 255,()) λx4=>
 B.k (B.a (B.a (B.a x1.1 x2.1 B.F) x3.1 B.F) x4.1 B.F) aff afg x.e1 λx5=>
 B.b (B.a (B.a (B.a (B.a x1.1 x2.1 B.F) x3.1 B.F) x4.1 B.F) x5.1 B.F) λx6=>
 B.r x6.e1
def Xd (x:Tup A.ah [.i]):Ot A BA:=
 B.b B.F λx0=>
 B.b (B.a (B.a (B.e x.1 (B.n 11)) B.T (B.e x.1 (B.n 12))) B.T (B.e x.1 (B.n 13))) λx1=>
 B.r x1.e1
def P8 (Xe:Pt A BA) (Xf:Ft A BA) (ET:Pt A nH) (EU:Ft A nH) (x:Tup A.ah [.x .ins]):Ot A mh:=
 B.b B.F λx0=>
 B.j ET EU x.e1 λx1=>
 B.k (B.a x1.1 (B.d (B.f .ins 0 x.1) B.z) B.F) Xe Xf (B.f .ins 0 x.1,()) λx2=>
 B.b (B.a (B.a x1.1 (B.d (B.f .ins 0 x.1) B.z) B.F) (B.N x2.1) B.F) λx3=>
 B.r x3.e1
def Xg (aD:Pt A bA) (aF:Ft A bA) (x:Tup A.ah [.l .u8,.i]):Ot A sS:=
 B.j aD aF (B.n 4,x.e2) λx0=>
 B.i x0.1 λx1=>
 B.j aD aF (B.n 4,x0.2.e2) λx2=>
 B.i x2.1 λx3=>
 B.j aD aF (B.n 14,x2.2.e2) λx4=>
 B.b (B.e x4.1 B.z) λx5=>
 A.bind [.i,.i,.i,.b,.l .u8,.i,.i,.i,.i,.i] (B.c x5.1 (B.r (x1.1,x3.1,x4.1,x5.1,x4.2.1,x4.2.2.1,B.z,B.z,B.z,B.z,()))<|
 B.b (B.e x4.1 B.u) λx6=>
 B.r (x1.1,x3.1,x4.1,x6.1,x4.2.1,x4.2.2.1,B.z,B.z,B.z,B.z,())) λx6=>
 B.c x6.2.2.2.1 (B.j aD aF (B.n 64,x6.q.1,x6.q.2.1,()) λx7=>
 B.j aD aF (B.n 256,x7.2.e2) λx8=>
 B.s (.l .i64) (A.lst .i64 [B.x .i64 (B.z,()),B.x .i64 (B.u,()),B.x .i64 (B.n 2,()),B.x .i64 (x7.1,()),B.x .i64 (x8.1,()),B.x .i64 (B.n 255,())]) λx9=>
 B.j aD aF (B.n 6,x8.2.e2) λx10=>
 B.w .i64 x9.1 x10.1<|
 B.w .i64 x9.1 x10.1<|
 B.r (B.u,x6.1,B.z,B.f .i64 0 (B.o .i64 x9.1 x10.1),x10.2.e2))<|
 B.b (B.e x6.2.2.1 (B.n 2)) λx7=>
 B.c x7.1 (B.r (B.n 2,x6.1,x6.2.1,B.z,x6.q.1,x6.q.2.1,()))<|
 B.b (B.e x6.2.2.1 (B.n 3)) λx8=>
 A.bind [.i,.i,.i,.b,.l .u8,.i,.i,.i,.i,.i] (B.c x8.1 (B.r (x6.1,x6.2.1,x6.2.2.1,x8.1,x6.2.2.2.2.e6))<|
 B.b (B.e x6.2.2.1 (B.n 4)) λx9=>
 A.bind [.i,.i,.i,.b,.l .u8,.i,.i,.i,.i,.i] (B.c x9.1 (B.r (x6.1,x6.2.1,x6.2.2.1,x9.1,x6.2.2.2.2.e6))<|
 B.b (B.e x6.2.2.1 (B.n 5)) λx10=>
 B.r (x6.1,x6.2.1,x6.2.2.1,x10.1,x6.2.2.2.2.e6)) λx10=>
 B.r x10.e10) λx9=>
 B.c x9.2.2.2.1 (B.j aD aF (B.n 5,x9.q.1,x9.q.2.1,()) λx10=>
 B.j aD aF (B.n 4,x10.2.e2) λx11=>
 B.r (B.p (B.n 3) x10.1,x9.1,x9.2.1,x11.e3))<|
 B.b (B.e x9.2.2.1 (B.n 6)) λx10=>
 B.c x10.1 (B.j aD aF (B.n 16,x9.q.1,x9.q.2.1,()) λx11=>
 B.s (.l .i64) (A.lst .i64 [B.x .i64 (B.z,()),B.x .i64 (B.u,()),B.x .i64 (B.n 8,()),B.x .i64 (B.n 15,()),B.x .i64 (x11.1,())]) λx12=>
 B.j aD aF (B.n 5,x11.2.e2) λx13=>
 B.w .i64 x12.1 x13.1<|
 B.w .i64 x12.1 x13.1<|
 B.r (B.n 8,x9.1,x9.2.1,B.f .i64 0 (B.o .i64 x12.1 x13.1),x13.2.e2))<|
 B.b (B.e x9.2.2.1 (B.n 7)) λx11=>
 A.bind [.i,.i,.i,.b,.l .u8,.i,.i,.i,.i,.i] (B.c x11.1 (B.r (x9.1,x9.2.1,x9.2.2.1,x11.1,x9.2.2.2.2.e6))<|
 B.b (B.e x9.2.2.1 (B.n 8)) λx12=>
 B.r (x9.1,x9.2.1,x9.2.2.1,x12.1,x9.2.2.2.2.e6)) λx12=>
 B.c x12.2.2.2.1 (B.j aD aF (B.n 2,x12.q.1,x12.q.2.1,()) λx13=>
 B.j aD aF (B.n 64,x13.2.e2) λx14=>
 B.s (.l .i64) (A.lst .i64 [B.x .i64 (B.z,()),B.x .i64 (B.u,()),B.x .i64 (x14.1,()),B.x .i64 (B.n 63,()),B.x .i64 (B.n 64,()),B.x .i64 (B.n 255,())]) λx15=>
 B.j aD aF (B.n 6,x14.2.e2) λx16=>
 B.w .i64 x15.1 x16.1<|
 B.w .i64 x15.1 x16.1<|
 B.r (B.p (B.n 9) x13.1,x12.1,x12.2.1,B.f .i64 0 (B.o .i64 x15.1 x16.1),x16.2.e2))<|
 B.b (B.e x12.2.2.1 (B.n 9)) λx13=>
 B.c x13.1 (B.j aD aF (B.n 2,x12.q.1,x12.q.2.1,()) λx14=>
 B.j aD aF (B.n 20,x14.2.e2) λx15=>
 B.j aD aF (B.n 64,x15.2.e2) λx16=>
 B.s (.l .i64) (A.lst .i64 [B.x .i64 (x15.1,()),B.x .i64 (x16.1,()),B.x .i64 (B.n 200,())]) λx17=>
 B.j aD aF (B.n 3,x16.2.e2) λx18=>
 B.w .i64 x17.1 x18.1<|
 B.w .i64 x17.1 x18.1<|
 B.r (B.p (B.n 11) x14.1,x12.1,x12.2.1,B.f .i64 0 (B.o .i64 x17.1 x18.1),x18.2.e2))<|
 B.b (B.e x12.2.2.1 (B.n 10)) λx14=>
 B.c x14.1 (B.j aD aF (B.n 2,x12.q.1,x12.q.2.1,()) λx15=>
 B.r (B.p (B.n 14) x15.1,x12.1,B.z,B.z,x15.2.e2))<|
 B.b (B.e x12.2.2.1 (B.n 11)) λx15=>
 B.c x15.1 (B.j aD aF (B.n 4,x12.q.1,x12.q.2.1,()) λx16=>
 B.r (B.z,B.z,B.z,x16.e3))<|
 B.b (B.e x12.2.2.1 (B.n 12)) λx16=>
 B.c x16.1 (B.r (B.n 13,B.z,x12.2.1,B.z,x12.q.1,x12.q.2.1,()))<|
 B.r (B.n 14,x12.1,B.z,B.z,x12.q.1,x12.q.2.1,())
def Xh (Ho:Pt A sS) (Hq:Ft A sS) (aD:Pt A bA) (aF:Ft A bA) (EW:Pt A mh) (EX:Ft A mh) (x:Tup A.ah [.l .u8,.i]):Ot A nI:=
 B.j Ho Hq x.e2 λx0=>
 B.j EW EX (B.x .ins (x0.1,x0.2.1,x0.2.2.1,x0.2.2.2.1,()),()) λx1=>
 B.c (B.N x1.1) (B.j aD aF (B.n 4,x0.2.2.2.2.e2) λx2=>
 B.r (B.n 3,x0.2.1,x0.2.2.1,x2.e3))<|
 B.r x0.e6
def Xi (Ch:Pt A nI) (Ci:Ft A nI) (aD:Pt A bA) (aF:Ft A bA) (x:Tup A.ah [.l .u8,.i]):Ot A sU:=
 B.s (.l .ins) (A.lst .ins []) λx0=>
 B.j aD aF (B.n 8,x.e2) λx1=>
 B.i x1.1 λx2=>
 B.I [.i,.l .u8,.i,.l .ins] (λx3=>
 B.c (B.g x3.1 B.z) (B.j Ch Ci (x3.2.1,x3.2.2.1,()) λx4=>
 B.s (.l .ins) (A.lst .ins [B.x .ins (x4.1,x4.2.1,x4.2.2.1,x4.2.2.2.1,())]) λx5=>
 B.C (B.m (A.addN (B.y .ins x3.2.2.2.1) (B.y .ins x5.1)) (B.n 1073741824))<|
 B.s (.l .ins) (A.app .ins x3.2.2.2.1 x5.1) λx6=>
 B.i (B.q x3.1 B.u) λx7=>
 B.L (x7.1,x4.q.1,x4.q.2.1,x6.e1))<|
 B.R<|B.j aD aF (B.n 3,x3.2.1,x3.2.2.1,()) λx4=>
 B.b (B.e x4.1 B.z) λx5=>
 B.c x5.1 (B.j aD aF (B.n 2,x4.2.e2) λx6=>
 B.j aD aF (B.n 4,x6.2.e2) λx7=>
 B.j aD aF (B.n 4,x7.2.e2) λx8=>
 B.j aD aF (B.n 64,x8.2.e2) λx9=>
 B.s (.l .ins) (A.lst .ins [B.x .ins (B.p (B.n 11) x6.1,x7.1,x8.1,x9.1,())]) λx10=>
 B.C (B.m (A.addN (B.y .ins x3.2.2.2.1) (B.y .ins x10.1)) (B.n 1073741824))<|
 B.s (.l .ins) (A.app .ins x3.2.2.2.1 x10.1) λx11=>
 B.r (x9.2.1,x9.2.2.1,x11.e1))<|
 B.b (B.e x4.1 B.u) λx6=>
 B.c x6.1 (B.j aD aF (B.n 4,x4.2.e2) λx7=>
 B.s (.l .ins) (A.lst .ins [B.x .ins (B.n 13,B.z,x7.1,B.z,())]) λx8=>
 B.C (B.m (A.addN (B.y .ins x3.2.2.2.1) (B.y .ins x8.1)) (B.n 1073741824))<|
 B.s (.l .ins) (A.app .ins x3.2.2.2.1 x8.1) λx9=>
 B.r (x7.2.1,x7.2.2.1,x9.e1))<|
 B.j Ch Ci x4.2.e2 λx7=>
 B.s (.l .ins) (A.lst .ins [B.x .ins (x7.1,x7.2.1,x7.2.2.1,x7.2.2.2.1,())]) λx8=>
 B.C (B.m (A.addN (B.y .ins x3.2.2.2.1) (B.y .ins x8.1)) (B.n 1073741824))<|
 B.s (.l .ins) (A.app .ins x3.2.2.2.1 x8.1) λx9=>
 B.r (x7.q.1,x7.q.2.1,x9.e1)) (x2.1,x1.2.1,x1.2.2.1,x0.e1)
def Xj (Ho:Pt A sS) (Hq:Ft A sS) (nK:Pt A gN) (nL:Ft A gN) (aD:Pt A bA) (aF:Ft A bA) (x:Tup A.ah [.i,.l .u8,.i]):Ot A KT:=
 B.j Ho Hq x.2.e2 λx0=>
 B.j nK nL (x.1,x0.2.2.2.2.e2) λx1=>
 A.eY [.l .u8,.i,.i,.i,.i,.i,.i,.i,.i,.i] (B.c x1.1 (B.j aD aF (B.n 4,x1.2.e2) λx2=>
 B.b (B.e x2.1 B.z) λx3=>
 A.bind [.l .u8,.i,.i,.i,.i,.i,.i,.i,.i,.i] (B.c x3.1 (B.j aD aF (B.n 16,x2.2.e2) λx4=>
 B.s (.l .i64) (A.lst .i64 [B.x .i64 (B.n (-1),()),B.x .i64 (B.n 16,()),B.x .i64 (x4.1,())]) λx5=>
 B.j aD aF (B.n 3,x4.2.e2) λx6=>
 B.w .i64 x5.1 x6.1<|
 B.w .i64 x5.1 x6.1<|
 B.i (B.f .i64 0 (B.o .i64 x5.1 x6.1)) λx7=>
 B.r (x6.2.1,x6.2.2.1,B.z,B.z,B.z,B.z,x7.1,x0.2.1,x0.2.2.1,x0.2.2.2.1,()))<|
 B.b (B.e x2.1 B.u) λx4=>
 A.bind [.l .u8,.i,.i,.i,.i,.i,.i,.i,.i,.i] (B.c x4.1 (B.s (.l .i64) (A.lst .i64 [B.x .i64 (B.n (-1),()),B.x .i64 (B.n 4,()),B.x .i64 (B.u,())]) λx5=>
 B.j aD aF (B.n 3,x2.2.e2) λx6=>
 B.w .i64 x5.1 x6.1<|
 B.w .i64 x5.1 x6.1<|
 B.i (B.f .i64 0 (B.o .i64 x5.1 x6.1)) λx7=>
 B.r (x6.2.1,x6.2.2.1,B.z,B.z,B.z,B.z,x0.1,x7.1,x0.2.2.1,x0.2.2.2.1,()))<|
 B.b (B.e x2.1 (B.n 2)) λx5=>
 A.bind [.l .u8,.i,.i,.i,.i,.i,.i,.i,.i,.i] (B.c x5.1 (B.s (.l .i64) (A.lst .i64 [B.x .i64 (B.n (-1),()),B.x .i64 (B.n 4,()),B.x .i64 (B.u,())]) λx6=>
 B.j aD aF (B.n 3,x2.2.e2) λx7=>
 B.w .i64 x6.1 x7.1<|
 B.w .i64 x6.1 x7.1<|
 B.i (B.f .i64 0 (B.o .i64 x6.1 x7.1)) λx8=>
 B.r (x7.2.1,x7.2.2.1,B.z,B.z,B.z,B.z,x0.1,x0.2.1,x8.1,x0.2.2.2.1,()))<|
 B.s (.l .i64) (A.lst .i64 [B.x .i64 (B.n (-1),()),B.x .i64 (B.n 256,()),B.x .i64 (B.n 5,()),B.x .i64 (B.n 16,())]) λx6=>
 B.j aD aF (B.n 4,x2.2.e2) λx7=>
 B.w .i64 x6.1 x7.1<|
 B.w .i64 x6.1 x7.1<|
 B.i (B.f .i64 0 (B.o .i64 x6.1 x7.1)) λx8=>
 B.r (x7.2.1,x7.2.2.1,B.z,B.z,B.z,B.z,x0.1,x0.2.1,x0.2.2.1,x8.e1)) λx6=>
 B.r x6.e10) λx5=>
 B.r x5.e10) λx4=>
 B.L x4.e10)<|
 B.L (x1.2.1,x1.2.2.1,B.z,B.z,B.z,B.z,x0.1,x0.2.1,x0.2.2.1,x0.2.2.2.1,())) λx2=>
 B.r (x2.q.2.2.1,x2.q.2.2.2.1,x2.o.1,x2.o.2.1,x2.1,x2.2.1,())
def Xk (Ch:Pt A nI) (Ci:Ft A nI) (aiP:Pt A KT) (aiQ:Ft A KT) (nK:Pt A gN) (nL:Ft A gN) (aD:Pt A bA) (aF:Ft A bA) (Mf:Pt A sU) (Mg:Ft A sU) (x:Tup A.ah [.i,.l .u8,.i]):Ot A KU:=
 B.i B.z λx0=>
 B.j Mf Mg x.2.e2 λx1=>
 B.j aD aF (B.p (B.q (B.n 64) (B.y .ins x1.2.2.1)) B.u,x1.1,x1.2.1,()) λx2=>
 B.i x2.1 λx3=>
 B.j nK nL (x.1,x2.2.e2) λx4=>
 A.eY [.i,.l .u8,.i,.l .ins] (B.c x4.1 (B.j aD aF (B.y .ins x1.2.2.1,x4.2.e2) λx5=>
 B.i x5.1 λx6=>
 B.j aD aF (B.n 6,x5.2.e2) λx7=>
 B.b (B.e x7.1 B.z) λx8=>
 A.eY [.i,.l .u8,.i,.l .ins] (B.c x8.1 (B.s (.l .i64) (A.lst .i64 [B.x .i64 (B.n (-1),()),B.x .i64 (B.p (B.q (B.n 64) (B.y .ins x1.2.2.1)) B.u,())]) λx9=>
 B.j aD aF (B.n 2,x7.2.e2) λx10=>
 B.w .i64 x9.1 x10.1<|
 B.w .i64 x9.1 x10.1<|
 B.i (B.f .i64 0 (B.o .i64 x9.1 x10.1)) λx11=>
 B.L (x11.1,x10.2.1,x10.2.2.1,x1.2.2.e1))<|
 B.b (B.e x7.1 B.u) λx9=>
 A.eY [.i,.l .u8,.i,.l .ins] (B.c x9.1 (B.s (.l .ins) (A.lst .ins []) λx10=>
 B.L (x3.1,x7.2.1,x7.2.2.1,x10.e1))<|
 B.b (B.e x7.1 (B.n 2)) λx10=>
 A.eY [.i,.l .u8,.i,.l .ins] (B.c x10.1 (B.j aiP aiQ (B.u,x7.2.e2) λx11=>
 B.w .ins x1.2.2.1 x6.1<|
 B.w .ins x1.2.2.1 x6.1<|
 B.L (x3.1,x11.q.1,x11.q.2.1,A.set .ins x1.2.2.1 x6.1 (B.x .ins (x11.1,x11.2.1,x11.2.2.1,x11.2.2.2.1,())),()))<|
 B.b (B.e x7.1 (B.n 3)) λx11=>
 A.eY [.i,.l .u8,.i,.l .ins] (B.c x11.1 (B.w .ins x1.2.2.1 x6.1<|
 B.w .ins x1.2.2.1 x6.1<|
 B.L (x3.1,x7.2.1,x7.2.2.1,A.set .ins x1.2.2.1 x6.1 (B.x .ins (B.n 13,B.z,B.z,B.z,())),()))<|
 B.b (B.e x7.1 (B.n 4)) λx12=>
 A.eY [.i,.l .u8,.i,.l .ins] (B.c x12.1 (B.I [.i,.l .u8,.i,.l .ins] (λx13=>
 B.c (B.m (B.y .ins x13.2.2.2.1) (B.n 8)) (B.j Ch Ci (x13.2.1,x13.2.2.1,()) λx14=>
 B.s (.l .ins) (A.lst .ins [B.x .ins (x14.1,x14.2.1,x14.2.2.1,x14.2.2.2.1,())]) λx15=>
 B.C (B.m (A.addN (B.y .ins x13.2.2.2.1) (B.y .ins x15.1)) (B.n 1073741824))<|
 B.s (.l .ins) (A.app .ins x13.2.2.2.1 x15.1) λx16=>
 B.L (x13.1,x14.q.1,x14.q.2.1,x16.e1))<|
 B.R<|B.L x13.e4) (x3.1,x7.2.1,x7.2.2.1,x1.2.2.e1))<|
 B.w .ins x1.2.2.1 x6.1<|
 B.w .ins x1.2.2.1 x6.1<|
 B.L (x3.1,x7.2.1,x7.2.2.1,A.set .ins x1.2.2.1 x6.1 (B.x .ins (B.z,B.z,B.z,B.z,())),())) λx13=>
 B.L x13.e4) λx12=>
 B.L x12.e4) λx11=>
 B.L x11.e4) λx10=>
 B.L x10.e4) λx9=>
 B.L x9.e4)<|
 B.L (x3.1,x4.2.1,x4.2.2.1,x1.2.2.e1)) λx5=>
 B.i x5.1 λx6=>
 B.r (x6.1,x5.2.e3)
def Xl (x:Tup A.ah [.l .u8]):Ot A BD:=
 A.bind [.l .u8] (B.c (B.g (B.y .u8 x.1) (B.n 2000)) (B.C (B.m B.z B.z)<|
 B.C (B.m B.z (B.n 2000))<|
 B.C (B.m (B.n 2000) (B.y .u8 x.1))<|
 B.s (.l .u8) (A.sub .u8 x.1 B.z (B.n 2000)) λx0=>
 B.r x0.e1)<|
 B.r x.e1) λx0=>
 B.r (x0.1,B.z,())
def Xm (Xo:Pt A BD) (Xp:Ft A BD) (aiR:Pt A KU) (aiS:Ft A KU) (x:Tup A.ah [.l .u8]):Ot A KV:=
 B.i B.z λx0=>
 B.j Xo Xp x.e1 λx1=>
 B.j aiR aiS (B.n 9,x1.e2) λx2=>
 B.i x2.1 λx3=>
 B.r (x3.1,x2.2.2.2.e1)
def Xq (Xe:Pt A BA) (Xf:Ft A BA) (ET:Pt A nH) (EU:Ft A nH) (fM:Pt A fJ) (fO:Ft A fJ) (EW:Pt A mh) (EX:Ft A mh) (x:Tup A.ah [.i,.l .ins]):Ot A BF:=
 B.b B.F λx0=>
 B.j fM fO (B.y .ins x.2.1,B.u,B.n 8,()) λx1=>
 B.k (B.N (B.N x1.1)) fM fO (x.1,B.z,B.q (B.n 64) (B.y .ins x.2.1),()) λx2=>
 B.c (B.a (B.N x1.1) B.T (B.N x2.1)) (B.b B.F λx3=>
 B.r x3.e1)<|
 B.i B.z λx3=>
 B.I [.l .ins,.i] (λx4=>
 B.c (B.l x4.2.1 (B.y .ins x4.1)) (B.w .ins x4.1 x4.2.1<|
 B.j EW EX (B.o .ins x4.1 x4.2.1,()) λx5=>
 B.C (B.O (B.N (A.rA (B.N x5.1) (B.N (B.l x4.2.1 (B.q (B.y .ins x4.1) B.u))))) (B.m B.z x4.2.1))<|
 B.C (B.O (B.N (A.rA (B.N x5.1) (B.N (B.l x4.2.1 (B.q (B.y .ins x4.1) B.u))))) (B.l x4.2.1 (B.y .ins x4.1)))<|
 B.k (A.rA (B.N x5.1) (B.N (B.l x4.2.1 (B.q (B.y .ins x4.1) B.u)))) ET EU (B.o .ins x4.1 x4.2.1,()) λx6=>
 B.C (B.O (B.N (A.rA (B.N x5.1) (B.N (B.a (B.l x4.2.1 (B.q (B.y .ins x4.1) B.u)) B.T (B.N x6.1))))) (B.m B.z x4.2.1))<|
 B.C (B.O (B.N (A.rA (B.N x5.1) (B.N (B.a (B.l x4.2.1 (B.q (B.y .ins x4.1) B.u)) B.T (B.N x6.1))))) (B.l x4.2.1 (B.y .ins x4.1)))<|
 B.k (A.rA (B.N x5.1) (B.N (B.a (B.l x4.2.1 (B.q (B.y .ins x4.1) B.u)) B.T (B.N x6.1)))) Xe Xf (B.f .ins 0 (B.o .ins x4.1 x4.2.1),()) λx7=>
 B.c (B.a (B.N x5.1) (B.a (B.a (B.l x4.2.1 (B.q (B.y .ins x4.1) B.u)) B.T (B.N x6.1)) B.T (B.N x7.1)) B.F) (B.b B.F λx8=>
 B.R<|B.r x8.e1)<|
 B.i (B.p x4.2.1 B.u) λx8=>
 B.L (x4.1,x8.e1))<|
 B.R<|B.b B.T λx5=>
 B.r x5.e1) (x.2.1,x3.e1)
def P9 (x:Tup A.ah [.i,.i,.i,.i,.i,.i,.x .iop,.l .iop]):Ot A gP:=
 B.i B.z λx0=>
 B.s (.l .iop) (A.lst .iop [x.q.2.2.1]) λx1=>
 B.C (B.m (A.addN (B.y .iop x.q.2.2.2.1) (B.y .iop x1.1)) (B.n 1073741824))<|
 B.s (.l .iop) (A.app .iop x.q.2.2.2.1 x1.1) λx2=>
 B.i (B.q (B.y .iop x2.1) B.u) λx3=>
 B.r (x.1,x.2.1,x.2.2.1,x.2.2.2.1,x.q.1,x.q.2.1,x3.1,x2.e1)
def Qa (jX:Pt A gP) (jY:Ft A gP) (x:Tup A.ah [.i,.i,.i,.i,.i,.i,.i,.i,.l .iop]):Ot A sV:=
 B.j jX jY (x.1,x.2.1,x.2.2.1,x.2.2.2.1,x.q.1,x.q.2.1,B.x .iop (B.n 8,x.q.2.2.2.1,B.z,x.q.2.2.1,B.z,()),x.2.2.2.2.2.2.2.2.e1) λx0=>
 B.i x0.q.2.2.1 λx1=>
 B.r (x0.1,x0.2.1,x0.2.2.1,x0.2.2.2.1,x0.q.1,x0.q.2.1,x0.2.2.2.2.2.2.2.e1)
def Qb (jX:Pt A gP) (jY:Ft A gP) (x:Tup A.ah [.i,.i,.i,.i,.i,.i,.i,.l .iop]):Ot A jA:=
 B.i B.z λx0=>
 B.j jX jY (x.1,x.2.1,x.2.2.1,x.2.2.2.1,x.q.1,x.q.2.1,B.x .iop (B.n 2,B.z,B.z,x.q.2.2.1,B.z,()),x.2.2.2.2.2.2.2.e1) λx1=>
 B.i x1.q.2.2.1 λx2=>
 B.r (x1.1,x1.2.1,x1.2.2.1,x1.2.2.2.1,x1.q.1,x1.q.2.1,x2.1,x1.2.2.2.2.2.2.2.e1)
def Qc (om:Pt A jA) (oq:Ft A jA) (jX:Pt A gP) (jY:Ft A gP) (x:Tup A.ah [.i,.i,.i,.i,.i,.i,.i,.i,.x .iop,.l .iop]):Ot A sW:=
 B.i B.z λx0=>
 B.j om oq (x.1,x.2.1,x.2.2.1,x.2.2.2.1,x.q.1,x.q.2.1,x.q.2.2.2.1,x.2.2.2.2.2.2.2.2.2.e1) λx1=>
 B.i x1.q.2.2.1 λx2=>
 B.j jX jY (x1.1,x1.2.1,x1.2.2.1,x1.2.2.2.1,x1.q.1,x1.q.2.1,x.o.1,x1.2.2.2.2.2.2.2.e1) λx3=>
 B.i x3.q.2.2.1 λx4=>
 B.j jX jY (x3.1,x3.2.1,x3.2.2.1,x3.2.2.2.1,x3.q.1,x3.q.2.1,B.x .iop (B.n 3,x2.1,x4.1,x.q.2.2.1,B.z,()),x3.2.2.2.2.2.2.2.e1) λx5=>
 B.i x5.q.2.2.1 λx6=>
 B.r (x5.1,x5.2.1,x5.2.2.1,x5.2.2.2.1,x5.q.1,x5.q.2.1,x6.1,x5.2.2.2.2.2.2.2.e1)
def Qd (x:Tup A.ah [.i]):Ot A Ez:=
 B.i B.z λx0=>
 B.i B.u λx1=>
 B.i B.z λx2=>
 B.I [.i,.i,.i] (λx3=>
 B.c (B.l x3.2.2.1 x3.1) (B.i (B.p x3.2.1 x3.2.1) λx4=>
 B.i (B.p x3.2.2.1 B.u) λx5=>
 B.L (x3.1,x4.1,x5.e1))<|
 B.R<|B.i x3.2.1 λx4=>
 B.r x4.e1) (x.1,x1.1,x2.e1)
def Qe (om:Pt A jA) (oq:Ft A jA) (jX:Pt A gP) (jY:Ft A gP) (Jh:Pt A sW) (Ji:Ft A sW) (xX:Pt A sV) (xY:Ft A sV) (x:Tup A.ah [.i,.i,.i,.i,.i,.i,.x .ins,.i,.l .iop]):Ot A EA:=
 B.j Jh Ji (x.1,x.2.1,x.2.2.1,x.2.2.2.1,x.q.1,x.q.2.1,B.u,B.f .ins 2 x.q.2.2.1,B.x .iop (B.u,B.z,B.z,B.f .ins 3 x.q.2.2.1,B.z,()),x.2.2.2.2.2.2.2.2.e1) λx0=>
 B.i x0.q.2.2.1 λx1=>
 B.c (B.e (B.f .ins 0 x.q.2.2.1) (B.n 9)) (B.j jX jY (x0.1,x0.2.1,x0.2.2.1,x0.2.2.2.1,x0.q.1,x0.q.2.1,B.x .iop (B.n 4,x1.1,B.z,B.z,x.q.2.2.2.1,()),x0.2.2.2.2.2.2.2.e1) λx2=>
 B.i x2.q.2.2.1 λx3=>
 B.j xX xY (x2.1,x2.2.1,x2.2.2.1,x2.2.2.2.1,x2.q.1,x2.q.2.1,B.f .ins 1 x.q.2.2.1,x3.1,x2.2.2.2.2.2.2.2.e1) λx4=>
 B.r x4.e7)<|
 B.j om oq (x0.1,x0.2.1,x0.2.2.1,x0.2.2.2.1,x0.q.1,x0.q.2.1,B.f .ins 1 x.q.2.2.1,x0.2.2.2.2.2.2.2.e1) λx2=>
 B.i x2.q.2.2.1 λx3=>
 B.j jX jY (x2.1,x2.2.1,x2.2.2.1,x2.2.2.2.1,x2.q.1,x2.q.2.1,B.x .iop (B.n 5,x1.1,x3.1,B.z,x.q.2.2.2.1,()),x2.2.2.2.2.2.2.2.e1) λx4=>
 B.i x4.q.2.2.1 λx5=>
 B.r (x4.1,x4.2.1,x4.2.2.1,x4.2.2.2.1,x4.q.1,x4.q.2.1,x4.2.2.2.2.2.2.2.e1)
def Qf (om:Pt A jA) (oq:Ft A jA) (x:Tup A.ah [.i,.i,.i,.i,.i,.i,.x .ins,.l .iop]):Ot A EB:=
 B.c (B.e (B.f .ins 0 x.q.2.2.1) (B.n 13)) (B.j om oq (x.1,x.2.1,x.2.2.1,x.2.2.2.1,x.q.1,x.q.2.1,B.f .ins 2 x.q.2.2.1,x.2.2.2.2.2.2.2.e1) λx0=>
 B.i x0.q.2.2.1 λx1=>
 B.i (B.n 2) λx2=>
 A.bV [.i] x1.e1 λx3=>
 B.i B.z λx4=>
 B.r (x0.1,x0.2.1,x2.1,x3.1,x0.q.1,x4.1,x0.2.2.2.2.2.2.2.e1))<|
 B.j om oq (x.1,x.2.1,x.2.2.1,x.2.2.2.1,x.q.1,x.q.2.1,B.f .ins 1 x.q.2.2.1,x.2.2.2.2.2.2.2.e1) λx0=>
 B.i x0.q.2.2.1 λx1=>
 B.j om oq (x0.1,x0.2.1,x0.2.2.1,x0.2.2.2.1,x0.q.1,x0.q.2.1,B.f .ins 2 x.q.2.2.1,x0.2.2.2.2.2.2.2.e1) λx2=>
 B.i x2.q.2.2.1 λx3=>
 B.i (B.n 3) λx4=>
 A.bind [.i,.i,.x .ins,.i,.i,.i,.i,.i,.i,.i,.i,.i,.i,.i,.i,.l .iop] (B.c (B.e (B.f .ins 0 x.q.2.2.1) (B.n 12)) (B.i (B.n 4) λx5=>
 B.r (x1.1,x3.1,x.q.2.2.1,B.z,B.z,B.z,B.z,B.z,B.z,x2.1,x2.2.1,x5.1,x2.2.2.2.1,x2.q.1,x2.q.2.1,x2.2.2.2.2.2.2.2.e1))<|
 B.r (x1.1,x3.1,x.q.2.2.1,B.z,B.z,B.z,B.z,B.z,B.z,x2.1,x2.2.1,x4.1,x2.2.2.2.1,x2.q.1,x2.q.2.1,x2.2.2.2.2.2.2.2.e1)) λx5=>
 B.i x5.1 λx6=>
 B.i x5.2.1 λx7=>
 B.i (B.f .ins 3 x5.2.2.1) λx8=>
 B.r (x5.o.2.1,x5.o.2.2.1,x5.o.2.2.2.1,x6.1,x7.1,x8.1,x5.2.2.2.2.2.2.2.2.2.2.2.2.2.2.2.e1)
def Qg (om:Pt A jA) (oq:Ft A jA) (afh:Pt A EB) (afi:Ft A EB) (jX:Pt A gP) (jY:Ft A gP) (afj:Pt A EA) (afk:Ft A EA) (Jh:Pt A sW) (Ji:Ft A sW) (xX:Pt A sV) (xY:Ft A sV) (afl:Pt A Ez) (afm:Ft A Ez) (x:Tup A.ah [.i,.i,.i,.i,.i,.i,.x .ins,.i,.l .iop]):Ot A EC:=
 B.b (B.e (B.f .ins 0 x.q.2.2.1) B.u) λx0=>
 B.c x0.1 (B.j jX jY (x.1,x.2.1,x.2.2.1,x.2.2.2.1,x.q.1,x.q.2.1,B.x .iop (B.u,B.z,B.z,B.f .ins 3 x.q.2.2.1,B.z,()),x.2.2.2.2.2.2.2.2.e1) λx1=>
 B.i x1.q.2.2.1 λx2=>
 B.j xX xY (x1.1,x1.2.1,x1.2.2.1,x1.2.2.2.1,x1.q.1,x1.q.2.1,B.f .ins 1 x.q.2.2.1,x2.1,x1.2.2.2.2.2.2.2.e1) λx3=>
 B.r x3.e7)<|
 B.b (B.e (B.f .ins 0 x.q.2.2.1) (B.n 2)) λx1=>
 B.c x1.1 (B.j om oq (x.1,x.2.1,x.2.2.1,x.2.2.2.1,x.q.1,x.q.2.1,B.f .ins 2 x.q.2.2.1,x.2.2.2.2.2.2.2.2.e1) λx2=>
 B.i x2.q.2.2.1 λx3=>
 B.j xX xY (x2.1,x2.2.1,x2.2.2.1,x2.2.2.2.1,x2.q.1,x2.q.2.1,B.f .ins 1 x.q.2.2.1,x3.1,x2.2.2.2.2.2.2.2.e1) λx4=>
 B.r x4.e7)<|
 B.b (B.e (B.f .ins 0 x.q.2.2.1) (B.n 8)) λx2=>
 B.c x2.1 (B.j afl afm (B.f .ins 3 x.q.2.2.1,()) λx3=>
 B.j Jh Ji (x.1,x.2.1,x.2.2.1,x.2.2.2.1,x.q.1,x.q.2.1,B.n 3,B.f .ins 2 x.q.2.2.1,B.x .iop (B.u,B.z,B.z,x3.1,B.z,()),x.2.2.2.2.2.2.2.2.e1) λx4=>
 B.i x4.q.2.2.1 λx5=>
 B.j xX xY (x4.1,x4.2.1,x4.2.2.1,x4.2.2.2.1,x4.q.1,x4.q.2.1,B.f .ins 1 x.q.2.2.1,x5.1,x4.2.2.2.2.2.2.2.e1) λx6=>
 B.r x6.e7)<|
 B.b (B.e (B.f .ins 0 x.q.2.2.1) (B.n 9)) λx3=>
 A.bind [.i,.i,.b,.l .iop,.i,.i,.i,.i,.i,.i,.x .ins,.i,.i,.i,.i,.i,.i] (B.c x3.1 (B.r (x.q.2.2.2.1,B.f .ins 0 x.q.2.2.1,x3.1,x.o.1,x.1,x.2.1,x.2.2.1,x.2.2.2.1,x.q.1,x.q.2.1,x.q.2.2.1,B.z,B.z,B.z,B.z,B.z,B.z,()))<|
 B.b (B.e (B.f .ins 0 x.q.2.2.1) (B.n 10)) λx4=>
 B.r (x.q.2.2.2.1,B.f .ins 0 x.q.2.2.1,x4.1,x.o.1,x.1,x.2.1,x.2.2.1,x.2.2.2.1,x.q.1,x.q.2.1,x.q.2.2.1,B.z,B.z,B.z,B.z,B.z,B.z,())) λx4=>
 B.c x4.2.2.1 (B.j afj afk (x4.q.1,x4.q.2.1,x4.q.2.2.1,x4.q.2.2.2.1,x4.o.1,x4.o.2.1,x4.o.2.2.1,x4.1,x4.2.2.2.1,()) λx5=>
 B.r x5.e7)<|
 B.b (B.e x4.2.1 (B.n 14)) λx5=>
 B.c x5.1 (B.j om oq (x4.q.1,x4.q.2.1,x4.q.2.2.1,x4.q.2.2.2.1,x4.o.1,x4.o.2.1,B.f .ins 1 x4.o.2.2.1,x4.2.2.2.1,()) λx6=>
 B.i x6.q.2.2.1 λx7=>
 B.j jX jY (x6.1,x6.2.1,x6.2.2.1,x6.2.2.2.1,x6.q.1,x6.q.2.1,B.x .iop (B.n 7,x7.1,B.z,B.z,x4.1,()),x6.2.2.2.2.2.2.2.e1) λx8=>
 B.i x8.q.2.2.1 λx9=>
 B.r (x8.1,x8.2.1,x8.2.2.1,x8.2.2.2.1,x8.q.1,x8.q.2.1,x8.2.2.2.2.2.2.2.e1))<|
 B.b (B.e x4.2.1 (B.n 15)) λx6=>
 B.c x6.1 (B.j jX jY (x4.q.1,x4.q.2.1,x4.q.2.2.1,x4.q.2.2.2.1,x4.o.1,x4.o.2.1,B.x .iop (B.n 6,B.z,B.z,B.z,x4.1,()),x4.2.2.2.1,()) λx7=>
 B.i x7.q.2.2.1 λx8=>
 B.j xX xY (x7.1,x7.2.1,x7.2.2.1,x7.2.2.2.1,x7.q.1,x7.q.2.1,B.f .ins 1 x4.o.2.2.1,x8.1,x7.2.2.2.2.2.2.2.e1) λx9=>
 B.r x9.e7)<|
 B.b (B.e x4.2.1 (B.n 11)) λx7=>
 A.bind [.b,.l .iop,.i,.i,.i,.i,.i,.i,.x .ins,.i,.i,.i,.i,.i,.i] (B.c x7.1 (B.r (x7.1,x4.2.2.2.e14))<|
 B.b (B.e x4.2.1 (B.n 12)) λx8=>
 A.bind [.b,.l .iop,.i,.i,.i,.i,.i,.i,.x .ins,.i,.i,.i,.i,.i,.i] (B.c x8.1 (B.r (x8.1,x4.2.2.2.e14))<|
 B.b (B.e x4.2.1 (B.n 13)) λx9=>
 B.r (x9.1,x4.2.2.2.e14)) λx9=>
 B.r x9.e15) λx8=>
 B.c x8.1 (B.j afh afi (x8.2.2.1,x8.2.2.2.1,x8.q.1,x8.q.2.1,x8.q.2.2.1,x8.q.2.2.2.1,x8.o.1,x8.2.1,()) λx9=>
 B.r x9.e7)<|
 B.j Jh Ji (x8.2.2.1,x8.2.2.2.1,x8.q.1,x8.q.2.1,x8.q.2.2.1,x8.q.2.2.2.1,B.p (B.q (B.f .ins 0 x8.o.1) (B.n 3)) B.u,B.f .ins 2 x8.o.1,B.x .iop (B.n 2,B.z,B.z,B.f .ins 3 x8.o.1,B.z,()),x8.2.1,()) λx9=>
 B.i x9.q.2.2.1 λx10=>
 B.j xX xY (x9.1,x9.2.1,x9.2.2.1,x9.2.2.2.1,x9.q.1,x9.q.2.1,B.f .ins 1 x8.o.1,x10.1,x9.2.2.2.2.2.2.2.e1) λx11=>
 B.r x11.e7
def Xr (Sj:Pt A BF) (Sk:Ft A BF) (afn:Pt A EC) (afo:Ft A EC) (x:Tup A.ah [.i,.l .ins]):Ot A sZ:=
 B.j Sj Sk x.e2 λx0=>
 B.c (B.N x0.1) (B.r (B.z,B.z,B.z,B.z,B.z,B.z,A.gW .iop,()))<|
 B.i B.z λx1=>
 B.I [.l .ins,.i,.i,.i,.i,.i,.i,.i,.i,.i,.i,.i,.i,.i,.l .iop] (λx2=>
 B.c (B.l x2.2.1 (B.y .ins x2.1)) (B.w .ins x2.1 x2.2.1<|
 B.j afn afo (x2.o.1,x2.o.2.1,x2.o.2.2.1,x2.o.2.2.2.1,x2.o.q.1,x2.o.q.2.1,B.o .ins x2.1 x2.2.1,x2.2.1,x2.2.2.2.2.2.2.2.2.2.2.2.2.2.2.e1) λx3=>
 B.i (B.p x2.2.1 B.u) λx4=>
 B.L (x2.1,x4.1,x2.2.2.1,x2.2.2.2.1,x2.q.1,x2.q.2.1,x2.q.2.2.1,x2.q.2.2.2.1,x3.e7))<|
 B.R<|B.r x2.2.2.2.2.2.2.2.2.e7) (x.2.1,x1.1,B.z,B.z,B.z,B.z,B.z,B.z,x.1,B.y .ins x.2.1,B.u,B.z,B.z,B.p x.1 (B.y .ins x.2.1),A.gW .iop,())
def Xt (x:Tup A.ah [.i]):Ot A je:=
 B.b B.F λx0=>
 B.b (B.a (B.h x.1 B.z) (B.l x.1 (B.n 65536)) B.F) λx1=>
 B.r x1.e1
def Xu (nM:Pt A je) (nN:Ft A je) (x:Tup A.ah [.l .i64]):Ot A BG:=
 B.b B.F λx0=>
 B.i B.z λx1=>
 B.I [.l .i64,.i] (λx2=>
 B.c (B.l x2.2.1 (B.y .i64 x2.1)) (B.w .i64 x2.1 x2.2.1<|
 B.j nM nN (B.f .i64 0 (B.o .i64 x2.1 x2.2.1),()) λx3=>
 B.c (B.N x3.1) (B.b B.F λx4=>
 B.R<|B.r x4.e1)<|
 B.i (B.p x2.2.1 B.u) λx4=>
 B.L (x2.1,x4.e1))<|
 B.R<|B.b B.T λx3=>
 B.r x3.e1) (x.1,x1.e1)
def Xv (EY:Pt A BG) (EZ:Ft A BG) (x:Tup A.ah [.l .i64,.l .i64]):Ot A KW:=
 B.k (B.N (B.g (B.y .i64 x.1) (B.n 64))) EY EZ (x.1,()) λx0=>
 B.k (B.N (B.a (B.g (B.y .i64 x.1) (B.n 64)) B.T (B.N x0.1))) EY EZ x.2.e1 λx1=>
 B.c (B.a (B.a (B.g (B.y .i64 x.1) (B.n 64)) B.T (B.N x0.1)) B.T (B.N x1.1)) (B.r (B.z,B.z,B.F,B.F,B.z,B.z,A.gW .i64,A.gW .i64,A.gW .i64,()))<|
 B.s (.l .i64) (A.lst .i64 [B.x .i64 (B.z,()),B.x .i64 (B.z,()),B.x .i64 (B.z,()),B.x .i64 (B.z,())]) λx2=>
 B.s (.l .i64) (A.lst .i64 []) λx3=>
 B.C (B.m (A.addN (B.y .i64 x3.1) (B.y .i64 x.2.1)) (B.n 1073741824))<|
 B.s (.l .i64) (A.app .i64 x3.1 x.2.1) λx4=>
 B.i B.z λx5=>
 B.I [.l .i64,.i,.i,.i,.b,.b,.i,.i,.i,.i,.b,.b,.i,.i,.l .i64,.l .i64,.l .i64] (λx6=>
 B.c (B.l x6.2.1 (B.n 64)) (B.i B.z λx7=>
 A.bind [.l .i64,.i,.i,.i,.i,.b,.b,.i,.i,.i,.i,.b,.b,.i,.i,.l .i64,.l .i64,.l .i64] (B.c (B.l x6.2.1 (B.y .i64 x6.1)) (B.w .i64 x6.1 x6.2.1<|
 B.i (B.f .i64 0 (B.o .i64 x6.1 x6.2.1)) λx8=>
 B.r (x6.1,x6.2.1,x8.1,x6.2.2.e15))<|
 B.r (x6.1,x6.2.1,x7.1,x6.2.2.e15)) λx8=>
 B.s (.l .i64) (A.lst .i64 [B.x .i64 (x8.2.2.1,())]) λx9=>
 B.C (B.m (A.addN (B.y .i64 x8.o.o.1) (B.y .i64 x9.1)) (B.n 1073741824))<|
 B.s (.l .i64) (A.app .i64 x8.o.o.1 x9.1) λx10=>
 B.i (B.p x8.2.1 B.u) λx11=>
 B.L (x8.1,x11.1,x8.2.2.2.1,x8.q.1,x8.q.2.1,x8.q.2.2.1,x8.q.2.2.2.1,x8.o.1,x8.o.2.1,x8.o.2.2.1,x8.o.2.2.2.1,x8.o.q.1,x8.o.q.2.1,x8.o.q.2.2.1,x8.o.q.2.2.2.1,x10.1,x8.2.2.2.2.2.2.2.2.2.2.2.2.2.2.2.2.2.e1))<|
 B.R<|B.r x6.2.2.2.2.2.2.2.2.e9) (x.1,x5.1,B.z,B.z,B.F,B.F,B.z,B.z,B.z,B.z,B.F,B.F,B.z,B.z,x2.1,A.gW .i64,x4.e1)
def Xw (Ch:Pt A nI) (Ci:Ft A nI) (aD:Pt A bA) (aF:Ft A bA) (x:Tup A.ah [.i,.l .u8,.i]):Ot A KY:=
 B.j aD aF (B.n 6,x.2.e2) λx0=>
 B.i (B.p B.u x0.1) λx1=>
 B.j aD aF (B.n 3,x0.2.e2) λx2=>
 B.s (.l .ins) (A.lst .ins [B.x .ins (B.u,B.z,B.z,x1.e1),B.x .ins (B.u,B.u,B.z,B.u,()),B.x .ins (B.u,B.n 2,B.z,x2.1,())]) λx3=>
 B.j aD aF (B.n 4,x2.2.e2) λx4=>
 B.i x4.1 λx5=>
 B.I [.i,.i,.l .u8,.i,.l .ins] (λx6=>
 B.c (B.g x6.2.1 B.z) (B.j Ch Ci (x6.2.2.1,x6.2.2.2.1,()) λx7=>
 A.bind [.i,.i,.l .u8,.i,.l .ins,.i,.i,.i,.i] (B.c (B.a (B.a (B.l x7.2.1 (B.n 2)) (B.d x7.1 (B.n 10)) B.F) (B.d x7.1 (B.n 14)) B.F) (B.i (B.n 3) λx8=>
 B.r (x6.1,x6.2.1,x7.q.1,x7.q.2.1,x6.q.1,x7.1,x8.1,x7.2.2.1,x7.2.2.2.1,()))<|
 B.r (x6.1,x6.2.1,x7.q.1,x7.q.2.1,x6.q.1,x7.1,x7.2.1,x7.2.2.1,x7.2.2.2.1,())) λx8=>
 B.s (.l .ins) (A.lst .ins [B.x .ins x8.2.2.2.2.2.e4]) λx9=>
 B.C (B.m (A.addN (B.y .ins x8.q.1) (B.y .ins x9.1)) (B.n 1073741824))<|
 B.s (.l .ins) (A.app .ins x8.q.1 x9.1) λx10=>
 B.i (B.q x8.2.1 B.u) λx11=>
 B.L (x8.1,x11.1,x8.2.2.1,x8.2.2.2.1,x10.e1))<|
 B.R<|B.s (.l .ins) (A.lst .ins [B.x .ins (B.n 4,B.z,B.z,B.u,()),B.x .ins (B.n 7,B.n 2,B.n 2,B.n 2,()),B.x .ins (B.n 12,B.n 2,B.z,B.p x6.1 (B.n 3),())]) λx7=>
 B.C (B.m (A.addN (B.y .ins x6.q.1) (B.y .ins x7.1)) (B.n 1073741824))<|
 B.s (.l .ins) (A.app .ins x6.q.1 x7.1) λx8=>
 B.r (x6.2.2.1,x6.2.2.2.1,x8.e1)) (x.1,x5.1,x4.2.1,x4.2.2.1,x3.e1)
def Xx (aD:Pt A bA) (aF:Ft A bA) (x:Tup A.ah [.i,.l .u8,.i]):Ot A KZ:=
 B.j aD aF (B.n 40,x.2.e2) λx0=>
 B.i x0.1 λx1=>
 B.j aD aF (B.n 5,x0.2.e2) λx2=>
 B.i (B.p (B.p x.1 (B.n 3)) x2.1) λx3=>
 B.j aD aF (B.n 2,x2.2.e2) λx4=>
 B.s (.l .ins) (A.lst .ins [B.x .ins (B.u,B.u,B.z,x1.e1),B.x .ins (B.n 9,B.z,B.u,B.z,()),B.x .ins (B.u,B.u,B.z,A.Gj x3.1 (B.n 60),()),B.x .ins (B.n 10,B.z,B.u,x4.1,())]) λx5=>
 B.r (x4.2.1,x4.2.2.1,x5.e1)
def Xy (ET:Pt A nH) (EU:Ft A nH) (x:Tup A.ah [.x .ins]):Ot A BH:=
 B.i B.z λx0=>
 B.j ET EU x.e1 λx1=>
 B.c (B.N x1.1) (B.i B.z λx2=>
 B.r x2.e1)<|
 B.i (B.p (B.p (B.p (B.t (B.f .ins 0 x.1) (B.n 4096)) (B.t (B.f .ins 1 x.1) (B.n 1024))) (B.t (B.f .ins 2 x.1) (B.n 256))) (B.f .ins 3 x.1)) λx2=>
 B.r x2.e1
def Xz (Hr:Pt A BH) (Ht:Ft A BH) (x:Tup A.ah [.l .ins]):Ot A K4:=
 B.s (.l .i64) (A.lst .i64 []) λx0=>
 B.i B.z λx1=>
 B.I [.l .ins,.i,.l .i64] (λx2=>
 B.c (B.l x2.2.1 (B.y .ins x2.1)) (B.w .ins x2.1 x2.2.1<|
 B.j Hr Ht (B.o .ins x2.1 x2.2.1,()) λx3=>
 B.s (.l .i64) (A.lst .i64 [B.x .i64 x3.e1]) λx4=>
 B.C (B.m (A.addN (B.y .i64 x2.2.2.1) (B.y .i64 x4.1)) (B.n 1073741824))<|
 B.s (.l .i64) (A.app .i64 x2.2.2.1 x4.1) λx5=>
 B.i (B.p x2.2.1 B.u) λx6=>
 B.L (x2.1,x6.1,x5.e1))<|
 B.R<|B.r x2.2.2.e1) (x.1,x1.1,x0.e1)
def XA (aD:Pt A bA) (aF:Ft A bA) (x:Tup A.ah [.l .u8,.i]):Ot A BI:=
 B.i B.z λx0=>
 B.j aD aF (B.n 4,x.e2) λx1=>
 B.b (B.e x1.1 B.z) λx2=>
 B.c x2.1 (B.s (.l .i64) (A.lst .i64 [B.x .i64 (B.z,()),B.x .i64 (B.u,()),B.x .i64 (B.n 2,()),B.x .i64 (B.n 3,()),B.x .i64 (B.n 65535,()),B.x .i64 (B.n 32768,()),B.x .i64 (B.n 255,()),B.x .i64 (B.n 256,()),B.x .i64 (B.n 65534,())]) λx3=>
 B.j aD aF (B.n 9,x1.2.e2) λx4=>
 B.w .i64 x3.1 x4.1<|
 B.w .i64 x3.1 x4.1<|
 B.i (B.f .i64 0 (B.o .i64 x3.1 x4.1)) λx5=>
 B.r (x5.1,x4.2.e2))<|
 B.b (B.e x1.1 B.u) λx3=>
 B.c x3.1 (B.j aD aF (B.n 70,x1.2.e2) λx4=>
 B.i x4.1 λx5=>
 B.r (x5.1,x4.2.e2))<|
 B.j aD aF (B.n 256,x1.2.e2) λx4=>
 B.j aD aF (B.n 256,x4.2.e2) λx5=>
 B.i (B.p (B.t x4.1 (B.n 256)) x5.1) λx6=>
 B.r (x6.1,x5.2.e2)
def XB (aiT:Pt A K4) (aiU:Ft A K4) (Hr:Pt A BH) (Ht:Ft A BH) (aiV:Pt A KY) (aiW:Ft A KY) (Ch:Pt A nI) (Ci:Ft A nI) (Ho:Pt A sS) (Hq:Ft A sS) (aiX:Pt A KZ) (aiY:Ft A KZ) (nK:Pt A gN) (nL:Ft A gN) (aD:Pt A bA) (aF:Ft A bA) (Sl:Pt A BI) (Sn:Ft A BI) (x:Tup A.ah [.l .u8,.i]):Ot A K6:=
 B.s (.l .ins) (A.lst .ins []) λx0=>
 B.j aD aF (B.n 2,x.e2) λx1=>
 A.bind [.l .u8,.i,.l .ins] (B.c (B.e x1.1 B.z) (B.s (.l .ins) (A.lst .ins [B.x .ins (B.z,B.z,B.z,B.n 2,())]) λx2=>
 B.C (B.m (A.addN (B.y .ins x0.1) (B.y .ins x2.1)) (B.n 1073741824))<|
 B.s (.l .ins) (A.app .ins x0.1 x2.1) λx3=>
 B.r (x1.2.1,x1.2.2.1,x3.e1))<|
 B.r (x1.2.1,x1.2.2.1,x0.e1)) λx2=>
 B.j aD aF (B.n 5,x2.1,x2.2.1,()) λx3=>
 B.i (B.p B.u x3.1) λx4=>
 B.I [.i,.l .u8,.i,.l .ins] (λx5=>
 B.c (B.a (B.g x5.1 B.z) (B.l (B.y .ins x5.2.2.2.1) (B.n 34)) B.F) (B.j aD aF (B.n 4,x5.2.1,x5.2.2.1,()) λx6=>
 B.b (B.e x6.1 B.z) λx7=>
 A.eY [.i,.l .u8,.i,.l .ins] (B.c x7.1 (B.j aiV aiW (B.y .ins x5.2.2.2.1,x6.2.e2) λx8=>
 B.C (B.m (A.addN (B.y .ins x5.2.2.2.1) (B.y .ins x8.2.2.1)) (B.n 1073741824))<|
 B.s (.l .ins) (A.app .ins x5.2.2.2.1 x8.2.2.1) λx9=>
 B.L (x5.1,x8.1,x8.2.1,x9.e1))<|
 B.b (B.e x6.1 B.u) λx8=>
 A.eY [.i,.l .u8,.i,.l .ins] (B.c x8.1 (B.j aiX aiY (B.y .ins x5.2.2.2.1,x6.2.e2) λx9=>
 B.C (B.m (A.addN (B.y .ins x5.2.2.2.1) (B.y .ins x9.2.2.1)) (B.n 1073741824))<|
 B.s (.l .ins) (A.app .ins x5.2.2.2.1 x9.2.2.1) λx10=>
 B.L (x5.1,x9.1,x9.2.1,x10.e1))<|
 B.j aD aF (B.n 8,x6.2.e2) λx9=>
 B.i (B.p B.u x9.1) λx10=>
 B.I [.i,.i,.l .u8,.i,.l .ins] (λx11=>
 B.c (B.g x11.2.1 B.z) (B.j Ho Hq (x11.2.2.1,x11.2.2.2.1,()) λx12=>
 B.s (.l .ins) (A.lst .ins [B.x .ins (x12.1,x12.2.1,x12.2.2.1,x12.2.2.2.1,())]) λx13=>
 B.C (B.m (A.addN (B.y .ins x11.q.1) (B.y .ins x13.1)) (B.n 1073741824))<|
 B.s (.l .ins) (A.app .ins x11.q.1 x13.1) λx14=>
 B.i (B.q x11.2.1 B.u) λx15=>
 B.L (x11.1,x15.1,x12.q.1,x12.q.2.1,x14.e1))<|
 B.R<|B.L (x11.1,x11.2.2.e3)) (x5.1,x10.1,x9.2.1,x9.2.2.1,x5.2.2.2.e1)) λx9=>
 B.L x9.e4) λx8=>
 B.i (B.q x8.1 B.u) λx9=>
 B.L (x9.1,x8.2.e3))<|
 B.R<|B.s (.l .ins) (A.lst .ins [B.x .ins (B.z,B.z,B.z,B.z,())]) λx6=>
 B.C (B.m (A.addN (B.y .ins x5.2.2.2.1) (B.y .ins x6.1)) (B.n 1073741824))<|
 B.s (.l .ins) (A.app .ins x5.2.2.2.1 x6.1) λx7=>
 B.j aiT aiU x7.e1 λx8=>
 B.I [.l .u8,.i,.l .i64] (λx9=>
 B.c (B.l (B.y .i64 x9.2.2.1) (B.n 48)) (B.j Sl Sn (x9.1,x9.2.1,()) λx10=>
 B.j Ho Hq x10.2.e2 λx11=>
 B.j Hr Ht (B.x .ins (x11.1,x11.2.1,x11.2.2.1,x11.2.2.2.1,()),()) λx12=>
 B.s (.l .i64) (A.lst .i64 [B.x .i64 (B.z,()),B.x .i64 (x10.1,()),B.x .i64 x12.e1]) λx13=>
 B.j aD aF (B.n 3,x11.2.2.2.2.e2) λx14=>
 B.w .i64 x13.1 x14.1<|
 B.w .i64 x13.1 x14.1<|
 B.s (.l .i64) (A.lst .i64 [B.x .i64 (B.f .i64 0 (B.o .i64 x13.1 x14.1),())]) λx15=>
 B.C (B.m (A.addN (B.y .i64 x9.2.2.1) (B.y .i64 x15.1)) (B.n 1073741824))<|
 B.s (.l .i64) (A.app .i64 x9.2.2.1 x15.1) λx16=>
 B.L (x14.2.1,x14.2.2.1,x16.e1))<|
 B.R<|B.C (B.m B.z B.z)<|
 B.C (B.m B.z (B.n 48))<|
 B.C (B.m (B.n 48) (B.y .i64 x9.2.2.1))<|
 B.j aD aF (B.n 4,x9.1,x9.2.1,()) λx10=>
 B.i x10.1 λx11=>
 B.C (B.e B.z B.z)<|
 B.C (B.m B.z (A.su (B.n 48) B.z))<|
 B.C (B.m (A.su (B.n 48) B.z) (B.y .i64 x9.2.2.1))<|
 B.I [.i,.l .u8,.i,.l .i64] (λx12=>
 B.c (B.g x12.1 B.z) (B.j Ch Ci (x12.2.1,x12.2.2.1,()) λx13=>
 B.j Hr Ht (B.x .ins (x13.1,x13.2.1,x13.2.2.1,x13.2.2.2.1,()),()) λx14=>
 B.s (.l .i64) (A.lst .i64 [B.x .i64 x14.e1]) λx15=>
 B.C (B.m (A.addN (B.y .i64 x12.2.2.2.1) (B.y .i64 x15.1)) (B.n 1073741824))<|
 B.s (.l .i64) (A.app .i64 x12.2.2.2.1 x15.1) λx16=>
 B.i (B.q x12.1 B.u) λx17=>
 B.L (x17.1,x13.q.1,x13.q.2.1,x16.e1))<|
 B.R<|B.j Hr Ht (B.x .ins (B.n 14,B.n 3,B.z,B.z,()),()) λx13=>
 B.j Hr Ht (B.x .ins (B.z,B.z,B.z,B.u,()),()) λx14=>
 B.s (.l .i64) (A.lst .i64 [B.x .i64 x13.e1,B.x .i64 x14.e1]) λx15=>
 B.C (B.m (A.addN (B.y .i64 x12.2.2.2.1) (B.y .i64 x15.1)) (B.n 1073741824))<|
 B.s (.l .i64) (A.app .i64 x12.2.2.2.1 x15.1) λx16=>
 B.j nK nL (B.n 9,x12.2.1,x12.2.2.1,()) λx17=>
 A.bind [.l .u8,.i,.l .i64] (B.c x17.1 (B.j aD aF (B.y .i64 x16.1,x17.2.e2) λx18=>
 B.j Sl Sn x18.2.e2 λx19=>
 B.w .i64 x16.1 x18.1<|
 B.w .i64 x16.1 x18.1<|
 B.i x19.1 λx20=>
 B.r (x19.2.1,x19.2.2.1,A.set .i64 x16.1 x18.1 (B.x .i64 x20.e1),()))<|
 B.r (x17.2.1,x17.2.2.1,x16.e1)) λx18=>
 B.r x18.e3) (x11.1,x10.2.1,x10.2.2.1,A.sub .i64 x9.2.2.1 B.z (A.su (B.n 48) B.z),())) (x5.2.1,x5.2.2.1,x8.e1)) (x4.1,x3.2.1,x3.2.2.1,x2.2.2.e1)
def XC (Sl:Pt A BI) (Sn:Ft A BI) (x:Tup A.ah [.i,.l .u8,.i]):Ot A K7:=
 B.s (.l .i64) (A.lst .i64 []) λx0=>
 B.i B.z λx1=>
 B.I [.i,.i,.l .u8,.i,.l .i64] (λx2=>
 B.c (B.l x2.2.1 x2.1) (B.j Sl Sn (x2.2.2.1,x2.2.2.2.1,()) λx3=>
 B.s (.l .i64) (A.lst .i64 [B.x .i64 (x3.1,())]) λx4=>
 B.C (B.m (A.addN (B.y .i64 x2.q.1) (B.y .i64 x4.1)) (B.n 1073741824))<|
 B.s (.l .i64) (A.app .i64 x2.q.1 x4.1) λx5=>
 B.i (B.p x2.2.1 B.u) λx6=>
 B.L (x2.1,x6.1,x3.2.1,x3.2.2.1,x5.e1))<|
 B.R<|B.r x2.2.2.e3) (x.1,x1.1,x.2.1,x.2.2.1,x0.e1)
def XD (nM:Pt A je) (nN:Ft A je) (fM:Pt A fJ) (fO:Ft A fJ) (EY:Pt A BG) (EZ:Ft A BG) (x:Tup A.ah [.x .aB]):Ot A tq:=
 B.b B.F λx0=>
 B.k (B.e (B.y .i64 (B.D .aB 0 .i64 x.1)) (B.n 4)) EY EZ (B.D .aB 0 .i64 x.1,()) λx1=>
 B.k (B.a (B.e (B.y .i64 (B.D .aB 0 .i64 x.1)) (B.n 4)) x1.1 B.F) nM nN (B.f .aB 1 x.1,()) λx2=>
 B.k (B.a (B.a (B.a (B.e (B.y .i64 (B.D .aB 0 .i64 x.1)) (B.n 4)) x1.1 B.F) x2.1 B.F) (B.e (B.y .i64 (B.D .aB 2 .i64 x.1)) (B.n 64)) B.F) EY EZ (B.D .aB 2 .i64 x.1,()) λx3=>
 B.k (B.a (B.a (B.a (B.a (B.e (B.y .i64 (B.D .aB 0 .i64 x.1)) (B.n 4)) x1.1 B.F) x2.1 B.F) (B.e (B.y .i64 (B.D .aB 2 .i64 x.1)) (B.n 64)) B.F) x3.1 B.F) nM nN (B.f .aB 3 x.1,()) λx4=>
 B.k (B.a (B.a (B.a (B.a (B.a (B.e (B.y .i64 (B.D .aB 0 .i64 x.1)) (B.n 4)) x1.1 B.F) x2.1 B.F) (B.e (B.y .i64 (B.D .aB 2 .i64 x.1)) (B.n 64)) B.F) x3.1 B.F) x4.1 B.F) fM fO (B.f .aB 6 x.1,B.z,B.n 4,()) λx5=>
 B.k (B.a (B.a (B.a (B.a (B.a (B.a (B.e (B.y .i64 (B.D .aB 0 .i64 x.1)) (B.n 4)) x1.1 B.F) x2.1 B.F) (B.e (B.y .i64 (B.D .aB 2 .i64 x.1)) (B.n 64)) B.F) x3.1 B.F) x4.1 B.F) x5.1 B.F) EY EZ (B.D .aB 7 .i64 x.1,()) λx6=>
 B.k (B.a (B.a (B.a (B.a (B.a (B.a (B.a (B.e (B.y .i64 (B.D .aB 0 .i64 x.1)) (B.n 4)) x1.1 B.F) x2.1 B.F) (B.e (B.y .i64 (B.D .aB 2 .i64 x.1)) (B.n 64)) B.F) x3.1 B.F) x4.1 B.F) x5.1 B.F) x6.1 B.F) EY EZ (B.D .aB 8 .i64 x.1,()) λx7=>
 B.k (B.a (B.a (B.a (B.a (B.a (B.a (B.a (B.a (B.e (B.y .i64 (B.D .aB 0 .i64 x.1)) (B.n 4)) x1.1 B.F) x2.1 B.F) (B.e (B.y .i64 (B.D .aB 2 .i64 x.1)) (B.n 64)) B.F) x3.1 B.F) x4.1 B.F) x5.1 B.F) x6.1 B.F) x7.1 B.F) fM fO (B.f .aB 9 x.1,B.z,B.n 1000000,()) λx8=>
 B.b (B.a (B.a (B.a (B.a (B.a (B.a (B.a (B.a (B.a (B.e (B.y .i64 (B.D .aB 0 .i64 x.1)) (B.n 4)) x1.1 B.F) x2.1 B.F) (B.e (B.y .i64 (B.D .aB 2 .i64 x.1)) (B.n 64)) B.F) x3.1 B.F) x4.1 B.F) x5.1 B.F) x6.1 B.F) x7.1 B.F) x8.1 B.F) λx9=>
 B.r x9.e1
def Qh (x:Tup A.ah [.x .aB]):Ot A tu:=
 A.bV [.x .aB] x.e1 λx0=>
 B.s (.l .i64) (A.lst .i64 []) λx1=>
 B.C (B.m (A.addN (B.y .i64 x1.1) (B.y .i64 (B.D .aB 0 .i64 x.1))) (B.n 1073741824))<|
 B.s (.l .i64) (A.app .i64 x1.1 (B.D .aB 0 .i64 x.1)) λx2=>
 B.s (.l .i64) (A.lst .i64 []) λx3=>
 B.C (B.m (A.addN (B.y .i64 x3.1) (B.y .i64 (B.D .aB 2 .i64 x.1))) (B.n 1073741824))<|
 B.s (.l .i64) (A.app .i64 x3.1 (B.D .aB 2 .i64 x.1)) λx4=>
 B.s (.l .i64) (A.lst .i64 []) λx5=>
 B.C (B.m (A.addN (B.y .i64 x5.1) (B.y .i64 (B.D .aB 7 .i64 x.1))) (B.n 1073741824))<|
 B.s (.l .i64) (A.app .i64 x5.1 (B.D .aB 7 .i64 x.1)) λx6=>
 B.s (.l .i64) (A.lst .i64 []) λx7=>
 B.C (B.m (A.addN (B.y .i64 x7.1) (B.y .i64 (B.D .aB 8 .i64 x.1))) (B.n 1073741824))<|
 B.s (.l .i64) (A.app .i64 x7.1 (B.D .aB 8 .i64 x.1)) λx8=>
 B.r (B.f .aB 1 x0.1,B.f .aB 3 x0.1,A.fB .aB 4 x0.1,A.fB .aB 5 x0.1,B.f .aB 6 x0.1,B.f .aB 9 x0.1,x2.1,x4.1,x6.1,x8.e1)
def Qi (x:Tup A.ah [.i,.i,.b,.b,.i,.l .i64,.i,.b,.l .i64,.l .i64,.l .i64]):Ot A EF:=
 B.b (B.a x.2.2.2.1 B.T x.q.2.2.2.1) λx0=>
 A.bind [.l .i64,.l .i64,.l .i64,.i,.i,.b,.b,.i,.l .i64,.i,.i,.i,.b,.b,.i,.i] (B.c (B.a x0.1 x.2.2.1 B.F) (B.b B.F λx1=>
 B.b B.F λx2=>
 B.i x.1 λx3=>
 B.i (B.n 48) λx4=>
 B.r (x.o.1,x.o.2.1,x.o.2.2.1,x4.1,x3.1,x2.1,x1.1,x.q.1,x.q.2.1,x.q.2.2.1,B.z,B.z,B.F,B.F,B.z,B.z,()))<|
 B.r (x.o.1,x.o.2.1,x.o.2.2.1,x.1,x.2.1,x.2.2.1,x0.1,x.q.1,x.q.2.1,x.q.2.2.1,B.z,B.z,B.F,B.F,B.z,B.z,())) λx1=>
 B.r (x1.2.2.2.1,x1.q.1,x1.q.2.1,x1.q.2.2.1,x1.q.2.2.2.1,x1.o.1,x1.o.2.1,x1.1,x1.2.1,x1.2.2.1,())
def Qj (x:Tup A.ah [.i,.i,.b,.b,.i,.l .i64,.i,.i,.l .i64,.l .i64,.l .i64]):Ot A mq:=
 B.i x.q.2.2.2.1 λx0=>
 B.r (x.1,x.2.1,x.2.2.1,x.2.2.2.1,x0.1,x.q.2.1,x.q.2.2.1,x.2.2.2.2.2.2.2.2.e3)
def XE (ET:Pt A nH) (EU:Ft A nH) (nM:Pt A je) (nN:Ft A je) (x:Tup A.ah [.i]):Ot A K8:=
 B.b B.F λx0=>
 B.j nM nN x.e1 λx1=>
 B.c (B.N x1.1) (B.b B.F λx2=>
 B.r (B.z,B.z,B.z,B.z,x2.e1))<|
 B.C (B.d (B.n 4096) B.z)<|
 B.C (B.d (B.n 1024) B.z)<|
 B.C (B.d (B.n 4) B.z)<|
 B.C (B.d (B.n 256) B.z)<|
 B.C (B.d (B.n 4) B.z)<|
 B.C (B.d (B.n 256) B.z)<|
 B.j ET EU (B.x .ins (A.arith .quo .i64 x.1 (B.n 4096),A.arith .rem .i64 (A.arith .quo .i64 x.1 (B.n 1024)) (B.n 4),A.arith .rem .i64 (A.arith .quo .i64 x.1 (B.n 256)) (B.n 4),A.arith .rem .i64 x.1 (B.n 256),()),()) λx2=>
 B.c (B.N x2.1) (B.b B.F λx3=>
 B.r (B.z,B.z,B.z,B.z,x3.e1))<|
 B.b B.T λx3=>
 B.r (A.arith .quo .i64 x.1 (B.n 4096),A.arith .rem .i64 (A.arith .quo .i64 x.1 (B.n 1024)) (B.n 4),A.arith .rem .i64 (A.arith .quo .i64 x.1 (B.n 256)) (B.n 4),A.arith .rem .i64 x.1 (B.n 256),x3.e1)
def XF (x:Tup A.ah [.i]):Ot A nJ:=
 B.i B.z λx0=>
 B.C (B.d (B.n 65536) B.z)<|
 B.i (A.arith .rem .i64 x.1 (B.n 65536)) λx1=>
 A.bind [.i] (B.c (B.l x1.1 B.z) (B.i (B.p x1.1 (B.n 65536)) λx2=>
 B.r x2.e1)<|
 B.r x1.e1) λx2=>
 A.bV [.i] x2.e1 λx3=>
 B.r x3.e1
def XG (ze:Pt A nJ) (zf:Ft A nJ) (nM:Pt A je) (nN:Ft A je) (x:Tup A.ah [.i,.i,.i]):Ot A BJ:=
 B.i B.z λx0=>
 B.j nM nN (x.2.1,()) λx1=>
 B.k (B.N (B.N x1.1)) nM nN x.2.2.e1 λx2=>
 B.c (B.a (B.N x1.1) B.T (B.N x2.1)) (B.i B.z λx3=>
 B.r x3.e1)<|
 B.b (B.e x.1 B.u) λx3=>
 B.c x3.1 (B.j ze zf (B.p x.2.1 x.2.2.1,()) λx4=>
 A.bV [.i] x4.e1 λx5=>
 B.r x5.e1)<|
 B.b (B.e x.1 (B.n 2)) λx4=>
 B.c x4.1 (B.j ze zf (B.q x.2.1 x.2.2.1,()) λx5=>
 A.bV [.i] x5.e1 λx6=>
 B.r x6.e1)<|
 B.b (B.e x.1 (B.n 3)) λx5=>
 B.c x5.1 (B.j ze zf (B.t x.2.1 x.2.2.1,()) λx6=>
 A.bV [.i] x6.e1 λx7=>
 B.r x7.e1)<|
 B.b (B.e x.1 (B.n 4)) λx6=>
 B.c x6.1 (B.i (A.arith .and .i64 x.2.1 x.2.2.1) λx7=>
 B.r x7.e1)<|
 B.b (B.e x.1 (B.n 5)) λx7=>
 B.c x7.1 (B.i (A.arith .xor .i64 x.2.1 x.2.2.1) λx8=>
 B.r x8.e1)<|
 B.i B.z λx8=>
 B.r x8.e1
def Qk (ze:Pt A nJ) (zf:Ft A nJ) (x:Tup A.ah [.i,.i,.b,.b,.i,.l .i64,.i,.i,.l .i64,.l .i64,.l .i64]):Ot A gQ:=
 B.j ze zf (x.q.2.2.2.1,()) λx0=>
 A.bV [.i] x0.e1 λx1=>
 B.i (B.p x.q.2.2.1 B.u) λx2=>
 B.r (x1.1,x.2.1,x.2.2.1,x.2.2.2.1,x.q.1,x.q.2.1,x2.1,x.2.2.2.2.2.2.2.2.e3)
def Ql (Az:Pt A mq) (AA:Ft A mq) (jB:Pt A gQ) (jC:Ft A gQ) (x:Tup A.ah [.i,.i,.b,.b,.i,.l .i64,.i,.i,.l .i64,.l .i64,.l .i64]):Ot A EG:=
 B.b (B.e x.q.2.2.2.1 B.u) λx0=>
 B.c x0.1 (B.b B.T λx1=>
 B.j jB jC (x.1,x.2.1,x1.1,x.2.2.2.1,x.q.1,x.q.2.1,x.q.2.2.1,x.2.1,x.2.2.2.2.2.2.2.2.e3) λx2=>
 B.r x2.e10)<|
 B.b (B.e x.q.2.2.2.1 (B.n 2)) λx1=>
 A.bind [.l .i64,.l .i64,.l .i64,.i,.i,.b,.b,.i,.l .i64,.i,.i,.i,.b,.b,.i,.i] (B.c x1.1 (B.b B.T λx2=>
 B.r (x.o.1,x.o.2.1,x.o.2.2.1,x.1,x.2.1,x2.1,x.2.2.2.1,x.q.1,x.q.2.1,x.q.2.2.1,B.z,B.z,B.F,B.F,B.z,B.z,()))<|
 B.b (B.e x.q.2.2.2.1 (B.n 3)) λx2=>
 A.bind [.l .i64,.l .i64,.l .i64,.i,.i,.b,.b,.i,.l .i64,.i,.i,.i,.b,.b,.i,.i] (B.c x2.1 (B.b B.F λx3=>
 B.r (x.o.1,x.o.2.1,x.o.2.2.1,x.1,x.2.1,x3.1,x.2.2.2.1,x.q.1,x.q.2.1,x.q.2.2.1,B.z,B.z,B.F,B.F,B.z,B.z,()))<|
 B.j Az AA (x.1,x.2.1,x.2.2.1,x.2.2.2.1,x.q.1,x.q.2.1,x.q.2.2.1,B.u,x.2.2.2.2.2.2.2.2.e3) λx3=>
 B.r (x3.q.2.2.2.1,x3.o.1,x3.o.2.1,x3.1,x3.2.1,x3.2.2.1,x3.2.2.2.1,x3.q.1,x3.q.2.1,x3.q.2.2.1,B.z,B.z,B.F,B.F,B.z,B.z,())) λx3=>
 B.r x3.e16) λx2=>
 B.j jB jC (x2.2.2.2.1,x2.q.1,x2.q.2.1,x2.q.2.2.1,x2.q.2.2.2.1,x2.o.1,x2.o.2.1,B.p x2.2.2.2.1 B.u,x2.1,x2.2.1,x2.2.2.1,()) λx3=>
 B.r x3.e10
def Qm (jB:Pt A gQ) (jC:Ft A gQ) (x:Tup A.ah [.i,.i,.b,.b,.i,.l .i64,.i,.i,.i,.l .i64,.l .i64,.l .i64]):Ot A mF:=
 B.w .i64 x.o.2.1 x.q.2.2.2.1<|
 B.w .i64 x.o.2.1 x.q.2.2.2.1<|
 B.i x.o.1 λx0=>
 B.j jB jC (x.1,x.2.1,x.2.2.1,x.2.2.2.1,x.q.1,x.q.2.1,x.q.2.2.1,B.p x.1 B.u,A.set .i64 x.o.2.1 x.q.2.2.2.1 (B.x .i64 x0.e1),x.2.2.2.2.2.2.2.2.2.2.e2) λx1=>
 B.r x1.e10
def Qn (ze:Pt A nJ) (zf:Ft A nJ) (x:Tup A.ah [.i,.i]):Ot A EH:=
 B.i B.z λx0=>
 B.i x.1 λx1=>
 B.i B.z λx2=>
 B.I [.i,.i,.i] (λx3=>
 B.c (B.l x3.2.2.1 x3.1) (B.j ze zf (B.p x3.2.1 x3.2.1,()) λx4=>
 A.bV [.i] x4.e1 λx5=>
 B.i (B.p x3.2.2.1 B.u) λx6=>
 B.L (x3.1,x5.1,x6.e1))<|
 B.R<|B.i x3.2.1 λx4=>
 B.r x4.e1) (x.2.1,x1.1,x2.e1)
def Qo (ze:Pt A nJ) (zf:Ft A nJ) (Az:Pt A mq) (AA:Ft A mq) (jB:Pt A gQ) (jC:Ft A gQ) (tF:Pt A mF) (tH:Ft A mF) (x:Tup A.ah [.i,.i,.b,.b,.i,.l .i64,.i,.x .ins,.l .i64,.l .i64,.l .i64]):Ot A EI:=
 B.w .i64 x.o.1 (B.f .ins 2 x.q.2.2.2.1)<|
 B.w .i64 x.o.1 (B.f .ins 2 x.q.2.2.2.1)<|
 B.j ze zf (B.p (B.f .i64 0 (B.o .i64 x.o.1 (B.f .ins 2 x.q.2.2.2.1))) (B.f .ins 3 x.q.2.2.2.1),()) λx0=>
 A.bV [.i] x0.e1 λx1=>
 B.c (B.h x1.1 (B.n 64)) (B.j Az AA (x.1,x.2.1,x.2.2.1,x.2.2.2.1,x.q.1,x.q.2.1,x.q.2.2.1,B.n 3,x.2.2.2.2.2.2.2.2.e3) λx2=>
 B.r x2.e10)<|
 B.c (B.e (B.f .ins 0 x.q.2.2.2.1) (B.n 9)) (B.w .i64 x.o.2.1 x1.1<|
 B.w .i64 x.o.2.1 x1.1<|
 B.j tF tH (x.1,x.2.1,x.2.2.1,x.2.2.2.1,x.q.1,x.q.2.1,x.q.2.2.1,B.f .ins 1 x.q.2.2.2.1,B.f .i64 0 (B.o .i64 x.o.2.1 x1.1),x.2.2.2.2.2.2.2.2.e3) λx2=>
 B.r x2.e10)<|
 B.w .i64 x.o.1 (B.f .ins 1 x.q.2.2.2.1)<|
 B.w .i64 x.o.1 (B.f .ins 1 x.q.2.2.2.1)<|
 B.w .i64 x.o.2.1 x1.1<|
 B.w .i64 x.o.2.1 x1.1<|
 B.i (B.f .i64 0 (B.o .i64 x.o.1 (B.f .ins 1 x.q.2.2.2.1))) λx2=>
 B.j jB jC (x.1,x.2.1,x.2.2.1,x.2.2.2.1,x.q.1,x.q.2.1,x.q.2.2.1,B.p x.1 B.u,x.o.1,A.set .i64 x.o.2.1 x1.1 (B.x .i64 x2.e1),x.2.2.2.2.2.2.2.2.2.2.e1) λx3=>
 B.r x3.e10
def Qp (jB:Pt A gQ) (jC:Ft A gQ) (tF:Pt A mF) (tH:Ft A mF) (x:Tup A.ah [.i,.i,.b,.b,.i,.l .i64,.i,.x .ins,.l .i64,.l .i64,.l .i64]):Ot A EJ:=
 B.c (B.e (B.f .ins 0 x.q.2.2.2.1) (B.n 14)) (B.w .i64 x.o.1 (B.f .ins 1 x.q.2.2.2.1)<|
 B.w .i64 x.o.1 (B.f .ins 1 x.q.2.2.2.1)<|
 B.C (B.m (A.addN (B.y .i64 x.o.2.2.1) (B.y .i64 (A.lst .i64 [B.x .i64 (B.f .i64 0 (B.o .i64 x.o.1 (B.f .ins 1 x.q.2.2.2.1)),())]))) (B.n 1073741824))<|
 B.s (.l .i64) (A.app .i64 x.o.2.2.1 (A.lst .i64 [B.x .i64 (B.f .i64 0 (B.o .i64 x.o.1 (B.f .ins 1 x.q.2.2.2.1)),())])) λx0=>
 B.j jB jC (x.1,x.2.1,x.2.2.1,x.2.2.2.1,x.q.1,x.q.2.1,x.q.2.2.1,B.p x.1 B.u,x.o.1,x.o.2.1,x0.e1) λx1=>
 B.r x1.e10)<|
 B.i B.z λx0=>
 A.bind [.i,.l .i64,.l .i64,.l .i64,.i,.i,.b,.b,.i,.l .i64,.i,.x .ins,.i,.i,.b,.b,.i,.i] (B.c (B.g (B.y .i64 x.q.2.1) B.z) (B.w .i64 x.q.2.1 B.z<|
 B.i (B.f .i64 0 (B.o .i64 x.q.2.1 B.z)) λx1=>
 B.C (B.m B.z B.u)<|
 B.C (B.m B.u (B.y .i64 x.q.2.1))<|
 B.C (B.m (B.y .i64 x.q.2.1) (B.y .i64 x.q.2.1))<|
 B.s (.l .i64) (A.sub .i64 x.q.2.1 B.u (B.y .i64 x.q.2.1)) λx2=>
 B.r (x1.1,x.o.1,x.o.2.1,x.o.2.2.1,x.1,x.2.1,x.2.2.1,x.2.2.2.1,x.q.1,x2.1,x.q.2.2.1,x.q.2.2.2.1,B.z,B.z,B.F,B.F,B.z,B.z,()))<|
 B.r (x0.1,x.o.1,x.o.2.1,x.o.2.2.1,x.1,x.2.1,x.2.2.1,x.2.2.2.1,x.q.1,x.q.2.1,x.q.2.2.1,x.q.2.2.2.1,B.z,B.z,B.F,B.F,B.z,B.z,())) λx1=>
 B.j tF tH (x1.q.1,x1.q.2.1,x1.q.2.2.1,x1.q.2.2.2.1,x1.o.1,x1.o.2.1,x1.o.2.2.1,B.f .ins 1 x1.o.2.2.2.1,x1.1,x1.2.1,x1.2.2.1,x1.2.2.2.1,()) λx2=>
 B.r x2.e10
def Qq (XH:Pt A BJ) (XI:Ft A BJ) (jB:Pt A gQ) (jC:Ft A gQ) (afp:Pt A EJ) (afq:Ft A EJ) (afr:Pt A EI) (afs:Ft A EI) (tF:Pt A mF) (tH:Ft A mF) (aft:Pt A EH) (afu:Ft A EH) (afv:Pt A EG) (afw:Ft A EG) (x:Tup A.ah [.i,.i,.b,.b,.i,.l .i64,.i,.x .ins,.l .i64,.l .i64,.l .i64]):Ot A EK:=
 B.w .i64 x.o.1 (B.f .ins 2 x.q.2.2.2.1)<|
 B.w .i64 x.o.1 (B.f .ins 2 x.q.2.2.2.1)<|
 B.i (B.f .i64 0 (B.o .i64 x.o.1 (B.f .ins 2 x.q.2.2.2.1))) λx0=>
 B.b (B.e (B.f .ins 0 x.q.2.2.2.1) B.z) λx1=>
 B.c x1.1 (B.j afv afw (x.1,x.2.1,x.2.2.1,x.2.2.2.1,x.q.1,x.q.2.1,x.q.2.2.1,B.f .ins 3 x.q.2.2.2.1,x.2.2.2.2.2.2.2.2.e3) λx2=>
 B.r x2.e10)<|
 B.b (B.e (B.f .ins 0 x.q.2.2.2.1) B.u) λx2=>
 B.c x2.1 (B.j tF tH (x.1,x.2.1,x.2.2.1,x.2.2.2.1,x.q.1,x.q.2.1,x.q.2.2.1,B.f .ins 1 x.q.2.2.2.1,B.f .ins 3 x.q.2.2.2.1,x.2.2.2.2.2.2.2.2.e3) λx3=>
 B.r x3.e10)<|
 B.b (B.e (B.f .ins 0 x.q.2.2.2.1) (B.n 2)) λx3=>
 B.c x3.1 (B.j tF tH (x.1,x.2.1,x.2.2.1,x.2.2.2.1,x.q.1,x.q.2.1,x.q.2.2.1,B.f .ins 1 x.q.2.2.2.1,x0.1,x.2.2.2.2.2.2.2.2.e3) λx4=>
 B.r x4.e10)<|
 B.b (B.e (B.f .ins 0 x.q.2.2.2.1) (B.n 8)) λx4=>
 B.c x4.1 (B.j aft afu (x0.1,B.f .ins 3 x.q.2.2.2.1,()) λx5=>
 B.j tF tH (x.1,x.2.1,x.2.2.1,x.2.2.2.1,x.q.1,x.q.2.1,x.q.2.2.1,B.f .ins 1 x.q.2.2.2.1,x5.1,x.2.2.2.2.2.2.2.2.e3) λx6=>
 B.r x6.e10)<|
 B.b (B.e (B.f .ins 0 x.q.2.2.2.1) (B.n 9)) λx5=>
 A.bind [.i,.i,.b,.l .i64,.l .i64,.l .i64,.i,.i,.b,.b,.i,.l .i64,.i,.x .ins,.i,.i,.b,.b,.i,.i] (B.c x5.1 (B.r (x0.1,B.f .ins 0 x.q.2.2.2.1,x5.1,x.o.1,x.o.2.1,x.o.2.2.1,x.1,x.2.1,x.2.2.1,x.2.2.2.1,x.q.1,x.q.2.1,x.q.2.2.1,x.q.2.2.2.1,B.z,B.z,B.F,B.F,B.z,B.z,()))<|
 B.b (B.e (B.f .ins 0 x.q.2.2.2.1) (B.n 10)) λx6=>
 B.r (x0.1,B.f .ins 0 x.q.2.2.2.1,x6.1,x.o.1,x.o.2.1,x.o.2.2.1,x.1,x.2.1,x.2.2.1,x.2.2.2.1,x.q.1,x.q.2.1,x.q.2.2.1,x.q.2.2.2.1,B.z,B.z,B.F,B.F,B.z,B.z,())) λx6=>
 B.c x6.2.2.1 (B.j afr afs (x6.q.2.2.1,x6.q.2.2.2.1,x6.o.1,x6.o.2.1,x6.o.2.2.1,x6.o.2.2.2.1,x6.o.q.1,x6.o.q.2.1,x6.2.2.2.1,x6.q.1,x6.q.2.1,()) λx7=>
 B.r x7.e10)<|
 B.b (B.e x6.2.1 (B.n 11)) λx7=>
 B.c x7.1 (B.w .i64 x6.2.2.2.1 (B.f .ins 1 x6.o.q.2.1)<|
 B.w .i64 x6.2.2.2.1 (B.f .ins 1 x6.o.q.2.1)<|
 B.c (B.e (B.f .i64 0 (B.o .i64 x6.2.2.2.1 (B.f .ins 1 x6.o.q.2.1))) x6.1) (B.j jB jC (x6.q.2.2.1,x6.q.2.2.2.1,x6.o.1,x6.o.2.1,x6.o.2.2.1,x6.o.2.2.2.1,x6.o.q.1,B.f .ins 3 x6.o.q.2.1,x6.2.2.2.1,x6.q.1,x6.q.2.1,()) λx8=>
 B.r x8.e10)<|
 B.j jB jC (x6.q.2.2.1,x6.q.2.2.2.1,x6.o.1,x6.o.2.1,x6.o.2.2.1,x6.o.2.2.2.1,x6.o.q.1,B.p x6.q.2.2.1 B.u,x6.2.2.2.1,x6.q.1,x6.q.2.1,()) λx8=>
 B.r x8.e10)<|
 B.b (B.e x6.2.1 (B.n 12)) λx8=>
 B.c x8.1 (B.w .i64 x6.2.2.2.1 (B.f .ins 1 x6.o.q.2.1)<|
 B.w .i64 x6.2.2.2.1 (B.f .ins 1 x6.o.q.2.1)<|
 B.c (B.l (B.f .i64 0 (B.o .i64 x6.2.2.2.1 (B.f .ins 1 x6.o.q.2.1))) x6.1) (B.j jB jC (x6.q.2.2.1,x6.q.2.2.2.1,x6.o.1,x6.o.2.1,x6.o.2.2.1,x6.o.2.2.2.1,x6.o.q.1,B.f .ins 3 x6.o.q.2.1,x6.2.2.2.1,x6.q.1,x6.q.2.1,()) λx9=>
 B.r x9.e10)<|
 B.j jB jC (x6.q.2.2.1,x6.q.2.2.2.1,x6.o.1,x6.o.2.1,x6.o.2.2.1,x6.o.2.2.2.1,x6.o.q.1,B.p x6.q.2.2.1 B.u,x6.2.2.2.1,x6.q.1,x6.q.2.1,()) λx9=>
 B.r x9.e10)<|
 B.b (B.e x6.2.1 (B.n 13)) λx9=>
 B.c x9.1 (B.j jB jC (x6.q.2.2.1,x6.q.2.2.2.1,x6.o.1,x6.o.2.1,x6.o.2.2.1,x6.o.2.2.2.1,x6.o.q.1,x6.1,x6.2.2.2.1,x6.q.1,x6.q.2.1,()) λx10=>
 B.r x10.e10)<|
 B.b (B.e x6.2.1 (B.n 14)) λx10=>
 A.bind [.i,.b,.l .i64,.l .i64,.l .i64,.i,.i,.b,.b,.i,.l .i64,.i,.x .ins,.i,.i,.b,.b,.i,.i] (B.c x10.1 (B.r (x6.1,x10.1,x6.2.2.2.e17))<|
 B.b (B.e x6.2.1 (B.n 15)) λx11=>
 B.r (x6.1,x11.1,x6.2.2.2.e17)) λx11=>
 B.c x11.2.1 (B.j afp afq (x11.q.2.1,x11.q.2.2.1,x11.q.2.2.2.1,x11.o.1,x11.o.2.1,x11.o.2.2.1,x11.o.2.2.2.1,x11.o.q.1,x11.2.2.1,x11.2.2.2.1,x11.q.1,()) λx12=>
 B.r x12.e10)<|
 B.w .i64 x11.2.2.1 (B.f .ins 3 x11.o.q.1)<|
 B.w .i64 x11.2.2.1 (B.f .ins 3 x11.o.q.1)<|
 B.j XH XI (B.p (B.q (B.f .ins 0 x11.o.q.1) (B.n 3)) B.u,x11.1,B.f .i64 0 (B.o .i64 x11.2.2.1 (B.f .ins 3 x11.o.q.1)),()) λx12=>
 B.j tF tH (x11.q.2.1,x11.q.2.2.1,x11.q.2.2.2.1,x11.o.1,x11.o.2.1,x11.o.2.2.1,x11.o.2.2.2.1,B.f .ins 1 x11.o.q.1,x12.1,x11.2.2.1,x11.2.2.2.1,x11.q.1,()) λx13=>
 B.r x13.e10
def XJ (aiZ:Pt A K8) (ai0:Ft A K8) (Mh:Pt A tq) (Mi:Ft A tq) (Qr:Pt A tu) (Qs:Ft A tu) (afx:Pt A EK) (afy:Ft A EK) (Az:Pt A mq) (AA:Ft A mq) (afz:Pt A EF) (afA:Ft A EF) (x:Tup A.ah [.x .aB,.b]):Ot A K9:=
 B.j Mh Mi (x.1,()) λx0=>
 B.c (B.N x0.1) (B.r (B.z,B.z,B.F,B.F,B.z,A.gW .i64,B.z,A.gW .i64,A.gW .i64,A.gW .i64,()))<|
 B.j Qr Qs (x.1,()) λx1=>
 B.c (B.a (B.d (B.f .aB 6 x.1) B.z) B.T (B.e (B.f .aB 9 x.1) (B.n 1000000))) (B.r (x1.1,x1.2.1,x1.2.2.1,x1.2.2.2.1,x1.q.1,x1.o.1,x1.q.2.1,x1.q.2.2.1,x1.q.2.2.2.1,x1.2.2.2.2.2.2.2.2.2.e1))<|
 B.j afz afA (x1.1,x1.2.1,x1.2.2.1,x1.2.2.2.1,x1.q.1,x1.o.1,x1.q.2.1,x.2.1,x1.q.2.2.1,x1.q.2.2.2.1,x1.2.2.2.2.2.2.2.2.2.e1) λx2=>
 B.c (B.h x2.1 (B.n 64)) (B.j Az AA (x2.1,x2.2.1,x2.2.2.1,x2.2.2.2.1,x2.q.1,x2.q.2.1,x2.q.2.2.1,B.n 4,x2.2.2.2.2.2.2.2.e3) λx3=>
 B.r x3.e10)<|
 B.w .i64 x2.o.1 x2.1<|
 B.w .i64 x2.o.1 x2.1<|
 B.j aiZ ai0 (B.f .i64 0 (B.o .i64 x2.o.1 x2.1),()) λx3=>
 A.bV [.b] x3.2.2.2.2.e1 λx4=>
 B.c (B.N x4.1) (B.j Az AA (x2.1,x2.2.1,x2.2.2.1,x2.2.2.2.1,x2.q.1,x2.q.2.1,x2.q.2.2.1,B.n 2,x2.2.2.2.2.2.2.2.e3) λx5=>
 B.r x5.e10)<|
 B.j afx afy (x2.1,x2.2.1,x2.2.2.1,x2.2.2.2.1,x2.q.1,x2.q.2.1,x2.q.2.2.1,B.x .ins (x3.1,x3.2.1,x3.2.2.1,x3.2.2.2.1,()),x2.2.2.2.2.2.2.2.e3) λx5=>
 B.r x5.e10
def Qt (x:Tup A.ah [.l .i64,.i]):Ot A EL:=
 B.b B.F λx0=>
 B.i B.z λx1=>
 B.I [.l .i64,.i,.i] (λx2=>
 B.c (B.l x2.2.2.1 (B.y .i64 x2.1)) (B.w .i64 x2.1 x2.2.2.1<|
 B.c (B.e (B.f .i64 0 (B.o .i64 x2.1 x2.2.2.1)) x2.2.1) (B.b B.T λx3=>
 B.R<|B.r x3.e1)<|
 B.i (B.p x2.2.2.1 B.u) λx3=>
 B.L (x2.1,x2.2.1,x3.e1))<|
 B.R<|B.b B.F λx3=>
 B.r x3.e1) (x.1,x.2.1,x1.e1)
def XK (Mh:Pt A tq) (Mi:Ft A tq) (ai1:Pt A K9) (ai2:Ft A K9) (Qr:Pt A tu) (Qs:Ft A tu) (afB:Pt A EL) (afC:Ft A EL) (x:Tup A.ah [.x .aB,.l .i64,.i]):Ot A La:=
 B.j Mh Mi (x.1,()) λx0=>
 B.c (B.a (B.N x0.1) B.T (B.g x.2.2.1 (B.n 400))) (B.r (B.z,B.z,B.F,B.F,B.z,A.gW .i64,B.z,A.gW .i64,A.gW .i64,A.gW .i64,()))<|
 B.j Qr Qs (x.1,()) λx1=>
 B.i B.z λx2=>
 B.I [.l .i64,.i,.i,.i,.i,.b,.b,.i,.i,.i,.i,.b,.b,.i,.l .i64,.i,.l .i64,.l .i64,.l .i64] (λx3=>
 B.c (B.a (B.a (B.l x3.2.2.1 x3.2.1) (B.e x3.o.q.2.1 B.z) B.F) (B.l x3.o.q.2.2.2.1 (B.n 1000000)) B.F) (B.j afB afC (x3.1,x3.o.q.2.2.2.1,()) λx4=>
 B.j ai1 ai2 (B.x .aB (x3.o.o.1,x3.o.2.1,x3.o.o.2.1,x3.o.2.2.1,x3.o.2.2.2.1,x3.o.q.1,x3.o.q.2.1,x3.o.q.2.2.1,x3.o.o.2.2.1,x3.o.q.2.2.2.1,()),x4.e1) λx5=>
 B.i (B.p x3.2.2.1 B.u) λx6=>
 B.L (x3.1,x3.2.1,x6.1,x3.2.2.2.1,x3.q.1,x3.q.2.1,x3.q.2.2.1,x3.q.2.2.2.1,x3.o.1,x5.e10))<|
 B.R<|B.r x3.2.2.2.2.2.2.2.2.2.e10) (x.2.1,x.2.2.1,x2.1,B.z,B.z,B.F,B.F,B.z,B.z,x1.1,x1.2.1,x1.2.2.1,x1.2.2.2.1,x1.q.1,x1.o.1,x1.q.2.1,x1.q.2.2.1,x1.q.2.2.2.1,x1.2.2.2.2.2.2.2.2.2.e1)
def XL (aD:Pt A bA) (aF:Ft A bA) (x:Tup A.ah [.l .u8,.i]):Ot A Lb:=
 B.s (.l .i64) (A.lst .i64 []) λx0=>
 B.j aD aF (B.n 5,x.e2) λx1=>
 B.i x1.1 λx2=>
 B.I [.i,.l .u8,.i,.l .i64] (λx3=>
 B.c (B.g x3.1 B.z) (B.j aD aF (B.n 50,x3.2.1,x3.2.2.1,()) λx4=>
 B.s (.l .i64) (A.lst .i64 [B.x .i64 (x4.1,())]) λx5=>
 B.C (B.m (A.addN (B.y .i64 x3.2.2.2.1) (B.y .i64 x5.1)) (B.n 1073741824))<|
 B.s (.l .i64) (A.app .i64 x3.2.2.2.1 x5.1) λx6=>
 B.i (B.q x3.1 B.u) λx7=>
 B.L (x7.1,x4.2.1,x4.2.2.1,x6.e1))<|
 B.R<|B.r x3.2.e3) (x2.1,x1.2.1,x1.2.2.1,x0.e1)
def XM (ai3:Pt A KW) (ai4:Ft A KW) (ai5:Pt A La) (ai6:Ft A La) (ai7:Pt A K6) (ai8:Ft A K6) (ai9:Pt A Lb) (aja:Ft A Lb) (nK:Pt A gN) (nL:Ft A gN) (aD:Pt A bA) (aF:Ft A bA) (adf:Pt A K7) (adg:Ft A K7) (x:Tup A.ah [.l .u8,.i]):Ot A BK:=
 B.j ai7 ai8 x.e2 λx0=>
 B.j aD aF (B.n 5,x0.1,x0.2.1,()) λx1=>
 B.j adf adg x1.e3 λx2=>
 B.j ai3 ai4 (x0.2.2.1,x2.2.2.e1) λx3=>
 B.j ai9 aja (x2.1,x2.2.1,()) λx4=>
 B.j aD aF (B.n 40,x4.1,x4.2.1,()) λx5=>
 B.j ai5 ai6 (B.x .aB (x3.q.2.2.1,x3.1,x3.q.2.2.2.1,x3.2.1,x3.2.2.1,x3.2.2.2.1,x3.q.1,x3.o.1,A.gW .i64,x3.q.2.1,()),x4.2.2.1,x5.1,()) λx6=>
 B.j aD aF (B.n 4,x5.2.e2) λx7=>
 A.bind [.l .u8,.i,.i,.i,.b,.b,.i,.i,.i,.i,.b,.b,.i,.l .i64,.i,.l .i64,.l .i64,.l .i64] (B.c (B.e x7.1 B.z) (B.j adf adg (B.n 4,x7.2.e2) λx8=>
 B.r (x8.1,x8.2.1,B.z,B.z,B.F,B.F,B.z,B.z,x6.1,x6.2.1,x6.2.2.1,x6.2.2.2.1,x6.q.1,x6.q.2.1,x6.q.2.2.1,x8.2.2.1,x6.2.2.2.2.2.2.2.2.e2))<|
 B.r (x7.2.1,x7.2.2.1,B.z,B.z,B.F,B.F,B.z,B.z,x6.e10)) λx8=>
 B.j aD aF (B.n 6,x8.1,x8.2.1,()) λx9=>
 A.bind [.l .u8,.i,.i,.i,.b,.b,.i,.i,.i,.i,.b,.b,.i,.l .i64,.i,.l .i64,.l .i64,.l .i64] (B.c (B.e x9.1 B.z) (B.i B.z λx10=>
 B.j aD aF (B.n 66,x9.2.e2) λx11=>
 B.i x11.1 λx12=>
 B.r (x11.2.1,x11.2.2.1,x8.2.2.1,x8.2.2.2.1,x8.q.1,x8.q.2.1,x8.q.2.2.1,x8.q.2.2.2.1,x12.1,x8.o.2.1,x8.o.2.2.1,x8.o.2.2.2.1,x10.1,x8.2.2.2.2.2.2.2.2.2.2.2.2.2.e5))<|
 B.r (x9.2.1,x9.2.2.1,x8.2.2.e16)) λx10=>
 B.j nK nL (B.n 9,x10.1,x10.2.1,()) λx11=>
 A.bind [.l .u8,.i,.i,.i,.b,.b,.i,.i,.i,.i,.b,.b,.i,.l .i64,.i,.l .i64,.l .i64,.l .i64] (B.c x11.1 (B.b B.T λx12=>
 B.r (x11.2.1,x11.2.2.1,x10.2.2.1,x10.2.2.2.1,x10.q.1,x10.q.2.1,x10.q.2.2.1,x10.q.2.2.2.1,x10.o.1,x10.o.2.1,x10.o.2.2.1,x12.1,x10.2.2.2.2.2.2.2.2.2.2.2.2.e6))<|
 B.r (x11.2.1,x11.2.2.1,x10.2.2.e16)) λx12=>
 B.j nK nL (B.n 9,x12.1,x12.2.1,()) λx13=>
 A.bind [.l .u8,.i,.i,.i,.b,.b,.i,.i,.i,.i,.b,.b,.i,.l .i64,.i,.l .i64,.l .i64,.l .i64] (B.c x13.1 (B.b (B.N x12.o.2.2.1) λx14=>
 B.r (x13.2.1,x13.2.2.1,x12.2.2.1,x12.2.2.2.1,x12.q.1,x12.q.2.1,x12.q.2.2.1,x12.q.2.2.2.1,x12.o.1,x12.o.2.1,x14.1,x12.2.2.2.2.2.2.2.2.2.2.2.e7))<|
 B.r (x13.2.1,x13.2.2.1,x12.2.2.e16)) λx14=>
 B.r (x14.o.1,x14.o.2.1,x14.o.2.2.1,x14.o.2.2.2.1,x14.o.q.1,x14.o.q.2.1,x14.o.q.2.2.1,x14.1,x14.2.1,x14.2.2.2.2.2.2.2.2.2.2.2.2.2.2.2.e3)
def XO (XP:Pt A BK) (XQ:Ft A BK) (aD:Pt A bA) (aF:Ft A bA) (x:Tup A.ah [.x .blk,.l .u8,.i]):Ot A BL:=
 B.j XP XQ x.2.e2 λx0=>
 B.i B.z λx1=>
 B.i (B.f .blk 0 x.1) λx2=>
 B.i B.z λx3=>
 B.I [.i,.l .u8,.i,.x .blk,.i,.i,.b,.b,.i,.i,.i,.i,.b,.b,.i,.l .i64,.i,.l .i64,.l .i64,.l .i64] (λx4=>
 B.c (B.l x4.1 (B.n 4)) (B.j aD aF (B.n 3,x4.2.1,x4.2.2.1,()) λx5=>
 A.bind [.i,.l .u8,.i,.x .blk,.i,.i,.b,.b,.i,.i,.i,.i,.b,.b,.i,.l .i64,.i,.l .i64,.l .i64,.l .i64] (B.c (B.e x5.1 B.z) (B.j aD aF (B.n 64,x5.2.e2) λx6=>
 B.j aD aF (B.n 5,x6.2.e2) λx7=>
 B.w .i64 (A.lst .i64 [B.x .i64 (B.p (B.f .blk 0 x4.2.2.2.1) B.u,()),B.x .i64 (B.q (B.p (B.f .blk 0 x4.2.2.2.1) (B.f .blk 1 x4.2.2.2.1)) B.u,()),B.x .i64 (x6.1,()),B.x .i64 (B.n 63,()),B.x .i64 (B.n 64,())]) x7.1<|
 B.w .i64 x4.o.o.2.1 x4.1<|
 B.w .i64 x4.o.o.2.1 x4.1<|
 B.i (B.f .i64 0 (B.o .i64 (A.lst .i64 [B.x .i64 (B.p (B.f .blk 0 x4.2.2.2.1) B.u,()),B.x .i64 (B.q (B.p (B.f .blk 0 x4.2.2.2.1) (B.f .blk 1 x4.2.2.2.1)) B.u,()),B.x .i64 (x6.1,()),B.x .i64 (B.n 63,()),B.x .i64 (B.n 64,())]) x7.1)) λx8=>
 B.r (x4.1,x7.2.1,x7.2.2.1,x4.2.2.2.1,x4.q.1,x4.q.2.1,x4.q.2.2.1,x4.q.2.2.2.1,x4.o.1,x4.o.2.1,x4.o.2.2.1,x4.o.2.2.2.1,x4.o.q.1,x4.o.q.2.1,x4.o.q.2.2.1,x4.o.q.2.2.2.1,x4.o.o.1,A.set .i64 x4.o.o.2.1 x4.1 (B.x .i64 x8.e1),x4.2.2.2.2.2.2.2.2.2.2.2.2.2.2.2.2.2.2.e2))<|
 B.r (x4.1,x5.2.1,x5.2.2.1,x4.2.2.2.e17)) λx6=>
 B.i (B.p x6.1 B.u) λx7=>
 B.L (x7.1,x6.2.e19))<|
 B.R<|B.r (x4.o.2.2.1,x4.o.2.2.2.1,x4.o.q.1,x4.o.q.2.1,x4.o.q.2.2.1,x4.o.q.2.2.2.1,x4.o.o.1,x4.2.1,x4.2.2.1,x4.2.2.2.2.2.2.2.2.2.2.2.2.2.2.2.2.2.e3)) (x3.1,x0.q.2.2.2.1,x0.o.1,x.1,B.z,B.z,B.F,B.F,B.z,B.z,x2.1,x0.2.1,x0.2.2.1,x0.2.2.2.1,x1.1,x0.q.2.1,x0.q.2.2.1,x0.2.2.2.2.2.2.2.2.2.e3)
def Qu (fM:Pt A fJ) (fO:Ft A fJ) (x:Tup A.ah [.i]):Ot A EM:=
 B.b B.F λx0=>
 B.j fM fO (x.1,B.u,B.n 4,()) λx1=>
 B.b (B.a x1.1 B.T (B.e x.1 (B.n 6))) λx2=>
 B.r x2.e1
def Qv (afD:Pt A EM) (afE:Ft A EM) (x:Tup A.ah [.l .iop,.i,.i]):Ot A tC:=
 B.b B.F λx0=>
 B.C (B.O (B.N (B.a (B.h x.2.1 B.z) (B.l x.2.1 x.2.2.1) B.F)) (B.m B.z x.2.1))<|
 B.C (B.O (B.N (B.a (B.h x.2.1 B.z) (B.l x.2.1 x.2.2.1) B.F)) (B.l x.2.1 (B.y .iop x.1)))<|
 B.k (B.a (B.h x.2.1 B.z) (B.l x.2.1 x.2.2.1) B.F) afD afE (B.f .iop 0 (B.o .iop x.1 x.2.1),()) λx1=>
 B.b (B.a (B.a (B.h x.2.1 B.z) (B.l x.2.1 x.2.2.1) B.F) x1.1 B.F) λx2=>
 B.r x2.e1
def Qw (nM:Pt A je) (nN:Ft A je) (fM:Pt A fJ) (fO:Ft A fJ) (ou:Pt A tC) (oC:Ft A tC) (x:Tup A.ah [.l .iop,.i,.i]):Ot A EN:=
 B.b B.F λx0=>
 B.w .iop x.1 x.2.1<|
 B.s (.x .iop) (B.o .iop x.1 x.2.1) λx1=>
 B.b (B.e (B.f .iop 0 x1.1) B.u) λx2=>
 B.c x2.1 (B.k (B.a (B.e (B.f .iop 1 x1.1) B.z) (B.e (B.f .iop 2 x1.1) B.z) B.F) nM nN (B.f .iop 3 x1.1,()) λx3=>
 B.b (B.a (B.a (B.a (B.e (B.f .iop 1 x1.1) B.z) (B.e (B.f .iop 2 x1.1) B.z) B.F) x3.1 B.F) (B.e (B.f .iop 4 x1.1) B.z) B.F) λx4=>
 B.r x4.e1)<|
 B.b (B.e (B.f .iop 0 x1.1) (B.n 2)) λx3=>
 B.c x3.1 (B.k (B.a (B.e (B.f .iop 1 x1.1) B.z) (B.e (B.f .iop 2 x1.1) B.z) B.F) fM fO (B.f .iop 3 x1.1,B.z,B.n 3,()) λx4=>
 B.b (B.a (B.a (B.a (B.e (B.f .iop 1 x1.1) B.z) (B.e (B.f .iop 2 x1.1) B.z) B.F) x4.1 B.F) (B.e (B.f .iop 4 x1.1) B.z) B.F) λx5=>
 B.r x5.e1)<|
 B.b (B.e (B.f .iop 0 x1.1) (B.n 3)) λx4=>
 B.c x4.1 (B.j ou oC (x.1,B.f .iop 1 x1.1,x.2.1,()) λx5=>
 B.k x5.1 ou oC (x.1,B.f .iop 2 x1.1,x.2.1,()) λx6=>
 B.k (B.a x5.1 x6.1 B.F) fM fO (B.f .iop 3 x1.1,B.u,B.n 5,()) λx7=>
 B.b (B.a (B.a (B.a x5.1 x6.1 B.F) x7.1 B.F) (B.e (B.f .iop 4 x1.1) B.z) B.F) λx8=>
 B.r x8.e1)<|
 B.b (B.e (B.f .iop 0 x1.1) (B.n 4)) λx5=>
 A.bind [.l .iop,.i,.i,.i,.b,.x .iop] (B.c x5.1 (B.r (x.1,x.2.1,x.2.2.1,B.f .iop 0 x1.1,x5.1,x1.e1))<|
 B.b (B.e (B.f .iop 0 x1.1) (B.n 7)) λx6=>
 B.r (x.1,x.2.1,x.2.2.1,B.f .iop 0 x1.1,x6.1,x1.e1)) λx6=>
 B.c x6.q.1 (B.j ou oC (x6.1,B.f .iop 1 x6.q.2.1,x6.2.1,()) λx7=>
 B.k (B.a (B.a x7.1 (B.e (B.f .iop 2 x6.q.2.1) B.z) B.F) (B.e (B.f .iop 3 x6.q.2.1) B.z) B.F) fM fO (B.f .iop 4 x6.q.2.1,B.z,B.q x6.2.2.1 B.u,()) λx8=>
 B.b (B.a (B.a (B.a x7.1 (B.e (B.f .iop 2 x6.q.2.1) B.z) B.F) (B.e (B.f .iop 3 x6.q.2.1) B.z) B.F) x8.1 B.F) λx9=>
 B.r x9.e1)<|
 B.b (B.e x6.2.2.2.1 (B.n 5)) λx7=>
 B.c x7.1 (B.j ou oC (x6.1,B.f .iop 1 x6.q.2.1,x6.2.1,()) λx8=>
 B.k x8.1 ou oC (x6.1,B.f .iop 2 x6.q.2.1,x6.2.1,()) λx9=>
 B.k (B.a (B.a x8.1 x9.1 B.F) (B.e (B.f .iop 3 x6.q.2.1) B.z) B.F) fM fO (B.f .iop 4 x6.q.2.1,B.z,B.q x6.2.2.1 B.u,()) λx10=>
 B.b (B.a (B.a (B.a x8.1 x9.1 B.F) (B.e (B.f .iop 3 x6.q.2.1) B.z) B.F) x10.1 B.F) λx11=>
 B.r x11.e1)<|
 B.b (B.e x6.2.2.2.1 (B.n 6)) λx8=>
 B.c x8.1 (B.k (B.a (B.a (B.e (B.f .iop 1 x6.q.2.1) B.z) (B.e (B.f .iop 2 x6.q.2.1) B.z) B.F) (B.e (B.f .iop 3 x6.q.2.1) B.z) B.F) fM fO (B.f .iop 4 x6.q.2.1,B.z,B.q x6.2.2.1 B.u,()) λx9=>
 B.b (B.a (B.a (B.a (B.e (B.f .iop 1 x6.q.2.1) B.z) (B.e (B.f .iop 2 x6.q.2.1) B.z) B.F) (B.e (B.f .iop 3 x6.q.2.1) B.z) B.F) x9.1 B.F) λx10=>
 B.r x10.e1)<|
 B.b (B.e x6.2.2.2.1 (B.n 8)) λx9=>
 B.c x9.1 (B.j ou oC (x6.1,B.f .iop 1 x6.q.2.1,x6.2.1,()) λx10=>
 B.k (B.a x10.1 (B.e (B.f .iop 2 x6.q.2.1) B.z) B.F) fM fO (B.f .iop 3 x6.q.2.1,B.z,B.n 3,()) λx11=>
 B.b (B.a (B.a (B.a x10.1 (B.e (B.f .iop 2 x6.q.2.1) B.z) B.F) x11.1 B.F) (B.e (B.f .iop 4 x6.q.2.1) B.z) B.F) λx12=>
 B.r x12.e1)<|
 B.b B.F λx10=>
 B.r x10.e1
def Qx (nM:Pt A je) (nN:Ft A je) (ou:Pt A tC) (oC:Ft A tC) (x:Tup A.ah [.x .blk]):Ot A EO:=
 B.b B.F λx0=>
 B.i (B.y .iop (B.D .blk 2 .iop x.1)) λx1=>
 B.b (B.e (B.f .blk 3 x.1) B.u) λx2=>
 B.c x2.1 (B.k (B.a (B.e (B.f .blk 4 x.1) B.z) (B.e (B.f .blk 5 x.1) B.z) B.F) nM nN (B.f .blk 6 x.1,()) λx3=>
 B.b (B.a (B.a (B.e (B.f .blk 4 x.1) B.z) (B.e (B.f .blk 5 x.1) B.z) B.F) x3.1 B.F) λx4=>
 B.r x4.e1)<|
 B.b (B.e (B.f .blk 3 x.1) (B.n 2)) λx3=>
 B.c x3.1 (B.j ou oC (B.D .blk 2 .iop x.1,B.f .blk 4 x.1,x1.e1) λx4=>
 B.b (B.a (B.a x4.1 (B.e (B.f .blk 5 x.1) B.z) B.F) (B.e (B.f .blk 6 x.1) B.z) B.F) λx5=>
 B.r x5.e1)<|
 B.b (B.e (B.f .blk 3 x.1) (B.n 3)) λx4=>
 A.bind [.i,.b,.x .blk] (B.c x4.1 (B.r (x1.1,x4.1,x.e1))<|
 B.b (B.e (B.f .blk 3 x.1) (B.n 4)) λx5=>
 B.r (x1.1,x5.1,x.e1)) λx5=>
 B.c x5.2.1 (B.j ou oC (B.D .blk 2 .iop x5.2.2.1,B.f .blk 4 x5.2.2.1,x5.1,()) λx6=>
 B.k x6.1 ou oC (B.D .blk 2 .iop x5.2.2.1,B.f .blk 5 x5.2.2.1,x5.1,()) λx7=>
 B.k (B.a x6.1 x7.1 B.F) nM nN (B.f .blk 6 x5.2.2.1,()) λx8=>
 B.b (B.a (B.a x6.1 x7.1 B.F) x8.1 B.F) λx9=>
 B.r x9.e1)<|
 B.b B.F λx6=>
 B.r x6.e1
def XR (fM:Pt A fJ) (fO:Ft A fJ) (afF:Pt A EO) (afG:Ft A EO) (afH:Pt A EN) (afI:Ft A EN) (x:Tup A.ah [.x .blk]):Ot A kL:=
 B.b B.F λx0=>
 B.j fM fO (B.f .blk 1 x.1,B.u,B.n 8,()) λx1=>
 B.k (B.N (B.N x1.1)) fM fO (B.f .blk 0 x.1,B.z,B.q (B.n 64) (B.f .blk 1 x.1),()) λx2=>
 B.c (B.a (B.a (B.N x1.1) B.T (B.N x2.1)) B.T (B.g (B.y .iop (B.D .blk 2 .iop x.1)) (B.n 48))) (B.b B.F λx3=>
 B.r x3.e1)<|
 B.i B.z λx3=>
 B.I [.i,.x .blk] (λx4=>
 B.c (B.l x4.1 (B.y .iop (B.D .blk 2 .iop x4.2.1))) (B.j afH afI (B.D .blk 2 .iop x4.2.1,x4.1,B.f .blk 1 x4.2.1,()) λx5=>
 B.c (B.N x5.1) (B.b B.F λx6=>
 B.R<|B.r x6.e1)<|
 B.i (B.p x4.1 B.u) λx6=>
 B.L (x6.1,x4.2.e1))<|
 B.R<|B.j afF afG x4.2.e1 λx5=>
 A.bV [.b] x5.e1 λx6=>
 B.r x6.e1) (x3.1,x.e1)
def XU (fM:Pt A fJ) (fO:Ft A fJ) (x:Tup A.ah [.x .iop,.l .i64]):Ot A BM:=
 B.s (.x .iop) x.1 λx0=>
 B.j fM fO (B.f .iop 0 x.1,B.n 3,B.n 5,()) λx1=>
 A.bind [.l .i64,.x .iop,.i,.i,.i,.i,.i,.x .iop] (B.c (B.a (B.a x1.1 B.T (B.e (B.f .iop 0 x.1) (B.n 7))) B.T (B.e (B.f .iop 0 x.1) (B.n 8))) (B.w .i64 x.2.1 (B.f .iop 1 x.1)<|
 B.i (B.f .i64 0 (B.o .i64 x.2.1 (B.f .iop 1 x.1))) λx2=>
 B.r (x.2.1,x.1,B.z,B.z,B.z,B.z,B.z,B.x .iop (B.f .iop 0 x0.1,x2.1,B.f .iop 2 x0.1,B.f .iop 3 x0.1,B.f .iop 4 x0.1,()),()))<|
 B.r (x.2.1,x.1,B.z,B.z,B.z,B.z,B.z,x0.e1)) λx2=>
 A.bind [.i,.i,.i,.i,.i,.x .iop] (B.c (B.a (B.e (B.f .iop 0 x2.2.1) (B.n 3)) B.T (B.e (B.f .iop 0 x2.2.1) (B.n 5))) (B.w .i64 x2.1 (B.f .iop 2 x2.2.1)<|
 B.i (B.f .i64 0 (B.o .i64 x2.1 (B.f .iop 2 x2.2.1))) λx3=>
 B.r (x2.2.2.1,x2.2.2.2.1,x2.q.1,x2.q.2.1,x2.q.2.2.1,B.x .iop (B.f .iop 0 x2.q.2.2.2.1,B.f .iop 1 x2.q.2.2.2.1,x3.1,B.f .iop 3 x2.q.2.2.2.1,B.f .iop 4 x2.q.2.2.2.1,()),()))<|
 B.r x2.2.2.e6) λx3=>
 A.bV [.x .iop] x3.2.2.2.2.2.e1 λx4=>
 B.r x4.e1
def XV (XW:Pt A BM) (XY:Ft A BM) (x:Tup A.ah [.x .blk,.l .bool]):Ot A BN:=
 B.s (.l .iop) (A.lst .iop []) λx0=>
 B.s (.l .i64) (A.lst .i64 []) λx1=>
 B.i B.z λx2=>
 B.I [.l .bool,.i,.x .blk,.i,.i,.i,.i,.i,.i,.l .iop,.l .i64] (λx3=>
 B.c (B.l x3.2.1 (B.y .iop (B.D .blk 2 .iop x3.2.2.1))) (B.s (.l .i64) (A.lst .i64 [B.x .i64 (B.y .iop x3.o.2.1,())]) λx4=>
 B.C (B.m (A.addN (B.y .i64 x3.o.2.2.1) (B.y .i64 x4.1)) (B.n 1073741824))<|
 B.s (.l .i64) (A.app .i64 x3.o.2.2.1 x4.1) λx5=>
 B.w .bool x3.1 x3.2.1<|
 A.bind [.l .bool,.i,.x .blk,.i,.i,.i,.i,.i,.i,.l .iop,.l .i64] (B.c (A.fB .bool 0 (B.o .bool x3.1 x3.2.1)) (B.w .iop (B.D .blk 2 .iop x3.2.2.1) x3.2.1<|
 B.j XW XY (B.o .iop (B.D .blk 2 .iop x3.2.2.1) x3.2.1,x5.e1) λx6=>
 B.s (.l .iop) (A.lst .iop [x6.1]) λx7=>
 B.C (B.m (A.addN (B.y .iop x3.o.2.1) (B.y .iop x7.1)) (B.n 1073741824))<|
 B.s (.l .iop) (A.app .iop x3.o.2.1 x7.1) λx8=>
 B.r (x3.1,x3.2.1,x3.2.2.1,x3.2.2.2.1,x3.q.1,x3.q.2.1,x3.q.2.2.1,x3.q.2.2.2.1,x3.o.1,x8.1,x5.e1))<|
 B.r (x3.1,x3.2.1,x3.2.2.1,x3.2.2.2.1,x3.q.1,x3.q.2.1,x3.q.2.2.1,x3.q.2.2.2.1,x3.o.1,x3.o.2.1,x5.e1)) λx6=>
 B.i (B.p x6.2.1 B.u) λx7=>
 B.L (x6.1,x7.1,x6.2.2.e9))<|
 B.R<|B.s (.x .blk) x3.2.2.1 λx4=>
 A.bind [.x .blk,.i,.i,.i,.i,.i,.i,.l .i64,.i,.i,.i,.i,.i,.i,.l .iop] (B.c (B.d (B.f .blk 3 x3.2.2.1) B.u) (B.w .i64 x3.o.2.2.1 (B.f .blk 4 x3.2.2.1)<|
 B.w .i64 x3.o.2.2.1 (B.f .blk 4 x3.2.2.1)<|
 B.i (B.f .i64 0 (B.o .i64 x3.o.2.2.1 (B.f .blk 4 x3.2.2.1))) λx5=>
 B.r (x3.2.2.1,x3.2.2.2.1,x3.q.1,x3.q.2.1,x3.q.2.2.1,x3.q.2.2.2.1,x3.o.1,x3.o.2.2.1,B.f .blk 0 x4.1,B.f .blk 1 x4.1,B.f .blk 3 x4.1,x5.1,B.f .blk 5 x4.1,B.f .blk 6 x4.1,x3.o.2.1,()))<|
 B.r (x3.2.2.1,x3.2.2.2.1,x3.q.1,x3.q.2.1,x3.q.2.2.1,x3.q.2.2.2.1,x3.o.1,x3.o.2.2.1,B.f .blk 0 x4.1,B.f .blk 1 x4.1,B.f .blk 3 x4.1,B.f .blk 4 x4.1,B.f .blk 5 x4.1,B.f .blk 6 x4.1,x3.o.2.1,())) λx5=>
 A.bind [.i,.i,.i,.i,.i,.i,.i,.i,.i,.i,.i,.i,.l .iop] (B.c (B.a (B.e (B.f .blk 3 x5.1) (B.n 3)) B.T (B.e (B.f .blk 3 x5.1) (B.n 4))) (B.w .i64 x5.q.2.2.2.1 (B.f .blk 5 x5.1)<|
 B.w .i64 x5.q.2.2.2.1 (B.f .blk 5 x5.1)<|
 B.i (B.f .i64 0 (B.o .i64 x5.q.2.2.2.1 (B.f .blk 5 x5.1))) λx6=>
 B.r (x5.2.1,x5.2.2.1,x5.2.2.2.1,x5.q.1,x5.q.2.1,x5.q.2.2.1,x5.o.1,x5.o.2.1,x5.o.2.2.1,x5.o.2.2.2.1,x6.1,x5.2.2.2.2.2.2.2.2.2.2.2.2.2.e2))<|
 B.r (x5.2.1,x5.2.2.1,x5.2.2.2.1,x5.q.1,x5.q.2.1,x5.q.2.2.1,x5.2.2.2.2.2.2.2.2.e7)) λx6=>
 B.r x6.2.2.2.2.2.2.e7) (x.2.1,x2.1,x.1,B.z,B.z,B.z,B.z,B.z,B.z,x0.1,x1.e1)
def XZ (zh:Pt A kL) (zi:Ft A kL) (fM:Pt A fJ) (fO:Ft A fJ) (x:Tup A.ah [.x .blk]):Ot A Lc:=
 B.s (.l .bool) (A.lst .bool []) λx0=>
 B.j zh zi x.e1 λx1=>
 B.c (B.N x1.1) (B.r x0.e1)<|
 B.i B.z λx2=>
 B.I [.i,.x .blk,.l .bool] (λx3=>
 B.c (B.l x3.1 (B.y .iop (B.D .blk 2 .iop x3.2.1))) (B.w .iop (B.D .blk 2 .iop x3.2.1) x3.1<|
 B.s (.l .bool) (A.lst .bool [B.x .bool (B.h (B.f .iop 0 (B.o .iop (B.D .blk 2 .iop x3.2.1) x3.1)) (B.n 4),())]) λx4=>
 B.C (B.m (A.addN (B.y .bool x3.2.2.1) (B.y .bool x4.1)) (B.n 1073741824))<|
 B.s (.l .bool) (A.app .bool x3.2.2.1 x4.1) λx5=>
 B.i (B.p x3.1 B.u) λx6=>
 B.L (x6.1,x3.2.1,x5.e1))<|
 B.R<|A.bind [.x .blk,.l .bool] (B.c (B.d (B.f .blk 3 x3.2.1) B.u) (B.w .bool x3.2.2.1 (B.f .blk 4 x3.2.1)<|
 B.w .bool x3.2.2.1 (B.f .blk 4 x3.2.1)<|
 B.b B.T λx4=>
 B.r (x3.2.1,A.set .bool x3.2.2.1 (B.f .blk 4 x3.2.1) (B.x .bool x4.e1),()))<|
 B.r x3.2.e2) λx4=>
 A.bind [.x .blk,.l .bool] (B.c (B.a (B.e (B.f .blk 3 x4.1) (B.n 3)) B.T (B.e (B.f .blk 3 x4.1) (B.n 4))) (B.w .bool x4.2.1 (B.f .blk 5 x4.1)<|
 B.w .bool x4.2.1 (B.f .blk 5 x4.1)<|
 B.b B.T λx5=>
 B.r (x4.1,A.set .bool x4.2.1 (B.f .blk 5 x4.1) (B.x .bool x5.e1),()))<|
 B.r x4.e2) λx5=>
 B.i (B.q (B.y .iop (B.D .blk 2 .iop x5.1)) B.u) λx6=>
 B.I [.i,.x .blk,.l .bool] (λx7=>
 B.c (B.h x7.1 B.z) (A.eY [.i,.x .blk,.l .bool] (B.w .iop (B.D .blk 2 .iop x7.2.1) x7.1<|
 B.s (.x .iop) (B.o .iop (B.D .blk 2 .iop x7.2.1) x7.1) λx8=>
 B.w .bool x7.2.2.1 x7.1<|
 B.w .bool x7.2.2.1 x7.1<|
 B.c (B.N (A.fB .bool 0 (B.o .bool x7.2.2.1 x7.1))) (B.L x7.e3)<|
 B.j fM fO (B.f .iop 0 x8.1,B.n 3,B.n 5,()) λx9=>
 A.bind [.i,.x .blk,.l .bool,.x .iop] (B.c (B.a (B.a x9.1 B.T (B.e (B.f .iop 0 x8.1) (B.n 7))) B.T (B.e (B.f .iop 0 x8.1) (B.n 8))) (B.w .bool x7.2.2.1 (B.f .iop 1 x8.1)<|
 B.w .bool x7.2.2.1 (B.f .iop 1 x8.1)<|
 B.b B.T λx10=>
 B.r (x7.1,x7.2.1,A.set .bool x7.2.2.1 (B.f .iop 1 x8.1) (B.x .bool x10.e1),x8.e1))<|
 B.r (x7.1,x7.2.1,x7.2.2.1,x8.e1)) λx10=>
 A.bind [.i,.x .blk,.l .bool] (B.c (B.a (B.e (B.f .iop 0 x10.2.2.2.1) (B.n 3)) B.T (B.e (B.f .iop 0 x10.2.2.2.1) (B.n 5))) (B.w .bool x10.2.2.1 (B.f .iop 2 x10.2.2.2.1)<|
 B.w .bool x10.2.2.1 (B.f .iop 2 x10.2.2.2.1)<|
 B.b B.T λx11=>
 B.r (x10.1,x10.2.1,A.set .bool x10.2.2.1 (B.f .iop 2 x10.2.2.2.1) (B.x .bool x11.e1),()))<|
 B.r (x10.1,x10.2.1,x10.2.2.1,())) λx11=>
 B.L x11.e3) λx8=>
 B.i (B.q x8.1 B.u) λx9=>
 B.L (x9.1,x8.2.e2))<|
 B.R<|B.r x7.2.2.e1) (x6.1,x5.e2)) (x2.1,x.1,x0.e1)
def X0 (zh:Pt A kL) (zi:Ft A kL) (ajb:Pt A Lc) (ajc:Ft A Lc) (X3:Pt A BN) (X4:Ft A BN) (x:Tup A.ah [.x .blk]):Ot A Ld:=
 B.j zh zi x.e1 λx0=>
 B.c (B.N x0.1) (B.r (B.z,B.z,B.z,B.z,B.z,B.z,A.gW .iop,()))<|
 B.j ajb ajc x.e1 λx1=>
 B.j X3 X4 (x.1,x1.e1) λx2=>
 B.r x2.e7
def X5 (x:Tup A.ah [.l .iop,.i]):Ot A Le:=
 B.b B.F λx0=>
 B.i (B.p x.2.1 B.u) λx1=>
 B.I [.l .iop,.i,.i] (λx2=>
 B.c (B.l x2.2.2.1 (B.y .iop x2.1)) (B.w .iop x2.1 x2.2.2.1<|
 B.C (B.O (B.N (B.N (B.e (B.f .iop 0 (B.o .iop x2.1 x2.2.2.1)) (B.n 4)))) (B.m B.z x2.2.2.1))<|
 B.C (B.O (B.N (B.N (B.e (B.f .iop 0 (B.o .iop x2.1 x2.2.2.1)) (B.n 4)))) (B.l x2.2.2.1 (B.y .iop x2.1)))<|
 B.C (B.O (B.N (B.N (B.a (B.e (B.f .iop 0 (B.o .iop x2.1 x2.2.2.1)) (B.n 4)) B.T (B.e (B.f .iop 0 (B.o .iop x2.1 x2.2.2.1)) (B.n 5))))) (B.m B.z x2.2.2.1))<|
 B.C (B.O (B.N (B.N (B.a (B.e (B.f .iop 0 (B.o .iop x2.1 x2.2.2.1)) (B.n 4)) B.T (B.e (B.f .iop 0 (B.o .iop x2.1 x2.2.2.1)) (B.n 5))))) (B.l x2.2.2.1 (B.y .iop x2.1)))<|
 B.C (B.O (B.N (A.rA (B.N (B.a (B.e (B.f .iop 0 (B.o .iop x2.1 x2.2.2.1)) (B.n 4)) B.T (B.e (B.f .iop 0 (B.o .iop x2.1 x2.2.2.1)) (B.n 5)))) (B.e (B.f .iop 0 (B.o .iop x2.1 x2.2.2.1)) (B.n 2)))) (B.m B.z x2.2.2.1))<|
 B.C (B.O (B.N (A.rA (B.N (B.a (B.e (B.f .iop 0 (B.o .iop x2.1 x2.2.2.1)) (B.n 4)) B.T (B.e (B.f .iop 0 (B.o .iop x2.1 x2.2.2.1)) (B.n 5)))) (B.e (B.f .iop 0 (B.o .iop x2.1 x2.2.2.1)) (B.n 2)))) (B.l x2.2.2.1 (B.y .iop x2.1)))<|
 B.C (B.O (B.N (A.rA (B.N (B.a (B.e (B.f .iop 0 (B.o .iop x2.1 x2.2.2.1)) (B.n 4)) B.T (B.e (B.f .iop 0 (B.o .iop x2.1 x2.2.2.1)) (B.n 5)))) (B.e (B.f .iop 0 (B.o .iop x2.1 x2.2.2.1)) (B.n 2)))) (B.m B.z x2.2.1))<|
 B.C (B.O (B.N (A.rA (B.N (B.a (B.e (B.f .iop 0 (B.o .iop x2.1 x2.2.2.1)) (B.n 4)) B.T (B.e (B.f .iop 0 (B.o .iop x2.1 x2.2.2.1)) (B.n 5)))) (B.e (B.f .iop 0 (B.o .iop x2.1 x2.2.2.1)) (B.n 2)))) (B.l x2.2.1 (B.y .iop x2.1)))<|
 B.c (B.a (B.a (B.e (B.f .iop 0 (B.o .iop x2.1 x2.2.2.1)) (B.n 4)) B.T (B.e (B.f .iop 0 (B.o .iop x2.1 x2.2.2.1)) (B.n 5))) B.T (B.a (B.e (B.f .iop 0 (B.o .iop x2.1 x2.2.2.1)) (B.n 2)) (B.e (B.f .iop 3 (B.o .iop x2.1 x2.2.2.1)) (B.f .iop 3 (B.o .iop x2.1 x2.2.1))) B.F)) (B.b B.F λx3=>
 B.R<|B.r x3.e1)<|
 B.w .iop x2.1 x2.2.2.1<|
 B.C (B.O (B.N (B.e (B.f .iop 0 (B.o .iop x2.1 x2.2.2.1)) (B.n 8))) (B.m B.z x2.2.2.1))<|
 B.C (B.O (B.N (B.e (B.f .iop 0 (B.o .iop x2.1 x2.2.2.1)) (B.n 8))) (B.l x2.2.2.1 (B.y .iop x2.1)))<|
 B.C (B.O (B.N (B.e (B.f .iop 0 (B.o .iop x2.1 x2.2.2.1)) (B.n 8))) (B.m B.z x2.2.1))<|
 B.C (B.O (B.N (B.e (B.f .iop 0 (B.o .iop x2.1 x2.2.2.1)) (B.n 8))) (B.l x2.2.1 (B.y .iop x2.1)))<|
 B.c (B.a (B.e (B.f .iop 0 (B.o .iop x2.1 x2.2.2.1)) (B.n 8)) (B.e (B.f .iop 3 (B.o .iop x2.1 x2.2.2.1)) (B.f .iop 3 (B.o .iop x2.1 x2.2.1))) B.F) (B.b B.T λx3=>
 B.R<|B.r x3.e1)<|
 B.i (B.p x2.2.2.1 B.u) λx3=>
 B.L (x2.1,x2.2.1,x3.e1))<|
 B.R<|B.b B.F λx3=>
 B.r x3.e1) (x.1,x.2.1,x1.e1)
def X6 (zh:Pt A kL) (zi:Ft A kL) (X3:Pt A BN) (X4:Ft A BN) (ajd:Pt A Le) (aje:Ft A Le) (x:Tup A.ah [.x .blk]):Ot A Lf:=
 B.j zh zi x.e1 λx0=>
 B.c (B.N x0.1) (B.r (B.z,B.z,B.z,B.z,B.z,B.z,A.gW .iop,()))<|
 B.s (.l .bool) (A.lst .bool []) λx1=>
 B.i B.z λx2=>
 B.I [.i,.x .blk,.i,.i,.i,.i,.i,.i,.l .bool] (λx3=>
 B.c (B.l x3.1 (B.y .iop (B.D .blk 2 .iop x3.2.1))) (B.w .iop (B.D .blk 2 .iop x3.2.1) x3.1<|
 B.k (B.N (B.d (B.f .iop 0 (B.o .iop (B.D .blk 2 .iop x3.2.1) x3.1)) (B.n 8))) ajd aje (B.D .blk 2 .iop x3.2.1,x3.1,()) λx4=>
 B.s (.l .bool) (A.lst .bool [B.x .bool (B.a (B.d (B.f .iop 0 (B.o .iop (B.D .blk 2 .iop x3.2.1) x3.1)) (B.n 8)) B.T (B.N x4.1),())]) λx5=>
 B.C (B.m (A.addN (B.y .bool x3.o.1) (B.y .bool x5.1)) (B.n 1073741824))<|
 B.s (.l .bool) (A.app .bool x3.o.1 x5.1) λx6=>
 B.i (B.p x3.1 B.u) λx7=>
 B.L (x7.1,x3.2.1,x3.2.2.1,x3.2.2.2.1,x3.q.1,x3.q.2.1,x3.q.2.2.1,x3.q.2.2.2.1,x6.e1))<|
 B.R<|B.j X3 X4 (x3.2.1,x3.2.2.2.2.2.2.2.2.e1) λx4=>
 B.r x4.e7) (x2.1,x.1,B.z,B.z,B.z,B.z,B.z,B.z,x1.e1)
def Qy (x:Tup A.ah [.x .blk]):Ot A mG:=
 A.bV [.x .blk] x.e1 λx0=>
 B.s (.l .iop) (A.lst .iop []) λx1=>
 B.C (B.m (A.addN (B.y .iop x1.1) (B.y .iop (B.D .blk 2 .iop x.1))) (B.n 1073741824))<|
 B.s (.l .iop) (A.app .iop x1.1 (B.D .blk 2 .iop x.1)) λx2=>
 B.r (B.f .blk 0 x0.1,B.f .blk 1 x0.1,B.f .blk 3 x0.1,B.f .blk 4 x0.1,B.f .blk 5 x0.1,B.f .blk 6 x0.1,x2.e1)
def X7 (x:Tup A.ah [.l .iop,.i]):Ot A BO:=
 B.i B.z λx0=>
 B.b B.F λx1=>
 B.C (B.O (B.N (B.N (B.a (B.l x.2.1 B.z) B.T (B.h x.2.1 (B.y .iop x.1))))) (B.m B.z x.2.1))<|
 B.C (B.O (B.N (B.N (B.a (B.l x.2.1 B.z) B.T (B.h x.2.1 (B.y .iop x.1))))) (B.l x.2.1 (B.y .iop x.1)))<|
 B.c (B.a (B.a (B.l x.2.1 B.z) B.T (B.h x.2.1 (B.y .iop x.1))) B.T (B.d (B.f .iop 0 (B.o .iop x.1 x.2.1)) B.u)) (B.i B.z λx2=>
 B.b B.F λx3=>
 B.r (x2.1,x3.e1))<|
 B.w .iop x.1 x.2.1<|
 B.i (B.f .iop 3 (B.o .iop x.1 x.2.1)) λx2=>
 B.b B.T λx3=>
 B.r (x2.1,x3.e1)
def X8 (x:Tup A.ah [.x .blk,.i]):Ot A Lg:=
 B.i B.u λx0=>
 B.i B.z λx1=>
 B.i B.z λx2=>
 A.bV [.i] x.2.e1 λx3=>
 B.r (B.f .blk 0 x.1,B.f .blk 1 x.1,B.D .blk 2 .iop x.1,x0.1,x1.1,x2.1,x3.e1)
def X9 (Ya:Pt A Lg) (Yb:Ft A Lg) (Mj:Pt A BO) (Mk:Ft A BO) (x:Tup A.ah [.x .blk]):Ot A Lh:=
 B.j Mj Mk (B.D .blk 2 .iop x.1,B.f .blk 4 x.1,()) λx0=>
 B.i x0.1 λx1=>
 A.bV [.b] x0.2.e1 λx2=>
 B.j Mj Mk (B.D .blk 2 .iop x.1,B.f .blk 5 x.1,()) λx3=>
 B.i x3.1 λx4=>
 A.bV [.b] x3.2.e1 λx5=>
 B.b (B.a (B.e (B.f .blk 3 x.1) (B.n 2)) x2.1 B.F) λx6=>
 B.c x6.1 (B.j Ya Yb (x.1,x1.e1) λx7=>
 B.r (B.x .blk x7.e7,()))<|
 B.b (B.a (B.a (B.a (B.e (B.f .blk 3 x.1) (B.n 3)) x2.1 B.F) x5.1 B.F) (B.e x1.1 x4.1) B.F) λx7=>
 A.bind [.b,.b,.b,.x .blk,.i,.i,.i,.i,.i,.i] (B.c x7.1 (B.r (x2.1,x5.1,x7.1,x.1,B.z,B.z,B.z,B.z,B.z,B.z,()))<|
 B.b (B.a (B.a (B.a (B.e (B.f .blk 3 x.1) (B.n 4)) x2.1 B.F) x5.1 B.F) (B.l x1.1 x4.1) B.F) λx8=>
 B.r (x2.1,x5.1,x8.1,x.1,B.z,B.z,B.z,B.z,B.z,B.z,())) λx8=>
 B.c x8.2.2.1 (B.j Ya Yb (x8.2.2.2.1,B.f .blk 6 x8.2.2.2.1,()) λx9=>
 B.r (B.x .blk x9.e7,()))<|
 B.b (B.a (B.a (B.a (B.e (B.f .blk 3 x8.2.2.2.1) (B.n 3)) B.T (B.e (B.f .blk 3 x8.2.2.2.1) (B.n 4))) x8.1 B.F) x8.2.1 B.F) λx9=>
 B.c x9.1 (B.j Ya Yb (x8.2.2.2.1,B.p (B.f .blk 0 x8.2.2.2.1) (B.f .blk 1 x8.2.2.2.1),()) λx10=>
 B.r (B.x .blk x10.e7,()))<|
 B.s (.x .blk) x8.2.2.2.1 λx10=>
 B.r x10.e1
def Yc (zh:Pt A kL) (zi:Ft A kL) (XH:Pt A BJ) (XI:Ft A BJ) (ajf:Pt A Lh) (ajg:Ft A Lh) (Mj:Pt A BO) (Mk:Ft A BO) (E5:Pt A mG) (E8:Ft A mG) (x:Tup A.ah [.x .blk]):Ot A Li:=
 B.j zh zi x.e1 λx0=>
 B.c (B.N x0.1) (B.r (B.x .blk (B.z,B.z,A.gW .iop,B.z,B.z,B.z,B.z,()),()))<|
 B.j E5 E8 x.e1 λx1=>
 B.i B.z λx2=>
 B.I [.i,.i,.i,.i,.i,.i,.i,.i,.i,.i,.i,.i,.i,.l .iop] (λx3=>
 B.c (B.l x3.1 (B.y .iop x3.o.q.2.1)) (B.w .iop x3.o.q.2.1 x3.1<|
 B.w .iop x3.o.q.2.1 x3.1<|
 B.s (.x .iop) (B.o .iop x3.o.q.2.1 x3.1) λx4=>
 B.j Mj Mk (x3.o.q.2.1,B.f .iop 1 x4.1,()) λx5=>
 B.i x5.1 λx6=>
 A.bV [.b] x5.2.e1 λx7=>
 B.j Mj Mk (x3.o.q.2.1,B.f .iop 2 x4.1,()) λx8=>
 B.i x8.1 λx9=>
 A.bV [.b] x8.2.e1 λx10=>
 A.bind [.i,.i,.i,.i,.i,.i,.i,.i,.i,.i,.i,.i,.i,.l .iop] (B.c (B.a (B.a (B.e (B.f .iop 0 x4.1) (B.n 3)) x7.1 B.F) x10.1 B.F) (B.j XH XI (B.f .iop 3 x4.1,x6.1,x9.e1) λx11=>
 B.w .iop x3.o.q.2.1 x3.1<|
 B.w .iop x3.o.q.2.1 x3.1<|
 B.r (x3.1,x3.2.1,x3.2.2.1,x3.2.2.2.1,x3.q.1,x3.q.2.1,x3.q.2.2.1,x3.q.2.2.2.1,x3.o.1,x3.o.2.1,x3.o.2.2.1,x3.o.2.2.2.1,x3.o.q.1,A.set .iop x3.o.q.2.1 x3.1 (B.x .iop (B.u,B.z,B.z,x11.1,B.z,())),()))<|
 B.r x3.e14) λx11=>
 B.i (B.p x11.1 B.u) λx12=>
 B.L (x12.1,x11.2.e13))<|
 B.R<|B.j ajf ajg (B.x .blk (x3.q.2.2.2.1,x3.o.1,x3.o.q.2.1,x3.o.2.1,x3.o.2.2.1,x3.o.2.2.2.1,x3.o.q.1,()),()) λx4=>
 A.bV [.x .blk] x4.e1 λx5=>
 B.r x5.e1) (x2.1,B.z,B.z,B.z,B.z,B.z,B.z,x1.e7)
def Yd (zh:Pt A kL) (zi:Ft A kL) (XW:Pt A BM) (XY:Ft A BM) (E5:Pt A mG) (E8:Ft A mG) (x:Tup A.ah [.x .blk]):Ot A BP:=
 B.j zh zi x.e1 λx0=>
 B.c (B.N x0.1) (B.r (B.z,B.z,B.z,B.z,B.z,B.z,A.gW .iop,()))<|
 B.j E5 E8 x.e1 λx1=>
 B.s (.l .i64) (A.lst .i64 []) λx2=>
 B.s (.l .i64) (A.lst .i64 [B.x .i64 (B.n (-1),()),B.x .i64 (B.n (-1),()),B.x .i64 (B.n (-1),()),B.x .i64 (B.n (-1),())]) λx3=>
 B.i B.z λx4=>
 B.I [.i,.i,.i,.i,.i,.i,.i,.i,.i,.i,.i,.i,.i,.l .i64,.l .i64,.l .iop] (λx5=>
 B.c (B.l x5.1 (B.y .iop x5.o.q.2.2.2.1)) (B.w .iop x5.o.q.2.2.2.1 x5.1<|
 B.w .iop x5.o.q.2.2.2.1 x5.1<|
 B.j XW XY (B.o .iop x5.o.q.2.2.2.1 x5.1,x5.o.q.2.1,()) λx6=>
 A.bV [.x .iop] x6.e1 λx7=>
 B.w .iop x5.o.q.2.2.2.1 x5.1<|
 B.w .iop x5.o.q.2.2.2.1 x5.1<|
 A.bV [.x .iop] x7.e1 λx8=>
 B.i x5.1 λx9=>
 B.C (B.O (B.N (B.e (B.f .iop 0 x7.1) (B.n 2))) (B.m B.z (B.f .iop 3 x7.1)))<|
 B.C (B.O (B.N (B.e (B.f .iop 0 x7.1) (B.n 2))) (B.l (B.f .iop 3 x7.1) (B.y .i64 x5.o.q.2.2.1)))<|
 B.C (B.O (B.N (B.e (B.f .iop 0 x7.1) (B.n 2))) (B.m B.z (B.f .iop 3 x7.1)))<|
 B.C (B.O (B.N (B.e (B.f .iop 0 x7.1) (B.n 2))) (B.l (B.f .iop 3 x7.1) (B.y .i64 x5.o.q.2.2.1)))<|
 A.bind [.i,.i,.i,.i,.i,.i,.i,.i,.i,.i,.i,.i,.i,.i,.l .i64,.l .i64,.x .iop,.l .iop] (B.c (B.a (B.e (B.f .iop 0 x7.1) (B.n 2)) (B.h (B.f .i64 0 (B.o .i64 x5.o.q.2.2.1 (B.f .iop 3 x7.1))) B.z) B.F) (B.w .i64 x5.o.q.2.2.1 (B.f .iop 3 x7.1)<|
 B.w .i64 x5.o.q.2.2.1 (B.f .iop 3 x7.1)<|
 B.i (B.f .i64 0 (B.o .i64 x5.o.q.2.2.1 (B.f .iop 3 x7.1))) λx10=>
 B.r (x5.1,x10.1,x5.2.1,x5.2.2.1,x5.2.2.2.1,x5.q.1,x5.q.2.1,x5.q.2.2.1,x5.q.2.2.2.1,x5.o.1,x5.o.2.1,x5.o.2.2.1,x5.o.2.2.2.1,x5.o.q.1,x5.o.q.2.1,x5.o.q.2.2.1,x7.1,A.set .iop x5.o.q.2.2.2.1 x5.1 x8.1,()))<|
 B.r (x5.1,x9.1,x5.2.1,x5.2.2.1,x5.2.2.2.1,x5.q.1,x5.q.2.1,x5.q.2.2.1,x5.q.2.2.2.1,x5.o.1,x5.o.2.1,x5.o.2.2.1,x5.o.2.2.2.1,x5.o.q.1,x5.o.q.2.1,x5.o.q.2.2.1,x7.1,A.set .iop x5.o.q.2.2.2.1 x5.1 x8.1,())) λx10=>
 A.bind [.i,.i,.i,.i,.i,.i,.i,.i,.i,.i,.i,.i,.i,.i,.l .i64,.l .i64,.x .iop,.l .iop] (B.c (B.e (B.f .iop 0 x10.o.o.1) (B.n 2)) (B.w .i64 x10.o.q.2.2.2.1 (B.f .iop 3 x10.o.o.1)<|
 B.w .i64 x10.o.q.2.2.2.1 (B.f .iop 3 x10.o.o.1)<|
 B.i x10.2.1 λx11=>
 B.r (x10.1,x10.2.1,x10.2.2.1,x10.2.2.2.1,x10.q.1,x10.q.2.1,x10.q.2.2.1,x10.q.2.2.2.1,x10.o.1,x10.o.2.1,x10.o.2.2.1,x10.o.2.2.2.1,x10.o.q.1,x10.o.q.2.1,x10.o.q.2.2.1,A.set .i64 x10.o.q.2.2.2.1 (B.f .iop 3 x10.o.o.1) (B.x .i64 x11.e1),x10.2.2.2.2.2.2.2.2.2.2.2.2.2.2.2.2.e2))<|
 B.r x10.e18) λx11=>
 A.bind [.i,.i,.i,.i,.i,.i,.i,.i,.i,.i,.i,.i,.i,.i,.l .i64,.l .i64,.l .iop] (B.c (B.e (B.f .iop 0 x11.o.o.1) (B.n 8)) (B.w .i64 x11.o.q.2.2.2.1 (B.f .iop 3 x11.o.o.1)<|
 B.w .i64 x11.o.q.2.2.2.1 (B.f .iop 3 x11.o.o.1)<|
 B.i (B.f .iop 1 x11.o.o.1) λx12=>
 B.r (x11.1,x11.2.1,x11.2.2.1,x11.2.2.2.1,x11.q.1,x11.q.2.1,x11.q.2.2.1,x11.q.2.2.2.1,x11.o.1,x11.o.2.1,x11.o.2.2.1,x11.o.2.2.2.1,x11.o.q.1,x11.o.q.2.1,x11.o.q.2.2.1,A.set .i64 x11.o.q.2.2.2.1 (B.f .iop 3 x11.o.o.1) (B.x .i64 x12.e1),x11.2.2.2.2.2.2.2.2.2.2.2.2.2.2.2.2.2.e1))<|
 B.r (x11.1,x11.2.1,x11.2.2.1,x11.2.2.2.1,x11.q.1,x11.q.2.1,x11.q.2.2.1,x11.q.2.2.2.1,x11.o.1,x11.o.2.1,x11.o.2.2.1,x11.o.2.2.2.1,x11.o.q.1,x11.o.q.2.1,x11.o.q.2.2.1,x11.o.q.2.2.2.1,x11.2.2.2.2.2.2.2.2.2.2.2.2.2.2.2.2.2.e1)) λx12=>
 B.s (.l .i64) (A.lst .i64 [B.x .i64 (x12.2.1,())]) λx13=>
 B.C (B.m (A.addN (B.y .i64 x12.o.q.2.2.1) (B.y .i64 x13.1)) (B.n 1073741824))<|
 B.s (.l .i64) (A.app .i64 x12.o.q.2.2.1 x13.1) λx14=>
 B.i (B.p x12.1 B.u) λx15=>
 B.L (x15.1,x12.2.2.1,x12.2.2.2.1,x12.q.1,x12.q.2.1,x12.q.2.2.1,x12.q.2.2.2.1,x12.o.1,x12.o.2.1,x12.o.2.2.1,x12.o.2.2.2.1,x12.o.q.1,x12.o.q.2.1,x14.1,x12.2.2.2.2.2.2.2.2.2.2.2.2.2.2.2.e2))<|
 B.R<|A.bind [.i,.i,.i,.i,.i,.i,.i,.i,.i,.i,.i,.i,.l .i64,.l .iop] (B.c (B.d x5.o.2.1 B.u) (B.w .i64 x5.o.q.2.1 x5.o.2.2.1<|
 B.w .i64 x5.o.q.2.1 x5.o.2.2.1<|
 B.i (B.f .i64 0 (B.o .i64 x5.o.q.2.1 x5.o.2.2.1)) λx6=>
 B.r (x5.2.1,x5.2.2.1,x5.2.2.2.1,x5.q.1,x5.q.2.1,x5.q.2.2.1,x5.q.2.2.2.1,x5.o.1,x5.o.2.1,x6.1,x5.o.2.2.2.1,x5.o.q.1,x5.o.q.2.1,x5.2.2.2.2.2.2.2.2.2.2.2.2.2.2.2.e1))<|
 B.r (x5.2.1,x5.2.2.1,x5.2.2.2.1,x5.q.1,x5.q.2.1,x5.q.2.2.1,x5.q.2.2.2.1,x5.o.1,x5.o.2.1,x5.o.2.2.1,x5.o.2.2.2.1,x5.o.q.1,x5.o.q.2.1,x5.2.2.2.2.2.2.2.2.2.2.2.2.2.2.2.e1)) λx6=>
 A.bind [.i,.i,.i,.i,.i,.i,.i,.i,.i,.i,.i,.i,.l .iop] (B.c (B.a (B.e x6.o.1 (B.n 3)) B.T (B.e x6.o.1 (B.n 4))) (B.w .i64 x6.o.q.1 x6.o.2.2.1<|
 B.w .i64 x6.o.q.1 x6.o.2.2.1<|
 B.i (B.f .i64 0 (B.o .i64 x6.o.q.1 x6.o.2.2.1)) λx7=>
 B.r (x6.1,x6.2.1,x6.2.2.1,x6.2.2.2.1,x6.q.1,x6.q.2.1,x6.q.2.2.1,x6.q.2.2.2.1,x6.o.1,x6.o.2.1,x7.1,x6.o.2.2.2.1,x6.2.2.2.2.2.2.2.2.2.2.2.2.2.e1))<|
 B.r (x6.1,x6.2.1,x6.2.2.1,x6.2.2.2.1,x6.q.1,x6.q.2.1,x6.q.2.2.1,x6.q.2.2.2.1,x6.o.1,x6.o.2.1,x6.o.2.2.1,x6.o.2.2.2.1,x6.2.2.2.2.2.2.2.2.2.2.2.2.2.e1)) λx7=>
 B.r x7.2.2.2.2.2.2.e7) (x4.1,B.z,B.z,B.z,B.z,B.z,B.z,x1.1,x1.2.1,x1.2.2.1,x1.2.2.2.1,x1.q.1,x1.q.2.1,x2.1,x3.1,x1.2.2.2.2.2.2.e1)
def Ye (ajh:Pt A Li) (aji:Ft A Li) (Yf:Pt A BP) (Yg:Ft A BP) (adh:Pt A Ld) (adi:Ft A Ld) (ajj:Pt A Lf) (ajk:Ft A Lf) (x:Tup A.ah [.x .blk]):Ot A BQ:=
 B.j Yf Yg x.e1 λx0=>
 B.j ajh aji (B.x .blk (x0.1,x0.2.1,x0.q.2.2.1,x0.2.2.1,x0.2.2.2.1,x0.q.1,x0.q.2.1,()),()) λx1=>
 B.j adh adi x1.e1 λx2=>
 B.j ajj ajk (B.x .blk (x2.1,x2.2.1,x2.q.2.2.1,x2.2.2.1,x2.2.2.2.1,x2.q.1,x2.q.2.1,()),()) λx3=>
 B.j adh adi (B.x .blk (x3.1,x3.2.1,x3.q.2.2.1,x3.2.2.1,x3.2.2.2.1,x3.q.1,x3.q.2.1,()),()) λx4=>
 B.r x4.e7
def Qz (Ml:Pt A sZ) (Mq:Ft A sZ) (Yh:Pt A BQ) (Yi:Ft A BQ) (aD:Pt A bA) (aF:Ft A bA) (Yj:Pt A BL) (Yk:Ft A BL) (Mf:Pt A sU) (Mg:Ft A sU) (EW:Pt A mh) (EX:Ft A mh) (x:Tup A.ah [.l .u8,.i]):Ot A EP:=
 B.j Mf Mg x.e2 λx0=>
 B.C (B.m B.z B.z)<|
 B.C (B.m B.z (A.Gj (B.y .ins x0.2.2.1) (B.n 7)))<|
 B.C (B.m (A.Gj (B.y .ins x0.2.2.1) (B.n 7)) (B.y .ins x0.2.2.1))<|
 B.j aD aF (B.n 4,x0.1,x0.2.1,()) λx1=>
 B.C (B.m B.z B.z)<|
 B.C (B.m B.z (A.su (A.Gj (B.y .ins x0.2.2.1) (B.n 7)) B.z))<|
 B.C (B.m (A.addN B.z (A.su (A.Gj (B.y .ins x0.2.2.1) (B.n 7)) B.z)) (B.y .ins x0.2.2.1))<|
 B.C (B.O (B.l B.z (B.y .ins (A.sub .ins x0.2.2.1 B.z (A.addN B.z (A.su (A.Gj (B.y .ins x0.2.2.1) (B.n 7)) B.z))))) (B.e (B.y .ins (A.lst .ins [B.x .ins (B.n 10,x1.1,B.n 3,B.z,())])) B.z))<|
 B.C (B.m (A.addN (B.y .ins (A.lst .ins [B.x .ins (B.n 10,x1.1,B.n 3,B.z,())])) (B.y .ins (A.sub .ins x0.2.2.1 B.z (A.addN B.z (A.su (A.Gj (B.y .ins x0.2.2.1) (B.n 7)) B.z))))) (B.n 1073741824))<|
 B.s (.l .ins) (A.app .ins (A.lst .ins [B.x .ins (B.n 10,x1.1,B.n 3,B.z,())]) (A.sub .ins x0.2.2.1 B.z (A.addN B.z (A.su (A.Gj (B.y .ins x0.2.2.1) (B.n 7)) B.z)))) λx2=>
 B.i B.z λx3=>
 A.bind [.i,.b,.l .u8,.i,.i,.i,.i,.i,.i,.i,.i,.i,.b,.b,.i,.i,.l .ins] (B.c (B.g (B.y .ins x2.1) (B.n 2)) (B.j aD aF (B.n 2,x1.2.e2) λx4=>
 B.r (x3.1,B.a (B.g (B.y .ins x2.1) (B.n 2)) (B.e x4.1 B.z) B.F,x4.2.1,x4.2.2.1,B.z,B.z,B.z,B.z,B.z,B.z,B.z,B.z,B.F,B.F,B.z,B.z,x2.e1))<|
 B.C (B.N (B.g (B.y .ins x2.1) (B.n 2)))<|
 B.r (x3.1,B.F,x1.2.1,x1.2.2.1,B.z,B.z,B.z,B.z,B.z,B.z,B.z,B.z,B.F,B.F,B.z,B.z,x2.e1)) λx4=>
 A.bind [.i,.l .u8,.i,.i,.i,.i,.i,.i,.i,.i,.i,.b,.b,.i,.i,.l .ins] (B.c x4.2.1 (B.w .ins x4.o.o.1 B.u<|
 B.w .ins x4.o.o.1 B.u<|
 B.s (.x .ins) (B.o .ins x4.o.o.1 B.u) λx5=>
 B.j EW EX x5.e1 λx6=>
 A.bind [.i,.l .u8,.i,.i,.i,.i,.i,.i,.i,.i,.i,.b,.b,.i,.i,.l .ins] (B.c (B.a (B.a x6.1 (B.d (B.f .ins 0 x5.1) (B.n 10)) B.F) (B.d (B.f .ins 1 x5.1) (B.n 3)) B.F) (B.w .ins x4.o.o.1 B.z<|
 B.w .ins x4.o.o.1 B.z<|
 A.bV [.x .ins] x5.e1 λx7=>
 B.j aD aF (B.n 4,x4.2.2.1,x4.2.2.2.1,()) λx8=>
 B.w .ins (A.set .ins x4.o.o.1 B.z x7.1) B.u<|
 B.w .ins (A.set .ins x4.o.o.1 B.z x7.1) B.u<|
 B.i B.u λx9=>
 B.r (x9.1,x8.2.1,x8.2.2.1,x4.q.1,x4.q.2.1,x4.q.2.2.1,x4.q.2.2.2.1,x4.o.1,x4.o.2.1,x4.o.2.2.1,x4.o.2.2.2.1,x4.o.q.1,x4.o.q.2.1,x4.o.q.2.2.1,x4.o.q.2.2.2.1,A.set .ins (A.set .ins x4.o.o.1 B.z x7.1) B.u (B.x .ins (B.n 10,x8.1,B.n 3,B.z,())),()))<|
 B.r (x4.1,x4.2.2.e15)) λx7=>
 B.r x7.e16)<|
 B.r (x4.1,x4.2.2.e15)) λx5=>
 B.j aD aF (B.q (B.n 64) (B.y .ins x5.o.q.2.2.2.1),x5.2.1,x5.2.2.1,()) λx6=>
 B.i x6.1 λx7=>
 B.j Ml Mq (x7.1,x5.2.2.2.2.2.2.2.2.2.2.2.2.2.2.2.e1) λx8=>
 B.j aD aF (B.n 3,x6.2.e2) λx9=>
 A.bind [.i,.i,.l .u8,.i,.i,.i,.i,.i,.i,.i,.i,.i,.b,.b,.i,.i,.l .ins,.i,.i,.i,.i,.i,.i,.l .iop] (B.c (B.e x9.1 B.z) (B.j Yh Yi (B.x .blk (x8.1,x8.2.1,x8.q.2.2.1,x8.2.2.1,x8.2.2.2.1,x8.q.1,x8.q.2.1,()),()) λx10=>
 B.r (x5.1,x7.1,x9.2.1,x9.2.2.1,x5.2.2.2.1,x5.q.1,x5.q.2.1,x5.q.2.2.1,x5.q.2.2.2.1,x5.o.1,x5.o.2.1,x5.o.2.2.1,x5.o.2.2.2.1,x5.o.q.1,x5.o.q.2.1,x5.o.q.2.2.1,x5.o.q.2.2.2.1,x10.e7))<|
 B.r (x5.1,x7.1,x9.2.1,x9.2.2.1,x5.2.2.2.1,x5.q.1,x5.q.2.1,x5.q.2.2.1,x5.q.2.2.2.1,x5.o.1,x5.o.2.1,x5.o.2.2.1,x5.o.2.2.2.1,x5.o.q.1,x5.o.q.2.1,x5.o.q.2.2.1,x5.o.q.2.2.2.1,x8.e7)) λx10=>
 B.j Yj Yk (B.x .blk (x10.o.o.2.1,x10.o.o.2.2.1,x10.o.o.q.2.2.2.1,x10.o.o.2.2.2.1,x10.o.o.q.1,x10.o.o.q.2.1,x10.o.o.q.2.2.1,()),x10.2.2.1,x10.2.2.2.1,()) λx11=>
 B.j aD aF (B.p (B.q (B.y .ins x10.o.o.1) x10.1) B.u,x11.q.2.2.2.1,x11.o.1,()) λx12=>
 B.w .i64 x11.o.2.1 (B.n 3)<|
 B.w .i64 x11.o.2.1 (B.n 3)<|
 B.i (B.p (B.p x10.2.1 x10.1) x12.1) λx13=>
 B.r (x10.o.o.2.1,x10.o.o.2.2.1,x10.o.o.2.2.2.1,x10.o.o.q.1,x10.o.o.q.2.1,x10.o.o.q.2.2.1,x11.1,x11.2.1,x11.2.2.1,x11.2.2.2.1,x11.q.1,x11.q.2.1,x11.q.2.2.1,x12.2.1,x12.2.2.1,x10.o.o.q.2.2.2.1,A.set .i64 x11.o.2.1 (B.n 3) (B.x .i64 x13.e1),x11.2.2.2.2.2.2.2.2.2.2.e2)
def Yl (Ml:Pt A sZ) (Mq:Ft A sZ) (Yh:Pt A BQ) (Yi:Ft A BQ) (Yf:Pt A BP) (Yg:Ft A BP) (aD:Pt A bA) (aF:Ft A bA) (Mf:Pt A sU) (Mg:Ft A sU) (x:Tup A.ah [.l .u8,.i]):Ot A Lj:=
 B.j Mf Mg x.e2 λx0=>
 B.j aD aF (B.n 50,x0.1,x0.2.1,()) λx1=>
 B.s (.l .i64) (A.lst .i64 [B.x .i64 (B.z,()),B.x .i64 (B.u,()),B.x .i64 (x1.1,()),B.x .i64 (B.q (B.n 64) (B.y .ins x0.2.2.1),())]) λx2=>
 B.j aD aF (B.n 4,x1.2.e2) λx3=>
 B.w .i64 x2.1 x3.1<|
 B.w .i64 x2.1 x3.1<|
 B.j Ml Mq (B.f .i64 0 (B.o .i64 x2.1 x3.1),x0.2.2.e1) λx4=>
 B.j aD aF (B.n 5,x3.2.e2) λx5=>
 B.b (B.e x5.1 B.z) λx6=>
 B.c x6.1 (B.j Yh Yi (B.x .blk (x4.1,x4.2.1,x4.q.2.2.1,x4.2.2.1,x4.2.2.2.1,x4.q.1,x4.q.2.1,()),()) λx7=>
 B.r (x7.1,x7.2.1,x7.2.2.1,x7.2.2.2.1,x7.q.1,x7.q.2.1,x5.2.1,x5.2.2.1,x7.2.2.2.2.2.2.e1))<|
 B.b (B.e x5.1 B.u) λx7=>
 B.c x7.1 (B.j Yf Yg (B.x .blk (x4.1,x4.2.1,x4.q.2.2.1,x4.2.2.1,x4.2.2.2.1,x4.q.1,x4.q.2.1,()),()) λx8=>
 B.r (x8.1,x8.2.1,x8.2.2.1,x8.2.2.2.1,x8.q.1,x8.q.2.1,x5.2.1,x5.2.2.1,x8.2.2.2.2.2.2.e1))<|
 B.r (x4.1,x4.2.1,x4.2.2.1,x4.2.2.2.1,x4.q.1,x4.q.2.1,x5.2.1,x5.2.2.1,x4.2.2.2.2.2.2.e1)
def Sq (aD:Pt A bA) (aF:Ft A bA) (E5:Pt A mG) (E8:Ft A mG) (x:Tup A.ah [.x .blk,.l .u8,.i]):Ot A Ll:=
 B.j E5 E8 (x.1,()) λx0=>
 B.c (B.e (B.y .iop x0.q.2.2.1) B.z) (B.i (B.p x0.q.2.1 B.u) λx1=>
 B.r (x0.1,x0.2.1,x0.2.2.1,x0.2.2.2.1,x0.q.1,x1.1,x.2.1,x.2.2.1,x0.2.2.2.2.2.2.e1))<|
 B.j aD aF (B.y .iop x0.q.2.2.1,x.2.e2) λx1=>
 B.i x1.1 λx2=>
 B.j aD aF (B.n 9,x1.2.e2) λx3=>
 B.b (B.e x3.1 B.z) λx4=>
 A.bind [.l .u8,.i,.i,.i,.i,.i,.i,.i,.i,.i,.i,.i,.i,.i,.l .iop] (B.c x4.1 (B.w .iop x0.q.2.2.1 x2.1<|
 B.w .iop x0.q.2.2.1 x2.1<|
 B.w .iop x0.q.2.2.1 x2.1<|
 B.w .iop x0.q.2.2.1 x2.1<|
 B.i (B.p (B.f .iop 3 (B.o .iop x0.q.2.2.1 x2.1)) B.u) λx5=>
 B.r (x3.2.1,x3.2.2.1,B.z,B.z,B.z,B.z,B.z,B.z,x0.1,x0.2.1,x0.2.2.1,x0.2.2.2.1,x0.q.1,x0.q.2.1,A.set .iop x0.q.2.2.1 x2.1 (B.x .iop (B.f .iop 0 (B.o .iop x0.q.2.2.1 x2.1),B.f .iop 1 (B.o .iop x0.q.2.2.1 x2.1),B.f .iop 2 (B.o .iop x0.q.2.2.1 x2.1),x5.1,B.f .iop 4 (B.o .iop x0.q.2.2.1 x2.1),())),()))<|
 B.b (B.e x3.1 B.u) λx5=>
 A.bind [.l .u8,.i,.i,.i,.i,.i,.i,.i,.i,.i,.i,.i,.i,.i,.l .iop] (B.c x5.1 (B.j aD aF (B.p x2.1 B.u,x3.2.e2) λx6=>
 B.w .iop x0.q.2.2.1 x2.1<|
 B.w .iop x0.q.2.2.1 x2.1<|
 B.i x6.1 λx7=>
 B.r (x6.2.1,x6.2.2.1,B.z,B.z,B.z,B.z,B.z,B.z,x0.1,x0.2.1,x0.2.2.1,x0.2.2.2.1,x0.q.1,x0.q.2.1,A.set .iop x0.q.2.2.1 x2.1 (B.x .iop (B.f .iop 0 (B.o .iop x0.q.2.2.1 x2.1),x7.1,B.f .iop 2 (B.o .iop x0.q.2.2.1 x2.1),B.f .iop 3 (B.o .iop x0.q.2.2.1 x2.1),B.f .iop 4 (B.o .iop x0.q.2.2.1 x2.1),())),()))<|
 B.b (B.e x3.1 (B.n 2)) λx6=>
 A.bind [.l .u8,.i,.i,.i,.i,.i,.i,.i,.i,.i,.i,.i,.i,.i,.l .iop] (B.c x6.1 (B.j aD aF (B.p x2.1 B.u,x3.2.e2) λx7=>
 B.w .iop x0.q.2.2.1 x2.1<|
 B.w .iop x0.q.2.2.1 x2.1<|
 B.i x7.1 λx8=>
 B.r (x7.2.1,x7.2.2.1,B.z,B.z,B.z,B.z,B.z,B.z,x0.1,x0.2.1,x0.2.2.1,x0.2.2.2.1,x0.q.1,x0.q.2.1,A.set .iop x0.q.2.2.1 x2.1 (B.x .iop (B.f .iop 0 (B.o .iop x0.q.2.2.1 x2.1),B.f .iop 1 (B.o .iop x0.q.2.2.1 x2.1),x8.1,B.f .iop 3 (B.o .iop x0.q.2.2.1 x2.1),B.f .iop 4 (B.o .iop x0.q.2.2.1 x2.1),())),()))<|
 B.b (B.e x3.1 (B.n 3)) λx7=>
 A.bind [.l .u8,.i,.i,.i,.i,.i,.i,.i,.i,.i,.i,.i,.i,.i,.l .iop] (B.c x7.1 (B.j aD aF (B.p x0.2.1 B.u,x3.2.e2) λx8=>
 B.w .iop x0.q.2.2.1 x2.1<|
 B.w .iop x0.q.2.2.1 x2.1<|
 B.i x8.1 λx9=>
 B.r (x8.2.1,x8.2.2.1,B.z,B.z,B.z,B.z,B.z,B.z,x0.1,x0.2.1,x0.2.2.1,x0.2.2.2.1,x0.q.1,x0.q.2.1,A.set .iop x0.q.2.2.1 x2.1 (B.x .iop (B.f .iop 0 (B.o .iop x0.q.2.2.1 x2.1),B.f .iop 1 (B.o .iop x0.q.2.2.1 x2.1),B.f .iop 2 (B.o .iop x0.q.2.2.1 x2.1),B.f .iop 3 (B.o .iop x0.q.2.2.1 x2.1),x9.e1)),()))<|
 B.b (B.e x3.1 (B.n 4)) λx8=>
 A.bind [.l .u8,.i,.i,.i,.i,.i,.i,.i,.i,.i,.i,.i,.i,.i,.l .iop] (B.c x8.1 (B.j aD aF (B.n 66,x3.2.e2) λx9=>
 B.i x9.1 λx10=>
 B.r (x9.2.1,x9.2.2.1,B.z,B.z,B.z,B.z,B.z,B.z,x0.1,x0.2.1,x0.2.2.1,x0.2.2.2.1,x0.q.1,x10.1,x0.2.2.2.2.2.2.e1))<|
 B.b (B.e x3.1 (B.n 5)) λx9=>
 A.bind [.l .u8,.i,.i,.i,.i,.i,.i,.i,.i,.i,.i,.i,.i,.i,.l .iop] (B.c x9.1 (B.j aD aF (B.n 4,x3.2.e2) λx10=>
 B.i (B.p B.u x10.1) λx11=>
 B.r (x10.2.1,x10.2.2.1,B.z,B.z,B.z,B.z,B.z,B.z,x0.1,x0.2.1,x11.1,x0.2.2.2.e4))<|
 B.b (B.e x3.1 (B.n 6)) λx10=>
 A.bind [.l .u8,.i,.i,.i,.i,.i,.i,.i,.i,.i,.i,.i,.i,.i,.l .iop] (B.c x10.1 (A.bind [.l .u8,.i,.i,.i,.i,.i,.i,.i,.i,.i,.i,.i,.i,.i,.l .iop] (B.c (B.g x2.1 B.z) (B.w .iop x0.q.2.2.1 x2.1<|
 B.w .iop x0.q.2.2.1 x2.1<|
 B.s (.x .iop) (B.o .iop x0.q.2.2.1 x2.1) λx11=>
 B.w .iop x0.q.2.2.1 (B.q x2.1 B.u)<|
 B.w .iop x0.q.2.2.1 (B.q x2.1 B.u)<|
 B.w .iop x0.q.2.2.1 x2.1<|
 B.w .iop x0.q.2.2.1 x2.1<|
 B.s (.x .iop) (B.o .iop x0.q.2.2.1 (B.q x2.1 B.u)) λx12=>
 B.w .iop (A.set .iop x0.q.2.2.1 x2.1 x12.1) (B.q x2.1 B.u)<|
 B.w .iop (A.set .iop x0.q.2.2.1 x2.1 x12.1) (B.q x2.1 B.u)<|
 A.bV [.x .iop] x11.e1 λx13=>
 B.r (x3.2.1,x3.2.2.1,B.z,B.z,B.z,B.z,B.z,B.z,x0.1,x0.2.1,x0.2.2.1,x0.2.2.2.1,x0.q.1,x0.q.2.1,A.set .iop (A.set .iop x0.q.2.2.1 x2.1 x12.1) (B.q x2.1 B.u) x13.1,()))<|
 B.r (x3.2.1,x3.2.2.1,B.z,B.z,B.z,B.z,B.z,B.z,x0.e7)) λx11=>
 B.r x11.e15)<|
 B.b (B.e x3.1 (B.n 7)) λx11=>
 A.bind [.l .u8,.i,.i,.i,.i,.i,.i,.i,.i,.i,.i,.i,.i,.i,.l .iop] (B.c x11.1 (B.j aD aF (B.n 3,x3.2.e2) λx12=>
 B.w .iop x0.q.2.2.1 x2.1<|
 B.w .iop x0.q.2.2.1 x2.1<|
 B.r (x12.2.1,x12.2.2.1,B.z,B.z,B.z,B.z,B.z,B.z,x0.1,x0.2.1,x0.2.2.1,x0.2.2.2.1,x0.q.1,x0.q.2.1,A.set .iop x0.q.2.2.1 x2.1 (B.x .iop (B.u,B.z,B.z,x12.1,B.z,())),()))<|
 B.C (B.m B.z B.z)<|
 B.C (B.m B.z x2.1)<|
 B.C (B.m x2.1 (B.y .iop x0.q.2.2.1))<|
 B.C (B.e B.z B.z)<|
 B.C (B.m B.z (A.su x2.1 B.z))<|
 B.C (B.m (A.su x2.1 B.z) (B.y .iop x0.q.2.2.1))<|
 B.r (x3.2.1,x3.2.2.1,B.z,B.z,B.z,B.z,B.z,B.z,x0.1,x0.2.1,x0.2.2.1,x0.2.2.2.1,x0.q.1,x0.q.2.1,A.sub .iop x0.q.2.2.1 B.z (A.su x2.1 B.z),())) λx12=>
 B.r x12.e15) λx11=>
 B.r x11.e15) λx10=>
 B.r x10.e15) λx9=>
 B.r x9.e15) λx8=>
 B.r x8.e15) λx7=>
 B.r x7.e15) λx6=>
 B.r x6.e15) λx5=>
 B.r (x5.o.1,x5.o.2.1,x5.o.2.2.1,x5.o.2.2.2.1,x5.o.q.1,x5.o.q.2.1,x5.1,x5.2.1,x5.2.2.2.2.2.2.2.2.2.2.2.2.2.2.e1)
def Ym (nK:Pt A gN) (nL:Ft A gN) (aD:Pt A bA) (aF:Ft A bA) (ajl:Pt A Ll) (ajm:Ft A Ll) (ajn:Pt A Lj) (ajo:Ft A Lj) (x:Tup A.ah [.i,.l .u8,.i]):Ot A Lm:=
 B.j ajn ajo x.2.e2 λx0=>
 B.j nK nL (x.1,x0.q.2.2.1,x0.q.2.2.2.1,()) λx1=>
 A.eY [.l .u8,.i,.i,.i,.i,.i,.i,.i,.i,.i,.i,.i,.i,.i,.l .iop] (B.c x1.1 (B.j aD aF (B.n 6,x1.2.e2) λx2=>
 B.b (B.e x2.1 B.z) λx3=>
 A.eY [.l .u8,.i,.i,.i,.i,.i,.i,.i,.i,.i,.i,.i,.i,.i,.l .iop] (B.c x3.1 (B.s (.l .i64) (A.lst .i64 [B.x .i64 (B.z,()),B.x .i64 (B.n 9,())]) λx4=>
 B.j aD aF (B.n 2,x2.2.e2) λx5=>
 B.w .i64 x4.1 x5.1<|
 B.w .i64 x4.1 x5.1<|
 B.i (B.f .i64 0 (B.o .i64 x4.1 x5.1)) λx6=>
 B.L (x5.2.1,x5.2.2.1,B.z,B.z,B.z,B.z,B.z,B.z,x0.1,x6.1,x0.2.2.1,x0.2.2.2.1,x0.q.1,x0.q.2.1,x0.2.2.2.2.2.2.2.2.e1))<|
 B.b (B.e x2.1 B.u) λx4=>
 A.eY [.l .u8,.i,.i,.i,.i,.i,.i,.i,.i,.i,.i,.i,.i,.i,.l .iop] (B.c x4.1 (B.s (.l .i64) (A.lst .i64 [B.x .i64 (B.n (-1),()),B.x .i64 (B.n 64,())]) λx5=>
 B.j aD aF (B.n 2,x2.2.e2) λx6=>
 B.w .i64 x5.1 x6.1<|
 B.w .i64 x5.1 x6.1<|
 B.i (B.f .i64 0 (B.o .i64 x5.1 x6.1)) λx7=>
 B.L (x6.2.1,x6.2.2.1,B.z,B.z,B.z,B.z,B.z,B.z,x7.1,x0.2.1,x0.2.2.1,x0.2.2.2.1,x0.q.1,x0.q.2.1,x0.2.2.2.2.2.2.2.2.e1))<|
 B.b (B.e x2.1 (B.n 2)) λx5=>
 A.eY [.l .u8,.i,.i,.i,.i,.i,.i,.i,.i,.i,.i,.i,.i,.i,.l .iop] (B.c x5.1 (B.I [.l .u8,.i,.i,.i,.i,.i,.i,.i,.i,.i,.i,.i,.i,.i,.l .iop] (λx6=>
 B.c (B.m (B.y .iop x6.o.q.2.2.1) (B.n 48)) (B.s (.l .iop) (A.lst .iop [B.x .iop (B.u,B.z,B.z,B.z,B.z,())]) λx7=>
 B.C (B.m (A.addN (B.y .iop x6.o.q.2.2.1) (B.y .iop x7.1)) (B.n 1073741824))<|
 B.s (.l .iop) (A.app .iop x6.o.q.2.2.1 x7.1) λx8=>
 B.L (x6.1,x6.2.1,x6.2.2.1,x6.2.2.2.1,x6.q.1,x6.q.2.1,x6.q.2.2.1,x6.q.2.2.2.1,x6.o.1,x6.o.2.1,x6.o.2.2.1,x6.o.2.2.2.1,x6.o.q.1,x6.o.q.2.1,x8.e1))<|
 B.R<|B.L x6.e15) (x2.2.1,x2.2.2.1,B.z,B.z,B.z,B.z,B.z,B.z,x0.1,x0.2.1,x0.2.2.1,x0.2.2.2.1,x0.q.1,x0.q.2.1,x0.2.2.2.2.2.2.2.2.e1))<|
 B.b (B.e x2.1 (B.n 3)) λx6=>
 A.eY [.l .u8,.i,.i,.i,.i,.i,.i,.i,.i,.i,.i,.i,.i,.i,.l .iop] (B.c x6.1 (B.s (.l .i64) (A.lst .i64 [B.x .i64 (B.z,()),B.x .i64 (B.n 5,())]) λx7=>
 B.j aD aF (B.n 2,x2.2.e2) λx8=>
 B.w .i64 x7.1 x8.1<|
 B.w .i64 x7.1 x8.1<|
 B.i (B.f .i64 0 (B.o .i64 x7.1 x8.1)) λx9=>
 B.L (x8.2.1,x8.2.2.1,B.z,B.z,B.z,B.z,B.z,B.z,x0.1,x0.2.1,x9.1,x0.2.2.2.1,x0.q.1,x0.q.2.1,x0.2.2.2.2.2.2.2.2.e1))<|
 B.b (B.e x2.1 (B.n 4)) λx7=>
 B.c x7.1 (B.j aD aF (B.n 3,x2.2.e2) λx8=>
 B.w .i64 (A.lst .i64 [B.x .i64 (B.z,()),B.x .i64 (B.n 9,()),B.x .i64 (B.n 8,())]) x8.1<|
 B.C (B.m (A.addN (B.y .iop x0.o.1) (B.y .iop (A.lst .iop [B.x .iop (B.f .i64 0 (B.o .i64 (A.lst .i64 [B.x .i64 (B.z,()),B.x .i64 (B.n 9,()),B.x .i64 (B.n 8,())]) x8.1),B.y .iop x0.o.1,B.z,B.z,B.z,())]))) (B.n 1073741824))<|
 B.s (.l .iop) (A.app .iop x0.o.1 (A.lst .iop [B.x .iop (B.f .i64 0 (B.o .i64 (A.lst .i64 [B.x .i64 (B.z,()),B.x .i64 (B.n 9,()),B.x .i64 (B.n 8,())]) x8.1),B.y .iop x0.o.1,B.z,B.z,B.z,())])) λx9=>
 B.L (x8.2.1,x8.2.2.1,B.z,B.z,B.z,B.z,B.z,B.z,x0.1,x0.2.1,x0.2.2.1,x0.2.2.2.1,x0.q.1,x0.q.2.1,x9.e1))<|
 B.j ajl ajm (B.x .blk (x0.1,x0.2.1,x0.o.1,x0.2.2.1,x0.2.2.2.1,x0.q.1,x0.q.2.1,()),x2.2.e2) λx8=>
 B.R<|B.R<|B.R<|B.R<|B.R<|B.r (B.x .blk (x8.1,x8.2.1,x8.o.1,x8.2.2.1,x8.2.2.2.1,x8.q.1,x8.q.2.1,()),x8.q.2.2.1,x8.q.2.2.2.1,())) λx7=>
 B.L x7.e15) λx6=>
 B.L x6.e15) λx5=>
 B.L x5.e15) λx4=>
 B.L x4.e15)<|
 B.L (x1.2.1,x1.2.2.1,B.z,B.z,B.z,B.z,B.z,B.z,x0.1,x0.2.1,x0.2.2.1,x0.2.2.2.1,x0.q.1,x0.q.2.1,x0.2.2.2.2.2.2.2.2.e1)) λx2=>
 B.r (B.x .blk (x2.o.1,x2.o.2.1,x2.o.q.2.2.1,x2.o.2.2.1,x2.o.2.2.2.1,x2.o.q.1,x2.o.q.2.1,()),x2.1,x2.2.1,())
def Yn (XP:Pt A BK) (XQ:Ft A BK) (nK:Pt A gN) (nL:Ft A gN) (aD:Pt A bA) (aF:Ft A bA) (x:Tup A.ah [.i,.l .u8,.i]):Ot A Lp:=
 B.j XP XQ x.2.e2 λx0=>
 B.j nK nL (x.1,x0.q.2.2.2.1,x0.o.1,()) λx1=>
 A.eY [.l .u8,.i,.i,.i,.b,.b,.i,.i,.i,.l .i64,.i,.b,.b,.i,.l .i64,.i,.l .i64,.l .i64] (B.c x1.1 (B.j aD aF (B.n 8,x1.2.e2) λx2=>
 B.b (B.e x2.1 B.z) λx3=>
 A.bind [.l .u8,.i,.i,.i,.b,.b,.i,.i,.i,.l .i64,.i,.b,.b,.i,.l .i64,.i,.l .i64,.l .i64] (B.c x3.1 (B.s (.l .i64) (A.lst .i64 [B.x .i64 (B.u,())]) λx4=>
 B.C (B.m (A.addN (B.y .i64 x0.o.2.1) (B.y .i64 x4.1)) (B.n 1073741824))<|
 B.s (.l .i64) (A.app .i64 x0.o.2.1 x4.1) λx5=>
 B.r (x2.2.1,x2.2.2.1,B.z,B.z,B.F,B.F,B.z,B.z,x0.1,x0.o.2.2.1,x0.2.1,x0.2.2.1,x0.2.2.2.1,x0.q.1,x0.q.2.1,x0.q.2.2.1,x5.1,x0.2.2.2.2.2.2.2.2.2.2.2.e1))<|
 B.b (B.e x2.1 B.u) λx4=>
 A.bind [.l .u8,.i,.i,.i,.b,.b,.i,.i,.i,.l .i64,.i,.b,.b,.i,.l .i64,.i,.l .i64,.l .i64] (B.c x4.1 (B.s (.l .i64) (A.lst .i64 [B.x .i64 (B.n (-1),()),B.x .i64 (B.n 65536,()),B.x .i64 (B.n 65535,())]) λx5=>
 B.j aD aF (B.n 3,x2.2.e2) λx6=>
 B.w .i64 x5.1 x6.1<|
 B.w .i64 x5.1 x6.1<|
 B.i (B.f .i64 0 (B.o .i64 x5.1 x6.1)) λx7=>
 B.r (x6.2.1,x6.2.2.1,B.z,B.z,B.F,B.F,B.z,B.z,x7.1,x0.o.2.2.1,x0.2.1,x0.2.2.1,x0.2.2.2.1,x0.q.1,x0.q.2.1,x0.q.2.2.1,x0.o.2.1,x0.2.2.2.2.2.2.2.2.2.2.2.e1))<|
 B.b (B.e x2.1 (B.n 2)) λx5=>
 A.bind [.l .u8,.i,.i,.i,.b,.b,.i,.i,.i,.l .i64,.i,.b,.b,.i,.l .i64,.i,.l .i64,.l .i64] (B.c x5.1 (B.C (B.m B.z B.u)<|
 B.C (B.m B.u (B.y .i64 x0.o.2.2.1))<|
 B.C (B.m (B.y .i64 x0.o.2.2.1) (B.y .i64 x0.o.2.2.1))<|
 B.C (B.m B.z B.u)<|
 B.C (B.m B.z (A.su (B.y .i64 x0.o.2.2.1) B.u))<|
 B.C (B.m (A.addN B.u (A.su (B.y .i64 x0.o.2.2.1) B.u)) (B.y .i64 x0.o.2.2.1))<|
 B.r (x2.2.1,x2.2.2.1,B.z,B.z,B.F,B.F,B.z,B.z,x0.1,A.sub .i64 x0.o.2.2.1 B.u (A.addN B.u (A.su (B.y .i64 x0.o.2.2.1) B.u)),x0.2.1,x0.2.2.1,x0.2.2.2.1,x0.q.1,x0.q.2.1,x0.q.2.2.1,x0.o.2.1,x0.2.2.2.2.2.2.2.2.2.2.2.e1))<|
 B.b (B.e x2.1 (B.n 3)) λx6=>
 A.bind [.l .u8,.i,.i,.i,.b,.b,.i,.i,.i,.i,.b,.b,.i,.l .i64,.i,.l .i64,.l .i64,.l .i64] (B.c x6.1 (B.j aD aF (B.y .i64 x0.o.2.2.1,x2.2.e2) λx7=>
 B.w .i64 x0.o.2.2.1 x7.1<|
 B.w .i64 x0.o.2.2.1 x7.1<|
 B.i (B.n 65536) λx8=>
 B.r (x7.2.1,x7.2.2.1,B.z,B.z,B.F,B.F,B.z,B.z,x0.1,x0.2.1,x0.2.2.1,x0.2.2.2.1,x0.q.1,x0.q.2.1,x0.q.2.2.1,x0.o.2.1,A.set .i64 x0.o.2.2.1 x7.1 (B.x .i64 x8.e1),x0.2.2.2.2.2.2.2.2.2.2.2.e1))<|
 B.b (B.e x2.1 (B.n 4)) λx7=>
 A.bind [.l .u8,.i,.i,.i,.b,.b,.i,.i,.i,.i,.b,.b,.i,.l .i64,.i,.l .i64,.l .i64,.l .i64] (B.c x7.1 (B.s (.l .i64) (A.lst .i64 [B.x .i64 (B.n (-1),()),B.x .i64 (B.n 5,()),B.x .i64 (B.u,())]) λx8=>
 B.j aD aF (B.n 3,x2.2.e2) λx9=>
 B.w .i64 x8.1 x9.1<|
 B.w .i64 x8.1 x9.1<|
 B.i (B.f .i64 0 (B.o .i64 x8.1 x9.1)) λx10=>
 B.r (x9.2.1,x9.2.2.1,B.z,B.z,B.F,B.F,B.z,B.z,x0.1,x0.2.1,x0.2.2.1,x0.2.2.2.1,x10.1,x0.q.2.1,x0.q.2.2.1,x0.2.2.2.2.2.2.2.2.2.e3))<|
 B.b (B.e x2.1 (B.n 5)) λx8=>
 A.bind [.l .u8,.i,.i,.i,.b,.b,.i,.i,.i,.i,.b,.b,.i,.l .i64,.i,.l .i64,.l .i64,.l .i64] (B.c x8.1 (B.s (.l .i64) (A.lst .i64 [B.x .i64 (B.n (-1),())]) λx9=>
 B.C (B.m (A.addN (B.y .i64 x0.o.2.2.2.1) (B.y .i64 x9.1)) (B.n 1073741824))<|
 B.s (.l .i64) (A.app .i64 x0.o.2.2.2.1 x9.1) λx10=>
 B.r (x2.2.1,x2.2.2.1,B.z,B.z,B.F,B.F,B.z,B.z,x0.1,x0.2.1,x0.2.2.1,x0.2.2.2.1,x0.q.1,x0.q.2.1,x0.q.2.2.1,x0.o.2.1,x0.o.2.2.1,x10.e1))<|
 B.b (B.e x2.1 (B.n 6)) λx9=>
 A.bind [.l .u8,.i,.i,.i,.b,.b,.i,.i,.i,.i,.b,.b,.i,.l .i64,.i,.l .i64,.l .i64,.l .i64] (B.c x9.1 (B.i (B.n (-1)) λx10=>
 B.r (x2.2.1,x2.2.2.1,B.z,B.z,B.F,B.F,B.z,B.z,x0.1,x10.1,x0.2.2.1,x0.2.2.2.1,x0.q.1,x0.q.2.1,x0.q.2.2.1,x0.2.2.2.2.2.2.2.2.2.e3))<|
 B.s (.l .i64) (A.lst .i64 [B.x .i64 (B.n (-1),()),B.x .i64 (B.n 1000000,()),B.x .i64 (B.n 1000001,()),B.x .i64 (B.n 999997,())]) λx10=>
 B.j aD aF (B.n 4,x2.2.e2) λx11=>
 B.w .i64 x10.1 x11.1<|
 B.w .i64 x10.1 x11.1<|
 B.i (B.f .i64 0 (B.o .i64 x10.1 x11.1)) λx12=>
 B.r (x11.2.1,x11.2.2.1,B.z,B.z,B.F,B.F,B.z,B.z,x0.1,x0.2.1,x0.2.2.1,x0.2.2.2.1,x0.q.1,x0.q.2.1,x12.1,x0.2.2.2.2.2.2.2.2.2.e3)) λx10=>
 B.r x10.e18) λx9=>
 B.r x9.e18) λx8=>
 B.r x8.e18) λx7=>
 B.r (x7.1,x7.2.1,x7.2.2.1,x7.2.2.2.1,x7.q.1,x7.q.2.1,x7.q.2.2.1,x7.q.2.2.2.1,x7.o.1,x7.o.o.1,x7.o.2.1,x7.o.2.2.1,x7.o.2.2.2.1,x7.o.q.1,x7.o.q.2.1,x7.o.q.2.2.1,x7.o.q.2.2.2.1,x7.2.2.2.2.2.2.2.2.2.2.2.2.2.2.2.2.2.e1)) λx6=>
 B.r x6.e18) λx5=>
 B.r x5.e18) λx4=>
 B.L x4.e18)<|
 B.L (x1.2.1,x1.2.2.1,B.z,B.z,B.F,B.F,B.z,B.z,x0.1,x0.o.2.2.1,x0.2.1,x0.2.2.1,x0.2.2.2.1,x0.q.1,x0.q.2.1,x0.q.2.2.1,x0.o.2.1,x0.2.2.2.2.2.2.2.2.2.2.2.e1)) λx2=>
 B.r (x2.o.1,x2.o.2.1,x2.o.2.2.1,x2.o.2.2.2.1,x2.o.q.1,x2.o.q.2.1,x2.o.q.2.2.1,x2.o.q.2.2.2.1,x2.1,x2.2.1,x2.2.2.2.2.2.2.2.2.2.2.2.2.2.2.2.2.e2)
def Yo (ajp:Pt A Lp) (ajq:Ft A Lp) (Xo:Pt A BD) (Xp:Ft A BD) (nK:Pt A gN) (nL:Ft A gN) (aD:Pt A bA) (aF:Ft A bA) (Yj:Pt A BL) (Yk:Ft A BL) (ajr:Pt A Lm) (ajs:Ft A Lm) (afJ:Pt A EP) (afK:Ft A EP) (x:Tup A.ah [.l .u8]):Ot A Lr:=
 B.j Xo Xp x.e1 λx0=>
 B.j aD aF (B.n 4,x0.e2) λx1=>
 B.c (B.e x1.1 B.z) (B.j afJ afK x1.2.e2 λx2=>
 B.r (B.x .blk (x2.1,x2.2.1,x2.o.q.2.2.2.1,x2.2.2.1,x2.2.2.2.1,x2.q.1,x2.q.2.1,()),x2.q.2.2.1,x2.o.o.2.1,x2.q.2.2.2.1,x2.o.1,x2.o.2.1,x2.o.2.2.1,x2.o.2.2.2.1,x2.o.q.1,x2.o.o.1,x2.2.2.2.2.2.2.2.2.2.2.2.2.2.2.2.2.2.2.e1))<|
 B.j ajr ajs (B.n 14,x1.2.e2) λx2=>
 B.s (.x .blk) x2.1 λx3=>
 B.j Yj Yk (x3.1,x2.2.e2) λx4=>
 B.j nK nL (B.n 14,x4.q.2.2.2.1,x4.o.1,()) λx5=>
 A.bind [.i,.i,.i,.i,.i,.i,.i,.i,.b,.b,.i,.i,.x .blk,.i,.l .i64,.i,.b,.b,.i,.l .i64,.i,.l .i64,.l .i64] (B.c x5.1 (B.j ajp ajq (B.n 2,x5.2.e2) λx6=>
 B.r (B.z,B.z,B.z,B.z,B.z,B.z,B.z,B.z,B.F,B.F,B.z,B.z,x3.1,x6.1,x6.2.1,x6.2.2.1,x6.2.2.2.1,x6.q.1,x6.q.2.1,x6.q.2.2.1,x6.q.2.2.2.1,x6.2.2.2.2.2.2.2.2.2.2.e2))<|
 B.r (B.z,B.z,B.z,B.z,B.z,B.z,B.z,B.z,B.F,B.F,B.z,B.z,x3.1,x4.1,x4.o.2.2.1,x4.2.1,x4.2.2.1,x4.2.2.2.1,x4.q.1,x4.q.2.1,x4.q.2.2.1,x4.o.2.1,x4.2.2.2.2.2.2.2.2.2.2.2.e1)) λx6=>
 B.s (.x .blk) x6.o.q.1 λx7=>
 B.r (x7.1,x6.2.2.2.2.2.2.2.2.2.2.2.2.2.e10)
def Yp (x:Tup A.ah [.i,.i,.i]):Ot A bR:=
 B.b B.F λx0=>
 B.b (B.a (B.m x.2.1 x.1) (B.m x.1 x.2.2.1) B.F) λx1=>
 B.r x1.e1
def Yq (dN:Pt A bR) (dO:Ft A bR) (x:Tup A.ah [.i]):Ot A fK:=
 B.b B.F λx0=>
 B.j dN dO (x.1,B.z,B.n 65535,()) λx1=>
 A.bV [.b] x1.e1 λx2=>
 B.r x2.e1
def Yr (jN:Pt A fK) (jO:Ft A fK) (x:Tup A.ah []):Ot A Ls:=
 B.b B.F λx0=>
 B.j jN jO (B.u,()) λx1=>
 A.bV [.b] x1.e1 λx2=>
 B.r x2.e1
def Yt (dN:Pt A bR) (dO:Ft A bR) (x:Tup A.ah [.i]):Ot A BR:=
 B.b B.F λx0=>
 B.j dN dO (x.1,B.z,B.n 3,()) λx1=>
 A.bV [.b] x1.e1 λx2=>
 B.r x2.e1
def Yu (dN:Pt A bR) (dO:Ft A bR) (x:Tup A.ah [.x .iop]):Ot A Lu:=
 B.b B.F λx0=>
 B.b B.F λx1=>
 B.b B.F λx2=>
 B.b B.F λx3=>
 B.b (B.a (B.a (B.d (B.f .iop 0 x.1) B.u) (B.d (B.f .iop 0 x.1) (B.n 2)) B.F) (B.d (B.f .iop 0 x.1) (B.n 6)) B.F) λx4=>
 B.b (B.a (B.e (B.f .iop 0 x.1) (B.n 3)) B.T (B.e (B.f .iop 0 x.1) (B.n 5))) λx5=>
 B.b (B.a (B.a (B.a (B.e (B.f .iop 0 x.1) B.u) B.T (B.e (B.f .iop 0 x.1) (B.n 2))) B.T (B.e (B.f .iop 0 x.1) (B.n 3))) B.T (B.e (B.f .iop 0 x.1) (B.n 8))) λx6=>
 B.j dN dO (B.f .iop 0 x.1,B.n 4,B.n 7,()) λx7=>
 A.bV [.b] x7.e1 λx8=>
 A.bV [.b] x4.e1 λx9=>
 A.bV [.b] x5.e1 λx10=>
 A.bV [.b] x6.e1 λx11=>
 A.bV [.b] x8.e1 λx12=>
 B.r (x9.1,x10.1,x11.1,x12.e1)
def Yv (dN:Pt A bR) (dO:Ft A bR) (x:Tup A.ah [.i]):Ot A Lv:=
 B.b B.F λx0=>
 B.j dN dO (x.1,B.u,B.n 5,()) λx1=>
 A.bV [.b] x1.e1 λx2=>
 B.r x2.e1
def Yw (dN:Pt A bR) (dO:Ft A bR) (x:Tup A.ah [.x .iop]):Ot A Lx:=
 B.b B.F λx0=>
 B.j dN dO (B.f .iop 0 x.1,B.u,B.n 4,()) λx1=>
 B.b (B.a x1.1 B.T (B.e (B.f .iop 0 x.1) (B.n 6))) λx2=>
 B.r x2.e1
def Yx (ajt:Pt A Lx) (aju:Ft A Lx) (dN:Pt A bR) (dO:Ft A bR) (x:Tup A.ah [.x .blk,.i,.i]):Ot A BS:=
 B.b B.F λx0=>
 B.j dN dO (x.2.1,B.z,B.q x.2.2.1 B.u,()) λx1=>
 B.C (B.O (B.N x1.1) (B.m B.z x.2.1))<|
 B.C (B.O (B.N x1.1) (B.l x.2.1 (B.y .iop (B.D .blk 2 .iop x.1))))<|
 B.k x1.1 ajt aju (B.o .iop (B.D .blk 2 .iop x.1) x.2.1,()) λx2=>
 B.b (B.a x1.1 x2.1 B.F) λx3=>
 B.r x3.e1
def Yy (Mr:Pt A BS) (Ms:Ft A BS) (ajv:Pt A Lu) (ajw:Ft A Lu) (jN:Pt A fK) (jO:Ft A fK) (dN:Pt A bR) (dO:Ft A bR) (ajx:Pt A Lv) (ajy:Ft A Lv) (Mt:Pt A BR) (Mv:Ft A BR) (x:Tup A.ah [.x .blk,.i]):Ot A LA:=
 B.b B.F λx0=>
 B.w .iop (B.D .blk 2 .iop x.1) x.2.1<|
 B.s (.x .iop) (B.o .iop (B.D .blk 2 .iop x.1) x.2.1) λx1=>
 B.j dN dO (B.f .iop 0 x1.1,B.u,B.n 8,()) λx2=>
 B.c (B.N x2.1) (B.b B.F λx3=>
 B.r x3.e1)<|
 B.j ajv ajw x1.e1 λx3=>
 B.b x3.1 λx4=>
 B.b x3.2.1 λx5=>
 B.b x3.2.2.1 λx6=>
 A.bV [.b] x3.2.2.2.e1 λx7=>
 B.j jN jO (B.f .iop 3 x1.1,()) λx8=>
 B.j Mt Mv (B.f .iop 3 x1.1,()) λx9=>
 B.j ajx ajy (B.f .iop 3 x1.1,()) λx10=>
 B.j Mt Mv (B.f .iop 3 x1.1,()) λx11=>
 B.b (B.a (B.e (B.f .iop 0 x1.1) B.u) x8.1 (B.a (B.e (B.f .iop 0 x1.1) (B.n 2)) x9.1 (B.a (B.e (B.f .iop 0 x1.1) (B.n 3)) x10.1 (B.a (B.e (B.f .iop 0 x1.1) (B.n 8)) x11.1 B.F)))) λx12=>
 B.k x4.1 Mr Ms (x.1,B.f .iop 1 x1.1,x.2.e1) λx13=>
 B.k (A.rA (B.a (B.a x4.1 x13.1 B.F) B.T (B.a (B.N x4.1) (B.e (B.f .iop 1 x1.1) B.z) B.F)) x5.1) Mr Ms (x.1,B.f .iop 2 x1.1,x.2.e1) λx14=>
 B.k (A.rA (B.a (B.a (B.a (B.a x4.1 x13.1 B.F) B.T (B.a (B.N x4.1) (B.e (B.f .iop 1 x1.1) B.z) B.F)) (B.a (B.a x5.1 x14.1 B.F) B.T (B.a (B.N x5.1) (B.e (B.f .iop 2 x1.1) B.z) B.F)) B.F) (B.a (B.a x6.1 x12.1 B.F) B.T (B.a (B.N x6.1) (B.e (B.f .iop 3 x1.1) B.z) B.F)) B.F) x7.1) dN dO (B.f .iop 4 x1.1,B.z,B.q (B.f .blk 1 x.1) B.u,()) λx15=>
 B.b (B.a (B.a (B.a (B.a (B.a x4.1 x13.1 B.F) B.T (B.a (B.N x4.1) (B.e (B.f .iop 1 x1.1) B.z) B.F)) (B.a (B.a x5.1 x14.1 B.F) B.T (B.a (B.N x5.1) (B.e (B.f .iop 2 x1.1) B.z) B.F)) B.F) (B.a (B.a x6.1 x12.1 B.F) B.T (B.a (B.N x6.1) (B.e (B.f .iop 3 x1.1) B.z) B.F)) B.F) (B.a (B.a x7.1 x15.1 B.F) B.T (B.a (B.N x7.1) (B.e (B.f .iop 4 x1.1) B.z) B.F)) B.F) λx16=>
 B.r x16.e1
def afL (x:Tup A.ah [.x .blk]):Ot A WQ:=
 B.b B.F λx0=>
 B.b B.F λx1=>
 B.b B.F λx2=>
 B.b (B.d (B.f .blk 3 x.1) B.u) λx3=>
 B.b (B.h (B.f .blk 3 x.1) (B.n 3)) λx4=>
 B.b (B.d (B.f .blk 3 x.1) (B.n 2)) λx5=>
 B.r (x3.1,x4.1,x5.e1)
def afM (apz:Pt A WQ) (apA:Ft A WQ) (Mr:Pt A BS) (Ms:Ft A BS) (jN:Pt A fK) (jO:Ft A fK) (dN:Pt A bR) (dO:Ft A bR) (x:Tup A.ah [.x .blk]):Ot A WR:=
 B.b B.F λx0=>
 B.j apz apA x.e1 λx1=>
 B.b x1.1 λx2=>
 B.b x1.2.1 λx3=>
 A.bV [.b] x1.2.2.e1 λx4=>
 B.j dN dO (B.f .blk 3 x.1,B.u,B.n 4,()) λx5=>
 B.k (A.rA x5.1 x2.1) Mr Ms (x.1,B.f .blk 4 x.1,B.y .iop (B.D .blk 2 .iop x.1),()) λx6=>
 B.k (A.rA (B.a x5.1 (B.a (B.a x2.1 x6.1 B.F) B.T (B.a (B.N x2.1) (B.e (B.f .blk 4 x.1) B.z) B.F)) B.F) x3.1) Mr Ms (x.1,B.f .blk 5 x.1,B.y .iop (B.D .blk 2 .iop x.1),()) λx7=>
 B.k (A.rA (B.a (B.a x5.1 (B.a (B.a x2.1 x6.1 B.F) B.T (B.a (B.N x2.1) (B.e (B.f .blk 4 x.1) B.z) B.F)) B.F) (B.a (B.a x3.1 x7.1 B.F) B.T (B.a (B.N x3.1) (B.e (B.f .blk 5 x.1) B.z) B.F)) B.F) x4.1) jN jO (B.f .blk 6 x.1,()) λx8=>
 B.b (B.a (B.a (B.a x5.1 (B.a (B.a x2.1 x6.1 B.F) B.T (B.a (B.N x2.1) (B.e (B.f .blk 4 x.1) B.z) B.F)) B.F) (B.a (B.a x3.1 x7.1 B.F) B.T (B.a (B.N x3.1) (B.e (B.f .blk 5 x.1) B.z) B.F)) B.F) (B.a (B.a x4.1 x8.1 B.F) B.T (B.a (B.N x4.1) (B.e (B.f .blk 6 x.1) B.z) B.F)) B.F) λx9=>
 B.r x9.e1
def Yz (apB:Pt A WR) (apC:Ft A WR) (ajz:Pt A LA) (ajA:Ft A LA) (dN:Pt A bR) (dO:Ft A bR) (x:Tup A.ah [.x .blk]):Ot A BU:=
 B.b B.F λx0=>
 B.j dN dO (B.f .blk 1 x.1,B.u,B.n 8,()) λx1=>
 B.k (B.N (B.N x1.1)) dN dO (B.f .blk 0 x.1,B.z,B.q (B.n 64) (B.f .blk 1 x.1),()) λx2=>
 B.c (B.a (B.a (B.N x1.1) B.T (B.N x2.1)) B.T (B.g (B.y .iop (B.D .blk 2 .iop x.1)) (B.n 48))) (B.b B.F λx3=>
 B.r x3.e1)<|
 B.I [.i,.i,.x .blk] (λx3=>
 B.c (B.l x3.2.1 x3.1) (B.i x3.2.1 λx4=>
 B.j ajz ajA (x3.2.2.1,x4.e1) λx5=>
 B.c (B.N x5.1) (B.b B.F λx6=>
 B.R<|B.r x6.e1)<|
 B.L (x3.1,B.p x3.2.1 B.u,x3.2.2.e1))<|
 B.R<|B.j apB apC x3.2.2.e1 λx4=>
 A.bV [.b] x4.e1 λx5=>
 B.r x5.e1) (B.y .iop (B.D .blk 2 .iop x.1),B.z,x.e1)
def YA (jN:Pt A fK) (jO:Ft A fK) (x:Tup A.ah [.l .i64]):Ot A LB:=
 B.b B.F λx0=>
 B.I [.l .i64,.i,.i] (λx1=>
 B.c (B.l x1.2.2.1 x1.2.1) (B.w .i64 x1.1 x1.2.2.1<|
 B.i (B.f .i64 0 (B.o .i64 x1.1 x1.2.2.1)) λx2=>
 B.j jN jO x2.e1 λx3=>
 B.c (B.N x3.1) (B.b B.F λx4=>
 B.R<|B.r x4.e1)<|
 B.L (x1.1,x1.2.1,B.p x1.2.2.1 B.u,()))<|
 B.R<|B.b B.T λx2=>
 B.r x2.e1) (x.1,B.y .i64 x.1,B.z,())
def YB (jN:Pt A fK) (jO:Ft A fK) (dN:Pt A bR) (dO:Ft A bR) (Sr:Pt A LB) (Sv:Ft A LB) (x:Tup A.ah [.x .aB]):Ot A BX:=
 B.b B.F λx0=>
 B.k (B.a (B.e (B.y .i64 (B.D .aB 0 .i64 x.1)) (B.n 4)) (B.e (B.y .i64 (B.D .aB 2 .i64 x.1)) (B.n 64)) B.F) Sr Sv (B.D .aB 0 .i64 x.1,()) λx1=>
 B.k (B.a (B.a (B.e (B.y .i64 (B.D .aB 0 .i64 x.1)) (B.n 4)) (B.e (B.y .i64 (B.D .aB 2 .i64 x.1)) (B.n 64)) B.F) x1.1 B.F) Sr Sv (B.D .aB 2 .i64 x.1,()) λx2=>
 B.k (B.a (B.a (B.a (B.e (B.y .i64 (B.D .aB 0 .i64 x.1)) (B.n 4)) (B.e (B.y .i64 (B.D .aB 2 .i64 x.1)) (B.n 64)) B.F) x1.1 B.F) x2.1 B.F) jN jO (B.f .aB 1 x.1,()) λx3=>
 B.k (B.a (B.a (B.a (B.a (B.e (B.y .i64 (B.D .aB 0 .i64 x.1)) (B.n 4)) (B.e (B.y .i64 (B.D .aB 2 .i64 x.1)) (B.n 64)) B.F) x1.1 B.F) x2.1 B.F) x3.1 B.F) jN jO (B.f .aB 3 x.1,()) λx4=>
 B.k (B.a (B.a (B.a (B.a (B.a (B.e (B.y .i64 (B.D .aB 0 .i64 x.1)) (B.n 4)) (B.e (B.y .i64 (B.D .aB 2 .i64 x.1)) (B.n 64)) B.F) x1.1 B.F) x2.1 B.F) x3.1 B.F) x4.1 B.F) Sr Sv (B.D .aB 7 .i64 x.1,()) λx5=>
 B.k (B.a (B.a (B.a (B.a (B.a (B.a (B.e (B.y .i64 (B.D .aB 0 .i64 x.1)) (B.n 4)) (B.e (B.y .i64 (B.D .aB 2 .i64 x.1)) (B.n 64)) B.F) x1.1 B.F) x2.1 B.F) x3.1 B.F) x4.1 B.F) x5.1 B.F) Sr Sv (B.D .aB 8 .i64 x.1,()) λx6=>
 B.k (B.a (B.a (B.a (B.a (B.a (B.a (B.a (B.e (B.y .i64 (B.D .aB 0 .i64 x.1)) (B.n 4)) (B.e (B.y .i64 (B.D .aB 2 .i64 x.1)) (B.n 64)) B.F) x1.1 B.F) x2.1 B.F) x3.1 B.F) x4.1 B.F) x5.1 B.F) x6.1 B.F) dN dO (B.f .aB 6 x.1,B.z,B.n 4,()) λx7=>
 B.k (B.a (B.a (B.a (B.a (B.a (B.a (B.a (B.a (B.e (B.y .i64 (B.D .aB 0 .i64 x.1)) (B.n 4)) (B.e (B.y .i64 (B.D .aB 2 .i64 x.1)) (B.n 64)) B.F) x1.1 B.F) x2.1 B.F) x3.1 B.F) x4.1 B.F) x5.1 B.F) x6.1 B.F) x7.1 B.F) dN dO (B.f .aB 9 x.1,B.z,B.n 1000000,()) λx8=>
 B.b (B.a (B.a (B.a (B.a (B.a (B.a (B.a (B.a (B.a (B.e (B.y .i64 (B.D .aB 0 .i64 x.1)) (B.n 4)) (B.e (B.y .i64 (B.D .aB 2 .i64 x.1)) (B.n 64)) B.F) x1.1 B.F) x2.1 B.F) x3.1 B.F) x4.1 B.F) x5.1 B.F) x6.1 B.F) x7.1 B.F) x8.1 B.F) λx9=>
 B.r x9.e1
def YC (x:Tup A.ah [.l .i64]):Ot A LC:=
 B.C (B.m (B.y .i64 x.1) (B.n 1073741824))<|
 A.bV [.l .i64] x.e1 λx0=>
 B.r x0.e1
def YD (Sw:Pt A LC) (Sy:Ft A LC) (x:Tup A.ah [.x .aB]):Ot A BZ:=
 B.j Sw Sy (B.D .aB 0 .i64 x.1,()) λx0=>
 B.j Sw Sy (B.D .aB 2 .i64 x.1,()) λx1=>
 B.j Sw Sy (B.D .aB 7 .i64 x.1,()) λx2=>
 B.j Sw Sy (B.D .aB 8 .i64 x.1,()) λx3=>
 B.r (B.f .aB 1 x.1,B.f .aB 3 x.1,A.fB .aB 4 x.1,A.fB .aB 5 x.1,B.f .aB 6 x.1,B.f .aB 9 x.1,x0.1,x1.1,x2.1,x3.e1)
def YE (x:Tup A.ah [.i]):Ot A Ca:=
 B.i B.z λx0=>
 B.i (A.arith .and .i64 x.1 (B.n 65535)) λx1=>
 B.r x1.e1
def YF (jN:Pt A fK) (jO:Ft A fK) (E9:Pt A Ca) (Fa:Ft A Ca) (x:Tup A.ah [.i,.i,.i]):Ot A Cc:=
 B.i B.z λx0=>
 B.j jN jO (x.2.1,()) λx1=>
 B.k (B.N (B.N x1.1)) jN jO x.2.2.e1 λx2=>
 B.c (B.a (B.N x1.1) B.T (B.N x2.1)) (B.i B.z λx3=>
 B.r x3.e1)<|
 B.b (B.e x.1 B.u) λx3=>
 B.c x3.1 (B.j E9 Fa (B.p x.2.1 x.2.2.1,()) λx4=>
 A.bV [.i] x4.e1 λx5=>
 B.r x5.e1)<|
 B.b (B.e x.1 (B.n 2)) λx4=>
 B.c x4.1 (B.j E9 Fa (B.q x.2.1 x.2.2.1,()) λx5=>
 A.bV [.i] x5.e1 λx6=>
 B.r x6.e1)<|
 B.b (B.e x.1 (B.n 3)) λx5=>
 B.c x5.1 (B.j E9 Fa (B.t x.2.1 x.2.2.1,()) λx6=>
 A.bV [.i] x6.e1 λx7=>
 B.r x7.e1)<|
 B.b (B.e x.1 (B.n 4)) λx6=>
 B.c x6.1 (B.i (A.arith .and .i64 x.2.1 x.2.2.1) λx7=>
 B.r x7.e1)<|
 B.b (B.e x.1 (B.n 5)) λx7=>
 B.c x7.1 (B.i (A.arith .xor .i64 x.2.1 x.2.2.1) λx8=>
 B.r x8.e1)<|
 B.i B.z λx8=>
 B.r x8.e1
def YG (x:Tup A.ah [.i,.i,.b,.b,.i,.l .i64,.i,.l .i64,.l .i64,.l .i64]):Ot A Ce:=
 B.i B.z λx0=>
 B.c (B.e (B.y .i64 x.q.2.1) B.z) (B.i B.z λx1=>
 B.r (x1.1,x.e10))<|
 B.w .i64 x.q.2.1 B.z<|
 B.i (B.f .i64 0 (B.o .i64 x.q.2.1 B.z)) λx1=>
 B.C (B.m B.z B.u)<|
 B.C (B.m B.u (B.y .i64 x.q.2.1))<|
 B.C (B.m (B.y .i64 x.q.2.1) (B.y .i64 x.q.2.1))<|
 B.s (.l .i64) (A.sub .i64 x.q.2.1 B.u (B.y .i64 x.q.2.1)) λx2=>
 A.bV [.i] x1.e1 λx3=>
 B.r (x3.1,x.1,x.2.1,x.2.2.1,x.2.2.2.1,x.q.1,x2.1,x.2.2.2.2.2.2.e4)
def YH (jN:Pt A fK) (jO:Ft A fK) (x:Tup A.ah [.i,.i,.i]):Ot A Cg:=
 B.b B.F λx0=>
 B.j jN jO (x.2.1,()) λx1=>
 B.k x1.1 jN jO x.2.2.e1 λx2=>
 B.b (B.a (B.a x1.1 x2.1 B.F) (B.a (B.a (B.e x.1 B.u) (B.e x.2.1 x.2.2.1) B.F) B.T (B.a (B.e x.1 (B.n 2)) (B.l x.2.1 x.2.2.1) B.F)) B.F) λx3=>
 B.r x3.e1
def YI (YJ:Pt A Ce) (YK:Ft A Ce) (YL:Pt A Cc) (YM:Ft A Cc) (YN:Pt A Cg) (YO:Ft A Cg) (dN:Pt A bR) (dO:Ft A bR) (x:Tup A.ah [.x .blk,.i,.i,.b,.b,.i,.l .i64,.i,.l .i64,.l .i64,.l .i64]):Ot A LD:=
 B.C (B.e (B.y .iop (B.D .blk 2 .iop x.1)) (B.y .iop (B.D .blk 2 .iop x.1)))<|
 B.C (B.m B.z (B.y .iop (B.D .blk 2 .iop x.1)))<|
 B.C (B.m (B.y .iop (B.D .blk 2 .iop x.1)) (B.n 1073741824))<|
 B.s (.l .i64) (A.rep .i64 (B.y .iop (B.D .blk 2 .iop x.1)) (B.x .i64 (B.z,()))) λx0=>
 B.I [.l .iop,.i,.i,.i,.i,.b,.b,.i,.l .i64,.i,.l .i64,.l .i64,.x .blk,.l .i64,.l .i64] (λx1=>
 B.c (B.l x1.2.2.1 x1.2.1) (B.w .iop x1.1 x1.2.2.1<|
 B.i x1.2.2.1 λx2=>
 B.s (.x .iop) (B.o .iop x1.1 x1.2.2.1) λx3=>
 B.i B.z λx4=>
 B.i B.z λx5=>
 A.bind [.i,.i,.i,.l .iop,.i,.i,.i,.i,.b,.b,.i,.l .i64,.i,.l .i64,.l .i64,.x .blk,.l .i64,.x .iop,.l .i64] (B.c (B.g x2.1 B.z) (B.w .i64 x1.o.q.2.1 (B.f .iop 1 x3.1)<|
 B.w .i64 x1.o.q.2.1 (B.f .iop 1 x3.1)<|
 B.w .i64 x1.o.q.2.1 (B.f .iop 2 x3.1)<|
 B.w .i64 x1.o.q.2.1 (B.f .iop 2 x3.1)<|
 B.i (B.f .i64 0 (B.o .i64 x1.o.q.2.1 (B.f .iop 1 x3.1))) λx6=>
 B.i (B.f .i64 0 (B.o .i64 x1.o.q.2.1 (B.f .iop 2 x3.1))) λx7=>
 B.r (x2.1,x6.1,x7.1,x1.1,x1.2.1,x1.2.2.1,x1.2.2.2.1,x1.q.1,x1.q.2.1,x1.q.2.2.1,x1.q.2.2.2.1,x1.o.1,x1.o.2.1,x1.o.2.2.1,x1.o.2.2.2.1,x1.o.q.1,x1.o.q.2.1,x3.1,x1.2.2.2.2.2.2.2.2.2.2.2.2.2.2.e1))<|
 B.r (x2.1,x4.1,x5.1,x1.1,x1.2.1,x1.2.2.1,x1.2.2.2.1,x1.q.1,x1.q.2.1,x1.q.2.2.1,x1.q.2.2.2.1,x1.o.1,x1.o.2.1,x1.o.2.2.1,x1.o.2.2.2.1,x1.o.q.1,x1.o.q.2.1,x3.1,x1.2.2.2.2.2.2.2.2.2.2.2.2.2.2.e1)) λx6=>
 B.c (B.a (B.a (B.e (B.f .iop 0 x6.o.o.2.1) (B.n 4)) B.T (B.e (B.f .iop 0 x6.o.o.2.1) (B.n 5))) (B.h x6.2.1 (B.n 64)) B.F) (B.i (B.n 3) λx7=>
 B.i (B.p x6.q.2.2.1 (B.f .iop 4 x6.o.o.2.1)) λx8=>
 B.i (B.p x6.o.q.1 (B.f .iop 4 x6.o.o.2.1)) λx9=>
 B.R<|B.r (x8.1,x6.q.2.2.2.1,x6.o.1,x6.o.2.1,x7.1,x6.o.2.2.2.1,x9.1,x6.o.q.2.1,x6.o.q.2.2.1,x6.2.2.2.2.2.2.2.2.2.2.2.2.2.2.2.2.2.2.e1))<|
 B.b (B.e (B.f .iop 0 x6.o.o.2.1) B.u) λx7=>
 A.eY [.l .iop,.i,.i,.i,.i,.b,.b,.i,.l .i64,.i,.l .i64,.l .i64,.x .blk,.l .i64,.l .i64] (B.c x7.1 (B.w .i64 x6.o.o.1 x6.1<|
 B.w .i64 x6.o.o.1 x6.1<|
 B.i (B.f .iop 3 x6.o.o.2.1) λx8=>
 B.L (x6.2.2.2.1,x6.q.1,x6.q.2.1,x6.q.2.2.1,x6.q.2.2.2.1,x6.o.1,x6.o.2.1,x6.o.2.2.1,x6.o.2.2.2.1,x6.o.q.1,x6.o.q.2.1,x6.o.q.2.2.1,x6.o.q.2.2.2.1,A.set .i64 x6.o.o.1 x6.1 (B.x .i64 x8.e1),x6.2.2.2.2.2.2.2.2.2.2.2.2.2.2.2.2.2.2.e1))<|
 B.b (B.e (B.f .iop 0 x6.o.o.2.1) (B.n 2)) λx8=>
 A.eY [.l .iop,.i,.i,.i,.i,.b,.b,.i,.l .i64,.i,.l .i64,.l .i64,.x .blk,.l .i64,.l .i64] (B.c x8.1 (B.w .i64 x6.o.q.2.1 (B.f .iop 3 x6.o.o.2.1)<|
 B.w .i64 x6.o.q.2.1 (B.f .iop 3 x6.o.o.2.1)<|
 B.w .i64 x6.o.o.1 x6.1<|
 B.w .i64 x6.o.o.1 x6.1<|
 B.i (B.f .i64 0 (B.o .i64 x6.o.q.2.1 (B.f .iop 3 x6.o.o.2.1))) λx9=>
 B.L (x6.2.2.2.1,x6.q.1,x6.q.2.1,x6.q.2.2.1,x6.q.2.2.2.1,x6.o.1,x6.o.2.1,x6.o.2.2.1,x6.o.2.2.2.1,x6.o.q.1,x6.o.q.2.1,x6.o.q.2.2.1,x6.o.q.2.2.2.1,A.set .i64 x6.o.o.1 x6.1 (B.x .i64 x9.e1),x6.2.2.2.2.2.2.2.2.2.2.2.2.2.2.2.2.2.2.e1))<|
 B.b (B.e (B.f .iop 0 x6.o.o.2.1) (B.n 3)) λx9=>
 A.eY [.l .iop,.i,.i,.i,.i,.b,.b,.i,.l .i64,.i,.l .i64,.l .i64,.x .blk,.l .i64,.l .i64] (B.c x9.1 (B.j YL YM (B.f .iop 3 x6.o.o.2.1,x6.2.1,x6.2.2.1,()) λx10=>
 B.w .i64 x6.o.o.1 x6.1<|
 B.w .i64 x6.o.o.1 x6.1<|
 A.bV [.i] x10.e1 λx11=>
 B.L (x6.2.2.2.1,x6.q.1,x6.q.2.1,x6.q.2.2.1,x6.q.2.2.2.1,x6.o.1,x6.o.2.1,x6.o.2.2.1,x6.o.2.2.2.1,x6.o.q.1,x6.o.q.2.1,x6.o.q.2.2.1,x6.o.q.2.2.2.1,A.set .i64 x6.o.o.1 x6.1 (B.x .i64 x11.e1),x6.2.2.2.2.2.2.2.2.2.2.2.2.2.2.2.2.2.2.e1))<|
 B.b (B.e (B.f .iop 0 x6.o.o.2.1) (B.n 4)) λx10=>
 A.eY [.l .iop,.i,.i,.i,.i,.b,.b,.i,.l .i64,.i,.l .i64,.l .i64,.x .blk,.l .i64,.l .i64] (B.c x10.1 (B.w .i64 x6.o.q.2.2.1 x6.2.1<|
 B.w .i64 x6.o.q.2.2.1 x6.2.1<|
 B.w .i64 x6.o.o.1 x6.1<|
 B.w .i64 x6.o.o.1 x6.1<|
 B.i (B.f .i64 0 (B.o .i64 x6.o.q.2.2.1 x6.2.1)) λx11=>
 B.L (x6.2.2.2.1,x6.q.1,x6.q.2.1,x6.q.2.2.1,x6.q.2.2.2.1,x6.o.1,x6.o.2.1,x6.o.2.2.1,x6.o.2.2.2.1,x6.o.q.1,x6.o.q.2.1,x6.o.q.2.2.1,x6.o.q.2.2.2.1,A.set .i64 x6.o.o.1 x6.1 (B.x .i64 x11.e1),x6.2.2.2.2.2.2.2.2.2.2.2.2.2.2.2.2.2.2.e1))<|
 B.b (B.e (B.f .iop 0 x6.o.o.2.1) (B.n 5)) λx11=>
 A.eY [.l .iop,.i,.i,.i,.i,.b,.b,.i,.l .i64,.i,.l .i64,.l .i64,.x .blk,.l .i64,.l .i64] (B.c x11.1 (B.w .i64 x6.o.q.2.2.1 x6.2.1<|
 B.w .i64 x6.o.q.2.2.1 x6.2.1<|
 B.i x6.2.2.1 λx12=>
 B.j dN dO (x6.2.1,B.p (B.p (B.f .blk 0 x6.o.q.2.2.2.1) (B.f .iop 4 x6.o.o.2.1)) B.u,B.q (B.p (B.f .blk 0 x6.o.q.2.2.2.1) (B.f .blk 1 x6.o.q.2.2.2.1)) B.u,()) λx13=>
 B.c x13.1 (B.i (B.p x6.q.2.2.1 (B.p (B.f .iop 4 x6.o.o.2.1) B.u)) λx14=>
 B.i (B.p x6.o.q.1 (B.p (B.f .iop 4 x6.o.o.2.1) B.u)) λx15=>
 B.R<|B.R<|B.R<|B.R<|B.R<|B.R<|B.r (x14.1,x6.q.2.2.2.1,x6.o.1,x6.o.2.1,x6.o.2.2.1,x6.o.2.2.2.1,x15.1,x6.o.q.2.1,A.set .i64 x6.o.q.2.2.1 x6.2.1 (B.x .i64 x12.e1),x6.2.2.2.2.2.2.2.2.2.2.2.2.2.2.2.2.2.2.e1))<|
 B.L (x6.2.2.2.1,x6.q.1,x6.q.2.1,x6.q.2.2.1,x6.q.2.2.2.1,x6.o.1,x6.o.2.1,x6.o.2.2.1,x6.o.2.2.2.1,x6.o.q.1,x6.o.q.2.1,A.set .i64 x6.o.q.2.2.1 x6.2.1 (B.x .i64 x12.e1),x6.o.q.2.2.2.1,x6.o.o.1,x6.2.2.2.2.2.2.2.2.2.2.2.2.2.2.2.2.2.2.e1))<|
 B.b (B.e (B.f .iop 0 x6.o.o.2.1) (B.n 6)) λx12=>
 A.bind [.l .iop,.i,.i,.i,.i,.b,.b,.i,.l .i64,.i,.l .i64,.l .i64,.x .blk,.l .i64,.l .i64] (B.c x12.1 (B.j YJ YK (x6.q.2.2.1,x6.q.2.2.2.1,x6.o.1,x6.o.2.1,x6.o.2.2.1,x6.o.2.2.2.1,x6.o.q.1,x6.o.q.2.1,x6.o.q.2.2.1,x6.2.2.2.2.2.2.2.2.2.2.2.2.2.2.2.2.2.2.e1) λx13=>
 B.w .i64 x6.o.o.1 x6.1<|
 B.w .i64 x6.o.o.1 x6.1<|
 B.i x13.1 λx14=>
 B.r (x6.2.2.2.1,x6.q.1,x6.q.2.1,x13.2.1,x13.2.2.1,x13.2.2.2.1,x13.q.1,x13.q.2.1,x13.q.2.2.1,x13.q.2.2.2.1,x13.o.1,x13.o.2.1,x6.o.q.2.2.2.1,A.set .i64 x6.o.o.1 x6.1 (B.x .i64 x14.e1),x13.2.2.2.2.2.2.2.2.2.2.e1))<|
 B.b (B.e (B.f .iop 0 x6.o.o.2.1) (B.n 7)) λx13=>
 A.bind [.l .iop,.i,.i,.i,.i,.b,.b,.i,.l .i64,.i,.l .i64,.l .i64,.x .blk,.l .i64,.l .i64] (B.c x13.1 (B.s (.l .i64) (A.lst .i64 [B.x .i64 (x6.2.1,())]) λx14=>
 B.C (B.m (A.addN (B.y .i64 x6.o.o.2.2.1) (B.y .i64 x14.1)) (B.n 1073741824))<|
 B.s (.l .i64) (A.app .i64 x6.o.o.2.2.1 x14.1) λx15=>
 B.r (x6.2.2.2.1,x6.q.1,x6.q.2.1,x6.q.2.2.1,x6.q.2.2.2.1,x6.o.1,x6.o.2.1,x6.o.2.2.1,x6.o.2.2.2.1,x6.o.q.1,x6.o.q.2.1,x6.o.q.2.2.1,x6.o.q.2.2.2.1,x6.o.o.1,x15.e1))<|
 B.b (B.e (B.f .iop 0 x6.o.o.2.1) (B.n 8)) λx14=>
 A.bind [.l .iop,.i,.i,.i,.i,.b,.b,.i,.l .i64,.i,.l .i64,.l .i64,.x .blk,.l .i64,.l .i64] (B.c x14.1 (B.w .i64 x6.o.q.2.1 (B.f .iop 3 x6.o.o.2.1)<|
 B.w .i64 x6.o.q.2.1 (B.f .iop 3 x6.o.o.2.1)<|
 B.i x6.2.1 λx15=>
 B.r (x6.2.2.2.1,x6.q.1,x6.q.2.1,x6.q.2.2.1,x6.q.2.2.2.1,x6.o.1,x6.o.2.1,x6.o.2.2.1,x6.o.2.2.2.1,x6.o.q.1,A.set .i64 x6.o.q.2.1 (B.f .iop 3 x6.o.o.2.1) (B.x .i64 x15.e1),x6.o.q.2.2.1,x6.o.q.2.2.2.1,x6.o.o.1,x6.2.2.2.2.2.2.2.2.2.2.2.2.2.2.2.2.2.2.e1))<|
 B.r (x6.2.2.2.1,x6.q.1,x6.q.2.1,x6.q.2.2.1,x6.q.2.2.2.1,x6.o.1,x6.o.2.1,x6.o.2.2.1,x6.o.2.2.2.1,x6.o.q.1,x6.o.q.2.1,x6.o.q.2.2.1,x6.o.q.2.2.2.1,x6.o.o.1,x6.2.2.2.2.2.2.2.2.2.2.2.2.2.2.2.2.2.2.e1)) λx15=>
 B.r x15.e15) λx14=>
 B.r x14.e15) λx13=>
 B.L x13.e15) λx12=>
 B.L x12.e15) λx11=>
 B.L x11.e15) λx10=>
 B.L x10.e15) λx9=>
 B.L x9.e15) λx8=>
 B.L (x8.1,x8.2.1,B.p x8.2.2.1 B.u,x8.2.2.2.e12))<|
 B.R<|B.i (B.p x1.o.2.1 (B.f .blk 1 x1.o.q.1)) λx2=>
 B.b (B.e (B.f .blk 3 x1.o.q.1) B.u) λx3=>
 A.bind [.i,.i,.b,.b,.i,.l .i64,.i,.l .i64,.l .i64,.l .i64] (B.c x3.1 (B.i (B.f .blk 6 x1.o.q.1) λx4=>
 B.r (x4.1,x1.q.1,x1.q.2.1,x1.q.2.2.1,x1.q.2.2.2.1,x1.o.1,x2.1,x1.o.2.2.1,x1.o.2.2.2.1,x1.2.2.2.2.2.2.2.2.2.2.2.2.2.2.e1))<|
 B.b (B.e (B.f .blk 3 x1.o.q.1) (B.n 2)) λx4=>
 A.bind [.i,.i,.b,.b,.i,.l .i64,.i,.l .i64,.l .i64,.l .i64] (B.c x4.1 (B.w .i64 x1.o.q.2.1 (B.f .blk 4 x1.o.q.1)<|
 B.w .i64 x1.o.q.2.1 (B.f .blk 4 x1.o.q.1)<|
 B.i (B.f .i64 0 (B.o .i64 x1.o.q.2.1 (B.f .blk 4 x1.o.q.1))) λx5=>
 B.r (x5.1,x1.q.1,x1.q.2.1,x1.q.2.2.1,x1.q.2.2.2.1,x1.o.1,x2.1,x1.o.2.2.1,x1.o.2.2.2.1,x1.2.2.2.2.2.2.2.2.2.2.2.2.2.2.e1))<|
 B.i (B.p (B.f .blk 0 x1.o.q.1) (B.f .blk 1 x1.o.q.1)) λx5=>
 B.w .i64 x1.o.q.2.1 (B.f .blk 4 x1.o.q.1)<|
 B.w .i64 x1.o.q.2.1 (B.f .blk 4 x1.o.q.1)<|
 B.w .i64 x1.o.q.2.1 (B.f .blk 5 x1.o.q.1)<|
 B.w .i64 x1.o.q.2.1 (B.f .blk 5 x1.o.q.1)<|
 B.j YN YO (B.p (B.q (B.f .blk 3 x1.o.q.1) (B.n 3)) B.u,B.f .i64 0 (B.o .i64 x1.o.q.2.1 (B.f .blk 4 x1.o.q.1)),B.f .i64 0 (B.o .i64 x1.o.q.2.1 (B.f .blk 5 x1.o.q.1)),()) λx6=>
 A.bind [.i,.i,.b,.b,.i,.l .i64,.i,.l .i64,.l .i64,.l .i64] (B.c x6.1 (B.i (B.f .blk 6 x1.o.q.1) λx7=>
 B.r (x7.1,x1.q.1,x1.q.2.1,x1.q.2.2.1,x1.q.2.2.2.1,x1.o.1,x2.1,x1.o.2.2.1,x1.o.2.2.2.1,x1.2.2.2.2.2.2.2.2.2.2.2.2.2.2.e1))<|
 B.r (x5.1,x1.q.1,x1.q.2.1,x1.q.2.2.1,x1.q.2.2.2.1,x1.o.1,x2.1,x1.o.2.2.1,x1.o.2.2.2.1,x1.2.2.2.2.2.2.2.2.2.2.2.2.2.2.e1)) λx7=>
 B.r x7.e10) λx5=>
 B.r x5.e10) λx4=>
 B.r x4.e10) (B.D .blk 2 .iop x.1,B.y .iop (B.D .blk 2 .iop x.1),B.z,x.2.1,x.2.2.1,x.2.2.2.1,x.q.1,x.q.2.1,x.q.2.2.1,x.q.2.2.2.1,x.o.1,x.o.2.1,x.1,x0.1,x.2.2.2.2.2.2.2.2.2.2.e1)
def YP (ajB:Pt A LD) (ajC:Ft A LD) (YQ:Pt A BU) (YR:Ft A BU) (Mw:Pt A BZ) (Mx:Ft A BZ) (YS:Pt A BX) (YT:Ft A BX) (x:Tup A.ah [.x .blk,.x .aB]):Ot A LG:=
 B.b B.F λx0=>
 B.j YQ YR (x.1,()) λx1=>
 B.k (B.N (B.N x1.1)) YS YT x.2.e1 λx2=>
 B.c (B.a (B.N x1.1) B.T (B.N x2.1)) (B.b B.F λx3=>
 B.r (B.z,B.z,B.F,B.F,B.z,B.z,x3.1,A.gW .i64,A.gW .i64,A.gW .i64,A.gW .i64,()))<|
 B.j Mw Mx x.2.e1 λx3=>
 B.c (B.a (B.a (B.d (B.f .aB 6 x.2.1) B.z) B.T (B.d (B.f .aB 1 x.2.1) (B.f .blk 0 x.1))) B.T (B.g (B.f .aB 9 x.2.1) (B.q (B.n 1000000) (B.f .blk 1 x.1)))) (B.b B.F λx4=>
 B.r (x3.1,x3.2.1,x3.2.2.1,x3.2.2.2.1,x3.q.1,x3.q.2.1,x4.1,x3.2.2.2.2.2.2.e4))<|
 B.j ajB ajC (x.1,x3.1,x3.2.1,x3.2.2.1,x3.2.2.2.1,x3.q.1,x3.o.1,x3.q.2.1,x3.q.2.2.1,x3.q.2.2.2.1,x3.2.2.2.2.2.2.2.2.2.e1) λx4=>
 B.j Mw Mx (B.x .aB (x4.q.2.2.2.1,x4.1,x4.o.1,x4.2.1,x4.2.2.1,x4.2.2.2.1,x4.q.1,x4.q.2.1,x4.o.2.1,x4.q.2.2.1,()),()) λx5=>
 B.b B.T λx6=>
 B.r (x5.1,x5.2.1,x5.2.2.1,x5.2.2.2.1,x5.q.1,x5.q.2.1,x6.1,x5.2.2.2.2.2.2.e4)
def afN (dN:Pt A bR) (dO:Ft A bR) (Mt:Pt A BR) (Mv:Ft A BR) (x:Tup A.ah [.x .ins]):Ot A ER:=
 B.b B.F λx0=>
 B.j dN dO (B.f .ins 0 x.1,B.z,B.n 15,()) λx1=>
 B.c (B.N x1.1) (B.b B.F λx2=>
 B.r x2.e1)<|
 B.w .form (A.glob 0 .form) (B.f .ins 0 x.1)<|
 B.s (.x .form) (B.o .form (A.glob 0 .form) (B.f .ins 0 x.1)) λx2=>
 B.j Mt Mv (B.f .ins 1 x.1,()) λx3=>
 B.k x3.1 Mt Mv (B.f .ins 2 x.1,()) λx4=>
 B.k (B.a (B.a (B.a x3.1 x4.1 B.F) (B.a (A.fB .form 0 x2.1) B.T (B.e (B.f .ins 1 x.1) B.z)) B.F) (B.a (A.fB .form 1 x2.1) B.T (B.e (B.f .ins 2 x.1) B.z)) B.F) dN dO (B.f .ins 3 x.1,B.z,B.f .form 2 x2.1,()) λx5=>
 B.b (B.a (B.a (B.a (B.a x3.1 x4.1 B.F) (B.a (A.fB .form 0 x2.1) B.T (B.e (B.f .ins 1 x.1) B.z)) B.F) (B.a (A.fB .form 1 x2.1) B.T (B.e (B.f .ins 2 x.1) B.z)) B.F) x5.1 B.F) λx6=>
 B.r x6.e1
def afO (dN:Pt A bR) (dO:Ft A bR) (x:Tup A.ah [.i]):Ot A WS:=
 B.b B.F λx0=>
 B.j dN dO (x.1,B.n 11,B.n 13,()) λx1=>
 A.bV [.b] x1.e1 λx2=>
 B.r x2.e1
def afP (apD:Pt A WS) (apE:Ft A WS) (YU:Pt A ER) (YV:Ft A ER) (dN:Pt A bR) (dO:Ft A bR) (x:Tup A.ah [.i,.l .ins]):Ot A LH:=
 B.b B.F λx0=>
 B.j dN dO (B.y .ins x.2.1,B.u,B.n 8,()) λx1=>
 B.k (B.N (B.N x1.1)) dN dO (x.1,B.z,B.q (B.n 64) (B.y .ins x.2.1),()) λx2=>
 B.c (B.a (B.N x1.1) B.T (B.N x2.1)) (B.b B.F λx3=>
 B.r x3.e1)<|
 B.I [.l .ins,.l .ins,.i,.i] (λx3=>
 B.c (B.l x3.2.2.2.1 x3.2.2.1) (B.w .ins x3.2.1 x3.2.2.2.1<|
 A.bV [.i] x3.2.2.2.e1 λx4=>
 B.s (.x .ins) (B.o .ins x3.2.1 x3.2.2.2.1) λx5=>
 B.j YU YV x5.e1 λx6=>
 B.k (B.N (B.a (B.N x6.1) B.T (B.e (B.f .ins 0 x5.1) B.z))) apD apE (B.f .ins 0 x5.1,()) λx7=>
 B.c (B.a (B.a (B.N x6.1) B.T (B.e (B.f .ins 0 x5.1) B.z)) B.T (B.a x7.1 (B.l x4.1 (B.q (B.y .ins x3.1) B.u)) B.F)) (B.b B.F λx8=>
 B.R<|B.r x8.e1)<|
 B.L (x3.1,x3.2.1,x3.2.2.1,B.p x3.2.2.2.1 B.u,()))<|
 B.R<|B.b B.T λx4=>
 B.r x4.e1) (x.2.1,x.2.1,B.y .ins x.2.1,B.z,())
def YW (dN:Pt A bR) (dO:Ft A bR) (x:Tup A.ah [.x .iop]):Ot A LJ:=
 B.b B.F λx0=>
 B.j dN dO (B.f .iop 0 x.1,B.n 4,B.n 7,()) λx1=>
 A.bV [.b] x1.e1 λx2=>
 B.r x2.e1
def YX (ajD:Pt A LJ) (ajE:Ft A LJ) (x:Tup A.ah [.i,.i,.i,.i,.i,.i,.i,.i,.i,.i,.i,.l .iop]):Ot A kM:=
 B.i B.z λx0=>
 B.j ajD ajE (B.x .iop (x.1,x.2.1,x.2.2.1,x.2.2.2.1,B.z,()),()) λx1=>
 A.bind [.i,.i,.i,.i,.i,.i,.i,.l .iop,.i,.i,.i,.i,.i] (B.c x1.1 (B.i x.o.2.2.1 λx2=>
 B.r (x.q.1,x.q.2.1,x.q.2.2.1,x.q.2.2.2.1,x.o.1,x.o.2.1,x.o.2.2.1,x.o.2.2.2.1,x.1,x.2.1,x.2.2.1,x.2.2.2.1,x2.e1))<|
 B.r (x.q.1,x.q.2.1,x.q.2.2.1,x.q.2.2.2.1,x.o.1,x.o.2.1,x.o.2.2.1,x.o.2.2.2.1,x.1,x.2.1,x.2.2.1,x.2.2.2.1,B.z,())) λx2=>
 B.C (B.m (A.addN (B.y .iop x2.q.2.2.2.1) (B.y .iop (A.lst .iop [B.x .iop x2.2.2.2.2.2.2.2.2.e5]))) (B.n 1073741824))<|
 B.s (.l .iop) (A.app .iop x2.q.2.2.2.1 (A.lst .iop [B.x .iop x2.2.2.2.2.2.2.2.2.e5])) λx3=>
 B.i (B.q (B.y .iop x3.1) B.u) λx4=>
 B.r (x4.1,x2.1,x2.2.1,x2.2.2.1,x2.2.2.2.1,x2.q.1,x2.q.2.1,x2.q.2.2.1,x3.e1)
def YZ (qN:Pt A kM) (qO:Ft A kM) (x:Tup A.ah [.i,.x .ins,.i,.i,.i,.i,.i,.i,.i,.l .iop]):Ot A LK:=
 B.j qN qO (B.n 8,x.1,B.z,B.f .ins 1 x.2.1,x.2.2.e8) λx0=>
 B.r (x.2.1,x0.2.e8)
def Y0 (qN:Pt A kM) (qO:Ft A kM) (x:Tup A.ah [.i,.i,.i,.i,.i,.i,.i,.i,.l .iop]):Ot A LM:=
 B.i B.z λx0=>
 B.j qN qO (B.u,B.z,B.z,x.e9) λx1=>
 B.i x1.1 λx2=>
 B.r (x2.1,x1.2.e8)
def Za (qN:Pt A kM) (qO:Ft A kM) (x:Tup A.ah [.i,.i,.i,.i,.i,.i,.i,.i,.l .iop]):Ot A LP:=
 B.i B.z λx0=>
 B.j qN qO (B.n 2,B.z,B.z,x.e9) λx1=>
 B.i x1.1 λx2=>
 B.r (x2.1,x1.2.e8)
def Zb (qN:Pt A kM) (qO:Ft A kM) (x:Tup A.ah [.i,.i,.i,.i,.i,.i,.i,.i,.i,.i,.l .iop]):Ot A LQ:=
 B.i B.z λx0=>
 B.j qN qO (B.n 3,x.2.1,x.2.2.1,x.1,x.2.2.2.e8) λx1=>
 B.i x1.1 λx2=>
 B.r (x2.1,x1.2.e8)
def Zc (Sz:Pt A LQ) (SA:Ft A LQ) (tJ:Pt A LP) (tK:Ft A LP) (Hu:Pt A LK) (Hw:Ft A LK) (qN:Pt A kM) (qO:Ft A kM) (SB:Pt A LM) (SE:Ft A LM) (x:Tup A.ah [.x .ins,.i,.i,.i,.i,.i,.i,.i,.l .iop]):Ot A LU:=
 B.b (B.e (B.f .ins 0 x.1) B.u) λx0=>
 A.bind [.i,.i,.i,.i,.i,.i,.i,.l .iop] (B.c x0.1 (B.j SB SE (B.f .ins 3 x.1,x.2.e8) λx1=>
 B.j Hu Hw (x1.1,x.1,x1.2.e8) λx2=>
 B.r x2.2.e8)<|
 B.b (B.e (B.f .ins 0 x.1) (B.n 2)) λx1=>
 A.bind [.i,.i,.i,.i,.i,.i,.i,.l .iop] (B.c x1.1 (B.j tJ tK (B.f .ins 2 x.1,x.2.e8) λx2=>
 B.j Hu Hw (x2.1,x.1,x2.2.e8) λx3=>
 B.r x3.2.e8)<|
 B.b (B.e (B.f .ins 0 x.1) (B.n 8)) λx2=>
 A.bind [.i,.i,.i,.i,.i,.i,.i,.l .iop] (B.c x2.1 (B.j tJ tK (B.f .ins 2 x.1,x.2.e8) λx3=>
 B.i x3.1 λx4=>
 B.C (B.m B.z (B.f .ins 3 x.1))<|
 B.j SB SE (A.arith .shl .i64 B.u (B.f .ins 3 x.1),x3.2.e8) λx5=>
 B.j Sz SA (B.n 3,x4.1,x5.e9) λx6=>
 B.j Hu Hw (x6.1,x.1,x6.2.e8) λx7=>
 B.r x7.2.e8)<|
 B.b (B.e (B.f .ins 0 x.1) (B.n 9)) λx3=>
 A.bind [.i,.i,.i,.i,.i,.i,.i,.l .iop] (B.c x3.1 (B.j tJ tK (B.f .ins 2 x.1,x.2.e8) λx4=>
 B.i x4.1 λx5=>
 B.j SB SE (B.f .ins 3 x.1,x4.2.e8) λx6=>
 B.j Sz SA (B.u,x5.1,x6.e9) λx7=>
 B.j qN qO (B.n 4,x7.1,B.z,B.z,x7.2.e8) λx8=>
 B.j Hu Hw (x8.1,x.1,x8.2.e8) λx9=>
 B.r x9.2.e8)<|
 B.b (B.e (B.f .ins 0 x.1) (B.n 10)) λx4=>
 A.bind [.i,.i,.i,.i,.i,.i,.i,.l .iop] (B.c x4.1 (B.j tJ tK (B.f .ins 2 x.1,x.2.e8) λx5=>
 B.i x5.1 λx6=>
 B.j SB SE (B.f .ins 3 x.1,x5.2.e8) λx7=>
 B.j Sz SA (B.u,x6.1,x7.e9) λx8=>
 B.i x8.1 λx9=>
 B.j tJ tK (B.f .ins 1 x.1,x8.2.e8) λx10=>
 B.j qN qO (B.n 5,x9.1,x10.1,B.z,x10.2.e8) λx11=>
 B.r x11.2.e8)<|
 B.b (B.e (B.f .ins 0 x.1) (B.n 14)) λx5=>
 A.bind [.i,.i,.i,.i,.i,.i,.i,.l .iop] (B.c x5.1 (B.j tJ tK (B.f .ins 1 x.1,x.2.e8) λx6=>
 B.j qN qO (B.n 7,x6.1,B.z,B.z,x6.2.e8) λx7=>
 B.r x7.2.e8)<|
 B.b (B.e (B.f .ins 0 x.1) (B.n 15)) λx6=>
 A.bind [.i,.i,.i,.i,.i,.i,.i,.l .iop] (B.c x6.1 (B.j qN qO (B.n 6,B.z,B.z,B.z,x.2.e8) λx7=>
 B.j Hu Hw (x7.1,x.1,x7.2.e8) λx8=>
 B.r x8.2.e8)<|
 B.b (B.e (B.f .ins 0 x.1) (B.n 11)) λx7=>
 A.bind [.i,.b,.i,.i,.i,.i,.i,.i,.i,.l .iop,.x .ins] (B.c x7.1 (B.r (B.f .ins 0 x.1,x7.1,x.2.1,x.2.2.1,x.2.2.2.1,x.q.1,x.q.2.1,x.q.2.2.1,x.q.2.2.2.1,x.o.1,x.1,()))<|
 B.b (B.e (B.f .ins 0 x.1) (B.n 12)) λx8=>
 B.r (B.f .ins 0 x.1,x8.1,x.2.1,x.2.2.1,x.2.2.2.1,x.q.1,x.q.2.1,x.q.2.2.1,x.q.2.2.2.1,x.o.1,x.1,())) λx8=>
 A.bind [.i,.i,.i,.i,.i,.i,.i,.l .iop] (B.c x8.2.1 (B.i (B.q (B.p (B.n 3) (B.f .ins 0 x8.o.2.2.1)) (B.n 11)) λx9=>
 B.i (B.f .ins 3 x8.o.2.2.1) λx10=>
 B.j tJ tK (B.f .ins 1 x8.o.2.2.1,x8.2.2.1,x8.2.2.2.1,x9.1,x8.q.2.1,x8.q.2.2.1,x10.1,x8.o.1,x8.o.2.1,()) λx11=>
 B.i x11.1 λx12=>
 B.j tJ tK (B.f .ins 2 x8.o.2.2.1,x11.2.1,x11.2.2.1,x11.2.2.2.1,x12.1,x11.2.2.2.2.2.e4) λx13=>
 B.i x13.1 λx14=>
 B.r (x13.2.1,x13.2.2.1,x13.2.2.2.1,x13.q.1,x14.1,x13.2.2.2.2.2.2.e3))<|
 B.b (B.e x8.1 (B.n 13)) λx9=>
 A.bind [.i,.i,.i,.i,.i,.i,.i,.l .iop] (B.c x9.1 (B.i (B.n 2) λx10=>
 B.i B.z λx11=>
 B.j tJ tK (B.f .ins 2 x8.o.2.2.1,x8.2.2.1,x8.2.2.2.1,x10.1,x8.q.2.1,x8.q.2.2.1,x11.1,x8.o.1,x8.o.2.1,()) λx12=>
 B.i x12.1 λx13=>
 B.r (x12.2.1,x12.2.2.1,x12.2.2.2.1,x13.1,x12.2.2.2.2.2.e4))<|
 B.j tJ tK (B.f .ins 2 x8.o.2.2.1,x8.2.2.1,x8.2.2.2.1,x8.q.1,x8.q.2.1,x8.q.2.2.1,x8.q.2.2.2.1,x8.o.1,x8.o.2.1,()) λx10=>
 B.i x10.1 λx11=>
 B.j tJ tK (B.f .ins 3 x8.o.2.2.1,x10.2.e8) λx12=>
 B.j Sz SA (B.p (B.q (B.f .ins 0 x8.o.2.2.1) (B.n 3)) B.u,x11.1,x12.e9) λx13=>
 B.j Hu Hw (x13.1,x8.o.2.2.1,x13.2.e8) λx14=>
 B.r x14.2.e8) λx10=>
 B.r x10.e8) λx9=>
 B.r x9.e8) λx7=>
 B.r x7.e8) λx6=>
 B.r x6.e8) λx5=>
 B.r x5.e8) λx4=>
 B.r x4.e8) λx3=>
 B.r x3.e8) λx2=>
 B.r x2.e8) λx1=>
 B.r x1.e8
def afQ (x:Tup A.ah [.x .blk]):Ot A WT:=
 B.C (B.m (B.y .iop (B.D .blk 2 .iop x.1)) (B.n 1073741824))<|
 B.s (.l .iop) (B.D .blk 2 .iop x.1) λx0=>
 B.r (B.f .blk 0 x.1,B.f .blk 1 x.1,B.f .blk 3 x.1,B.f .blk 4 x.1,B.f .blk 5 x.1,B.f .blk 6 x.1,x0.e1)
def afR (afS:Pt A LH) (afT:Ft A LH) (apF:Pt A WT) (apG:Ft A WT) (ajF:Pt A LU) (ajG:Ft A LU) (x:Tup A.ah [.i,.l .ins]):Ot A WU:=
 B.j afS afT x.e2 λx0=>
 B.c (B.N x0.1) (B.r (B.z,B.z,B.z,B.z,B.z,B.z,A.gW .iop,()))<|
 B.I [.l .ins,.i,.i,.i,.i,.i,.i,.i,.i,.i,.i,.i,.i,.i,.i,.i,.l .iop] (λx1=>
 B.c (B.l x1.2.2.1 x1.2.1) (B.w .ins x1.1 x1.2.2.1<|
 B.i x1.2.2.1 λx2=>
 B.s (.x .ins) (B.o .ins x1.1 x1.2.2.1) λx3=>
 A.bV [.i] x2.e1 λx4=>
 B.j ajF ajG (x3.1,x1.o.2.1,x1.o.2.2.1,x1.o.2.2.2.1,x1.o.q.1,x1.o.q.2.1,x1.o.q.2.2.1,x4.1,x1.2.2.2.2.2.2.2.2.2.2.2.2.2.2.2.2.e1) λx5=>
 B.L (x1.1,x1.2.1,B.p x1.2.2.1 B.u,x1.2.2.2.1,x1.q.1,x1.q.2.1,x1.q.2.2.1,x1.q.2.2.2.1,x1.o.1,x5.e8))<|
 B.R<|B.j apF apG (B.x .blk (x1.o.2.1,x1.o.2.2.1,x1.o.o.1,x1.o.2.2.2.1,x1.o.q.1,x1.o.q.2.1,x1.o.q.2.2.1,()),()) λx2=>
 B.r x2.e7) (x.2.1,B.y .ins x.2.1,B.z,B.z,B.z,B.z,B.z,B.z,B.z,x.1,B.y .ins x.2.1,B.u,B.z,B.z,B.p x.1 (B.y .ins x.2.1),B.z,A.gW .iop,())
def Zd (x:Tup A.ah [.l .i64,.l .i64]):Ot A LW:=
 B.b B.F λx0=>
 B.c (B.d (B.y .i64 x.1) (B.y .i64 x.2.1)) (B.b B.F λx1=>
 B.r x1.e1)<|
 B.i B.z λx1=>
 B.I [.l .i64,.l .i64,.i] (λx2=>
 B.c (B.l x2.2.2.1 (B.y .i64 x2.1)) (B.w .i64 x2.1 x2.2.2.1<|
 B.w .i64 x2.2.1 x2.2.2.1<|
 B.c (B.d (B.f .i64 0 (B.o .i64 x2.1 x2.2.2.1)) (B.f .i64 0 (B.o .i64 x2.2.1 x2.2.2.1))) (B.b B.F λx3=>
 B.R<|B.r x3.e1)<|
 B.i (B.p x2.2.2.1 B.u) λx3=>
 B.L (x2.1,x2.2.1,x3.e1))<|
 B.R<|B.b B.T λx3=>
 B.r x3.e1) (x.1,x.2.1,x1.e1)
def Ze (SF:Pt A LW) (SG:Ft A LW) (x:Tup A.ah [.x .aB,.x .aB]):Ot A LY:=
 B.b B.F λx0=>
 B.j SF SG (B.D .aB 0 .i64 x.1,B.D .aB 0 .i64 x.2.1,()) λx1=>
 B.k (B.a x1.1 (B.e (B.f .aB 1 x.1) (B.f .aB 1 x.2.1)) B.F) SF SG (B.D .aB 2 .i64 x.1,B.D .aB 2 .i64 x.2.1,()) λx2=>
 B.k (B.a (B.a (B.a (B.a (B.a (B.a x1.1 (B.e (B.f .aB 1 x.1) (B.f .aB 1 x.2.1)) B.F) x2.1 B.F) (B.e (B.f .aB 3 x.1) (B.f .aB 3 x.2.1)) B.F) (A.eqB (A.fB .aB 4 x.1) (A.fB .aB 4 x.2.1)) B.F) (A.eqB (A.fB .aB 5 x.1) (A.fB .aB 5 x.2.1)) B.F) (B.e (B.f .aB 6 x.1) (B.f .aB 6 x.2.1)) B.F) SF SG (B.D .aB 7 .i64 x.1,B.D .aB 7 .i64 x.2.1,()) λx3=>
 B.k (B.a (B.a (B.a (B.a (B.a (B.a (B.a x1.1 (B.e (B.f .aB 1 x.1) (B.f .aB 1 x.2.1)) B.F) x2.1 B.F) (B.e (B.f .aB 3 x.1) (B.f .aB 3 x.2.1)) B.F) (A.eqB (A.fB .aB 4 x.1) (A.fB .aB 4 x.2.1)) B.F) (A.eqB (A.fB .aB 5 x.1) (A.fB .aB 5 x.2.1)) B.F) (B.e (B.f .aB 6 x.1) (B.f .aB 6 x.2.1)) B.F) x3.1 B.F) SF SG (B.D .aB 8 .i64 x.1,B.D .aB 8 .i64 x.2.1,()) λx4=>
 B.b (B.a (B.a (B.a (B.a (B.a (B.a (B.a (B.a (B.a x1.1 (B.e (B.f .aB 1 x.1) (B.f .aB 1 x.2.1)) B.F) x2.1 B.F) (B.e (B.f .aB 3 x.1) (B.f .aB 3 x.2.1)) B.F) (A.eqB (A.fB .aB 4 x.1) (A.fB .aB 4 x.2.1)) B.F) (A.eqB (A.fB .aB 5 x.1) (A.fB .aB 5 x.2.1)) B.F) (B.e (B.f .aB 6 x.1) (B.f .aB 6 x.2.1)) B.F) x3.1 B.F) x4.1 B.F) (B.e (B.f .aB 9 x.1) (B.f .aB 9 x.2.1)) B.F) λx5=>
 B.r x5.e1
def Zf (x:Tup A.ah [.x .blk,.x .blk]):Ot A LZ:=
 B.b B.F λx0=>
 B.c (B.a (B.a (B.a (B.a (B.a (B.a (B.d (B.f .blk 0 x.1) (B.f .blk 0 x.2.1)) B.T (B.d (B.f .blk 1 x.1) (B.f .blk 1 x.2.1))) B.T (B.d (B.f .blk 3 x.1) (B.f .blk 3 x.2.1))) B.T (B.d (B.f .blk 4 x.1) (B.f .blk 4 x.2.1))) B.T (B.d (B.f .blk 5 x.1) (B.f .blk 5 x.2.1))) B.T (B.d (B.f .blk 6 x.1) (B.f .blk 6 x.2.1))) B.T (B.d (B.y .iop (B.D .blk 2 .iop x.1)) (B.y .iop (B.D .blk 2 .iop x.2.1)))) (B.b B.F λx1=>
 B.r x1.e1)<|
 B.i B.z λx1=>
 B.I [.i,.x .blk,.x .blk] (λx2=>
 B.c (B.l x2.1 (B.y .iop (B.D .blk 2 .iop x2.2.1))) (B.w .iop (B.D .blk 2 .iop x2.2.1) x2.1<|
 B.w .iop (B.D .blk 2 .iop x2.2.2.1) x2.1<|
 B.c (B.N (A.eqX .iop (B.o .iop (B.D .blk 2 .iop x2.2.1) x2.1) (B.o .iop (B.D .blk 2 .iop x2.2.2.1) x2.1))) (B.b B.F λx3=>
 B.R<|B.r x3.e1)<|
 B.i (B.p x2.1 B.u) λx3=>
 B.L (x3.1,x2.2.e2))<|
 B.R<|B.b B.T λx3=>
 B.r x3.e1) (x1.1,x.e2)
def afU (YU:Pt A ER) (YV:Ft A ER) (x:Tup A.ah [.x .ins]):Ot A WW:=
 B.i B.z λx0=>
 B.j YU YV x.e1 λx1=>
 B.c (B.N x1.1) (B.i B.z λx2=>
 B.r x2.e1)<|
 B.i (B.p (B.p (B.p (B.t (B.f .ins 0 x.1) (B.n 4096)) (B.t (B.f .ins 1 x.1) (B.n 1024))) (B.t (B.f .ins 2 x.1) (B.n 256))) (B.f .ins 3 x.1)) λx2=>
 B.r x2.e1
def afV (apH:Pt A WW) (apI:Ft A WW) (x:Tup A.ah [.l .ins]):Ot A WX:=
 B.I [.l .ins,.i,.i,.l .i64] (λx0=>
 B.c (B.l x0.2.2.1 x0.2.1) (B.w .ins x0.1 x0.2.2.1<|
 B.s (.x .ins) (B.o .ins x0.1 x0.2.2.1) λx1=>
 B.j apH apI x1.e1 λx2=>
 B.s (.l .i64) (A.lst .i64 [B.x .i64 x2.e1]) λx3=>
 B.C (B.m (A.addN (B.y .i64 x0.2.2.2.1) (B.y .i64 x3.1)) (B.n 1073741824))<|
 B.s (.l .i64) (A.app .i64 x0.2.2.2.1 x3.1) λx4=>
 B.L (x0.1,x0.2.1,B.p x0.2.2.1 B.u,x4.e1))<|
 B.R<|B.r x0.2.2.2.e1) (x.1,B.y .ins x.1,B.z,A.gW .i64,())
def Zg (x:Tup A.ah [.x .aB]):Ot A L6:=
 B.b B.F λx0=>
 B.b (B.a (B.e (B.f .aB 6 x.1) B.z) (B.l (B.f .aB 9 x.1) (B.n 1000000)) B.F) λx1=>
 B.r x1.e1
def afW (YU:Pt A ER) (YV:Ft A ER) (jN:Pt A fK) (jO:Ft A fK) (x:Tup A.ah [.i]):Ot A WY:=
 B.b B.F λx0=>
 B.j jN jO x.e1 λx1=>
 B.c (B.N x1.1) (B.b B.F λx2=>
 B.r (B.z,B.z,B.z,B.z,x2.e1))<|
 B.C (B.m B.z (B.n 12))<|
 B.C (B.m B.z (B.n 10))<|
 B.C (B.m B.z (B.n 8))<|
 B.j YU YV (B.x .ins (A.arith .shr .i64 x.1 (B.n 12),A.arith .and .i64 (A.arith .shr .i64 x.1 (B.n 10)) (B.n 3),A.arith .and .i64 (A.arith .shr .i64 x.1 (B.n 8)) (B.n 3),A.arith .and .i64 x.1 (B.n 255),()),()) λx2=>
 B.c (B.N x2.1) (B.b B.F λx3=>
 B.r (B.z,B.z,B.z,B.z,x3.e1))<|
 B.b B.T λx3=>
 B.r (A.arith .shr .i64 x.1 (B.n 12),A.arith .and .i64 (A.arith .shr .i64 x.1 (B.n 10)) (B.n 3),A.arith .and .i64 (A.arith .shr .i64 x.1 (B.n 8)) (B.n 3),A.arith .and .i64 x.1 (B.n 255),x3.e1)
def Zh (YJ:Pt A Ce) (YK:Ft A Ce) (YL:Pt A Cc) (YM:Ft A Cc) (YN:Pt A Cg) (YO:Ft A Cg) (E9:Pt A Ca) (Fa:Ft A Ca) (x:Tup A.ah [.x .ins,.i,.i,.b,.b,.i,.l .i64,.i,.l .i64,.l .i64,.l .i64]):Ot A L8:=
 B.j E9 Fa (B.p x.2.1 B.u,()) λx0=>
 A.bV [.i] x0.e1 λx1=>
 B.w .i64 x.o.1 (B.f .ins 1 x.1)<|
 B.w .i64 x.o.1 (B.f .ins 2 x.1)<|
 B.w .i64 x.o.1 (B.f .ins 2 x.1)<|
 B.i (B.f .i64 0 (B.o .i64 x.o.1 (B.f .ins 2 x.1))) λx2=>
 B.j E9 Fa (B.p x2.1 (B.f .ins 3 x.1),()) λx3=>
 A.bV [.i] x3.e1 λx4=>
 B.c (B.a (B.a (B.e (B.f .ins 0 x.1) (B.n 9)) B.T (B.e (B.f .ins 0 x.1) (B.n 10))) (B.h x4.1 (B.n 64)) B.F) (B.i (B.n 3) λx5=>
 B.r (x.2.1,x.2.2.1,x.2.2.2.1,x.q.1,x5.1,x.2.2.2.2.2.2.e5))<|
 B.b (B.e (B.f .ins 0 x.1) B.z) λx5=>
 A.eY [.i,.i,.i,.b,.b,.i,.l .i64,.i,.l .i64,.l .i64,.l .i64] (B.c x5.1 (B.b (B.e (B.f .ins 3 x.1) B.z) λx6=>
 A.bind [.i,.i,.i,.b,.b,.i,.l .i64,.i,.l .i64,.l .i64,.l .i64] (B.c x6.1 (B.i B.u λx7=>
 B.r (x1.1,x.2.1,x.2.2.1,x.2.2.2.1,x.q.1,x7.1,x.2.2.2.2.2.2.e5))<|
 B.b (B.e (B.f .ins 3 x.1) B.u) λx7=>
 A.bind [.i,.i,.i,.b,.b,.i,.l .i64,.i,.l .i64,.l .i64,.l .i64] (B.c x7.1 (B.i x.2.2.1 λx8=>
 B.b B.T λx9=>
 B.r (x8.1,x.2.1,x.2.2.1,x9.1,x.2.2.2.2.e7))<|
 B.b (B.e (B.f .ins 3 x.1) (B.n 2)) λx8=>
 B.r (x1.1,x.2.1,x.2.2.1,x8.1,x.2.2.2.2.e7)) λx8=>
 B.r x8.e11) λx7=>
 B.L x7.e11)<|
 B.b (B.e (B.f .ins 0 x.1) B.u) λx6=>
 A.bind [.i,.i,.i,.b,.b,.i,.l .i64,.i,.l .i64,.l .i64,.l .i64] (B.c x6.1 (B.w .i64 x.o.1 (B.f .ins 1 x.1)<|
 B.i (B.f .ins 3 x.1) λx7=>
 B.r (x1.1,x.2.1,x.2.2.1,x.2.2.2.1,x.q.1,x.q.2.1,x.q.2.2.1,x.q.2.2.2.1,A.set .i64 x.o.1 (B.f .ins 1 x.1) (B.x .i64 x7.e1),x.2.2.2.2.2.2.2.2.2.e2))<|
 B.b (B.e (B.f .ins 0 x.1) (B.n 2)) λx7=>
 A.bind [.i,.i,.i,.b,.b,.i,.l .i64,.i,.l .i64,.l .i64,.l .i64] (B.c x7.1 (B.w .i64 x.o.1 (B.f .ins 1 x.1)<|
 A.bV [.i] x2.e1 λx8=>
 B.r (x1.1,x.2.1,x.2.2.1,x.2.2.2.1,x.q.1,x.q.2.1,x.q.2.2.1,x.q.2.2.2.1,A.set .i64 x.o.1 (B.f .ins 1 x.1) (B.x .i64 x8.e1),x.2.2.2.2.2.2.2.2.2.e2))<|
 B.b (B.e (B.f .ins 0 x.1) (B.n 8)) λx8=>
 A.bind [.i,.i,.i,.b,.b,.i,.l .i64,.i,.l .i64,.l .i64,.l .i64] (B.c x8.1 (B.C (B.m B.z (B.f .ins 3 x.1))<|
 B.j E9 Fa (A.arith .shl .i64 x2.1 (B.f .ins 3 x.1),()) λx9=>
 B.w .i64 x.o.1 (B.f .ins 1 x.1)<|
 A.bV [.i] x9.e1 λx10=>
 B.r (x1.1,x.2.1,x.2.2.1,x.2.2.2.1,x.q.1,x.q.2.1,x.q.2.2.1,x.q.2.2.2.1,A.set .i64 x.o.1 (B.f .ins 1 x.1) (B.x .i64 x10.e1),x.2.2.2.2.2.2.2.2.2.e2))<|
 B.b (B.e (B.f .ins 0 x.1) (B.n 9)) λx9=>
 A.bind [.i,.i,.i,.b,.b,.i,.l .i64,.i,.l .i64,.l .i64,.l .i64] (B.c x9.1 (B.w .i64 x.o.2.1 x4.1<|
 B.w .i64 x.o.2.1 x4.1<|
 B.w .i64 x.o.1 (B.f .ins 1 x.1)<|
 B.i (B.f .i64 0 (B.o .i64 x.o.2.1 x4.1)) λx10=>
 B.r (x1.1,x.2.1,x.2.2.1,x.2.2.2.1,x.q.1,x.q.2.1,x.q.2.2.1,x.q.2.2.2.1,A.set .i64 x.o.1 (B.f .ins 1 x.1) (B.x .i64 x10.e1),x.2.2.2.2.2.2.2.2.2.e2))<|
 B.b (B.e (B.f .ins 0 x.1) (B.n 10)) λx10=>
 A.bind [.i,.i,.i,.b,.b,.i,.l .i64,.i,.l .i64,.l .i64,.l .i64] (B.c x10.1 (B.w .i64 x.o.1 (B.f .ins 1 x.1)<|
 B.w .i64 x.o.2.1 x4.1<|
 B.w .i64 x.o.2.1 x4.1<|
 B.i (B.f .i64 0 (B.o .i64 x.o.1 (B.f .ins 1 x.1))) λx11=>
 B.r (x1.1,x.2.1,x.2.2.1,x.2.2.2.1,x.q.1,x.q.2.1,x.q.2.2.1,x.q.2.2.2.1,x.o.1,A.set .i64 x.o.2.1 x4.1 (B.x .i64 x11.e1),x.2.2.2.2.2.2.2.2.2.2.e1))<|
 B.b (B.e (B.f .ins 0 x.1) (B.n 11)) λx11=>
 A.bind [.i,.i,.i,.i,.b,.i,.i,.b,.b,.i,.l .i64,.i,.l .i64,.l .i64,.l .i64,.x .ins] (B.c x11.1 (B.r (x1.1,B.f .ins 1 x.1,x2.1,B.f .ins 0 x.1,x11.1,x.2.1,x.2.2.1,x.2.2.2.1,x.q.1,x.q.2.1,x.q.2.2.1,x.q.2.2.2.1,x.o.1,x.o.2.1,x.o.2.2.1,x.1,()))<|
 B.b (B.e (B.f .ins 0 x.1) (B.n 12)) λx12=>
 B.r (x1.1,B.f .ins 1 x.1,x2.1,B.f .ins 0 x.1,x12.1,x.2.1,x.2.2.1,x.2.2.2.1,x.q.1,x.q.2.1,x.q.2.2.1,x.q.2.2.2.1,x.o.1,x.o.2.1,x.o.2.2.1,x.1,())) λx12=>
 A.bind [.i,.i,.i,.b,.b,.i,.l .i64,.i,.l .i64,.l .i64,.l .i64] (B.c x12.q.1 (B.w .i64 x12.o.q.1 x12.2.1<|
 B.j YN YO (B.p (B.q (B.f .ins 0 x12.o.q.2.2.2.1) (B.n 11)) B.u,B.f .i64 0 (B.o .i64 x12.o.q.1 x12.2.1),x12.2.2.1,()) λx13=>
 A.bind [.i,.i,.i,.b,.b,.i,.l .i64,.i,.l .i64,.l .i64,.l .i64] (B.c x13.1 (B.i (B.f .ins 3 x12.o.q.2.2.2.1) λx14=>
 B.r (x14.1,x12.q.2.1,x12.q.2.2.1,x12.q.2.2.2.1,x12.o.1,x12.o.2.1,x12.o.2.2.1,x12.o.2.2.2.1,x12.o.q.1,x12.o.q.2.1,x12.o.q.2.2.1,()))<|
 B.r (x12.1,x12.q.2.1,x12.q.2.2.1,x12.q.2.2.2.1,x12.o.1,x12.o.2.1,x12.o.2.2.1,x12.o.2.2.2.1,x12.o.q.1,x12.o.q.2.1,x12.o.q.2.2.1,())) λx14=>
 B.r x14.e11)<|
 B.b (B.e x12.2.2.2.1 (B.n 13)) λx13=>
 A.bind [.i,.i,.i,.b,.b,.i,.l .i64,.i,.l .i64,.l .i64,.l .i64] (B.c x13.1 (B.i x12.2.2.1 λx14=>
 B.r (x14.1,x12.q.2.1,x12.q.2.2.1,x12.q.2.2.2.1,x12.o.1,x12.o.2.1,x12.o.2.2.1,x12.o.2.2.2.1,x12.o.q.1,x12.o.q.2.1,x12.o.q.2.2.1,()))<|
 B.b (B.e x12.2.2.2.1 (B.n 14)) λx14=>
 A.bind [.i,.i,.i,.b,.b,.i,.l .i64,.i,.l .i64,.l .i64,.l .i64] (B.c x14.1 (B.w .i64 x12.o.q.1 x12.2.1<|
 B.C (B.m (A.addN (B.y .i64 x12.o.q.2.2.1) (B.y .i64 (A.lst .i64 [B.x .i64 (B.f .i64 0 (B.o .i64 x12.o.q.1 x12.2.1),())]))) (B.n 1073741824))<|
 B.s (.l .i64) (A.app .i64 x12.o.q.2.2.1 (A.lst .i64 [B.x .i64 (B.f .i64 0 (B.o .i64 x12.o.q.1 x12.2.1),())])) λx15=>
 B.r (x12.1,x12.q.2.1,x12.q.2.2.1,x12.q.2.2.2.1,x12.o.1,x12.o.2.1,x12.o.2.2.1,x12.o.2.2.2.1,x12.o.q.1,x12.o.q.2.1,x15.e1))<|
 B.b (B.e x12.2.2.2.1 (B.n 15)) λx15=>
 A.bind [.i,.i,.i,.b,.b,.i,.l .i64,.i,.l .i64,.l .i64,.l .i64] (B.c x15.1 (B.j YJ YK (x12.q.2.1,x12.q.2.2.1,x12.q.2.2.2.1,x12.o.1,x12.o.2.1,x12.o.2.2.1,x12.o.2.2.2.1,x12.o.q.1,x12.o.q.2.1,x12.o.q.2.2.1,()) λx16=>
 B.w .i64 x16.o.1 x12.2.1<|
 B.i x16.1 λx17=>
 B.r (x12.1,x16.2.1,x16.2.2.1,x16.2.2.2.1,x16.q.1,x16.q.2.1,x16.q.2.2.1,x16.q.2.2.2.1,A.set .i64 x16.o.1 x12.2.1 (B.x .i64 x17.e1),x16.2.2.2.2.2.2.2.2.2.e2))<|
 B.w .i64 x12.o.q.1 (B.f .ins 3 x12.o.q.2.2.2.1)<|
 B.w .i64 x12.o.q.1 (B.f .ins 3 x12.o.q.2.2.2.1)<|
 B.j YL YM (B.p (B.q (B.f .ins 0 x12.o.q.2.2.2.1) (B.n 3)) B.u,x12.2.2.1,B.f .i64 0 (B.o .i64 x12.o.q.1 (B.f .ins 3 x12.o.q.2.2.2.1)),()) λx16=>
 B.w .i64 x12.o.q.1 x12.2.1<|
 A.bV [.i] x16.e1 λx17=>
 B.r (x12.1,x12.q.2.1,x12.q.2.2.1,x12.q.2.2.2.1,x12.o.1,x12.o.2.1,x12.o.2.2.1,x12.o.2.2.2.1,A.set .i64 x12.o.q.1 x12.2.1 (B.x .i64 x17.e1),x12.o.q.2.1,x12.o.q.2.2.1,())) λx16=>
 B.r x16.e11) λx15=>
 B.r x15.e11) λx14=>
 B.r x14.e11) λx13=>
 B.r x13.e11) λx11=>
 B.r x11.e11) λx10=>
 B.r x10.e11) λx9=>
 B.r x9.e11) λx8=>
 B.r x8.e11) λx7=>
 B.L x7.e11) λx6=>
 B.i x6.1 λx7=>
 B.i (B.p x6.q.2.2.2.1 B.u) λx8=>
 B.r (x7.1,x6.2.2.1,x6.2.2.2.1,x6.q.1,x6.q.2.1,x6.q.2.2.1,x8.1,x6.2.2.2.2.2.2.2.2.e3)
def Zi (apJ:Pt A WY) (apK:Ft A WY) (ajH:Pt A L8) (ajI:Ft A L8) (x:Tup A.ah [.b,.i,.i,.b,.b,.i,.l .i64,.i,.l .i64,.l .i64,.l .i64]):Ot A L9:=
 B.b (B.a x.q.1 B.T x.1) λx0=>
 A.bind [.i,.i,.b,.b,.i,.l .i64,.i,.l .i64,.l .i64,.l .i64] (B.c (B.a x0.1 x.2.2.2.1 B.F) (B.b B.F λx1=>
 B.b B.F λx2=>
 B.i x.2.1 λx3=>
 B.i (B.n 48) λx4=>
 B.r (x4.1,x3.1,x2.1,x1.1,x.2.2.2.2.2.e6))<|
 B.r (x.2.1,x.2.2.1,x.2.2.2.1,x0.1,x.2.2.2.2.2.e6)) λx1=>
 B.c (B.h x1.1 (B.n 64)) (B.i (B.n 4) λx2=>
 B.r (x1.1,x1.2.1,x1.2.2.1,x1.2.2.2.1,x2.1,x1.2.2.2.2.2.e5))<|
 B.w .i64 x1.o.1 x1.1<|
 B.w .i64 x1.o.1 x1.1<|
 B.j apJ apK (B.f .i64 0 (B.o .i64 x1.o.1 x1.1),()) λx2=>
 A.bV [.b] x2.2.2.2.2.e1 λx3=>
 B.c (B.N x3.1) (B.i (B.n 2) λx4=>
 B.r (x1.1,x1.2.1,x1.2.2.1,x1.2.2.2.1,x4.1,x1.2.2.2.2.2.e5))<|
 B.j ajH ajI (B.x .ins (x2.1,x2.2.1,x2.2.2.1,x2.2.2.2.1,()),x1.e10) λx4=>
 B.r x4.e10
def Zj (x:Tup A.ah [.l .i64,.i]):Ot A Ma:=
 B.i B.z λx0=>
 B.I [.l .i64,.i,.i,.i] (λx1=>
 B.c (B.l x1.2.2.2.1 x1.2.2.1) (A.bV [.i] x1.2.2.2.e1 λx2=>
 B.w .i64 x1.1 x2.1<|
 B.c (B.e x1.2.1 (B.f .i64 0 (B.o .i64 x1.1 x2.1))) (A.bV [.i] x2.e1 λx3=>
 B.R<|B.r x3.e1)<|
 B.L (x1.1,x1.2.1,x1.2.2.1,B.p x1.2.2.2.1 B.u,()))<|
 B.R<|B.i (B.n (-1)) λx2=>
 B.r x2.e1) (x.1,x.2.1,B.y .i64 x.1,B.z,())
def Zk (ajJ:Pt A Ma) (ajK:Ft A Ma) (x:Tup A.ah [.l .i64,.i]):Ot A Mc:=
 B.b B.F λx0=>
 B.j ajJ ajK x.e2 λx1=>
 B.b (B.h x1.1 B.z) λx2=>
 B.r x2.e1
def Zl (Mw:Pt A BZ) (Mx:Ft A BZ) (ajL:Pt A L6) (ajM:Ft A L6) (ajN:Pt A L9) (ajO:Ft A L9) (YS:Pt A BX) (YT:Ft A BX) (ajP:Pt A Mc) (ajQ:Ft A Mc) (x:Tup A.ah [.x .aB,.l .i64,.i]):Ot A Md:=
 B.j YS YT (x.1,()) λx0=>
 B.c (B.a (B.N x0.1) B.T (B.g x.2.2.1 (B.n 400))) (B.r (B.z,B.z,B.F,B.F,B.z,B.z,A.gW .i64,A.gW .i64,A.gW .i64,A.gW .i64,()))<|
 B.j Mw Mx (x.1,()) λx1=>
 B.I [.l .i64,.i,.i,.i,.b,.b,.i,.i,.i,.i,.b,.b,.i,.l .i64,.i,.l .i64,.l .i64,.l .i64] (λx2=>
 B.k (B.g x2.2.1 B.z) ajL ajM (B.x .aB (x2.o.q.2.2.2.1,x2.o.1,x2.o.o.1,x2.o.2.1,x2.o.2.2.1,x2.o.2.2.2.1,x2.o.q.1,x2.o.q.2.1,x2.o.o.2.1,x2.o.q.2.2.1,()),()) λx3=>
 B.c (B.a (B.g x2.2.1 B.z) x3.1 B.F) (B.j ajP ajQ (x2.1,x2.o.q.2.2.1,()) λx4=>
 B.j ajN ajO (x4.1,x2.2.2.2.2.2.2.2.2.e10) λx5=>
 B.i (B.q x2.2.1 B.u) λx6=>
 B.L (x2.1,x6.1,x2.2.2.1,x2.2.2.2.1,x2.q.1,x2.q.2.1,x2.q.2.2.1,x2.q.2.2.2.1,x5.e10))<|
 B.R<|B.j Mw Mx (B.x .aB (x2.o.q.2.2.2.1,x2.o.1,x2.o.o.1,x2.o.2.1,x2.o.2.2.1,x2.o.2.2.2.1,x2.o.q.1,x2.o.q.2.1,x2.o.o.2.1,x2.o.q.2.2.1,()),()) λx4=>
 B.r x4.e10) (x.2.1,x.2.2.1,B.z,B.z,B.F,B.F,B.z,B.z,x1.1,x1.2.1,x1.2.2.1,x1.2.2.2.1,x1.q.1,x1.o.1,x1.q.2.1,x1.q.2.2.1,x1.q.2.2.2.1,x1.2.2.2.2.2.2.2.2.2.e1)
def Zm (ajR:Pt A LG) (ajS:Ft A LG) (ajT:Pt A Md) (ajU:Ft A Md) (ajV:Pt A LY) (ajW:Ft A LY) (x:Tup A.ah [.x .blk,.x .aB]):Ot A Me:=
 B.b B.F λx0=>
 B.j ajR ajS x.e2 λx1=>
 B.b x1.q.2.2.1 λx2=>
 B.c (B.N x2.1) (B.b B.F λx3=>
 B.r x3.e1)<|
 B.i (B.q x1.q.2.1 (B.f .aB 9 x.2.1)) λx3=>
 A.bind [.i,.x .aB,.i,.i,.b,.b,.i,.i,.l .i64,.l .i64,.l .i64,.l .i64] (B.c (B.e x1.q.1 (B.n 3)) (B.i (B.p x3.1 B.u) λx4=>
 B.r (x4.1,x.2.1,x1.1,x1.2.1,x1.2.2.1,x1.2.2.2.1,x1.q.1,x1.q.2.1,x1.2.2.2.2.2.2.2.e4))<|
 B.r (x3.1,x.2.1,x1.1,x1.2.1,x1.2.2.1,x1.2.2.2.1,x1.q.1,x1.q.2.1,x1.2.2.2.2.2.2.2.e4)) λx4=>
 B.j ajT ajU (x4.2.1,A.lst .i64 [],x4.1,()) λx5=>
 B.j ajV ajW (B.x .aB (x4.o.1,x4.2.2.1,x4.o.2.1,x4.2.2.2.1,x4.q.1,x4.q.2.1,x4.q.2.2.1,x4.o.2.2.1,x4.o.2.2.2.1,x4.q.2.2.2.1,()),B.x .aB (x5.q.2.2.1,x5.1,x5.q.2.2.2.1,x5.2.1,x5.2.2.1,x5.2.2.2.1,x5.q.1,x5.o.1,x5.o.2.1,x5.q.2.1,()),()) λx6=>
 A.bV [.b] x6.e1 λx7=>
 B.r x7.e1
def Zn (apL:Pt A WU) (apM:Ft A WU) (afS:Pt A LH) (afT:Ft A LH) (apN:Pt A WX) (apO:Ft A WX) (YQ:Pt A BU) (YR:Ft A BU) (ajX:Pt A Me) (ajY:Ft A Me) (ajZ:Pt A LZ) (aj0:Ft A LZ) (adj:Pt A Ls) (adk:Ft A Ls) (Ml:Pt A sZ) (Mq:Ft A sZ) (Sj:Pt A BF) (Sk:Ft A BF) (aj1:Pt A KV) (aj2:Ft A KV) (aj3:Pt A Lr) (aj4:Ft A Lr) (Mh:Pt A tq) (Mi:Ft A tq) (x:Tup A.ah [.l .u8,.l .u8]):Ot A ade:=
 B.b B.F λx0=>
 B.c (B.a (B.g (B.y .u8 x.1) (B.n 1048576)) B.T (B.g (B.y .u8 x.2.1) (B.n 1048576))) (B.b B.T λx1=>
 B.r x1.e1)<|
 B.j aj1 aj2 (x.1,()) λx1=>
 B.i x1.1 λx2=>
 B.j apL apM (x2.1,x1.2.e1) λx3=>
 B.j Ml Mq (x2.1,x1.2.e1) λx4=>
 B.j ajZ aj0 (B.x .blk (x3.1,x3.2.1,x3.q.2.2.1,x3.2.2.1,x3.2.2.2.1,x3.q.1,x3.q.2.1,()),B.x .blk (x4.1,x4.2.1,x4.q.2.2.1,x4.2.2.1,x4.2.2.2.1,x4.q.1,x4.q.2.1,()),()) λx5=>
 B.k (B.N (B.N x5.1)) afS afT (x2.1,x1.2.e1) λx6=>
 B.k (B.N (B.N x5.1)) Sj Sk (x2.1,x1.2.e1) λx7=>
 B.c (B.a (B.N x5.1) B.T (B.N (A.eqB x6.1 x7.1))) (B.b B.F λx8=>
 B.r x8.e1)<|
 B.j Sj Sk (x2.1,x1.2.e1) λx8=>
 B.c (B.N x8.1) (B.k (B.a (B.e (B.y .iop x3.q.2.2.1) B.z) (B.e x3.2.1 B.z) B.F) adj adk () λx9=>
 B.b (B.a (B.a (B.e (B.y .iop x3.q.2.2.1) B.z) (B.e x3.2.1 B.z) B.F) x9.1 B.F) λx10=>
 B.r x10.e1)<|
 B.j YQ YR (B.x .blk (x3.1,x3.2.1,x3.q.2.2.1,x3.2.2.1,x3.2.2.2.1,x3.q.1,x3.q.2.1,()),()) λx9=>
 B.c (B.a (B.a (B.N x9.1) B.T (B.d x3.1 x2.1)) B.T (B.d x3.2.1 (B.y .ins x1.2.1))) (B.b B.F λx10=>
 B.r x10.e1)<|
 B.j aj3 aj4 x.2.e1 λx10=>
 B.s (.x .blk) x10.1 λx11=>
 B.j Mh Mi (B.x .aB (x10.o.2.1,x10.2.1,x10.2.2.1,x10.2.2.2.1,x10.q.1,x10.q.2.1,x10.q.2.2.1,x10.q.2.2.2.1,x10.o.2.2.1,x10.o.1,()),()) λx12=>
 B.c (B.a (B.N x12.1) B.T (B.g x10.o.1 (B.n 999992))) (B.j adj adk () λx13=>
 A.bV [.b] x13.e1 λx14=>
 B.r x14.e1)<|
 B.s (.l .i64) (A.lst .i64 []) λx13=>
 B.C (B.m (A.addN (B.y .i64 x13.1) (B.y .i64 x10.2.2.1)) (B.n 1073741824))<|
 B.s (.l .i64) (A.app .i64 x13.1 x10.2.2.1) λx14=>
 B.j apN apO x1.2.e1 λx15=>
 B.i B.z λx16=>
 B.I [.i,.i,.i,.i,.i,.i,.i,.i,.i,.i,.b,.b,.i,.l .i64,.i,.l .i64,.l .iop,.l .i64,.l .i64,.l .i64] (λx17=>
 B.c (B.l x17.2.1 (B.y .i64 x17.o.q.2.2.2.1)) (B.w .i64 x17.o.q.2.2.2.1 x17.2.1<|
 B.w .i64 x17.o.q.2.2.2.1 x17.2.1<|
 B.w .i64 x17.o.o.2.2.1 (B.p x17.1 x17.2.1)<|
 B.w .i64 x17.o.o.2.2.1 (B.p x17.1 x17.2.1)<|
 B.i (B.f .i64 0 (B.o .i64 x17.o.q.2.2.2.1 x17.2.1)) λx18=>
 B.i (B.p x17.2.1 B.u) λx19=>
 B.L (x17.1,x19.1,x17.2.2.1,x17.2.2.2.1,x17.q.1,x17.q.2.1,x17.q.2.2.1,x17.q.2.2.2.1,x17.o.1,x17.o.2.1,x17.o.2.2.1,x17.o.2.2.2.1,x17.o.q.1,x17.o.q.2.1,x17.o.q.2.2.1,x17.o.q.2.2.2.1,x17.o.o.1,x17.o.o.2.1,A.set .i64 x17.o.o.2.2.1 (B.p x17.1 x17.2.1) (B.x .i64 x18.e1),x17.2.2.2.2.2.2.2.2.2.2.2.2.2.2.2.2.2.2.2.e1))<|
 B.R<|B.i B.z λx18=>
 B.i x17.1 λx19=>
 B.b B.F λx20=>
 B.j ajX ajY (B.x .blk (x17.2.2.1,x17.2.2.2.1,x17.o.o.1,x17.q.1,x17.q.2.1,x17.q.2.2.1,x17.q.2.2.2.1,()),B.x .aB (x17.o.o.2.1,x19.1,x17.o.o.2.2.1,x17.o.2.1,x17.o.2.2.1,x20.1,x18.1,x17.o.q.2.1,x17.o.o.2.2.2.1,x17.o.q.2.2.1,()),()) λx21=>
 A.bV [.b] x21.e1 λx22=>
 B.r x22.e1) (x2.1,x16.1,x3.1,x3.2.1,x3.2.2.1,x3.2.2.2.1,x3.q.1,x3.q.2.1,x10.2.1,x10.2.2.2.1,x10.q.1,x10.q.2.1,x10.q.2.2.1,x10.q.2.2.2.1,x10.o.1,x15.1,x3.q.2.2.1,x10.o.2.1,x14.1,x10.2.2.2.2.2.2.2.2.2.2.e1)
end Go.TX.F
