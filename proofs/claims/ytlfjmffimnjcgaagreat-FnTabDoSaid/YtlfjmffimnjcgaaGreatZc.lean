/- Part 3 of a proof: what the last part needs. No condition. -/
import Derived.Test.YtlfjmffimnjcgaaGreatZb
set_option linter.all false
set_option linter.unusedSectionVars false
set_option linter.unusedVariables false
set_option linter.unusedSimpArgs false
namespace Go.TX
open Go Go.AE
variable [LitK]
section
variable {n:Nat}
theorem tags_none (gs:List (GE (std n))):tagsOf (std n) gs none=[]:=by unfold tagsOf;rw [ancs];simp
theorem evalF_none {E:Tab} {ops:List Oper} {o:Oper} (hg:o.guard=none) (t:Slots) (h:Heap) (K:Option PV→Prop):evalF E ops o t h K=pureA E o.op t h fun v=>K (some v):=by unfold evalF;rw [hg]
theorem evalF_some {E:Tab} {ops:List Oper} {o:Oper} {j d:Nat} {w:Bool} (hg:o.guard=some (j,w)) (hd:gslot ops j=some d) (t:Slots) (h:Heap) (K:Option PV→Prop):
    evalF E ops o t h K=guardU (lookS t d) w (pureA E o.op t h fun v=>K (some v)) (K (some undP)):=by unfold evalF;rw [hg];simp only;rw [hd];rfl
theorem draw_ok {X:XT} {E:Tab} (hX:XOK X E) {C:Calls stdCar} {ops:List Oper} {ρ:Type} {K:RSt (std n)→(ρ→Prop)→Prop} {r:ρ→Prop} {h0:List SObj} {m0:Nat}:∀ {rest:List DEnt} {hs:List (Nat×List Nat)} {hs':List Held} {s':St} {s:RSt (std n)},SR s' s→(∀k,Keep k h0 s.h)→s.m=m0→
    HI E ops s'.h s.h hs' hs→drawX (std n) X C ops rest hs K s r→
    drawRun E (tabOf C) ops rest hs' (fun s1'=>∃s1,SR s1' s1∧(∀k,Keep k h0 s1.h)∧s1.m=m0∧K s1 r) s'
  | [],hs,hs',s',s,S,hK0,hm0,HH,hk=>⟨s,S,hK0,hm0,hk⟩
  | (i,rs,cs)::rest,hs,hs',s',s,S,hK0,hm0,HH,hk=>by
    generalize hM:drawX (std n) X C ops ((i,rs,cs)::rest) hs K s=M at hk
    unfold drawX at hM
    unfold drawRun
    split at hM
    · (subst hM;exact hk.elim)
    · rename_i o ho
      rw [ho]
      simp only [withP]
      split at hM
      · rename_i hdst
        have hd:dOK s'.m o.dst:=by rw [S.m];exact dst_ok hdst
        refine⟨hd,?_⟩
        simp only at hM
        have hlk:∀i sv,(if rs.contains i then lookT (std n) s.t i else none)=some sv→lookT (std n) s.t i=some sv:=fun i sv h=>by
          split at h
          · exact h
          · cases h
        have hlkr:∀d,(if rs.contains d then lookT (std n) s.t d else none).isSome→lookS (cut s'.t rs) d=lookS s'.t d:=fun d h=>by
          split at h
          · rename_i hc;exact cut_at (by simpa using hc)
          · cases h
        have hev:∀ {gs:List (GE (std n))},SR s' {s with gs:=gs}→∀ {al:List Nat},(∀t∈al,∃e,gs[t]? =some e∧e.g=true)→EvR X E n (nmh s.h) (cut s'.t rs) (eSlot (std n) (fun i=>if rs.contains i then lookT (std n) s.t i else none) al):=
          fun S1 _ hal=>eSlot_ok (t':=s'.t) hlkr (fun i sv h=>S1.val i sv (hlk i sv h)) hal
        have go:∀ {s2':St} {s2:RSt (std n)} {tag:Option Nat} {v:SVal} {hs2:List (Nat×List Nat)} {hs2':List Held},SR s2' (s2.put (std n) o.dst tag v)→(∀k,Keep k s.h s2.h)→s2.m=s.m→HI E ops s2'.h s2.h hs2' hs2→drawX (std n) X C ops rest hs2 K (s2.put (std n) o.dst tag v) r→
            drawRun E (tabOf C) ops rest hs2' (fun s1'=>∃s1,SR s1' s1∧(∀k,Keep k h0 s1.h)∧s1.m=m0∧K s1 r) s2':=by
          intro s2' s2 tag v hs2 hs2' S2 hkeep hm2 HI2 hk2
          have e1:=put_h (n:=n) (s:=s2) (d:=o.dst) (tag:=tag) (v:=v)
          exact draw_ok hX (rest:=rest) S2 (fun k=>by rw [e1.1];exact(hK0 k).trans (hkeep k)) (by rw [e1.2,hm2,hm0]) (by rw [e1.1];exact HI2) hk2
        have puth:∀(d:Option Nat) (v:Option PV),(s'.put d v).h=s'.h:=fun d v=>by cases d<;>rfl
        split at hM
        ·
          rename_i hkind
          split at hM
          · (subst hM;exact hk.elim)
          rename_i hnew
          split at hM
          · rename_i hguard
            rw [hkind]
            split at hM
            · rename_i ps v hv
              subst hM
              obtain⟨hps,hk⟩:=chks_ok hk
              rw [name_ok]at hk
              have hvals:∀i sv,(if rs.contains i then lookT (std n) s.t i else none)=some sv→ValR s.gs s'.t (nmh s.h) i sv:=fun i sv h=>S.val i sv (hlk i sv h)
              obtain⟨pv,p1,p2⟩:=pureOp_ok hX S.heap S.gs hlkr hvals (cur:=none) (fun t h=>by cases h) hv hps
              simp only
              rw [evalF_none hguard]
              have hE0:=hev S (al:=tagsOf (std n) s.gs none) (fun t h=>by rw [tags_none]at h;simp at h)
              rw [tags_none]at hE0
              have hln:=fun hL=>load_names hv hL
              rw [tags_none]at hln
              have hst:∀h'',(∀l∈loadNames (std n) X (eSlot (std n) (fun i=>if rs.contains i then lookT (std n) s.t i else none) []) o.op,AE.look h'' l=AE.look s'.h l)→evalF E ops o (cut s'.t rs) h'' (fun v'=>v'=some pv):=fun h'' hh=>by
                rw [evalF_none hguard,stable hX hE0 hh (fun hL=>(hln hL).1)]
                exact p2 _ rfl
              have hns:∀l∈loadNames (std n) X (eSlot (std n) (fun i=>if rs.contains i then lookT (std n) s.t i else none) []) o.op,l<s.h.length:=fun l hl=>by
                cases hL:isLoad o.op with
                | true=>exact(hln hL).2 l hl
                | false => unfold loadNames at hl; split at hl
                           · rename_i hop;rw [hop]at hL;simp [isLoad]at hL
                           · simp at hl
              exact p2 _ (go (s2:=s) (S.put (tag:=none) ⟨pv,rfl,p1⟩) (fun _=> .refl _ _) rfl (by rw [puth];exact HH.push hnew hns hst) hk)
            · (subst hM;exact hk.elim)
          · rename_i j want hguard
            rw [hkind]
            split at hM
            · rename_i d hgs
              have hgm:=fun hb=>guard_ok S (lk:=fun i=>if rs.contains i then lookT (std n) s.t i else none) hlk (tt:=cut s'.t rs) (d:=d) (want:=want) (hlkr d) rfl hb
              simp only
              rw [evalF_some hguard hgs]
              split at hM
              · rename_i hr
                rw [hr]at hgm
                subst hM
                cases hgm (by simp)with | skip h=>
                refine h _ _ (go (s2:=s) (S.put (tag:=none) ⟨undP,rfl,undR⟩) (fun _=> .refl _ _) rfl (by rw [puth];exact HH.push hnew (fun l hl=>by simp at hl) (fun h'' _=>by rw [evalF_some hguard hgs];exact h _ _ rfl)) hk)
              · rename_i gs t g hr
                rw [hr]at hgm
                cases hgm (by simp)with | run S1 hget hg hvals hT hF=>
                rename_i e
                subst hg
                split at hM
                · rename_i ps v hv
                  subst hM
                  obtain⟨hps,hk⟩:=chks_ok hk
                  have hns:∀l∈loadNames (std n) X (eSlot (std n) (fun i=>if rs.contains i then lookT (std n) s.t i else none) (tagsOf (std n) gs (some t))) o.op,l<s.h.length:=fun l hl=>by
                    cases hL:isLoad o.op with
                    | true=>exact(load_names hv hL).2 l hl
                    | false => unfold loadNames at hl; split at hl
                               · rename_i hop;rw [hop]at hL;simp [isLoad]at hL
                               · simp at hl
                  cases hg:e.g with
                  | true=>
                    have hcur:∀t0,some t=some t0→∃e,gs[t0]? =some e∧e.g=true:=fun t0 ht=>by cases ht;exact⟨e,hget,hg⟩
                    obtain⟨pv,p1,p2⟩:=pureOp_ok hX S1.heap S1.gs hlkr (fun i sv h=>hvals i sv (hlk i sv h)) hcur hv (under_ok hps hg)
                    have hE0:EvR X E n (nmh s.h) (cut s'.t rs) (eSlot (std n) (fun i=>if rs.contains i then lookT (std n) s.t i else none) (tagsOf (std n) gs (some t))):=hev S1 (ancs_ok S1.gs hcur (f:=gs.length+1))
                    refine hT hg _ _ (p2 _ (go (s2:={s with gs:=gs}) (S1.put (tag:=some t) ⟨e,hget,fun _=>⟨pv,rfl,p1⟩,fun h=>by rw [hg]at h;cases h⟩) (fun _=> .refl _ _) rfl (by
                      rw [puth]
                      refine HH.push hnew hns (fun h'' hh=> ?_)
                      rw [evalF_some hguard hgs,stable hX hE0 hh (fun hL=>(load_names hv hL).1)]
                      exact hT hg _ _ (p2 _ rfl)) hk))
                  | false=>
                    exact hF hg _ _ (go (s2:={s with gs:=gs}) (S1.put (tag:=some t) ⟨e,hget,fun h=>(by rw [hg]at h;cases h),fun _=>rfl⟩) (fun _=> .refl _ _) rfl (by
                      rw [puth]
                      refine HH.push hnew hns (fun h'' hh=> ?_)
                      rw [evalF_some hguard hgs]
                      exact hF hg _ _ rfl) hk)
                · (subst hM;exact hk.elim)
              · (subst hM;exact hk.elim)
            · (subst hM;exact hk.elim)
        · rename_i hkind
          rw [hkind]
          split at hM
          · rename_i ps v hv
            subst hM
            obtain⟨hps,hk⟩:=chks_ok hk
            obtain⟨pv,p1,p2⟩:=z_ok hX (hev S (al:=[]) (fun t h=>by simp at h)) hv
            simp only
            exact p2 _ (go (s2:=s) (S.put (tag:=none) ⟨pv,rfl,p1⟩) (fun _=> .refl _ _) rfl (by rw [puth];exact HH) hk)
          · (subst hM;exact hk.elim)
        · rename_i hkind
          rw [hkind]
          split at hM
          · rename_i hr hv
            subst hM
            obtain⟨hps,hk⟩:=chks_ok hk
            have he0:EvR X E n (nmh s.h) [] (fun _=>none):=fun i v h=>by cases h
            obtain⟨pv,h'',j,q1,q2,q3,q4,q5⟩:=heap_ok hX S.heap S.len he0 hv hps
            simp only
            have S2:=S.heapTo q3.same q2 q4
            have htd:hr.touched=[]:=by
              unfold kindOf at hkind
              split at hkind
              · rename_i ty hop
                rw [hop]at hv
                simp only [heapX]at hv
                split at hv
                · split at hv
                  · split at hv<;>(cases hv;rfl)
                  · cases hv;rfl
                  · cases hv
                · cases hv
              · split at hkind<;>cases hkind
              · split at hkind<;>cases hkind
            have HI2:=HH.turn q3
            rw [htd,keepHeld_nil]at HI2
            exact q5 _ (go (s2:={s with h:=hr.h}) (S2.put (tag:=none) ⟨pv,rfl,q1⟩) q3.keepN rfl (by cases o.dst<;>exact HI2) hk)
          · (subst hM;exact hk.elim)
        · rename_i hk0 hk1 hk2
          split at hM
          · rename_i hguard
            split at hM
            · rename_i cr hcr
              split at hM
              · rename_i hcs
                subst hM
                obtain⟨hps,hk⟩:=chks_ok hk
                obtain⟨v,k,hvk,hk⟩:=use_ok hk
                obtain⟨v',k',e1,_,e3⟩:=mut_ok hX S.heap S.len (hev S (al:=[]) (fun t h=>by simp at h)) hcr hps ⟨v,k,hvk⟩
                rw [hvk]at e1;cases e1
                split
                · rename_i h;exact absurd h hk0
                · rename_i h;exact absurd h hk1
                · rename_i h;exact absurd h hk2
                · rw [hguard]
                  refine e3 _ fun pv h'' j a1 a2 a3 a4=>⟨reck_ok HH a3 hcs,?_⟩
                  have S2:=S.heapTo a3.same a2 a4
                  exact go (s2:={s with h:=k}) (S2.put (tag:=none) ⟨pv,rfl,a1⟩) a3.keepN rfl (by cases o.dst<;>exact HH.turn a3) hk
              · (subst hM;exact hk.elim)
            · (subst hM;exact hk.elim)
          · rename_i j want hguard
            split at hM
            · rename_i d hgs
              have hgm:=fun hb=>guard_ok S (lk:=fun i=>if rs.contains i then lookT (std n) s.t i else none) hlk (tt:=cut s'.t rs) (d:=d) (want:=want) (hlkr d) rfl hb
              have goal:guardU (lookS (cut s'.t rs) d) want
                  (mutA E (tabOf C) o (cut s'.t rs) s' fun v h k=>reck E ops h hs' cs∧drawRun E (tabOf C) ops rest hs' (fun s1'=>∃s1,SR s1' s1∧(∀k,Keep k h0 s1.h)∧s1.m=m0∧K s1 r) (St.put {s' with h:=h,k:=k} o.dst (some v)))
                  (drawRun E (tabOf C) ops rest hs' (fun s1'=>∃s1,SR s1' s1∧(∀k,Keep k h0 s1.h)∧s1.m=m0∧K s1 r) (s'.put o.dst (some undP))):=by
                split at hM
                · rename_i hr
                  rw [hr]at hgm
                  subst hM
                  cases hgm (by simp)with | skip h=>
                  exact h _ _ (go (s2:=s) (S.put (tag:=none) ⟨undP,rfl,undR⟩) (fun _=> .refl _ _) rfl (by rw [puth];exact HH) hk)
                · rename_i gs t g hr
                  rw [hr]at hgm
                  cases hgm (by simp)with | run S1 hget hg hvals hT hF=>
                  rename_i e
                  subst hg
                  have hcur:e.g=true→∀t0,some t=some t0→∃e,gs[t0]? =some e∧e.g=true:=fun h t0 ht=>by cases ht;exact⟨e,hget,h⟩
                  split at hM
                  · rename_i cr hcr
                    split at hM
                    · rename_i hcs
                      split at hM
                      · rename_i hpure
                        subst hM
                        obtain⟨hps,hk⟩:=chks_ok hk
                        obtain⟨v,k,hvk,hk⟩:=use_ok hk
                        cases hg:e.g with
                        | true=>
                          obtain⟨v',k',e1,e2,e3⟩:=mut_ok hX S1.heap S1.len (hev S1 (ancs_ok S1.gs (hcur hg) (f:=gs.length+1))) hcr (under_ok hps hg) ⟨v,k,hvk⟩
                          rw [hvk]at e1;cases e1
                          obtain⟨rfl,htd⟩:=e2 hpure
                          refine hT hg _ _ (e3 _ fun pv h'' j a1 a2 a3 a4=>⟨reck_ok HH a3 hcs,?_⟩)
                          have S2:=S1.heapTo (Same.refl _) a2 a4
                          have HI2:=HH.turn a3
                          rw [htd,keepHeld_nil]at HI2
                          exact go (s2:={s with gs:=gs}) (S2.put (tag:=some t) ⟨e,hget,fun _=>⟨pv,rfl,a1⟩,fun h=>by rw [hg]at h;cases h⟩) (fun _=> .refl _ _) rfl (by cases o.dst<;>exact HI2) hk
                        | false=>
                          exact hF hg _ _ (go (s2:={s with gs:=gs}) (S1.put (tag:=some t) ⟨e,hget,fun h=>(by rw [hg]at h;cases h),fun _=>rfl⟩) (fun _=> .refl _ _) rfl (by rw [puth];exact HH) hk)
                      · subst hM
                        obtain⟨hkT,hkF⟩:(e.g=true→chks (std n) cr.ck (useCR (std n) cr fun v h=>drawX (std n) X C ops rest (keepHeld hs cr.touched) K (RSt.put (std n) {s with h:=h,gs:=gs} o.dst none v)) r)∧(e.g=false→drawX (std n) X C ops rest hs K (RSt.put (std n) {s with gs:=killT (std n) gs t} o.dst none (.tup [])) r):=hk
                        cases hg:e.g with
                        | true=>
                          obtain⟨hps,hk⟩:=chks_ok (hkT hg)
                          obtain⟨v,k,hvk,hk⟩:=use_ok hk
                          obtain⟨v',k',e1,e2,e3⟩:=mut_ok hX S1.heap S1.len (hev S1 (ancs_ok S1.gs (hcur hg) (f:=gs.length+1))) hcr hps ⟨v,k,hvk⟩
                          rw [hvk]at e1;cases e1
                          refine hT hg _ _ (e3 _ fun pv h'' j a1 a2 a3 a4=>⟨reck_ok HH a3 hcs,?_⟩)
                          have S2:=S1.heapTo a3.same a2 a4
                          exact go (s2:={s with h:=k,gs:=gs}) (S2.put (tag:=none) ⟨pv,rfl,a1⟩) a3.keepN rfl (by cases o.dst<;>exact HH.turn a3) hk
                        | false=>
                          have hk:=hkF hg
                          have S2:=S1.kill hget hg
                          exact hF hg _ _ (go (s2:={s with gs:=killT (std n) gs t}) (S2.put (tag:=none) ⟨undP,rfl,undR⟩) (fun _=> .refl _ _) rfl (by rw [puth];exact HH) hk)
                    · (subst hM;exact hk.elim)
                  · (subst hM;exact hk.elim)
                · (subst hM;exact hk.elim)
              split
              · rename_i h;exact absurd h hk0
              · rename_i h;exact absurd h hk1
              · rename_i h;exact absurd h hk2
              · rw [hguard];simp only;rw [hgs];exact goal
            · (subst hM;exact hk.elim)
      · (subst hM;exact hk.elim)
end
end Go.TX
namespace Go.TX
open Go Go.AE
variable [LitK]
section
variable {n:Nat}
theorem slots_ext {s:RSt (std n)}:∀ {l:List (Nat×SkV)} {e0 e:ES (std n)},extSlots (std n) s.t s.h l e0=some e→
    ∃vs,F2 (fun i v=>lookT (std n) s.t i=some ⟨none,v⟩) (l.map (·.1)) vs∧extVs (std n) s.h (l.map (·.2)) vs e0=some e
  | [],e0,e,h=>by simp only [extSlots,Option.some.injEq]at h;subst h;exact⟨[],.nil,rfl⟩
  | p::l,e0,e,h=>by
    simp only [extSlots]at h
    split at h
    · rename_i v hl
      split at h
      · rename_i e1 h1
        obtain⟨vs,q1,q2⟩:=slots_ext (l:=l) h
        exact⟨v::vs,.cons hl q1,by simp only [List.map_cons,extVs];rw [h1];exact q2⟩
      · cases h
    · cases h
theorem es0_ren {k:Nat} {os:List SkO} {i:Nat} (hi:i<k) (hik:i<os.length):(es0 (std n) k os).ren[i]? =some (if isGone os[i]? then none else some (some i)):=by
  have hb:Nat.blt i k=true:=by simpa using hi
  simp only [es0,List.getElem?_map,List.getElem?_range hik,Option.map_some,hb,Bool.true_and]
  cases isGone os[i]? <;>rfl
theorem es0_len (k:Nat) (os:List SkO):(es0 (std n) k os).ren.length=os.length:=by simp [es0]
theorem wv_list {c:Ctx} {w:World} {N:NM} {us:List Value} {vs:List SVal} (h:F2 (WV c w N) us vs):∃pvs,F2 (RelV c w) us pvs∧F2 (PVR N) pvs vs:=by
  induction h with
  | nil=>exact⟨[],.nil,.nil⟩
  | cons h1 _ ih=>
    obtain⟨p,a,b⟩:=h1
    obtain⟨pvs,q1,q2⟩:=ih
    exact⟨p::pvs,.cons a q1,.cons b q2⟩
theorem zip_look {N:NM}:∀ {ids:List Nat} {vs:List SVal} {pvs:List PV},F2 (PVR N) pvs vs→∀i sv,lookT (std n) (ids.zip (vs.map fun v=>(⟨none,v⟩:SV (std n)))) i=some sv→sv.tag=none∧∃pv,lookS (ids.zip (pvs.map some)) i=some pv∧PVR N pv sv.v
  | [],vs,pvs,_,i,sv,h=>by simp [lookT]at h
  | j::ids,[],pvs,hF,i,sv,h=>by simp [lookT]at h
  | j::ids,v::vs,pvs,hF,i,sv,h=>by
    cases hF with | cons h1 h2=>
    simp only [List.map_cons,List.zip_cons_cons,lookT_cons]at h ⊢
    simp only [lookS]
    split at h
    · rename_i e;cases h;rw [if_pos e];exact⟨rfl,_,rfl,h1⟩
    · rename_i e;rw [if_neg e];exact zip_look h2 i sv h
theorem zip_slot {c:Ctx} {w:World} {a:Act}:∀ {ids:List Nat} {us:List Value} {pvs:List PV},F2 (RelV c w) us pvs→F2 (fun i u=>a.tmps[i]? =some u) ids us→∀i v,lookS (ids.zip (pvs.map some)) i=some v→∃u,a.tmps[i]? =some u∧RelV c w u v
  | [],us,pvs,_,_,i,v,h=>by simp [lookS]at h
  | j::ids,us,pvs,hF,hI,i,v,h=>by
    cases hI with | cons h3 h4=>
    cases hF with | cons h1 h2=>
    simp only [List.map_cons,List.zip_cons_cons,lookS]at h
    split at h
    · rename_i e;subst e;cases h;exact⟨_,h3,h1⟩
    · exact zip_slot h2 h4 i v h
theorem slots_vals {E:Tab} {s':St} {s:RSt (std n)} (S:SR s' s) {c:Ctx} {w:World} {a:Act} (A:AbsS E s' c w a):∀ {ids:List Nat} {vs:List SVal},F2 (fun i v=>lookT (std n) s.t i=some ⟨none,v⟩) ids vs→∃us,F2 (fun i u=>a.tmps[i]? =some u) ids us∧F2 (WV c w (nmh s.h)) us vs
  | [],_,h=>by cases h;exact⟨[],.nil,.nil⟩
  | i::ids,_,.cons h1 h2=>by
    obtain⟨us,q1,q2⟩:=slots_vals S A h2
    obtain⟨pv,p1,p2⟩:=S.val i _ h1
    obtain⟨u,hu,hr⟩:=A.abs.slot i pv p1
    exact⟨u::us,.cons hu q1,.cons ⟨pv,hr,p2⟩ q2⟩
def μX (e:ES (std n)) (c:Ctx) (i:Nat):Option Nat:=match e.ren[i]? with | some (some (some l))=>c.μ l | some (some none)=>none | _=>c.μ i
theorem relH_nil (w:World) (K:Bool→Nat→Prop) (μ:Nat→Option Nat) (k:Nat) (hlow:∀f b,K f b→b<w.heap.size) (hsub:∀b,K true b→K false b):RelH {K:=K,μ:=μ,n:=k} w []:=
  ⟨fun l o h=>by simp [AE.look]at h,fun l o l' o' b h=>by simp [AE.look]at h,fun f b ⟨l,o,hl,_⟩=>by simp [AE.look]at hl,hlow,hsub⟩
theorem extS_ok {E:Tab} {k:Nat} {sk:Skel} {s:RSt (std n)} {ck:List Bool} {x:TupS sk.tys} (hx:extS (std n) k sk s=some (ck,x)) (hck:∀b∈ck,b=true) {s':St} (S:SR s' s) {c:Ctx} {w:World} {a:Act} (A:AbsS E s' c w a)
    {c0:Ctx} {w0:World} {h0:Heap} (hc0:c0.n=k) (g:Grow c0 w0 h0 c w s'.h) {m:Nat} (hm:s.m=m):
    ∃c2 s2',Grow c0 w0 h0 c2 w s2'.h∧AbsS E s2' c2 w a∧SR s2' (fillS (std n) sk m x)∧Keep k s.h (fillS (std n) sk m x).h∧(fillS (std n) sk m x).m=m:=by
  unfold extS at hx
  split at hx
  · cases hx
  rename_i hkl
  have hkl:k≤sk.objs.length:=by
    have:Nat.ble k sk.objs.length=true:=by simpa using hkl
    exact Nat.le_of_ble_eq_true this
  split at hx
  · rename_i e1 he1
    split at hx
    · rename_i e he
      split at hx
      · rename_i hfine
        split at hx
        · rename_i x' hx';cases hx
          have hfine:=fine_ok hfine
          obtain⟨vs,v1,v2⟩:=slots_ext he1
          obtain⟨us,u1,u2⟩:=slots_vals S A v1
          obtain⟨new1,vs2,a1,a2,a3,a4⟩:=extVs_ok (fun i=>i) v2
          obtain⟨new2,os2,b1,b2,b3,b4,b5⟩:=extOs_ok (fun i=>i) (fun _=>(.gone .i64 0:SObj)) (fun _=>⟨.i64,0,rfl⟩) he
          have hlv:e.lv.reverse=new1++new2:=by rw [b1,a1];simp [es0]
          have hun:=unpack_pack hx'
          rw [hlv]at hun
          have hrl:e.ren.length=sk.objs.length:=by rw [b2.len,a2.len,es0_len]
          have hof:∀(j:Nat) (kk:SkO),sk.objs[j]? =some kk→∃o2,os2[j]? =some o2∧OF e s.h (fun i=>i) j kk (.gone .i64 0) o2:=fun j kk hj=>by
            obtain⟨o2,q1,q2⟩:=b5 e (.refl _) j kk hj
            exact⟨o2,q1,by simpa using q2⟩
          have hfill:fillS (std n) sk m x={t:=(sk.slots.map (·.1)).zip (vs2.map fun v=>(⟨none,v⟩:SV (std n))),gs:=[],h:=os2,m:=m}:=by
            unfold fillS
            rw [hun,a3]
            simp only
            have:=b3 []
            rw [List.append_nil]at this
            rw [show fillOs stdCar (fun i=>i) (fun _=>TObj.gone Co.i64 ((std n).lit 0)) 0 sk.objs new2=some (os2,[])from this]
          have H:=A.abs.heap
          obtain⟨o',m1,m2,m3,m4,m5,_⟩:=merge_core (ks:=sk.objs) (nm:=fun i=>i) (old:=fun _=>(.gone .i64 0:SObj)) H S.heap hck hfine hrl b4 hof (cb:={K:=fun _ _=>False,μ:=μX e c,n:=k}) (hb':=[])
            (relH_nil w _ _ _ (fun _ _ h=>h.elim) (fun _ h=>h)) false (fun h=>by cases h) (μ2:=μX e c) (n2:=sk.objs.length) hkl (fun _ _=>rfl) (fun i hi=>hi) (fun i j _ _ h=>h)
            (fun i l hi=>by simp only [μX];rw [hi]) (fun i hi=>by simp only [μX];rw [hi]) (h2:=os2) (fun i _=>rfl)
            (fun l o hl ho=>by
              have:sk.objs.length≤l:=by
                rcases Nat.lt_or_ge l sk.objs.length with h | h
                · exact absurd rfl (hl l h)
                · exact h
              rw [List.getElem?_eq_none (by omega)]at ho;cases ho) (fun _ _=>rfl)
            (fun b ⟨l,o,hl,_⟩ _=>by simp [AE.look]at hl) (fun f b h _=>h) (fun f b ⟨l,o,hl,_⟩ _=>by simp [AE.look]at hl)
          have hmu:∀l,l<k→μX e c l=c.μ l:=fun l hl=>by
            have h0:=es0_ren (n:=n) hl (Nat.lt_of_lt_of_le hl hkl) (os:=sk.objs)
            unfold μX
            by_cases hg:isGone sk.objs[l]? =true
            · have hgo:sk.objs[l]? =some .gone:=by
                unfold isGone at hg;split at hg
                · assumption
                · cases hg
              cases hr:e.ren[l]? with
              | none=>rfl
              | some q=>
                cases q with
                | none=>rfl
                | some v=>exact absurd hgo (hfine.gone hr)
            · rw [if_neg hg]at h0
              have:=b2.ren l _ (a2.ren l _ h0)
              rw [this]
          have hgr:Grow c0 w0 h0 {K:=fun f b=>False∨KX e c false f b,μ:=μX e c,n:=sk.objs.length} w (nmMap (fun i=>i) o' (List.range sk.objs.length) []):=by
            refine⟨⟨fun f b hb=> .inr (.inl (by simpa using g.le.K f b hb)),by rw [hc0];exact hkl,fun l hl=> ?_⟩,g.size,g.stays,g.kept,fun f b hb=> ?_,fun b hb=> ?_,g.os,g.tape,g.output⟩
            · show μX e c l=c0.μ l
              rw [hmu l (by rw [←hc0];exact hl)];exact g.le.μ l hl
            · rcases hb with hb | hb | ⟨l,f',q1,q2,q3⟩
              · exact hb.elim
              · exact g.newK f b (by simpa using hb)
              · obtain⟨_,g',cc,xs,hl⟩:=hfine.fro l f' q1
                obtain⟨o2,ho2,hO⟩:=S.heap.old l _ hl
                cases hO with | rows _=>
                exact .inr ((g.newO b ⟨l,_,ho2,trivial,q2⟩).elim .inr .inl)
            · rcases m4 b hb with⟨l,o,hl,_⟩ | ⟨i,lq,q,_,q1,q2,q3⟩
              · simp [AE.look]at hl
              · exact g.newO b ⟨lq,q,q1,q2,q3⟩
          obtain⟨pvs,p1,p2⟩:=wv_list (a4 H S.heap (b2) hck m3 (fun h=>by cases h) u2)
          refine⟨_,{t:=(sk.slots.map (·.1)).zip (pvs.map some),h:=nmMap (fun i=>i) o' (List.range sk.objs.length) [],n:=sk.objs.length,k:=0,m:=m},hgr,⟨⟨fun i v hv=>zip_slot p1 u1 i v hv,m1,?_⟩,rfl,A.defers,by rw [A.size,S.m,hm]⟩,?_,?_,by rw [hfill]⟩
          · intro gg d hd
            obtain⟨q1,u,q2,q3⟩:=A.abs.glob gg d hd
            exact⟨.inr (.inl (by simpa using q1)),u,q2,q3.mono' fun b hb=> .inr (.inl (by simpa using hb))⟩
          · rw [hfill]
            refine⟨m2,by simp [nm,b4],rfl,fun i sv hi=> ?_,fun t e he=>by simp at he⟩
            obtain⟨q1,q2⟩:=zip_look p2 i sv hi
            unfold ValR
            rw [q1];exact q2
          · rw [hfill]
            intro i hi
            have hik:i<sk.objs.length:=Nat.lt_of_lt_of_le hi hkl
            have hsk:sk.objs[i]? =some sk.objs[i]:=List.getElem?_eq_getElem hik
            obtain⟨o2,q1,q2⟩:=hof i _ hsk
            have h0:=es0_ren (n:=n) hi hik
            by_cases hg:sk.objs[i]= .gone
            · have:Gone os2 i:=⟨.i64,0,by rw [q1,q2.gone hg]⟩
              exact⟨fun _=>this,fun _ _=> .inl this⟩
            · have hig:isGone sk.objs[i]? =false:=by
                rw [hsk];unfold isGone;split
                · rename_i hh;exact absurd (Option.some.inj hh) hg
                · rfl
              rw [hig]at h0
              have h0:(es0 (std n) k sk.objs).ren[i]? =some (some (some i)):=by simpa using h0
              have hre:=b2.ren i _ (a2.ren i _ h0)
              have htr:trOf (std n) e i=none:=by rw [b2.tr i _ (a2.ren i _ h0),a2.tr i _ h0];rfl
              refine⟨fun⟨cc,nn,hgo⟩=> ?_,fun x hx=> .inr ?_⟩
              · obtain⟨oo,r1,r2,r3,r4⟩:=q2.rel H S.heap hck m3 (fun h=>by cases h)
                obtain⟨o3,h3,h4⟩:=r4 i hg hre
                obtain⟨o4,h5,h6⟩:=S.heap.old i _ hgo
                rw [h3]at h5;cases h5
                cases h6;exact h4.elim
              · have:=q2.s1 i x.1 x.2 hg hre (by rw [hx])
                rw [htr]at this
                simp only [nmh,q1]
                simpa [nmh]using this
        · cases hx
      · cases hx
    · cases hx
  · cases hx
end
end Go.TX
namespace Go.TX
open Go Go.AE
variable [LitK]
section
variable {n:Nat}
def LX (E:Tab) (c0:Ctx) (w0:World) (h0:Heap) (k:Nat) (H0:List SObj) (m0:Nat) {ρ:Type} (K:Exit→RSt (std n)→(ρ→Prop)→Prop) (r:ρ→Prop):Exit→Act→World→Prop
  | .outgrown,_,_=>False
  | .panic _,_,_=>False
  | .goto _,_,_=>False
  | e,a,w=>∃c s' s,Grow c0 w0 h0 c w s'.h∧AbsS E s' c w a∧SR s' s∧Keep k H0 s.h∧s.m=m0∧K e s r
theorem cut_ok {E:Tab} {c0:Ctx} {w0:World} {h0:Heap} {k:Nat} {H0:List SObj} {m0:Nat} (hc0:c0.n=k) {code:Code} {a:Act} {w:World} {sk:Skel} {pl:Bool} {s:RSt (std n)} (hs:s.m=m0) {ρ:Type} {K:Exit→RSt (std n)→(ρ→Prop)→Prop} {r:ρ→Prop}
    {W: {σ:Type}→(Exit→RSt (std n)→(σ→Prop)→Prop)→(σ→Prop)→Prop} (hW:∀ {σ:Type} {K':Exit→RSt (std n)→(σ→Prop)→Prop} {r':σ→Prop},W K' r'→code.wp E.P (LX E c0 w0 h0 k H0 m0 K' r') a w)
    (h:cutX (std n) k sk pl s K W r):code.wp E.P (LX E c0 w0 h0 k H0 m0 K r) a w:=by
  have step:∀ {t:TupS sk.tys} {s1:RSt (std n)} {ck:List Bool},extS (std n) k sk s1=some (ck,t)→(∀b∈ck,b=true)→K .normal (fillS (std n) sk s.m t) r→∀ {c s' a w},Grow c0 w0 h0 c w s'.h→AbsS E s' c w a→SR s' s1→Keep k H0 s1.h→s1.m=m0→LX E c0 w0 h0 k H0 m0 K r .normal a w:=by
    intro t s1 ck h1 h2 h3 c s' a w g A S hK hm
    obtain⟨c2,s2',g2,A2,S2,K2,hm2⟩:=extS_ok h1 h2 S A hc0 g hm
    rw [hs]at h3
    exact⟨c2,s2',_,g2,A2,S2,hK.trans K2,hm2,h3⟩
  unfold cutX at h
  split at h
  · refine wp_mono (hW h) ?_
    intro e a' w' he
    cases e with
    | outgrown=>exact he.elim
    | panic _=>exact he
    | goto _=>exact he
    | normal=>
      obtain⟨c,s',s1,a1,a2,a3,a4,a5,a6⟩:=he
      simp only at a6
      rcases hx:extS (std n) k sk s1 with _ | ⟨ck,t'⟩
      · rw [hx]at a6;exact a6.elim
      · rw [hx]at a6
        obtain⟨q1,q2⟩:=chks_ok a6
        exact step hx q1 q2 a1 a2 a3 a4 a5
    | ret=>obtain⟨c,s',s1,a1,a2,a3,a4,a5,a6⟩:=he;exact a6.elim
    | exit i=>obtain⟨c,s',s1,a1,a2,a3,a4,a5,a6⟩:=he;exact a6.elim
  · refine wp_mono (hW h) ?_
    intro e a' w' he
    cases e with
    | outgrown=>exact he.elim
    | panic _=>exact he
    | goto _=>exact he
    | normal=>
      obtain⟨c,s',s1,a1,a2,a3,a4,a5,a6⟩:=he
      simp only at a6
      rcases hx:extS (std n) k sk s1 with _ | ⟨ck,t'⟩
      · rw [hx]at a6;exact a6.elim
      · rw [hx]at a6
        obtain⟨q1,q2⟩:=chks_ok a6
        exact step hx q1 q2 a1 a2 a3 a4 a5
    | ret=>obtain⟨c,s',s1,a1,a2,a3,a4,a5,a6⟩:=he;exact⟨c,s',s1,a1,a2,a3,a4,a5,a6⟩
    | exit i=>obtain⟨c,s',s1,a1,a2,a3,a4,a5,a6⟩:=he;exact⟨c,s',s1,a1,a2,a3,a4,a5,a6⟩
section
variable {X:XT} {E:Tab} (hE:TabOK E) (hX:XOK X E) {C:Calls stdCar} (hG:CtabOK E (tabOf C)) (hm:E.P.follows .mixedOrders=true) {ord:Nat→List DEnt} {chk:Nat→Array Oper→Nat→Bool} (hchk:∀id ops m,chk id ops m=true→Static E ord id ops m)
  {c0:Ctx} {w0:World} {h0:Heap} {k:Nat} {H0:List SObj} {m0:Nat} (hc0:c0.n=k)
include hE hX hG hm hchk
theorem reg_ok {id:Nat} {ops:Array Oper} {draw:Bool} {s:RSt (std n)} {ρ:Type} {K:Exit→RSt (std n)→(ρ→Prop)→Prop} {r:ρ→Prop}
    (h:(if draw then(if chk id ops s.m then drawX (std n) X C ops.toList (ord id) [] (fun s=>K .normal s) s else(std n).fail)else regionX (std n) X C ops.toList ops.toList (fun s=>K .normal s) s:(std n).M ρ) r)
    {s':St} {c:Ctx} {w:World} {a:Act} (A:AbsS E s' c w a) (g:Grow c0 w0 h0 c w s'.h) (S:SR s' s) (hK:Keep k H0 s.h) (hs:s.m=m0):(Code.region id ops draw).wp E.P (LX E c0 w0 h0 k H0 m0 K r) a w:=by
  have fin:∀ {e:Exit} {a:Act} {w:World},LiftQ E c0 w0 h0 (fun e s1'=>e= .normal∧∃s1,SR s1' s1∧(∀k,Keep k s.h s1.h)∧s1.m=m0∧K .normal s1 r) e a w→LX E c0 w0 h0 k H0 m0 K r e a w:=by
    intro e a w he
    cases e with
    | outgrown=>exact he.elim
    | panic _=>exact he
    | goto _=>exact he
    | normal=>obtain⟨c,s1',a1,a2,_,s1,a3,a4,a5,a6⟩:=he;exact⟨c,s1',s1,a1,a2,a3,hK.trans (a4 k),a5,a6⟩
    | ret=>obtain⟨c,s1',a1,a2,q,_⟩:=he;cases q
    | exit i=>obtain⟨c,s1',a1,a2,q,_⟩:=he;cases q
  split at h
  · rename_i hd;subst hd
    split at h
    · rename_i hc
      have hst:=hchk _ _ _ hc
      have hr:=draw_ok hX (h0:=s.h) (m0:=m0) (hs':=[]) S (fun _=> .refl _ _) hs (fun p hp=>by simp at hp) h
      refine wp_mono (drA_ok hE hG hm ord id ops (fun e s1'=>e= .normal∧∃s1,SR s1' s1∧(∀k,Keep k s.h s1.h)∧s1.m=m0∧K .normal s1 r) s' c0 w0 h0 c w a A g ⟨by rw [S.m];exact hst,?_⟩) fun e a w=>fin
      simpa using hr
    · exact h.elim
  · rename_i hd
    have:draw=false:=by simpa using hd
    subst this
    have hr:=region_ok hX (h0:=s.h) (m0:=m0) S (fun _=> .refl _ _) hs h
    refine wp_mono (wp_region_list (runOps_sound hE hG (Q:=fun e s1'=>e= .normal∧∃s1,SR s1' s1∧(∀k,Keep k s.h s1.h)∧s1.m=m0∧K .normal s1 r) ops ops.toList A g ?_)) fun e a w=>fin
    simpa using hr
end
end
end Go.TX
namespace Go.TX
open Go Go.AE
variable [LitK]
section
variable {n:Nat}
variable {X:XT} {E:Tab} (hE:TabOK E) (hX:XOK X E) {C:Calls stdCar} (hG:CtabOK E (tabOf C)) (hm:E.P.follows .mixedOrders=true) {ord:Nat→List DEnt} {chk:Nat→Array Oper→Nat→Bool} (hchk:∀id ops m,chk id ops m=true→Static E ord id ops m)
  {c0:Ctx} {w0:World} {h0:Heap} {k:Nat} {H0:List SObj} {m0:Nat} (hc0:c0.n=k)
include hE hX hG hm hchk hc0
theorem exec_ok:∀(code:Code) {ρ:Type} {an:Ann} {s:RSt (std n)} {K:Exit→RSt (std n)→(ρ→Prop)→Prop} {r:ρ→Prop},execX (std n) X C ord chk k an code s K r→∀ {s':St} {c:Ctx} {w:World} {a:Act},AbsS E s' c w a→Grow c0 w0 h0 c w s'.h→SR s' s→Keep k H0 s.h→s.m=m0→
    code.wp E.P (LX E c0 w0 h0 k H0 m0 K r) a w
  | .skip,ρ,an,s,K,r,h,s',c,w,a,A,g,S,hK,hs=>by
    have h:K .normal s r:=by cases an<;>exact h
    exact wp_skip ⟨c,s',s,g,A,S,hK,hs,h⟩
  | .region id ops draw,ρ,an,s,K,r,h,s',c,w,a,A,g,S,hK,hs=>by
    have base:∀ {σ:Type} {K':Exit→RSt (std n)→(σ→Prop)→Prop} {r':σ→Prop},(if draw then(if chk id ops s.m then drawX (std n) X C ops.toList (ord id) [] (fun s=>K' .normal s) s else(std n).fail)else regionX (std n) X C ops.toList ops.toList (fun s=>K' .normal s) s:(std n).M σ) r'→
        (Code.region id ops draw).wp E.P (LX E c0 w0 h0 k H0 m0 K' r') a w:=fun h=>reg_ok hE hX hG hm hchk h A g S hK hs
    generalize hM:execX (std n) X C ord chk k an (.region id ops draw) s K=M at h
    simp only [execX]at hM
    split at hM
    · subst hM;exact cut_ok hc0 hs base h
    · subst hM;exact base h
  | .seq x y,ρ,an,s,K,r,h,s',c,w,a,A,g,S,hK,hs=>by
    have main:∀(a1 a2:Ann) (K1:Exit→RSt (std n)→(ρ→Prop)→Prop),(∀s',K1 .normal s'=execX (std n) X C ord chk k a2 y s' K)→(∀s',K1 .ret s'=K .ret s')→(∀i s',K1 (.exit i) s'=K (.exit i) s')→execX (std n) X C ord chk k a1 x s K1 r→
        (Code.seq x y).wp E.P (LX E c0 w0 h0 k H0 m0 K r) a w:=by
      intro a1 a2 K1 e1 e2 e3 h
      refine wp_seq (wp_mono (exec_ok x h A g S hK hs) ?_)
      intro e a' w' he
      cases e with
      | outgrown=>exact he.elim
      | panic _=>exact he
      | goto _=>exact he
      | normal=>obtain⟨c,s',s1,b1,b2,b3,b4,b5,b6⟩:=he;rw [e1]at b6;exact exec_ok y b6 b2 b1 b3 b4 b5
      | ret=>obtain⟨c,s',s1,b1,b2,b3,b4,b5,b6⟩:=he;rw [e2]at b6;exact⟨c,s',s1,b1,b2,b3,b4,b5,b6⟩
      | exit i=>obtain⟨c,s',s1,b1,b2,b3,b4,b5,b6⟩:=he;rw [e3]at b6;exact⟨c,s',s1,b1,b2,b3,b4,b5,b6⟩
    cases an with
    | seq a1 a2=>rw [execX]at h;refine main a1 a2 _ ?_ ?_ ?_ h<;>intros<;>rfl
    | u=>rw [execX]at h;refine main .u .u _ ?_ ?_ ?_ h<;>intros<;>rfl
    | _=>simp [execX]at h
  | .cond cd x y,ρ,an,s,K,r,h,s',c,w,a,A,g,S,hK,hs=>by
    have he:EvR X E n (nmh s.h) s'.t (eSlot (std n) (lookT (std n) s.t) []):=eSlot_ok (fun _ _=>rfl) S.val (fun t h=>by simp at h)
    generalize hM:execX (std n) X C ord chk k an (.cond cd x y) s K=M at h
    simp only [execX]at hM
    split at hM
    · rename_i f b hb
      obtain⟨pv,p1,p2⟩:=ev_of hX he hb
      obtain⟨gf,rfl⟩:=p2.bool
      have hbv:=rel_bool (ev_sound A.abs p1)
      have main:∀(a1 a2:Ann) {σ:Type} {K':Exit→RSt (std n)→(σ→Prop)→Prop} {r':σ→Prop},((b=true→execX (std n) X C ord chk k a1 x s K' r')∧(b=false→execX (std n) X C ord chk k a2 y s K' r'))→(Code.cond cd x y).wp E.P (LX E c0 w0 h0 k H0 m0 K' r') a w:=by
        intro a1 a2 σ K' r' h
        refine wp_cond hbv ?_
        obtain⟨b,rfl⟩:∃b':Bool,b'=b:=⟨b,rfl⟩
        cases b with
        | true=>exact exec_ok x (h.1 rfl) A g S hK hs
        | false=>exact exec_ok y (h.2 rfl) A g S hK hs
      split at hM
      · subst hM;exact main _ _ h
      · subst hM;exact main _ _ h
      · rename_i sk a1 a2
        subst hM;exact cut_ok hc0 hs (fun {σ K' r'} h=>main a1 a2 h) h
      · subst hM;exact h.elim
    · subst hM;exact h.elim
  | .block id b,ρ,an,s,K,r,h,s',c,w,a,A,g,S,hK,hs=>by
    have main:∀(a1:Ann) {σ:Type} {K':Exit→RSt (std n)→(σ→Prop)→Prop} {r':σ→Prop} (K1:Exit→RSt (std n)→(σ→Prop)→Prop),(∀s',K1 .normal s'=K' .normal s')→(∀s',K1 .ret s'=K' .ret s')→(∀i s',K1 (.exit i) s'=if i==id then K' .normal s' else K' (.exit i) s')→
        execX (std n) X C ord chk k a1 b s K1 r'→(Code.block id b).wp E.P (LX E c0 w0 h0 k H0 m0 K' r') a w:=by
      intro a1 σ K' r' K1 e1 e2 e3 h
      refine wp_block (wp_mono (exec_ok b h A g S hK hs) ?_)
      intro e a' w' he
      cases e with
      | outgrown=>exact he.elim
      | panic _=>exact he
      | goto _=>exact he
      | normal=>obtain⟨c,s',s1,b1,b2,b3,b4,b5,b6⟩:=he;rw [e1]at b6;exact⟨c,s',s1,b1,b2,b3,b4,b5,b6⟩
      | ret=>obtain⟨c,s',s1,b1,b2,b3,b4,b5,b6⟩:=he;rw [e2]at b6;exact⟨c,s',s1,b1,b2,b3,b4,b5,b6⟩
      | exit i=>
        obtain⟨c,s',s1,b1,b2,b3,b4,b5,b6⟩:=he
        rw [e3]at b6
        simp only [Exit.inBlock]
        simp only [beq_iff_eq]at b6
        split
        · rename_i e;rw [if_pos e]at b6;exact⟨c,s',s1,b1,b2,b3,b4,b5,b6⟩
        · rename_i e;rw [if_neg e]at b6;exact⟨c,s',s1,b1,b2,b3,b4,b5,b6⟩
    generalize hM:execX (std n) X C ord chk k an (.block id b) s K=M at h
    simp only [execX]at hM
    split at hM
    · subst hM;refine main _ _ ?_ ?_ ?_ h<;>intros<;>rfl
    · subst hM;refine main _ _ ?_ ?_ ?_ h<;>intros<;>rfl
    · rename_i sk a1
      subst hM
      exact cut_ok hc0 hs (fun {σ K' r'} h=>by refine main a1 _ ?_ ?_ ?_ h<;>intros<;>rfl) h
    · subst hM;exact h.elim
  | .loop b,ρ,an,s,K,r,h,s',c,w,a,A,g,S,hK,hs=>by
    cases an with
    | loop sk a1=>
      rw [execX]at h
      rcases hx0:extS (std n) k sk s with _ | ⟨ck,x0⟩
      · rw [hx0]at h;exact h.elim
      · rw [hx0]at h
        obtain⟨hck,h⟩:=chks_ok h
        obtain⟨I,μ,hI0,h⟩:=h
        obtain⟨c1,s1',g1,A1,S1,K1,hm1⟩:=extS_ok hx0 hck S A hc0 g hs
        rw [hs]at h
        refine wp_loop_ghost (fun N a' w'=>∃c s' x,Grow c0 w0 h0 c w' s'.h∧AbsS E s' c w' a'∧SR s' (fillS (std n) sk m0 x)∧Keep k H0 (fillS (std n) sk m0 x).h∧(fillS (std n) sk m0 x).m=m0∧I x∧μ x=N) (μ x0) ⟨c1,s1',x0,g1,A1,S1,hK.trans K1,hm1,hI0,rfl⟩ ?_
        rintro N a' w' ⟨c2,s2',x,g2,A2,S2,K2,hm2,hi,rfl⟩
        have hq:=h x hi
        refine wp_mono (exec_ok b hq A2 g2 S2 K2 hm2) ?_
        intro e a3 w3 he
        cases e with
        | outgrown=>exact he.elim
        | panic _=>exact he
        | goto _=>exact he
        | normal=>
          obtain⟨c4,s4',s4,b1,b2,b3,b4,b5,b6⟩:=he
          simp only at b6
          rcases hx4:extS (std n) k sk s4 with _ | ⟨ck4,t4⟩
          · rw [hx4]at b6;exact b6.elim
          · rw [hx4]at b6
            obtain⟨hck4,b6⟩:=chks_ok b6
            obtain⟨c5,s5',g5,A5,S5,K5,hm5⟩:=extS_ok hx4 hck4 b3 b2 hc0 b1 b5
            exact⟨μ t4,b6.2,c5,s5',_,g5,A5,S5,b4.trans K5,hm5,b6.1,rfl⟩
        | ret=>obtain⟨c4,s4',s4,b1,b2,b3,b4,b5,b6⟩:=he;exact⟨c4,s4',s4,b1,b2,b3,b4,b5,b6⟩
        | exit i=>obtain⟨c4,s4',s4,b1,b2,b3,b4,b5,b6⟩:=he;exact⟨c4,s4',s4,b1,b2,b3,b4,b5,b6⟩
    | _=>simp [execX]at h
  | .exit i,ρ,an,s,K,r,h,s',c,w,a,A,g,S,hK,hs=>by
    have h:K (.exit i) s r:=by cases an<;>exact h
    exact wp_exit ⟨c,s',s,g,A,S,hK,hs,h⟩
  | .ret,ρ,an,s,K,r,h,s',c,w,a,A,g,S,hK,hs=>by
    have h:K .ret s r:=by cases an<;>exact h
    exact wp_ret ⟨c,s',s,g,A,S,hK,hs,h⟩
  | .rangeFunc ..,ρ,an,s,K,r,h,_,_,_,_,_,_,_,_,_=>by cases an<;>simp [execX]at h
  | .scope _,ρ,an,s,K,r,h,_,_,_,_,_,_,_,_,_=>by cases an<;>simp [execX]at h
  | .label _,ρ,an,s,K,r,h,_,_,_,_,_,_,_,_,_=>by cases an<;>simp [execX]at h
  | .goto _,ρ,an,s,K,r,h,_,_,_,_,_,_,_,_,_=>by cases an<;>simp [execX]at h
  | .refuse _,ρ,an,s,K,r,h,_,_,_,_,_,_,_,_,_=>by cases an<;>simp [execX]at h
end
end Go.TX
namespace Go.TX
open Go Go.AE
variable [LitK]
section
variable {n:Nat}
theorem newNames_len:∀(r:List (Option (Option Nat))) (m k:Nat),(newNames r m k).length=k
  | _,_,0=>by simp [newNames]
  | [],m,k+1=>by simp [newNames,newNames_len [] (m+1) k]
  | some (some l)::r,m,k+1=>by simp [newNames,newNames_len r m k]
  | some none::r,m,k+1=>by simp [newNames,newNames_len r (m+1) k]
  | none::r,m,k+1=>by simp [newNames,newNames_len r (m+1) k]
structure PutOK (r:List (Option (Option Nat))) (h:List SObj) (os:List SObj) (nms:List Nat) (kT:List SObj):Prop where
  len:h.length≤kT.length
  at_:∀(i:Nat),i<os.length→∃l,nms[i]? =some l∧kT[l]? =os[i]? ∧(r[i]? =some (some (some l))∨(h.length≤l∧∀q:Nat,r[i]? ≠some (some (some q))))
  old:∀l,l<h.length→(∀i:Nat,i<os.length→r[i]? ≠some (some (some l)))→kT[l]? =h[l]?
  inj:∀(i j l:Nat),nms[i]? =some l→nms[j]? =some l→i=j
  new:∀l,h.length≤l→l<kT.length→∃i:Nat,i<os.length∧nms[i]? =some l
theorem put_ok:∀(os:List SObj) (r:List (Option (Option Nat))) (h:List SObj),(∀i l:Nat,r[i]? =some (some (some l))→i<os.length→l<h.length)→(∀i j l:Nat,r[i]? =some (some (some l))→r[j]? =some (some (some l))→i=j)→
    PutOK r h os (newNames r h.length os.length) (putObjs (std n) h (newNames r h.length os.length) os)
  | [],r,h,h1,h2=>by
    refine⟨?_,fun i hi=>by simp at hi,fun l _ _=> ?_,fun i j l hi=>by simp [newNames]at hi,fun l a b=> ?_⟩<;>simp only [List.length_nil,newNames,putObjs]at* <;>first | exact Nat.le_refl _ | rfl | omega
  | o::os,r,h,h1,h2=>by
    have fresh:∀r',(∀(i:Nat),r'[i]? =r[i+1]?)→(∀q:Nat,r[0]? ≠some (some (some q)))→newNames r h.length (os.length+1)=h.length::newNames r' (h.length+1) os.length→PutOK r h (o::os) (newNames r h.length (os.length+1)) (putObjs (std n) h (newNames r h.length (os.length+1)) (o::os)):=by
      intro r' hr h0 e
      rw [e]
      have hl:(h++ [o]).length=h.length+1:=by simp
      have P:=put_ok os r' (h++ [o]) (fun i l hi hi2=>by rw [hl];have:=h1 (i+1) l (by rw [←hr];exact hi) (by simp;omega);omega) (fun i j l hi hj=>by have:=h2 (i+1) (j+1) l (by rw [←hr];exact hi) (by rw [←hr];exact hj);omega)
      rw [hl]at P
      have hput:putObjs (std n) h (h.length::newNames r' (h.length+1) os.length) (o::os)=putObjs (std n) (h++ [o]) (newNames r' (h.length+1) os.length) os:=by
        simp [putObjs]
      rw [hput]
      have hcur:(putObjs (std n) (h++ [o]) (newNames r' (h.length+1) os.length) os)[h.length]? =some o:=by
        rw [P.old h.length (by simp) (fun i hi hh=>by have:=h1 (i+1) h.length (by rw [←hr];exact hh) (by simp;omega);omega)]
        simp
      refine⟨by have:=P.len;simp at this;omega,fun i hi=> ?_,fun l hl2 hn=> ?_,fun i j l hi hj=> ?_,fun l ha hb=> ?_⟩
      · cases i with
        | zero=>exact⟨h.length,rfl,by rw [hcur];rfl,.inr ⟨Nat.le_refl _,h0⟩⟩
        | succ i=>
          obtain⟨l,q1,q2,q3⟩:=P.at_ i (by simpa using hi)
          refine⟨l,by simpa using q1,by rw [q2];simp,?_⟩
          rw [←hr]
          rcases q3 with q3 | ⟨q3,q4⟩
          · exact .inl q3
          · exact .inr ⟨by simp at q3;omega,q4⟩
      · rw [P.old l (by simp;omega) (fun i hi hh=>hn (i+1) (by simp;omega) (by rw [←hr];exact hh))]
        exact List.getElem?_append_left hl2
      · have ne:∀(j:Nat),(newNames r' (h.length+1) os.length)[j]? =some h.length→False:=by
          intro j hj
          have hj2:j<os.length:=by have:=(List.getElem?_eq_some_iff.1 hj).1;rw [newNames_len]at this;exact this
          obtain⟨l,q1,q2,q3⟩:=P.at_ j hj2
          rw [hj]at q1;cases q1
          rcases q3 with q3 | ⟨q3,q4⟩
          · have:=h1 (j+1) h.length (by rw [←hr];exact q3) (by simp;omega);omega
          · simp at q3;omega
        cases i with
        | zero=>
          simp at hi;subst hi
          cases j with
          | zero=>rfl
          | succ j=>exact(ne j (by simpa using hj)).elim
        | succ i=>
          cases j with
          | zero=>simp at hj;subst hj;exact(ne i (by simpa using hi)).elim
          | succ j=>rw [P.inj i j l (by simpa using hi) (by simpa using hj)]
      · by_cases e:l=h.length
        · subst e;exact⟨0,by simp,rfl⟩
        · obtain⟨i,q1,q2⟩:=P.new l (by simp;omega) hb
          exact⟨i+1,by simp;omega,by simpa using q2⟩
    match r,h1,h2,fresh with
    | [],h1,h2,fresh=>exact fresh [] (fun i=>by simp) (fun q=>by simp) rfl
    | none::r',h1,h2,fresh=>exact fresh r' (fun i=>by simp) (fun q=>by simp) rfl
    | some none::r',h1,h2,fresh=>exact fresh r' (fun i=>by simp) (fun q=>by simp) rfl
    | some (some l0)::r',h1,h2,_=>
      have hl0:l0<h.length:=h1 0 l0 rfl (by simp)
      have e:newNames (some (some l0)::r') h.length (os.length+1)=l0::newNames r' h.length os.length:=rfl
      show PutOK _ _ _ (newNames (some (some l0)::r') h.length (os.length+1)) (putObjs (std n) h (newNames (some (some l0)::r') h.length (os.length+1)) (o::os))
      rw [e]
      have hl:(h.set l0 o).length=h.length:=by simp
      have P:=put_ok os r' (h.set l0 o) (fun i l hi hi2=>by rw [hl];exact h1 (i+1) l (by simpa using hi) (by simp;omega)) (fun i j l hi hj=>by have:=h2 (i+1) (j+1) l (by simpa using hi) (by simpa using hj);omega)
      rw [hl]at P
      have hput:putObjs (std n) h (l0::newNames r' h.length os.length) (o::os)=putObjs (std n) (h.set l0 o) (newNames r' h.length os.length) os:=by
        have:Nat.blt l0 h.length=true:=by simpa using hl0
        simp [putObjs,hl0]
      rw [hput]
      have hcur:(putObjs (std n) (h.set l0 o) (newNames r' h.length os.length) os)[l0]? =some o:=by
        rw [P.old l0 (by simpa using hl0) (fun i hi hh=>by have:=h2 0 (i+1) l0 rfl (by simpa using hh);omega)]
        rw [List.getElem?_set_self hl0]
      refine⟨by have:=P.len;rw [hl]at this;exact this,fun i hi=> ?_,fun l hl2 hn=> ?_,fun i j l hi hj=> ?_,fun l ha hb=> ?_⟩
      · cases i with
        | zero=>exact⟨l0,rfl,by rw [hcur];rfl,.inl rfl⟩
        | succ i=>
          obtain⟨l,q1,q2,q3⟩:=P.at_ i (by simpa using hi)
          refine⟨l,by simpa using q1,by rw [q2];simp,?_⟩
          simp only [List.getElem?_cons_succ]
          rcases q3 with q3 | ⟨q3,q4⟩
          · exact .inl q3
          · exact .inr ⟨by rw [hl]at q3;exact q3,q4⟩
      · rw [P.old l (by rw [hl];exact hl2) (fun i hi hh=>hn (i+1) (by simp;omega) (by simpa using hh))]
        have:l0≠l:=fun e=>hn 0 (by simp) (by rw [e];rfl)
        exact List.getElem?_set_ne this
      · have ne:∀(j:Nat),(newNames r' h.length os.length)[j]? =some l0→False:=by
          intro j hj
          have hj2:j<os.length:=by have:=(List.getElem?_eq_some_iff.1 hj).1;rw [newNames_len]at this;exact this
          obtain⟨l,q1,q2,q3⟩:=P.at_ j hj2
          rw [hj]at q1;cases q1
          rcases q3 with q3 | ⟨q3,q4⟩
          · have:=h2 0 (j+1) l0 rfl (by simpa using q3);omega
          · rw [hl]at q3;omega
        cases i with
        | zero=>
          simp at hi;subst hi
          cases j with
          | zero=>rfl
          | succ j=>exact(ne j (by simpa using hj)).elim
        | succ i=>
          cases j with
          | zero=>simp at hj;subst hj;exact(ne i (by simpa using hi)).elim
          | succ j=>rw [P.inj i j l (by simpa using hi) (by simpa using hj)]
      · obtain⟨i,q1,q2⟩:=P.new l (by rw [hl];exact ha) hb
        exact⟨i+1,by simp;omega,by simpa using q2⟩
theorem fillV_tup {nm:Nat→Nat} {k:SkV} {r r':List (LV stdCar)} {v:SVal} (h:fillV stdCar nm k r=some (v,r')):isTup v=false:=by
  cases k with
  | c k=>simp only [fillV]at h;split at h<;>cases h;rfl
  | agg ks=>simp only [fillV]at h;split at h<;>cases h;rfl
  | sv f c=>
    unfold fillV at h
    split at h<;>first | (cases h;rfl) | (split at h<;>cases h<;>rfl) | cases h
theorem fillVs_tup {nm:Nat→Nat}:∀ {ks:List SkV} {r r':List (LV stdCar)} {vs:List SVal},fillVs stdCar nm ks r=some (vs,r')→∀v∈vs,isTup v=false
  | [],r,r',vs,h=>by simp only [fillVs,Option.some.injEq,Prod.mk.injEq]at h;obtain⟨rfl,_⟩:=h;simp
  | k::ks,r,r',vs,h=>by
    simp only [fillVs]at h
    split at h
    · rename_i x r1 hx
      split at h
      · rename_i xs r2 hxs;cases h
        intro v hv
        cases hv with
        | head=>exact fillV_tup hx
        | tail _ hv=>exact fillVs_tup hxs v hv
      · cases h
    · cases h
theorem goneAll_gone:∀ {ls:List Nat} {h:List SObj} {l:Nat} {g:Bool} {c:Co} {xs:List c.den},l∈ls→h[l]? =some (.rows g c xs)→Gone (goneAll (std n) h ls) l
  | [],_,_,_,_,_,hm,_=>by simp at hm
  | a::ls,h,l,g,c,xs,hm,hl=>by
    rw [goneAll_cons]
    have stays:∀(ls:List Nat) (h:List SObj),Gone h l→Gone (goneAll (std n) h ls) l:=by
      intro ls
      induction ls with
      | nil=>intro h hg;exact hg
      | cons b ls ih=>
        intro h ⟨cc,nn,hg⟩
        rw [goneAll_cons]
        refine ih _ ⟨cc,nn,?_⟩
        by_cases e:b=l
        · subst e;unfold gone1;split
          · rename_i hh;rw [hg]at hh;cases hh
          · exact hg
        · rw [gone1_get e];exact hg
    by_cases e:a=l
    · subst e
      refine stays ls _ ⟨c,(xs.length:Int),?_⟩
      unfold gone1;rw [hl];simp only
      rw [List.getElem?_set_self (List.getElem?_eq_some_iff.1 hl).1]
    · refine goneAll_gone (g:=g) (c:=c) (xs:=xs) ?_ (by rw [gone1_get e];exact hl)
      cases hm with
      | head=>exact absurd rfl e
      | tail _ h=>exact h
theorem extO_live {h:List SObj}:∀ {ks:List SkO} {j:Nat} {s s':ES (std n)},extOs (std n) h j ks s=some s'→∀ {i:Nat} {k:SkO},ks[i]? =some k→k≠ .gone→∀ {l:Nat} (_:s'.ren[j+i]? =some (some (some l))),∃o,h[l]? =some o∧¬Gone [o] 0
  | [],_,_,_,_,i,k,hk,_,_,_=>by simp at hk
  | q::ks,j,s,s',hx,i,k,hk,hg,l,h5=>by
    simp only [extOs]at hx
    split at hx
    · rename_i s1 h1
      cases i with
      | succ i=>
        have:=extO_live hx (i:=i) (k:=k) (by simpa using hk) hg (l:=l) (by rw [show j+1+i=j+(i+1) by omega];exact h5)
        exact this
      | zero=>
        simp at hk;subst hk
        rw [Nat.add_zero]at h5
        have e1:ELe s s':=by
          obtain⟨_,_,_,a2,_⟩:=extO_ok (m:=n) (fun i=>i) h1 (.gone .i64 0) ⟨.i64,0,rfl⟩
          obtain⟨_,_,_,b2,_⟩:=extOs_ok (m:=n) (fun i=>i) (fun _=> .gone .i64 0) (fun _=>⟨.i64,0,rfl⟩) hx
          exact a2.trans b2
        cases q with
        | gone=>exact absurd rfl hg
        | box kk=>
          rcases hr:s.ren[j]? with _ | _ | _ | l0<;>simp only [extO,hr,reduceCtorEq]at h1
          have:=e1.ren j _ hr
          rw [h5]at this;cases this
          split at h1
          · rename_i v hv;exact⟨_,hv,fun⟨c,m,hgo⟩=>by simp at hgo⟩
          · cases h1
        | rows f c=>
          rcases hr:s.ren[j]? with _ | _ | _ | l0<;>simp only [extO,hr,reduceCtorEq]at h1
          · have:=e1.ren j _ hr
            rw [h5]at this;cases this
          · have:=e1.ren j _ hr
            rw [h5]at this;cases this
            split at h1
            · rename_i g c' xs hv;exact⟨_,hv,fun⟨c,m,hgo⟩=>by simp at hgo⟩
            · cases h1
    · cases hx
end
end Go.TX
namespace Go.TX
open Go Go.AE
variable [LitK]
section
variable {n:Nat}
theorem resX_ok {X:XT} {E:Tab} (hX:XOK X E) {s':St} {s:RSt (std n)} (S:SR s' s):∀ {rs:List ResultVar} {qs:List SVal},resX (std n) X s rs=some qs→∃ps,F2 (PVR (nmh s.h)) ps qs∧∀K,K ps→resA E s' rs K
  | [],qs,h=>by simp only [resX,Option.some.injEq]at h;subst h;exact⟨[],.nil,fun K hK=>hK⟩
  | .tmp t::r,qs,h=>by
    simp only [resX]at h
    split at h
    · rename_i v hv
      split at h
      · rename_i vs hvs;cases h
        obtain⟨pv,p1,p2⟩:=S.val t _ hv
        obtain⟨ps,q1,q2⟩:=resX_ok hX S hvs
        exact⟨pv::ps,.cons p2 q1,fun K hK=>by unfold resA;exact withV_of p1 _ (q2 _ hK)⟩
      · cases h
    · cases h
  | .cell t ty::r,qs,h=>by
    simp only [resX]at h
    split at h
    · rename_i p hp
      split at h
      · rename_i v hv
        split at h
        · rename_i vs hvs;cases h
          obtain⟨pv,p1,p2⟩:=S.val t _ hp
          obtain⟨pr,r1,r2⟩:=loadA_ok hX S.heap p2 hv (fun b hb=>by simp at hb)
          obtain⟨ps,q1,q2⟩:=resX_ok hX S hvs
          exact⟨pr::ps,.cons r1 q1,fun K hK=>by unfold resA;exact withV_of p1 _ (r2 _ (q2 _ hK))⟩
        · cases h
      · cases h
    · cases h
theorem pv_tup {N:NM}:∀ {ps:List PV} {vs:List SVal},F2 (PVR N) ps vs→(∀v∈vs,isTup v=false)→PVR N (one ps) (oneX (std n) vs)
  | [],_,h,_=>by cases h;exact .tup .nil
  | [p],_,.cons h1 h2,_=>by cases h2;exact h1
  | p::q::ps,_,.cons h1 (.cons h2 h3),ht=>by
    have up:∀ {p v},PVR N p v→isTup v=false→PV0 N p v:=fun h hv=>by
      cases h with
      | one h=>exact h
      | tup _=>simp [isTup]at hv
    have all:∀ {ps:List PV} {vs:List SVal},F2 (PVR N) ps vs→(∀v∈vs,isTup v=false)→F2 (PV0 N) ps vs:=by
      intro ps vs h
      induction h with
      | nil=>intro _;exact .nil
      | cons a _ ih=>intro ht;exact .cons (up a (ht _ (by simp))) (ih fun v hv=>ht v (List.mem_cons_of_mem _ hv))
    exact .tup (all (.cons h1 (.cons h2 h3)) ht)
theorem tup_rel {c:Ctx} {w:World} {us:List Value} {ps:List PV} (h:F2 (RelV c w) us ps):RelV c w (if h:us.toArray.size=1 then us.toArray[0]else .tuple us.toArray) (one ps):=by
  cases h with
  | nil=>exact tup0 _ _
  | cons q1 q2=>
    cases q2 with
    | nil=>simpa [one]using q1
    | cons q3 q4=>
      have hl:=(F2.cons q1 (F2.cons q3 q4)).length
      rw [dif_neg (by simp)]
      refine .tup _ _ hl (fun i hi=> ?_)
      have hx:∀(l:List PV),i<l.length→l[i]? =some (l.getD i default):=fun l hl=>by simp [List.getD,List.getElem?_eq_getElem hl]
      obtain⟨u,hu,hr⟩:=(F2.cons q1 (F2.cons q3 q4)).get (hx _ hi)
      rw [getD_of hu];exact hr
theorem oldObj_gone (h:List SObj) (l:Nat):Gone [oldObj (std n) h l] 0:=by
  unfold oldObj;split
  · exact⟨_,_,rfl⟩
  · exact⟨_,_,rfl⟩
  · exact⟨_,_,rfl⟩
def goneL (D:List Nat) (h:Heap):Heap:=D.map (fun l=>(l,AObj.gone))++h
theorem goneL_in {D:List Nat} {h:Heap} {l:Nat} (hl:l∈D):AE.look (goneL D h) l=some .gone:=by
  induction D with
  | nil=>simp at hl
  | cons d D ih=>
    show AE.look ((d,.gone)::goneL D h) l=_
    by_cases e:d=l
    · subst e;rw [look_cons_same]
    · rw [look_cons_ne _ _ e]
      exact ih (by cases hl with | head=>exact absurd rfl e | tail _ h=>exact h)
theorem goneL_out {D:List Nat} {h:Heap} {l:Nat} (hl:l∉D):AE.look (goneL D h) l=AE.look h l:=by
  induction D with
  | nil=>rfl
  | cons d D ih=>
    show AE.look ((d,.gone)::goneL D h) l=_
    rw [look_cons_ne _ _ (fun e=>hl (by simp [e]))]
    exact ih (fun h=>hl (List.mem_cons_of_mem _ h))
section
variable {X:XT} {E:Tab} (hE:TabOK E) (hX:XOK X E) {C:Calls stdCar} (hG:CtabOK E (tabOf C)) (hm:E.P.follows .mixedOrders=true) {ord:Nat→List DEnt} {chk:Nat→Array Oper→Nat→Bool} (hchk:∀id ops m,chk id ops m=true→Static E ord id ops m)
include hE hX hG hm hchk
theorem fn_ok {f:FuncId} {fn:Func} {code:Code} (hf:E.P.funcs[f]? =some fn) (hb:fn.body=some code) (hent:Enters E.P f) {sg:Sig} {an:Ann} {ct:Ct stdCar sg}
    (hrun:∀x,ct.pre x=true→runX (std 0) X C ord chk an sg fn code x (fun y=>y=ct.fn x)):TransOK E f (ctTrans ct) where
  enters:=hent
  calls:=by
    rintro args h nn K ⟨m,qs,hs,hargs,HR,hlen,cr,hcall,hcks,v,kT,hvk,hK⟩ c w vs hcn hvals H Gl
    subst hlen
    unfold callCt at hcall
    split at hcall
    · rename_i e1 he1
      split at hcall
      · rename_i e he
        split at hcall
        · rename_i hfine
          simp only [Bool.and_eq_true,List.isEmpty_iff]at hfine
          obtain⟨hfine,htr⟩:=hfine
          have hfine:=fine_ok hfine
          split at hcall
          · rename_i x hx
            simp only [Option.some.injEq]at hcall
            subst hcall
            have hck:∀b∈e.ck,b=true:=fun b hb=>hcks b (List.mem_append_left _ hb)
            have hpre:ct.pre x=true:=hcks _ (List.mem_append_right _ (by simp))
            obtain⟨N,hrun⟩:∃N:Nat,runX (std N) X C ord chk an sg fn code x (fun y=>y=ct.fn x):=⟨0,hrun x hpre⟩
            simp only at hvk hK
            obtain⟨new1,qs1,a1,a2,a3,a4⟩:=extVs_ok (fun i=>i) he1
            obtain⟨new2,os1,b1,b2,b3,b4,b5⟩:=extOs_ok (fun i=>i) (fun _=>(.gone .i64 0:SObj)) (fun _=>⟨.i64,0,rfl⟩) he
            have hlv:e.lv.reverse=new1++new2:=by rw [b1,a1];simp [es0]
            have hun:=unpack_pack hx
            rw [hlv]at hun
            have hrl:e.ren.length=sg.objs.length:=by rw [b2.len,a2.len,es0_len]
            have hof:∀(j:Nat) (kk:SkO),sg.objs[j]? =some kk→∃o2,os1[j]? =some o2∧OF e hs (fun i=>i) j kk (.gone .i64 0) o2:=fun j kk hj=>by
              obtain⟨o2,q1,q2⟩:=b5 e (.refl _) j kk hj
              exact⟨o2,q1,by simpa using q2⟩
            obtain⟨o1,m1,m2,m3,m4,_,_⟩:=merge_core (ks:=sg.objs) (nm:=fun i=>i) (old:=fun _=>(.gone .i64 0:SObj)) H HR hck hfine hrl b4 hof (cb:={K:=fun _ _=>False,μ:=μX e c,n:=0}) (hb':=[])
              (relH_nil w _ _ _ (fun _ _ h=>h.elim) (fun _ h=>h)) false (fun h=>by cases h) (μ2:=μX e c) (n2:=sg.objs.length) (Nat.zero_le _) (fun _ _=>rfl) (fun i hi=>hi) (fun i j _ _ h=>h)
              (fun i l hi=>by simp only [μX];rw [hi]) (fun i hi=>by simp only [μX];rw [hi]) (h2:=os1) (fun i _=>rfl)
              (fun l o hl ho=>by
                have:sg.objs.length≤l:=by
                  rcases Nat.lt_or_ge l sg.objs.length with h | h
                  · exact absurd rfl (hl l h)
                  · exact h
                rw [List.getElem?_eq_none (by omega)]at ho;cases ho) (fun _ _=>rfl)
              (fun b ⟨l,o,hl,_⟩ _=>by simp [AE.look]at hl) (fun f b h _=>h) (fun f b ⟨l,o,hl,_⟩ _=>by simp [AE.look]at hl)
            generalize hc1:({K:=fun f b=>False∨KX e c false f b,μ:=μX e c,n:=sg.objs.length}:Ctx)=c1 at m1 m2 m3 m4
            generalize hh1:nmMap (fun i=>i) o1 (List.range sg.objs.length) []=h1' at m1 m2 m4
            have c1n:c1.n=sg.objs.length:=by rw [←hc1]
            have c1K:∀f b,c1.K f b→c.K f b∨∃l g,(l,g)∈e.fro∧c.μ l=some b∧(f=true→g=true):=fun f b hb=>by
              rw [←hc1]at hb
              rcases hb with hb | hb | ⟨l,g,q1,q2,q3⟩
              · exact hb.elim
              · exact .inl (by simpa using hb)
              · exact .inr ⟨l,g,q1,q2,fun h=>q3 (by simp [h])⟩
            have c1K':∀f b,c.K f b→c1.K f b:=fun f b hb=>by rw [←hc1];exact .inr (.inl (by simpa using hb))
            have own1:∀b,Owned c1 h1' b→∃(i lq:Nat) (q:AObj),e.ren[i]? =some (some (some lq))∧AE.look h lq=some q∧q.live∧c.μ lq=some b:=fun b hb=>by
              rcases m4 b hb with⟨l,o,hl,_⟩ | hb
              · simp [AE.look]at hl
              · exact hb
            have vals1:F2 (WV c w (nmh hs)) vs qs:=by
              clear he1 a1 a2 a3 a4 hvk hrun
              induction hvals generalizing qs with
              | nil=>cases hargs;exact .nil
              | cons q1 _ ih=>cases hargs with | cons q3 q4=>exact .cons ⟨_,q1,q3⟩ (ih _ q4)
            obtain⟨pvs1,p1,p2⟩:=wv_list (a4 H HR b2 hck m3 (fun h=>by cases h) vals1)
            unfold runX at hrun
            split at hrun
            · exact hrun.elim
            rename_i hkk
            have hkk:sg.objs.length≤sg.objs'.length:=by
              have:Nat.ble sg.objs.length sg.objs'.length=true:=by simpa using hkk
              exact Nat.le_of_ble_eq_true this
            rw [show unpack (std N).toCar sg.inp x=new1++new2 from hun,a3]at hrun
            simp only at hrun
            have hb3:=b3 []
            rw [List.append_nil]at hb3
            rw [show fillOs (std N).toCar (fun i=>i) (fun _=>TObj.gone Co.i64 ((std N).lit 0)) 0 sg.objs new2=some (os1,[])from hb3]at hrun
            simp only at hrun
            have hql:qs1.length=vs.length:=by rw [←p2.length,←p1.length]
            refine calls_of_wp hf hb ?_
            have A1:AbsS E {t:=(List.range qs1.length).zip (pvs1.map some),h:=h1',n:=sg.objs.length,k:=0,m:=qs1.length+(fn.ntmps-qs1.length)} c1 w {tmps:=vs.toArray++Array.replicate (fn.ntmps-vs.toArray.size) undef,defers:=[]}:=by
              refine⟨⟨fun i u hu=>zip_slot p1 ?_ i u hu,m1,?_⟩,c1n,rfl,by simp [hql]⟩
              · refine F2.of_get (by simp [hql]) fun j i u hj hu=> ?_
                have:i=j:=by
                  have h3:=(List.getElem?_eq_some_iff.1 hj).1
                  simp at h3
                  rw [List.getElem?_range h3]at hj;cases hj;rfl
                subst this
                have hlt:i<vs.length:=(List.getElem?_eq_some_iff.1 hu).1
                simp only
                rw [Array.getElem?_append_left (by simpa using hlt)]
                simpa using hu
              · intro gg d hd
                obtain⟨q1,u,q2,q3⟩:=Gl gg d hd
                exact⟨c1K' _ _ q1,u,q2,q3.mono' fun b hb=>c1K' _ _ hb⟩
            have S1:SR {t:=(List.range qs1.length).zip (pvs1.map some),h:=h1',n:=sg.objs.length,k:=0,m:=qs1.length+(fn.ntmps-qs1.length)}
                ({t:=(List.range qs1.length).zip (qs1.map fun v=>⟨none,v⟩),gs:=[],h:=os1,m:=qs1.length+(fn.ntmps-qs1.length)}:RSt (std N)):=by
              refine⟨m2,by simp [nm,b4],rfl,fun i sv hi=> ?_,fun t e he=>by simp at he⟩
              obtain⟨q1,q2⟩:=zip_look p2 i sv hi
              unfold ValR
              rw [q1];exact q2
            refine wp_mono (exec_ok hE hX hG hm hchk c1n code hrun A1 (.refl _ _ _) S1 (.refl _ os1) rfl) ?_
            have fin:∀ {c3:Ctx} {s3':St} {s3:RSt (std N)} {a3x:Act} {w3:World},Grow c1 w h1' c3 w3 s3'.h→AbsS E s3' c3 w3 a3x→SR s3' s3→Keep sg.objs.length os1 s3.h→
                endX (std N) X sg fn s3 (fun y=>y=ct.fn x)→
                a3x.defers=[]∧∃v,(results fn a3x.tmps).run E.P w3= .ok v w3∧
                  Post (fun v w'=>∃c' r h' j,Grow c w h c' w' h'∧RelH c' w' h'∧c'.n=nm hs.length j∧RelV c' w' v r∧K r h' j) (.returned v) w3:=by
              intro c3 s3' s3 act3 w3 g3 A3 S3 K3 hfin
              refine⟨A3.defers,?_⟩
              generalize hM:endX (std N) X sg fn s3=M at hfin
              unfold endX at hM
              split at hM
              · rename_i rs hrs
                split at hM
                · rename_i e2 he2
                  split at hM
                  · rename_i e3 he3
                    split at hM
                    · rename_i hfine3
                      have hfine3:=fine_ok hfine3
                      split at hM
                      · rename_i y hy
                        subst hM
                        obtain⟨hck3,hfin⟩:=chks_ok hfin
                        have hfin:y=ct.fn x:=hfin
                        subst hfin
                        obtain⟨ps,rp1,rp2⟩:=resX_ok (E:=E) hX S3 hrs
                        obtain⟨us,ps',u1,u2,u3⟩:=res_sound hE A3 _ (fun q=>q=ps) (rp2 _ rfl)
                        subst u3
                        refine⟨_,run_results u1,?_⟩
                        generalize hbr:(sg.fresh&&e.fro.all fun p=> !p.2)=br at hvk hK
                        generalize hh1T:(if br=true then hs else goneAll (std m) hs (e.fro.map (·.1)))=h1T at hvk
                        have h1Tl:h1T.length=hs.length:=by
                          rw [←hh1T];split
                          · rfl
                          · exact goneAll_len _ _ _
                        have h1Tn:nmh h1T=nmh hs:=by
                          rw [←hh1T];split
                          · rfl
                          · exact nmh_goneAll _ _ _
                        obtain⟨nms,hnms⟩:∃nms,newNames e.ren h1T.length sg.objs'.length=nms:=⟨_,rfl⟩
                        rw [hnms]at hvk
                        have hnmsl:nms.length=sg.objs'.length:=by rw [←hnms];exact newNames_len _ _ _
                        obtain⟨newA,qs3,x1,x2,x3,x4⟩:=extVs_ok (fun i=>nms.getD i 0) he2
                        obtain⟨newB,os3,y1,y2,y3,y4,y5⟩:=extOs_ok (fun i=>nms.getD i 0) (fun i=>oldObj (std m) h1T (nms.getD i 0)) (fun j=>oldObj_gone h1T _) he3
                        have hlv3:e3.lv.reverse=newA++newB:=by rw [y1,x1];simp [es0]
                        have hun3:=unpack_pack hy
                        rw [hlv3]at hun3
                        rw [show unpack (std m).toCar sg.out (ct.fn x)=newA++newB from hun3,x3]at hvk
                        simp only at hvk
                        have hy3:=y3 []
                        rw [List.append_nil]at hy3
                        rw [hy3]at hvk
                        simp only [Option.some.injEq,Prod.mk.injEq]at hvk
                        obtain⟨hv,hkT⟩:=hvk
                        have hrl3:e3.ren.length=sg.objs'.length:=by rw [y2.len,x2.len,es0_len]
                        have renlt:∀(i l:Nat),e.ren[i]? =some (some (some l))→i<sg.objs.length:=fun i l hi=>by rw [←hrl];exact(List.getElem?_eq_some_iff.1 hi).1
                        have passed:∀(i l:Nat),e.ren[i]? =some (some (some l))→∃o',AE.look h l=some o'∧o'.live:=fun i l hi=>by
                          have hik:=renlt i l hi
                          obtain⟨o2,q1,q2⟩:=hof i _ (List.getElem?_eq_getElem hik)
                          obtain⟨_,_,_,_,q3⟩:=q2.rel H HR hck m3 (fun h=>by cases h)
                          exact q3 l (fun hg=>hfine.gone hi (by rw [List.getElem?_eq_getElem hik,hg])) hi
                        have hlh:∀l o',AE.look h l=some o'→l<hs.length:=fun l o' hl=>by rw [←hcn];exact(H.obj l o' hl).1
                        have P:=put_ok (n:=m) os3 e.ren h1T (fun i l hi _=>by rw [h1Tl];obtain⟨o',q,_⟩:=passed i l hi;exact hlh l o' q) (fun i j l hi hj=>hfine.dist hi hj)
                        rw [y4,hnms,hkT]at P
                        have nmAt:∀i,i<sg.objs'.length→nms[i]? =some (nms.getD i 0):=fun i hi=>by
                          have:i<nms.length:=by rw [hnmsl];exact hi
                          simp [List.getD,List.getElem?_eq_getElem this]
                        have nmP:∀i,i<sg.objs'.length→kT[nms.getD i 0]? =os3[i]? ∧(e.ren[i]? =some (some (some (nms.getD i 0)))∨(hs.length≤nms.getD i 0∧∀q:Nat,e.ren[i]? ≠some (some (some q)))):=fun i hi=>by
                          obtain⟨l,q1,q2,q3⟩:=P.at_ i (by rw [y4];exact hi)
                          rw [nmAt i hi]at q1
                          have q1:=Option.some.inj q1
                          subst q1
                          rw [h1Tl]at q3
                          exact⟨q2,q3⟩
                        have nmInj:∀i j,i<sg.objs'.length→j<sg.objs'.length→nms.getD i 0=nms.getD j 0→i=j:=fun i j hi hj hij=>P.inj i j _ (nmAt i hi) (by rw [hij];exact nmAt j hj)
                        have nmLt:∀i,i<sg.objs'.length→nms.getD i 0<kT.length:=fun i hi=>by
                          have h3:=(nmP i hi).1
                          rw [List.getElem?_eq_getElem (show i<os3.length by rw [y4];exact hi)]at h3
                          exact(List.getElem?_eq_some_iff.1 h3).1
                        have nmNamed:∀(i l:Nat),e.ren[i]? =some (some (some l))→nms.getD i 0=l:=fun i l hi=>by
                          have hik:=Nat.lt_of_lt_of_le (renlt i l hi) hkk
                          rcases(nmP i hik).2 with q | ⟨_,q⟩
                          · rw [hi]at q;cases q;rfl
                          · exact absurd hi (q l)
                        have hD:∀l,l∈namesOf e.ren→∃i,i<sg.objs'.length∧nms.getD i 0=l∧e.ren[i]? =some (some (some l)):=fun l hl=>by
                          obtain⟨i,hi⟩:=names_mem hl
                          exact⟨i,Nat.lt_of_lt_of_le (renlt i l hi) hkk,nmNamed i l hi,hi⟩
                        obtain⟨D,hDdef⟩:∃D,namesOf e.ren++(if br=true then []else e.fro.map (·.1))=D:=⟨_,rfl⟩
                        rw [hDdef]at hK
                        have memD:∀l,l∈D↔l∈namesOf e.ren∨(br=false∧∃f,(l,f)∈e.fro):=fun l=>by
                          rw [←hDdef];cases br<;>simp
                        have froLive:∀l f,(l,f)∈e.fro→(∃g cc xs,hs[l]? =some (.rows g cc xs))∧∃o',AE.look h l=some o'∧o'.live:=fun l f hl=>by
                          obtain⟨_,g,cc,xs,q⟩:=hfine.fro l f hl
                          obtain⟨o',q1,q2⟩:=HR.old l _ q
                          cases q2 with | rows _=>exact⟨⟨g,cc,xs,q⟩,_,q1,trivial⟩
                        have lookD:∀l o,AE.look (goneL D h) l=some o→o.live→l∉D∧AE.look h l=some o:=fun l o hl hlv=>by
                          by_cases hd:l∈D
                          · rw [goneL_in hd]at hl;cases hl;exact hlv.elim
                          · rw [goneL_out hd]at hl;exact⟨hd,hl⟩
                        have notOwn1:∀l o b,l∉D→AE.look h l=some o→o.live→c.μ l=some b→¬Owned c1 h1' b:=fun l o b hd hl hlv hb ho=>by
                          obtain⟨i,lq,q,q1,q2,q3,q4⟩:=own1 b ho
                          have:=H.inj l o lq q b hl hlv q2 q3 hb q4
                          subst this
                          exact hd ((memD l).2 (.inl (mem_names q1)))
                        have own1c:∀b,Owned c1 h1' b→Owned c h b:=fun b hb=>by
                          obtain⟨i,lq,q,_,q2,q3,q4⟩:=own1 b hb
                          exact⟨lq,q,q2,q3,q4⟩
                        have kept:∀f b,c.K f b→w3.heap[b]? =w.heap[b]? :=fun f b hb=>g3.kept b (H.low f b hb) (fun ho=>H.own f b (own1c b ho) hb)
                        have Hb:RelH c w3 (goneL D h):=by
                          refine⟨fun l o hl=> ?_,fun l o l' o' b q1 q2 q3 q4 q5 q6=> ?_,?_,fun f b hb=>Nat.lt_of_lt_of_le (H.low f b hb) g3.size,H.sub⟩
                          · by_cases hd:l∈D
                            · rw [goneL_in hd]at hl;cases hl
                              refine⟨?_,trivial⟩
                              rcases(memD l).1 hd with h3 | ⟨_,f,h3⟩
                              · obtain⟨i,hi⟩:=names_mem h3
                                obtain⟨o',q,_⟩:=passed i l hi
                                exact(H.obj l o' q).1
                              · obtain⟨_,o',q,_⟩:=froLive l f h3
                                exact(H.obj l o' q).1
                            · rw [goneL_out hd]at hl
                              obtain⟨q1,q2⟩:=H.obj l o hl
                              exact⟨q1,q2.mono (.refl c) kept g3.stays q1 (fun b hlv hb=>g3.kept b (q2.lt hlv hb) (notOwn1 l o b hd hl hlv hb))⟩
                          · obtain⟨_,r1⟩:=lookD l o q1 q2
                            obtain⟨_,r2⟩:=lookD l' o' q3 q4
                            exact H.inj l o l' o' b r1 q2 r2 q4 q5 q6
                          · rintro f b ⟨l,o,hl,hlv,hb⟩ hk
                            obtain⟨_,r1⟩:=lookD l o hl hlv
                            exact H.own f b ⟨l,o,r1,hlv,hb⟩ hk
                        have notNew:∀l o b,AE.look h l=some o→o.live→c.μ l=some b→b<w.heap.size:=fun l o b hl hlv hb=>(H.obj l o hl).2.lt hlv hb
                        have notC3:∀l o b,l∉D→AE.look h l=some o→o.live→c.μ l=some b→¬Owned c3 s3'.h b:=fun l o b hd hl hlv hb ho=>by
                          rcases g3.newO b ho with h3 | h3
                          · exact notOwn1 l o b hd hl hlv hb h3
                          · have:=notNew l o b hl hlv hb;omega
                        have fro3own:∀q g b,(q,g)∈e3.fro→c3.μ q=some b→Owned c3 s3'.h b:=fun q g b hq hb=>by
                          obtain⟨_,g',cc,xs,hl⟩:=hfine3.fro q g hq
                          obtain⟨o',q1,q2⟩:=S3.heap.old q _ hl
                          cases q2 with | rows _=>exact⟨q,_,q1,trivial,hb⟩
                        have brFro:br=true→∀l f,(l,f)∈e.fro→f=false:=fun hb l f hl=>by
                          rw [←hbr]at hb
                          simp only [Bool.and_eq_true]at hb
                          have:=List.all_eq_true.1 hb.2 _ hl
                          simpa using this
                        have sepX:∀f b,Owned c (goneL D h) b→KX e3 c3 br f b→False:=by
                          rintro f b ⟨l,o,hl,hlv,hb⟩ hk
                          obtain⟨hd,hl⟩:=lookD l o hl hlv
                          rcases hk with hk | ⟨q,g,q1,q2,_⟩
                          · rcases g3.newK _ b hk with h3 | h3 | h3
                            · rcases c1K _ b h3 with h3 | ⟨l2,g2,q1,q2,q3⟩
                              · exact H.own _ b ⟨l,o,hl,hlv,hb⟩ h3
                              · obtain⟨_,o2,r1,r2⟩:=froLive l2 g2 q1
                                have:=H.inj l o l2 o2 b hl hlv r1 r2 hb q2
                                subst this
                                cases hbb:br with
                                | false=>exact hd ((memD l).2 (.inr ⟨hbb,g2,q1⟩))
                                | true=>
                                  have h5:=q3 (by rw [hbb];simp)
                                  have h6:=brFro hbb l g2 q1
                                  rw [h5]at h6;cases h6
                            · have:=notNew l o b hl hlv hb;omega
                            · exact notOwn1 l o b hd hl hlv hb h3
                          · exact notC3 l o b hd hl hlv hb (fro3own q g b q1 q2)
                        have exμ:∃μ2:Nat→Option Nat,(∀l,l<hs.length→μ2 l=c.μ l)∧(∀(i q:Nat),i<sg.objs'.length→hs.length≤nms.getD i 0→e3.ren[i]? =some (some (some q))→μ2 (nms.getD i 0)=c3.μ q)∧
                            (∀i:Nat,i<sg.objs'.length→hs.length≤nms.getD i 0→e3.ren[i]? =some (some none)→μ2 (nms.getD i 0)=none):=by
                          have hch:∀l,∃ob:Option Nat,(l<hs.length→ob=c.μ l)∧(∀(i q:Nat),i<sg.objs'.length→hs.length≤l→nms.getD i 0=l→e3.ren[i]? =some (some (some q))→ob=c3.μ q)∧
                              (∀i:Nat,i<sg.objs'.length→hs.length≤l→nms.getD i 0=l→e3.ren[i]? =some (some none)→ob=none):=by
                            intro l
                            by_cases hl:l<hs.length
                            · exact⟨c.μ l,fun _=>rfl,fun i q _ h4=>by omega,fun i _ h4=>by omega⟩
                            · by_cases hx:∃i q:Nat,i<sg.objs'.length∧nms.getD i 0=l∧e3.ren[i]? =some (some (some q))
                              · obtain⟨i,q,h4,h5,h6⟩:=hx
                                refine⟨c3.μ q,fun h=>absurd h hl,fun j q' h7 _ h9 h10=> ?_,fun j h7 _ h9 h10=> ?_⟩
                                · have:=nmInj i j h4 h7 (h5.trans h9.symm);subst this
                                  rw [h6]at h10;cases h10;rfl
                                · have:=nmInj i j h4 h7 (h5.trans h9.symm);subst this
                                  rw [h6]at h10;cases h10
                              · exact⟨none,fun h=>absurd h hl,fun j q' h7 _ h9 h10=>absurd ⟨j,q',h7,h9,h10⟩ hx,fun _ _ _ _ _=>rfl⟩
                          obtain⟨μ2,hμ2⟩:=Classical.axiomOfChoice hch
                          exact⟨μ2,fun l hl=>(hμ2 l).1 hl,fun i q h4 h5 h6=>(hμ2 _).2.1 i q h4 h5 rfl h6,fun i h4 h5 h6=>(hμ2 _).2.2 i h4 h5 rfl h6⟩
                        obtain⟨μ2,μa,μb,μc⟩:=exμ
                        have argRen:∀(i:Nat) (v:Option Nat),i<sg.objs.length→e3.ren[i]? =some (some v)→v=some i∧(es0 (std N) sg.objs.length sg.objs').ren[i]? =some (some (some i)):=fun i v hi hv=>by
                          have hik:=Nat.lt_of_lt_of_le hi hkk
                          have h0:=es0_ren (n:=N) hi hik
                          have hg:isGone sg.objs'[i]? =false:=by
                            unfold isGone;split
                            · rename_i hh;exact absurd hh (hfine3.gone hv)
                            · rfl
                          rw [hg]at h0
                          have h0:(es0 (std N) sg.objs.length sg.objs').ren[i]? =some (some (some i)):=by simpa using h0
                          have:=y2.ren i _ (x2.ren i _ h0)
                          rw [hv]at this;cases this
                          exact⟨rfl,h0⟩
                        have hname:∀(i q:Nat),e3.ren[i]? =some (some (some q))→μ2 (nms.getD i 0)=c3.μ q:=fun i q hi=>by
                          have hik:i<sg.objs'.length:=by rw [←hrl3];exact(List.getElem?_eq_some_iff.1 hi).1
                          rcases(nmP i hik).2 with h4 | ⟨h4,_⟩
                          · have hio:=renlt i _ h4
                            obtain⟨h5,_⟩:=argRen i _ hio hi
                            cases h5
                            obtain⟨o',h6,_⟩:=passed i _ h4
                            rw [μa _ (hlh _ o' h6),g3.le.μ i (by rw [c1n];exact hio)]
                            exact(m3.name i _ h4).2.symm
                          · exact μb i q hik h4 hi
                        have hnil:∀(i:Nat),e3.ren[i]? =some (some none)→μ2 (nms.getD i 0)=none:=fun i hi=>by
                          have hik:i<sg.objs'.length:=by rw [←hrl3];exact(List.getElem?_eq_some_iff.1 hi).1
                          rcases Nat.lt_or_ge i sg.objs.length with h4 | h4
                          · obtain⟨h5,_⟩:=argRen i _ h4 hi;cases h5
                          · rcases(nmP i hik).2 with h5 | ⟨h5,_⟩
                            · have:=renlt i _ h5;omega
                            · exact μc i hik h5 hi
                        have hsame:Same hs kT:=fun l z hz=>by
                          have hll:l<hs.length:=by
                            rcases Nat.lt_or_ge l hs.length with hl | hl
                            · exact hl
                            · simp [nmh,List.getElem?_eq_none hl]at hz
                          by_cases hp:∃i:Nat,e.ren[i]? =some (some (some l))
                          · obtain⟨i,hi⟩:=hp
                            have hio:=renlt i l hi
                            have hik:=Nat.lt_of_lt_of_le hio hkk
                            have hn:=nmNamed i l hi
                            have hat:=(nmP i hik).1
                            rw [hn]at hat
                            obtain⟨k3,hk3⟩:∃k3,sg.objs'[i]? =some k3:=⟨_,List.getElem?_eq_getElem hik⟩
                            obtain⟨o3,r1,r2⟩:=y5 e3 (.refl _) i k3 hk3
                            rw [Nat.zero_add]at r2
                            have goal:nmh [o3] 0=some z→nmh kT l=some z:=fun hh=>by
                              simp only [nmh,hat,r1];simpa [nmh]using hh
                            by_cases hg:k3= .gone
                            · refine goal ?_
                              rw [r2.gone hg]
                              show nmh [oldObj (std m) h1T (nms.getD i 0)] 0=some z
                              rw [hn]
                              rw [←h1Tn]at hz
                              unfold oldObj
                              simp only [nmh]at hz ⊢
                              split at hz
                              · rename_i hh;rw [hh];simpa using hz
                              · rename_i hh;rw [hh];simpa using hz
                              · cases hz
                            · obtain⟨v3,hv3⟩:=r2.live hg
                              obtain⟨h5,h6⟩:=argRen i _ hio hv3
                              subst h5
                              obtain⟨o1',s1,s2⟩:=hof i _ (List.getElem?_eq_getElem hio)
                              have hng1:sg.objs[i]≠ .gone:=fun hh=>hfine.gone hi (by rw [List.getElem?_eq_getElem hio,hh])
                              have t1:=s2.s1 l z.1 z.2 hng1 hi (by rw [hz])
                              have htr0:trOf (std m) e i=none:=by simp [trOf,htr]
                              rw [htr0]at t1
                              have t2:nmh os1 i=some z:=by simp only [nmh,s1];simpa [nmh]using t1
                              rcases(K3 i hio).2 z t2 with⟨cc,nn,hgo⟩ | t3
                              · exfalso
                                obtain⟨v3',hv3'⟩:=r2.live hg
                                have:=extO_live he3 (i:=i) hk3 hg (l:=i) (by rw [Nat.zero_add];exact hv3)
                                obtain⟨o4,ho4,hng4⟩:=this
                                rw [hgo]at ho4;cases ho4
                                exact hng4 ⟨_,_,rfl⟩
                              · have htr3:trOf (std N) e3 i=none:=by rw [y2.tr i _ (x2.ren i _ h6),x2.tr i _ h6];rfl
                                have t4:=r2.s1 i z.1 z.2 hg hv3 (by rw [t3])
                                rw [htr3]at t4
                                exact goal t4
                          · have hp':∀i:Nat,i<os3.length→e.ren[i]? ≠some (some (some l)):=fun i _ hi=>hp ⟨i,hi⟩
                            have:=P.old l (by rw [h1Tl];exact hll) hp'
                            rw [←h1Tn]at hz
                            simp only [nmh,this]
                            exact hz
                        have hof3:∀(j:Nat) (kk:SkO),sg.objs'[j]? =some kk→∃o2,os3[j]? =some o2∧OF e3 s3.h (fun i=>nms.getD i 0) j kk (oldObj (std m) h1T (nms.getD j 0)) o2:=fun j kk hj=>by
                          obtain⟨o2,q1,q2⟩:=y5 e3 (.refl _) j kk hj
                          exact⟨o2,q1,by simpa using q2⟩
                        have hfr3:br=true→sg.objs'.all SkO.fresh=true:=fun hb=>by
                          rw [←hbr]at hb
                          simp only [Bool.and_eq_true,Sig.fresh]at hb
                          exact hb.1.2
                        have hfrv:br=true→sg.res.all SkV.fresh=true:=fun hb=>by
                          rw [←hbr]at hb
                          simp only [Bool.and_eq_true,Sig.fresh]at hb
                          exact hb.1.1
                        obtain⟨o3f,z1,z2,z3,z4,z5,z6⟩:=merge_core (ks:=sg.objs') (nm:=fun i=>nms.getD i 0) (old:=fun i=>oldObj (std m) h1T (nms.getD i 0)) A3.abs.heap S3.heap hck3 hfine3 hrl3 y4 hof3 (cb:=c) (hb':=goneL D h)
                          Hb br hfr3 (μ2:=μ2) (n2:=kT.length) (by rw [hcn,←h1Tl];exact P.len) (fun l hl=>μa l (by rw [←hcn];exact hl)) nmLt nmInj hname hnil (h2:=kT) (fun i hi=>(nmP i hi).1)
                          (fun l o hl ho=>by
                            have hll:l<hs.length:=by
                              rcases Nat.lt_or_ge l hs.length with h4 | h4
                              · exact h4
                              · obtain⟨i,q1,q2⟩:=P.new l (by rw [h1Tl];exact h4) (List.getElem?_eq_some_iff.1 ho).1
                                rw [y4]at q1
                                rw [nmAt i q1]at q2
                                exact absurd (Option.some.inj q2) (hl i q1)
                            have hnp:l∉namesOf e.ren:=fun hp=>by
                              obtain⟨i,q1,q2,_⟩:=hD l hp
                              exact hl i q1 q2
                            have h5:=P.old l (by rw [h1Tl];exact hll) (fun i hi hh=>hnp (mem_names hh))
                            rw [h5]at ho
                            by_cases hd:l∈D
                            · rcases(memD l).1 hd with h6 | ⟨hb0,f,h6⟩
                              · exact absurd h6 hnp
                              · rw [←hh1T,hb0]at ho
                                simp only [Bool.false_eq_true,if_false]at ho
                                obtain⟨⟨g,cc,xs,h7⟩,_⟩:=froLive l f h6
                                have:Gone (goneAll (std m) hs (e.fro.map (·.1))) l:=goneAll_gone (List.mem_map.2 ⟨_,h6,rfl⟩) h7
                                obtain⟨c5,n5,h8⟩:=this
                                rw [h8]at ho;cases ho
                                exact⟨.gone,goneL_in hd,.gone⟩
                            · have h7:hs[l]? =some o:=by
                                rw [←hh1T]at ho
                                split at ho
                                · exact ho
                                · rename_i hb0
                                  rw [goneAll_get m _ _ (fun h8=>hd ((memD l).2 (.inr ⟨by simpa using hb0,by
                                    obtain⟨p,hp,rfl⟩:=List.mem_map.1 h8
                                    exact⟨p.2,hp⟩⟩)))]at ho
                                  exact ho
                              obtain⟨o',r1,r2⟩:=HR.old l _ h7
                              exact⟨o',by rw [goneL_out hd];exact r1,r2.mono hsame⟩)
                          (fun l hl=>by
                            have hll:hs.length≤l:=by have:=P.len;rw [h1Tl]at this;omega
                            have hnd:l∉D:=fun hd=>by
                              rcases(memD l).1 hd with h4 | ⟨_,f,h4⟩
                              · obtain⟨i,hi⟩:=names_mem h4
                                obtain⟨o',q,_⟩:=passed i l hi
                                have:=hlh l o' q;omega
                              · obtain⟨_,o',q,_⟩:=froLive l f h4
                                have:=hlh l o' q;omega
                            rw [goneL_out hnd]
                            exact HR.new l hll)
                          (fun b ⟨l,o,hl,hlv,hb⟩ ho=>by
                            obtain⟨hd,hl⟩:=lookD l o hl hlv
                            exact notC3 l o b hd hl hlv hb ho)
                          (fun f b hk ho=>A3.abs.heap.own f b ho (g3.le.K f b (c1K' f b hk))) sepX
                        have wvs:F2 (WV c3 w3 (nmh s3.h)) us rs:=by
                          clear he2 x1 x2 x3 x4 hrs u1 rp2
                          induction u2 generalizing rs with
                          | nil=>cases rp1;exact .nil
                          | cons q1 _ ih=>cases rp1 with | cons q3 q4=>exact .cons ⟨_,q1,q3⟩ (ih _ q4)
                        obtain⟨pvs3,w1,w2⟩:=wv_list (x4 A3.abs.heap S3.heap y2 hck3 z3 hfrv wvs)
                        have hv3:PVR (nmh kT) (one pvs3) v:=by rw [←hv];exact pv_tup w2 (fillVs_tup (x3 newB))
                        have hkl:kT.length=nm hs.length (kT.length-hs.length):=by have:=P.len;rw [h1Tl]at this;simp [nm];omega
                        have ownD:∀b,Owned c (goneL D h) b→Owned c h b:=fun b ⟨l,o,hl,hlv,hb⟩=>⟨l,o,(lookD l o hl hlv).2,hlv,hb⟩
                        have c3own:∀b,Owned c3 s3'.h b→Owned c h b∨w.heap.size≤b:=fun b hb=>(g3.newO b hb).imp (own1c b) id
                        refine⟨_,_,_,kT.length-hs.length,?_,z1,hkl,tup_rel w1,hK _ _ _ hv3 z2 ?_ hkl⟩
                        · refine⟨z5,g3.size,g3.stays,fun b hb hno=>g3.kept b hb (fun ho=>hno (own1c b ho)),fun f b hb=> ?_,fun b hb=> ?_,g3.os,g3.tape,g3.output⟩
                          · rcases hb with hb | hb | ⟨q,g,q1,q2,_⟩
                            · exact .inl hb
                            · rcases g3.newK _ b hb with h4 | h4 | h4
                              · rcases c1K _ b h4 with h5 | ⟨l2,g2,q1,q2,q3⟩
                                · left
                                  cases f with
                                  | true=>simpa using h5
                                  | false=>cases br with
                                    | true=>exact H.sub b (by simpa using h5)
                                    | false=>simpa using h5
                                · obtain⟨_,o2,r1,r2⟩:=froLive l2 g2 q1
                                  exact .inr (.inr ⟨l2,o2,r1,r2,q2⟩)
                              · exact .inr (.inl h4)
                              · exact .inr (.inr (own1c b h4))
                            · rcases c3own b (fro3own q g b q1 q2)with h4 | h4
                              · exact .inr (.inr h4)
                              · exact .inr (.inl h4)
                          · rcases z4 b hb with h4 | ⟨i,lq,q,_,q2,q3,q4⟩
                            · exact .inl (ownD b h4)
                            · exact c3own b ⟨lq,q,q2,q3,q4⟩
                        · refine⟨hsame,by have:=P.len;rw [h1Tl]at this;exact this,fun l ⟨cc,nn,hgo⟩=> ?_,fun l hl hnd=> ?_⟩
                          · have hll:=(List.getElem?_eq_some_iff.1 hgo).1
                            have hnp:∀i:Nat,e.ren[i]? ≠some (some (some l)):=fun i hi=>by
                              obtain⟨o',q1,q2⟩:=passed i l hi
                              obtain⟨o2,q3,q4⟩:=HR.old l _ hgo
                              rw [q1]at q3;cases q3;cases q4;exact q2.elim
                            have hnf:∀f,(l,f)∉e.fro:=fun f hf=>by
                              obtain⟨⟨g,c5,xs,h7⟩,_⟩:=froLive l f hf
                              rw [hgo]at h7;cases h7
                            refine⟨cc,nn,?_⟩
                            rw [P.old l (by rw [h1Tl];exact hll) (fun i _=>hnp i),←hh1T]
                            split
                            · exact hgo
                            · rw [goneAll_get m _ _ (fun h8=>by
                                obtain⟨p,hp,rfl⟩:=List.mem_map.1 h8
                                exact hnf p.2 hp)]
                              exact hgo
                          · have hnp:∀i:Nat,e.ren[i]? ≠some (some (some l)):=fun i hi=>hnd ((memD l).2 (.inl (mem_names hi)))
                            refine⟨?_,?_⟩
                            · rw [P.old l (by rw [h1Tl];exact hl) (fun i _=>hnp i),←hh1T]
                              split
                              · rfl
                              · rename_i hb0
                                exact goneAll_get m _ _ (fun h8=>hnd ((memD l).2 (.inr ⟨by simpa using hb0,by
                                  obtain⟨p,hp,rfl⟩:=List.mem_map.1 h8
                                  exact⟨p.2,hp⟩⟩)))
                            · rw [z6 l (fun i hi hh=>by
                                rcases(nmP i hi).2 with h4 | ⟨h4,_⟩
                                · rw [hh]at h4;exact hnp i h4
                                · omega),goneL_out hnd]
                      · (subst hM;exact hfin.elim)
                    · (subst hM;exact hfin.elim)
                  · (subst hM;exact hfin.elim)
                · (subst hM;exact hfin.elim)
              · (subst hM;exact hfin.elim)
            intro ex a' w' he
            cases ex with
            | outgrown=>exact he.elim
            | panic _=>exact he.elim
            | goto _=>exact he.elim
            | normal=>obtain⟨c3,s3',s3,g1,g2,g3,g4,_,g6⟩:=he;exact fin g1 g2 g3 g4 g6
            | ret=>obtain⟨c3,s3',s3,g1,g2,g3,g4,_,g6⟩:=he;exact fin g1 g2 g3 g4 g6
            | exit i=>obtain⟨c3,s3',s3,g1,g2,g3,g4,_,g6⟩:=he;exact g6.elim
          · cases hcall
        · cases hcall
      · cases hcall
    · cases hcall
end
end
end Go.TX
namespace Go.TX
open Go Go.AE
variable [LitK]
structure FM {ρ:Type} (m:(ρ→Prop)→Prop):Prop where
  mono:∀Q Q':ρ→Prop,(∀y,Q y→Q' y)→m Q→m Q'
  one:∀Q:ρ→Prop,m Q→∃y,Q y∧m (fun z=>z=y)
section
variable {n:Nat} {ρ:Type}
theorem FM.fail:FM (fun _:ρ→Prop=>False):=⟨fun _ _ _ h=>h,fun _ h=>h.elim⟩
theorem FM.ret (t:ρ):FM (fun Q:ρ→Prop=>Q t):=⟨fun _ _ h hq=>h _ hq,fun _ hq=>⟨t,hq,rfl⟩⟩
theorem FM.bind {α:Type} {m:(α→Prop)→Prop} {k:α→(ρ→Prop)→Prop} (hm:FM m) (hk:∀t,FM (k t)):FM (fun Q=>m fun t=>k t Q):=
  ⟨fun Q Q' h hq=>hm.mono _ _ (fun t ht=>(hk t).mono _ _ h ht) hq,fun Q hq=>by
    obtain⟨t,h1,h2⟩:=hm.one _ hq
    obtain⟨y,h3,h4⟩:=(hk t).one _ h1
    exact⟨y,h3,hm.mono _ _ (fun t' e=>by subst e;exact h4) h2⟩⟩
theorem FM.bindS {α:Type} {m:(α ⊕ ρ→Prop)→Prop} {k:α→(ρ→Prop)→Prop} (hm:FM m) (hk:∀t,FM (k t)):FM (fun Q=>m (sumQ k Q)):=
  ⟨fun Q Q' h hq=>hm.mono _ _ (fun t ht=>by
    cases t with
    | inl x=>exact(hk x).mono _ _ h ht
    | inr r=>exact h _ ht) hq,fun Q hq=>by
    obtain⟨t,h1,h2⟩:=hm.one _ hq
    cases t with
    | inl x=>
      obtain⟨y,h3,h4⟩:=(hk x).one _ h1
      exact⟨y,h3,hm.mono _ _ (fun t' e=>by subst e;exact h4) h2⟩
    | inr r=>exact⟨r,h1,hm.mono _ _ (fun t' e=>by subst e;rfl) h2⟩⟩
theorem FM.itW {α:Type} {f:α→(α ⊕ ρ→Prop)→Prop} (hf:∀x,FM (f x)):∀(N:Nat) (x:α),FM (TX.itW N f x)
  | 0,x=>by
    have e:TX.itW 0 f x=fun _=>False:=by funext Q;rw [TX.itW]
    rw [e];exact .fail
  | N+1,x=>by
    have e:TX.itW (N+1) f x=fun Q=>f x (sumQ (TX.itW N f) Q):=by funext Q;rw [TX.itW]
    rw [e];exact .bindS (hf x) (FM.itW hf N)
theorem sumQ_mono {α:Type} {k k':α→(ρ→Prop)→Prop} {Q Q':ρ→Prop} (hk:∀x,k x Q→k' x Q') (hq:∀y,Q y→Q' y):∀s,sumQ k Q s→sumQ k' Q' s
  | .inl x=>hk x
  | .inr r=>hq r
theorem FM.iter {α:Type} {f:α→(α ⊕ ρ→Prop)→Prop} (hf:∀x,FM (f x)) (x:α):FM (fun Q=>wIter f x Q):=by
  refine⟨fun Q Q' h ⟨I,μ,h0,hs⟩=>⟨I,μ,h0,fun y hy=>(hf y).mono _ _ (sumQ_mono (fun _ h=>h) h) (hs y hy)⟩,fun Q ⟨I,μ,h0,hs⟩=> ?_⟩
  have key:∀(n:Nat) (y:α),μ y<n→I y→∃r,Q r∧∃N,TX.itW N f y (fun z=>z=r):=by
    intro n
    induction n with
    | zero=>intro y h;omega
    | succ n ih=>
      intro y hy hI
      obtain⟨s,h1,h2⟩:=(hf y).one _ (hs y hI)
      cases s with
      | inl z=>
        obtain⟨r,q1,N,q2⟩:=ih z (by have:=h1.2;omega) h1.1
        refine⟨r,q1,N+1,?_⟩
        rw [TX.itW]
        exact(hf y).mono _ _ (fun s e=>by subst e;exact q2) h2
      | inr r=>
        refine⟨r,h1,1,?_⟩
        rw [TX.itW]
        exact(hf y).mono _ _ (fun s e=>by subst e;rfl) h2
  obtain⟨r,q1,N,q2⟩:=key _ x (Nat.lt_succ_self _) h0
  refine⟨r,q1,?_⟩
  have least:∀y,(∃N,TX.itW N f y (fun z=>z=r))→∃N,TX.itW N f y (fun z=>z=r)∧∀M,M<N→¬TX.itW M f y (fun z=>z=r):=by
    intro y ⟨N,hN⟩
    induction N using Nat.strongRecOn with
    | ind N ih=>
      by_cases h:∃M,M<N∧TX.itW M f y (fun z=>z=r)
      · obtain⟨M,h1,h2⟩:=h;exact ih M h1 h2
      · exact⟨N,hN,fun M hM hh=>h ⟨M,hM,hh⟩⟩
  have pick:∀y,∃N,(∃N,TX.itW N f y (fun z=>z=r))→TX.itW N f y (fun z=>z=r)∧∀M,M<N→¬TX.itW M f y (fun z=>z=r):=fun y=>by
    by_cases h:∃N,TX.itW N f y (fun z=>z=r)
    · obtain⟨N,hN⟩:=least y h;exact⟨N,fun _=>hN⟩
    · exact⟨0,fun hh=>absurd hh h⟩
  obtain⟨ν,hν⟩:=Classical.axiomOfChoice pick
  refine⟨fun y=>∃N,TX.itW N f y (fun z=>z=r),ν,⟨N,q2⟩,fun y hy=> ?_⟩
  obtain⟨h1,h2⟩:=hν y hy
  cases hn:ν y with
  | zero=>rw [hn]at h1;rw [TX.itW]at h1;exact h1.elim
  | succ k=>
    rw [hn]at h1
    rw [TX.itW]at h1
    refine(hf y).mono _ _ (sumQ_mono (fun z hz=> ?_) (fun _ h=>h)) h1
    refine⟨⟨k,hz⟩,?_⟩
    have hz':=hν z ⟨k,hz⟩
    by_cases hlt:ν z<k+1
    · exact hlt
    · exact absurd hz (hz'.2 k (by omega))
theorem FM.chk {b:Bool} {m:(ρ→Prop)→Prop} (h:FM m):FM (fun Q=>b=true∧m Q):=
  ⟨fun _ _ hq ⟨a,c⟩=>⟨a,h.mono _ _ hq c⟩,fun _ ⟨a,c⟩=>let⟨y,q1,q2⟩:=h.one _ c;⟨y,q1,a,q2⟩⟩
theorem FM.chks {m:(ρ→Prop)→Prop} (h:FM m):∀(ps:List Bool),FM (TX.chks (std n) ps m)
  | []=>h
  | _::ps=> .chk (FM.chks h ps)
theorem FM.cond {b:Bool} {x y:(ρ→Prop)→Prop} (hx:FM x) (hy:FM y):FM (fun Q=>(b=true→x Q)∧(b=false→y Q)):=
  ⟨fun _ _ hq ⟨a,c⟩=>⟨fun h=>hx.mono _ _ hq (a h),fun h=>hy.mono _ _ hq (c h)⟩,fun _ ⟨a,c⟩=>by
    cases b with
    | true=>obtain⟨y,q1,q2⟩:=hx.one _ (a rfl);exact⟨y,q1,fun _=>q2,fun h=>by cases h⟩
    | false=>obtain⟨y,q1,q2⟩:=hy.one _ (c rfl);exact⟨y,q1,fun h=>(by cases h),fun _=>q2⟩⟩
theorem FM.bind' {ts:List LTy} {m:(TupS ts→Prop)→Prop} {k:TupS ts→(ρ→Prop)→Prop} (hm:FM m) (hk:∀t,FM (k t)):FM ((std n).bind ts m k):=by
  have:=FM.bind hm hk
  exact this
theorem FM.bindS' {ts:List LTy} {m:(TupS ts ⊕ ρ→Prop)→Prop} {k:TupS ts→(ρ→Prop)→Prop} (hm:FM m) (hk:∀t,FM (k t)):FM ((std n).bindS ts m k):=by
  have:=FM.bindS hm hk
  exact this
theorem FM.inl' {ts:List LTy} (t:TupS ts):FM ((std n).inl (ρ:=ρ) ts t):=FM.ret _
theorem FM.inr' {ts:List LTy} {m:(ρ→Prop)→Prop} (h:FM m):FM ((std n).inr (ρ:=ρ) ts m):=by
  have:=FM.bind (k:=fun(r:ρ) (Q:TupS ts ⊕ ρ→Prop)=>Q (Sum.inr r)) h fun r=>FM.ret _
  exact this
theorem FM.iter' {ts:List LTy} {f:TupS ts→(TupS ts ⊕ ρ→Prop)→Prop} (hf:∀x,FM (f x)) (x:TupS ts):FM ((std n).iter ts f x):=FM.iter hf x
theorem FM.ret' {ts:List LTy} (t:TupS ts):FM ((std n).ret ts t):=FM.ret t
theorem FM.use {cr:CR (std n)} {K:SVal→List SObj→(ρ→Prop)→Prop} (h:∀v k,FM (K v k)):FM (useCR (std n) cr K):=by
  obtain⟨ck,ts,y,k,td,p⟩:=cr
  unfold useCR
  cases ts with
  | nil => simp only; split
           · exact h _ _
           · exact .fail
  | cons a b=>
    simp only
    split
    · exact h _ _
    · exact .fail
theorem FM.region {X:XT} {C:Calls stdCar} {ops:List Oper} {K:RSt (std n)→(ρ→Prop)→Prop} (hK:∀s,FM (K s)):∀(rest:List Oper) (s:RSt (std n)),FM (regionX (std n) X C ops rest K s)
  | [],s=>by unfold regionX;exact hK s
  | o::rest,s=>by
    have ih:=FM.region (X:=X) (C:=C) (ops:=ops) hK rest
    unfold regionX
    split
    · split
      · split
        · split
          · refine FM.chks ?_ _
            rw [name_ok];exact ih _
          · exact .fail
        · split
          · exact FM.chks (FM.use fun v k=>ih _) _
          · exact .fail
      · split
        · split
          · exact ih _
          · split
            · split
              · exact FM.chks (ih _) _
              · exact .fail
            · split
              · split
                · exact FM.chks (FM.use fun v k=>ih _) _
                · exact .cond (FM.chks (FM.use fun v k=>ih _) _) (ih _)
              · exact .fail
          · exact .fail
        · exact .fail
    · exact .fail
theorem FM.draw {X:XT} {C:Calls stdCar} {ops:List Oper} {K:RSt (std n)→(ρ→Prop)→Prop} (hK:∀s,FM (K s)):∀(rest:List DEnt) (hs:List (Nat×List Nat)) (s:RSt (std n)),FM (drawX (std n) X C ops rest hs K s)
  | [],hs,s=>by unfold drawX;exact hK s
  | (i,rs,cs)::rest,hs,s=>by
    have ih:=FM.draw (X:=X) (C:=C) (ops:=ops) hK rest
    unfold drawX
    split
    · exact .fail
    · split
      · simp only
        split
        · split
          · exact .fail
          · split
            · split
              · refine FM.chks ?_ _
                rw [name_ok];exact ih _ _
              · exact .fail
            · split
              · split
                · exact ih _ _
                · split
                  · exact FM.chks (ih _ _) _
                  · exact .fail
                · exact .fail
              · exact .fail
        · split
          · exact FM.chks (ih _ _) _
          · exact .fail
        · split
          · exact FM.chks (ih _ _) _
          · exact .fail
        · split
          · split
            · split
              · exact FM.chks (FM.use fun v k=>ih _ _) _
              · exact .fail
            · exact .fail
          · split
            · split
              · exact ih _ _
              · split
                · split
                  · split
                    · exact FM.chks (FM.use fun v k=>ih _ _) _
                    · exact .cond (FM.chks (FM.use fun v k=>ih _ _) _) (ih _ _)
                  · exact .fail
                · exact .fail
              · exact .fail
            · exact .fail
      · exact .fail
theorem FM.cut {k:Nat} {sk:Skel} {pl:Bool} {s:RSt (std n)} {K:Exit→RSt (std n)→(ρ→Prop)→Prop} (hK:∀e s,FM (K e s)) {W: {σ:Type}→(Exit→RSt (std n)→(σ→Prop)→Prop)→(σ→Prop)→Prop}
    (hW:∀ {σ:Type} {K':Exit→RSt (std n)→(σ→Prop)→Prop},(∀e s,FM (K' e s))→FM (W K')):FM (cutX (std n) k sk pl s K W):=by
  unfold cutX
  split
  · refine FM.bind' (hW fun e s=> ?_) (fun t=>hK _ _)
    split
    · split
      · exact FM.chks (FM.ret' _) _
      · exact .fail
    · exact .fail
  · refine FM.bindS' (hW fun e s=> ?_) (fun t=>hK _ _)
    split
    · split
      · exact FM.chks (FM.inl' _) _
      · exact .fail
    · exact FM.inr' (hK _ _)
theorem FM.reg {X:XT} {C:Calls stdCar} {ord:Nat→List DEnt} {chk:Nat→Array Oper→Nat→Bool} {id:Nat} {ops:Array Oper} {draw:Bool} {s:RSt (std n)} {K:Exit→RSt (std n)→(ρ→Prop)→Prop} (hK:∀e s,FM (K e s)):
    FM ((if draw then(if chk id ops s.m then drawX (std n) X C ops.toList (ord id) [] (fun s=>K .normal s) s else(std n).fail)else regionX (std n) X C ops.toList ops.toList (fun s=>K .normal s) s:(std n).M ρ)):=by
  split
  · split
    · exact FM.draw (fun s=>hK _ s) _ _ _
    · exact .fail
  · exact FM.region (fun s=>hK _ s) _ _
end
theorem FM.exec {n:Nat} {X:XT} {C:Calls stdCar} {ord:Nat→List DEnt} {chk:Nat→Array Oper→Nat→Bool} {k:Nat}:∀(code:Code) {ρ:Type} (an:Ann) (s:RSt (std n)) (K:Exit→RSt (std n)→(ρ→Prop)→Prop),(∀e s,FM (K e s))→FM (execX (std n) X C ord chk k an code s K)
  | .skip,ρ,an,s,K,hK=>by cases an<;>exact hK _ _
  | .region id ops draw,ρ,an,s,K,hK=>by
    simp only [execX]
    split
    · exact FM.cut hK fun hK'=>FM.reg hK'
    · exact FM.reg hK
  | .seq x y,ρ,an,s,K,hK=>by
    have main:∀a1 a2 (K1:Exit→RSt (std n)→(ρ→Prop)→Prop),(∀s',K1 .normal s'=execX (std n) X C ord chk k a2 y s' K)→(∀e s',e≠ .normal→K1 e s'=K e s')→FM (execX (std n) X C ord chk k a1 x s K1):=by
      intro a1 a2 K1 h1 h2
      refine FM.exec x a1 s K1 fun e s'=> ?_
      by_cases he:e= .normal
      · subst he;rw [h1];exact FM.exec y a2 s' K hK
      · rw [h2 e s' he];exact hK _ _
    cases an with
    | seq a1 a2=>rw [execX];exact main a1 a2 _ (fun _=>rfl) (fun e s' he=>by cases e<;>first | rfl | exact absurd rfl he)
    | u=>rw [execX];exact main .u .u _ (fun _=>rfl) (fun e s' he=>by cases e<;>first | rfl | exact absurd rfl he)
    | _=>simp only [execX];exact .fail
  | .cond cd x y,ρ,an,s,K,hK=>by
    simp only [execX]
    split
    · split
      · exact .cond (FM.exec x _ s K hK) (FM.exec y _ s K hK)
      · exact .cond (FM.exec x _ s K hK) (FM.exec y _ s K hK)
      · exact FM.cut hK fun hK'=> .cond (FM.exec x _ s _ hK') (FM.exec y _ s _ hK')
      · exact .fail
    · exact .fail
  | .block id b,ρ,an,s,K,hK=>by
    have main:∀ {σ:Type} {K':Exit→RSt (std n)→(σ→Prop)→Prop},(∀e s,FM (K' e s))→∀a1 (K1:Exit→RSt (std n)→(σ→Prop)→Prop),(∀e s',K1 e s'=K' e s'∨K1 e s'=K' .normal s')→FM (execX (std n) X C ord chk k a1 b s K1):=by
      intro σ K' hK' a1 K1 h1
      refine FM.exec b a1 s K1 fun e s'=> ?_
      rcases h1 e s' with h | h<;>rw [h]<;>exact hK' _ _
    have alt:∀ {σ:Type} {K':Exit→RSt (std n)→(σ→Prop)→Prop} (e:Exit) (s':RSt (std n)),(match e with | .exit i=>if i==id then K' .normal s' else K' (.exit i) s' | e=>K' e s':(std n).M σ)=K' e s'∨(match e with | .exit i=>if i==id then K' .normal s' else K' (.exit i) s' | e=>K' e s':(std n).M σ)=K' .normal s':=by
      intro σ K' e s'
      cases e with
      | exit i => simp only; split
                  · exact .inr rfl
                  · exact .inl rfl
      | _=>exact .inl rfl
    simp only [execX]
    split
    · exact main hK _ _ alt
    · exact main hK _ _ alt
    · exact FM.cut hK fun hK'=>main hK' _ _ alt
    · exact .fail
  | .loop b,ρ,an,s,K,hK=>by
    cases an with
    | loop sk a1=>
      rw [execX]
      split
      · refine FM.chks (FM.iter' (fun x=>FM.exec b a1 _ _ fun e s'=> ?_) _) _
        split
        · split
          · exact FM.chks (FM.inl' _) _
          · exact .fail
        · exact FM.inr' (hK _ _)
      · exact .fail
    | _=>simp only [execX];exact .fail
  | .exit i,ρ,an,s,K,hK=>by cases an<;>exact hK _ _
  | .ret,ρ,an,s,K,hK=>by cases an<;>exact hK _ _
  | .rangeFunc ..,ρ,an,s,K,hK=>by cases an<;>(simp only [execX];exact .fail)
  | .scope _,ρ,an,s,K,hK=>by cases an<;>(simp only [execX];exact .fail)
  | .label _,ρ,an,s,K,hK=>by cases an<;>(simp only [execX];exact .fail)
  | .goto _,ρ,an,s,K,hK=>by cases an<;>(simp only [execX];exact .fail)
  | .refuse _,ρ,an,s,K,hK=>by cases an<;>(simp only [execX];exact .fail)
theorem FM.run {n:Nat} {X:XT} {C:Calls stdCar} {ord:Nat→List DEnt} {chk:Nat→Array Oper→Nat→Bool} {an:Ann} {sg:Sig} {fn:Func} {code:Code} (x:TupS sg.inp):FM (runX (std n) X C ord chk an sg fn code x):=by
  unfold runX
  split
  · exact .fail
  · split
    · split
      · refine FM.exec code an _ _ fun e s=> ?_
        have he:FM (endX (std n) X sg fn s):=by
          unfold endX
          split
          · split
            · split
              · split
                · split
                  · exact FM.chks (FM.ret' _) _
                  · exact .fail
                · exact .fail
              · exact .fail
            · exact .fail
          · exact .fail
        split
        · exact he
        · exact he
        · exact .fail
      · exact .fail
    · exact .fail
def ofL (C:Car) (l:List (FuncId×Sigma (Ct C))):Calls C:=fun f=>(l.filter fun p=>p.1==f).map (·.2)
def ordL (l:List (Nat×List DEnt)) (i:Nat):List DEnt:=match l.find? fun p=>p.1==i with | some p=>p.2 | none=> []
def chkL (E:Tab) (l:List (Nat×List DEnt)) (id:Nat) (ops:Array Oper) (m:Nat):Bool:=chkDraw ops.toList (ordL l id)&&allocsB E m ops.toList
theorem chkL_ok {E:Tab} {l:List (Nat×List DEnt)}:∀id ops m,chkL E l id ops m=true→Static E (ordL l) id ops m:=fun _ _ _ h=>h
theorem ofL_ok {E:Tab} {l:List (FuncId×Sigma (Ct stdCar))} (h:∀p∈l,TransOK E p.1 (ctTrans p.2.2)):CtabOK E (tabOf (ofL stdCar l)):=by
  intro f R hR
  unfold tabOf at hR
  split at hR
  · cases hR
  · cases hR
    rename_i hne
    have hall:∀ct∈ofL stdCar l f,TransOK E f (ctTrans ct.2):=fun ct hct=>by
      obtain⟨p,hp,rfl⟩:=List.mem_map.1 hct
      obtain⟨hp1,hp2⟩:=List.mem_filter.1 hp
      have:p.1=f:=by simpa using hp2
      rw [←this];exact h p hp1
    obtain⟨ct,hct⟩:=List.exists_mem_of_ne_nil _ hne
    exact⟨(hall ct hct).enters,fun args h n K ⟨ct,hct,hk⟩=>(hall ct hct).calls args h n K hk⟩
theorem tup_default:∀(ts:List LTy),Nonempty (TupS ts)
  | []=>⟨()⟩
  | t::r=>by
    obtain⟨y⟩:=tup_default r
    have x:Nonempty (LT stdCar t):=by
      cases t with
      | i=>exact⟨(0:Int)⟩
      | b=>exact⟨false⟩
      | s=>exact⟨(default:ByteArray)⟩
      | l c=>exact⟨([]:List c.den)⟩
      | x c=>exact⟨(default:c.den)⟩
    obtain⟨x⟩:=x
    exact⟨(x,y)⟩
noncomputable def mkCt {s:Sig} (F:TupS s.inp→(TupS s.out→Prop)→Prop) (P:TupS s.inp→Prop) (Q:TupS s.inp→TupS s.out→Prop):Ct stdCar s:=
  { pre:=fun x=> @decide (P x) (Classical.propDecidable _)
    fn:=fun x=> @Classical.epsilon _ (tup_default _) fun y=>Q x y∧F x (fun z=>z=y)}
def Sp {s:Sig} (c:Ct stdCar s) (P:TupS s.inp→Prop) (Q:TupS s.inp→TupS s.out→Prop):Prop:=∀x,P x→c.pre x=true∧Q x (c.fn x)
theorem mkCt_ok {s:Sig} {F:TupS s.inp→(TupS s.out→Prop)→Prop} {P:TupS s.inp→Prop} {Q:TupS s.inp→TupS s.out→Prop} (hF:∀x,FM (F x)) (h:∀x,P x→F x (Q x)):
    Sp (mkCt F P Q) P Q∧∀x,(mkCt F P Q).pre x=true→F x (fun y=>y=(mkCt F P Q).fn x):=by
  have key:∀x,P x→Q x ((mkCt F P Q).fn x)∧F x (fun y=>y=(mkCt F P Q).fn x):=fun x hx=>by
    obtain⟨y,h1,h2⟩:=(hF x).one _ (h x hx)
    exact @Classical.epsilon_spec _ (fun y=>Q x y∧F x (fun z=>z=y)) ⟨y,h1,h2⟩
  refine⟨fun x hx=>⟨?_,(key x hx).1⟩,fun x hx=>(key x ?_).2⟩
  · simp only [mkCt];exact @decide_eq_true _ (Classical.propDecidable _) hx
  · simp only [mkCt]at hx;exact @of_decide_eq_true _ (Classical.propDecidable _) hx
section
variable {X:XT} {E:Tab} (hE:TabOK E) (hX:XOK X E) (hm:E.P.follows .mixedOrders=true)
include hE hX hm
theorem contract {l:List (FuncId×Sigma (Ct stdCar))} (hl:∀p∈l,TransOK E p.1 (ctTrans p.2.2)) {ord:List (Nat×List DEnt)} {f:FuncId} {fn:Func} {code:Code} (hf:E.P.funcs[f]? =some fn) (hb:fn.body=some code) (hent:Enters E.P f) {sg:Sig} {an:Ann}
    {F:TupS sg.inp→(TupS sg.out→Prop)→Prop} (hrun:∀x,runX (std 0) X (ofL stdCar l) (ordL ord) (chkL E ord) an sg fn code x=F x) {P:TupS sg.inp→Prop} {Q:TupS sg.inp→TupS sg.out→Prop} (h:∀x,P x→F x (Q x)):
    Sp (mkCt F P Q) P Q∧TransOK E f (ctTrans (mkCt F P Q)):=by
  have hFM:∀x,FM (F x):=fun x=>by rw [←hrun x];exact FM.run x
  obtain⟨h1,h2⟩:=mkCt_ok hFM h
  exact⟨h1,fn_ok hE hX (ofL_ok hl) hm chkL_ok hf hb hent (an:=an) (fun x hx=>by rw [hrun x];exact h2 x hx)⟩
end
end Go.TX
