/- Part 3 of a proof: what the last part needs. No condition. -/
import Derived.Test.YthiiicchooeapaaGreatZb
set_option maxHeartbeats 1000000
set_option linter.all false
set_option linter.unusedSectionVars false
set_option linter.unusedVariables false
set_option linter.unusedSimpArgs false
namespace Go.TX
open Go Go.AE
variable [aQ]
section
variable {n:Nat}
theorem I9{s:RSt (std n)}:∀ {l:List (Nat×SkV)} {e0 e:ES (std n)},vQ (std n) s.t s.h l e0=some e->
  ∃vs,F2 (λi v=>eP (std n) s.t i=some ⟨none,v⟩) (l.map (·.1)) vs/\qO (std n) s.h (l.map (·.2)) vs e0=some e
 | [],e0,e,h=>by simp only [vQ,Option.some.injEq]at h;subst h;exact⟨[],.nil,rfl⟩
 | p::l,e0,e,h=>by
  simp only [vQ]at h;split at h
  .rename_i v hl;split at h
   .rename_i e1 h1;obtain⟨vs,q1,q2⟩:=I9 (l:=l) h;exact⟨v::vs,.cons hl q1,by grind [qO]⟩
   .cases h
  .cases h
theorem Kj{k:Nat}{os:List SkO}{i:Nat}(hi:i<k)(hik:i<os.length):(es0 (std n) k os).ren[i]? =some (if tN os[i]? then none else some (some i)):=by
 have hb:Nat.blt i k=true:=by simpa using hi
 grind [es0,List.getElem?_range,tN]
theorem Kk(k:Nat)(os:List SkO):(es0 (std n) k os).ren.length=os.length:=by simp [es0]
theorem Kl{c:Ctx}{w:World}{N:NM}{us:List Value}{vs:List SVal}(h:F2 (WV c w N) us vs):∃pvs,F2 (bg c w) us pvs/\F2 (PVR N) pvs vs:=by
 induction h with
 | nil=>exact⟨[],.nil,.nil⟩
 | cons h1 _ ih=>
  obtain⟨p,a,b⟩:=h1;obtain⟨pvs,q1,q2⟩:=ih;exact⟨p::pvs,.cons a q1,.cons b q2⟩
theorem Ab{N:NM}:∀ {ids:List Nat} {vs:List SVal} {pvs:List PV},F2 (PVR N) pvs vs->∀i sv,eP (std n) (ids.zip (vs.map λv=>(⟨none,v⟩:SV (std n)))) i=some sv->sv.tag=none/\∃pv,aA (ids.zip (pvs.map some)) i=some pv/\PVR N pv sv.v
 | [],vs,pvs,_,i,sv,h=>by simp [eP]at h
 | j::ids,[],pvs,hF,i,sv,h=>by simp [eP]at h
 | j::ids,v::vs,pvs,hF,i,sv,h=>by
  cases hF with | cons h1 h2=>
  simp only [List.map_cons,List.zip_cons_cons,qj]at h ⊢;simp only [aA];split at h
  .grind
  .rename_i e;rw [if_neg e];exact Ab h2 i sv h
theorem Ac{c:Ctx}{w:World}{a:Act}:∀ {ids:List Nat} {us:List Value} {pvs:List PV},F2 (bg c w) us pvs->F2 (λi u=>a.tmps[i]? =some u) ids us->∀i v,aA (ids.zip (pvs.map some)) i=some v->∃u,a.tmps[i]? =some u/\bg c w u v
 | [],us,pvs,_,_,i,v,h=>by simp [aA]at h
 | j::ids,us,pvs,hF,hI,i,v,h=>by
  cases hI with | cons h3 h4=>
  cases hF with | cons h1 h2=>
  simp only [List.map_cons,List.zip_cons_cons,aA]at h;split at h
  .simp_all
  .exact Ac h2 h4 i v h
theorem Fj{E:Tab}{s':St}{s:RSt (std n)}(S:SR s' s){c:Ctx}{w:World}{a:Act}(A:jR E s' c w a):∀ {ids:List Nat} {vs:List SVal},F2 (λi v=>eP (std n) s.t i=some ⟨none,v⟩) ids vs->∃us,F2 (λi u=>a.tmps[i]? =some u) ids us/\F2 (WV c w (nmh s.h)) us vs
 | [],_,h=>by cases h;exact⟨[],.nil,.nil⟩
 | i::ids,_,.cons h1 h2=>by
  obtain⟨us,q1,q2⟩:=Fj S A h2;obtain⟨pv,p1,p2⟩:=S.val i _ h1;obtain⟨u,hu,hr⟩:=A.abs.slot i pv p1;exact⟨u::us,.cons hu q1,.cons ⟨pv,hr,p2⟩ q2⟩
def νX(e:ES (std n))(h:List aU)(c:Ctx)(i:Nat):Option (Nat×Nat):=match e.ren[i]? with | some (some (some l))=>E9 (trK e h i l) (c.ν l) | some (some none)=>none | _=>c.ν i
theorem ND(w:World)(K:Bool->Nat->Prop)(ν:Nat->Option (Nat×Nat))(k:Nat)(hlow:∀f b,K f b->b<w.heap.size)(hsub:∀b,K true b->K false b):bC {K:=K,ν:=ν,n:=k} w []:=
 ⟨λl o h=>by simp [AE.look]at h,λl o l' o' b h=>by simp [AE.look]at h,λf b ⟨l,o,hl,_⟩=>by simp [AE.look]at hl,hlow,hsub⟩
theorem Xu:gy [] []:=⟨λl o h=>by simp at h,λ_ _=>rfl⟩
theorem DW{E:Tab}{k:Nat}{sk:j6}{s:RSt (std n)}{ck:List Bool}{x:iR sk.tys}(hx:Bu (std n) k sk s=some (ck,x))(hck:∀b∈ck,b=true){s':St}(S:SR s' s){c:Ctx}{w:World}{a:Act}(A:jR E s' c w a)
  {c0:Ctx} {w0:World} {h0:Heap} (hc0:c0.n=k) (g:Grow c0 w0 h0 c w s'.h) {m:Nat} (hm:s.m=m):
  ∃c2 s2',Grow c0 w0 h0 c2 w s2'.h/\jR E s2' c2 w a/\SR s2' (qd (std n) sk m x)/\Keep k s.h (qd (std n) sk m x).h/\(qd (std n) sk m x).m=m:=by
 unfold Bu at hx;split at hx
 .cases hx
 rename_i hkl;have hkl:k<=sk.objs.length:=by simp_all
 split at hx
 .rename_i e1 he1;split at hx
  .rename_i e he;split at hx
   .rename_i kR;split at hx
    .rename_i x' hx';cases hx;have kR:=Kc kR;obtain⟨vs,v1,v2⟩:=I9 he1;obtain⟨us,u1,u2⟩:=Fj S A v1;obtain⟨new1,vs2,a1,a2,a3,a4⟩:=vV (λi=>i) v2;obtain⟨new2,os2,b1,b2,b3,b4,b5⟩:=sH (λi=>i) (λ_=>(.gone .i64 0:aU)) (λ_=>⟨.i64,0,rfl⟩) he;have hlv:e.lv.reverse=new1++new2:=by grind [es0]
     have hun:=unpack_pack hx';rw [hlv]at hun;have hrl:e.ren.length=sk.objs.length:=by rw [b2.len,a2.len,Kk]
     have hof:∀(j:Nat) (kk:SkO),sk.objs[j]? =some kk->∃o2,os2[j]? =some o2/\OF e s.h (λi=>i) j kk (.gone .i64 0) o2:=λj kk hj=>by
      obtain⟨o2,q1,q2⟩:=b5 e (.refl _) j kk hj;simp_all
     have rX:qd (std n) sk m x={t:=(sk.slots.map (·.1)).zip (vs2.map λv=>(⟨none,v⟩:SV (std n))),gs:=[],h:=os2,m:=m}:=by
      unfold qd;rw [hun,a3];simp only;have:=b3 [];simp_all
     have H:=A.abs.heap
     obtain⟨o',m1,m2,m3,m4,m5,_⟩:=yE (ks:=sk.objs) (nm:=λi=>i) (old:=λ_=>(.gone .i64 0:aU)) H S.heap hck kR hrl b4 hof (cb:={K:=λ_ _=>False,ν:=νX e s.h c,n:=k}) (hb':=[])
      (ND w _ _ _ (λ_ _ h=>h.elim) (λ_ h=>h)) false (λh=>by cases h) (ν2:=νX e s.h c) (n2:=sk.objs.length) hkl (λ_ _=>rfl) (λi hi=>hi) (λi j _ _ h=>h)
      (λi l hi=>by grind [νX]) (λi hi=>by grind [νX]) (h2:=os2) (λi _=>rfl)
      (λl o hl ho=>by grind) (λ_ _=>rfl)
      (λb ⟨l,o,hl,_⟩ _=>by simp [AE.look]at hl) (λf b h _=>h) (λf b ⟨l,o,hl,_⟩ _=>by simp [AE.look]at hl)
     have hmu:∀l,l<k->νX e s.h c l=c.ν l:=λl hl=>by
      have h0:=Kj (n:=n) hl (Nat.lt_of_lt_of_le hl hkl) (os:=sk.objs);unfold νX;by_cases hg:tN sk.objs[l]? =true
      .have hgo:sk.objs[l]? =some .gone:=by grind [tN]
       cases hr:e.ren[l]? with
       | none=>rfl
       | some q=>
        cases q with
        | none=>rfl
        | some v=>exact absurd hgo (kR.gone hr)
      .rw [if_neg hg]at h0;have:=b2.ren l _ (a2.ren l _ h0);rw [this];have ht:kV (std n) e l=none:=by rw [b2.tr l _ (a2.ren l _ h0),a2.tr l _ h0];rfl
       show E9 (trK e s.h l l) (c.ν l)=c.ν l;rw [qh ht,l8]
     have hgr:Grow c0 w0 h0 {K:=λf b=>False\/KX e c false f b,ν:=νX e s.h c,n:=sk.objs.length} w (uI (λi=>i) o' (List.range sk.objs.length) []):=by
      refine⟨⟨λf b hb=> .inr (.inl (by simpa using g.le.K f b hb)),by simp_all,λl hl=> ?_⟩,g.size,g.stays,g.kept,λf b hb=> ?_,λb hb=> ?_,g.os,g.tape,g.output⟩
      .show νX e s.h c l=c0.ν l;rw [hmu l ah];exact g.le.ν l hl
      .rcases hb with hb | hb | ⟨l,f',q1,q2,q3⟩
       .exact hb.elim
       .exact g.uT f b (by simpa using hb)
       .obtain⟨_,g',cc,xs,hl⟩:=kR.fro l f' q1;obtain⟨o2,ho2,hO⟩:=S.heap.old l _ hl;cases hO with | rows _=>
        exact .inr ((g.oV b ⟨l,_,ho2,trivial,q2⟩).elim .inr .inl)
      .rcases m4 b hb with⟨l,o,hl,_⟩ | ⟨i,lq,q,_,q1,q2,q3⟩
       .simp [AE.look]at hl
       .exact g.oV b ⟨lq,q,q1,q2,q3⟩
     obtain⟨pvs,p1,p2⟩:=Kl (a4 H S.heap (b2) hck m3 (λh=>by cases h) u2);refine⟨_,{t:=(sk.slots.map (·.1)).zip (pvs.map some),h:=uI (λi=>i) o' (List.range sk.objs.length) [],n:=sk.objs.length,k:=0,m:=m},hgr,⟨⟨λi v hv=>Ac p1 u1 i v hv,m1,?_⟩,rfl,A.defers,by rw [A.size,S.m,hm]⟩,?_,?_,by rw [rX]⟩
     .intro gg d hd;obtain⟨q1,u,q2,q3⟩:=A.abs.glob gg d hd;exact⟨.inr (.inl (by simpa using q1)),u,q2,q3.mono' λb hb=> .inr (.inl (by simpa using hb))⟩
     .rw [rX];refine⟨m2,by simp [nm,b4],rfl,λi sv hi=> ?_,λt e he=>by simp at he⟩
      grind [Ab,yF]
     .rw [rX];intro i hi;have hik:i<sk.objs.length:=Nat.lt_of_lt_of_le hi hkl;have hsk:sk.objs[i]? =some sk.objs[i]:=List.getElem?_eq_getElem hik;obtain⟨o2,q1,q2⟩:=hof i _ hsk;have h0:=Kj (n:=n) hi hik;by_cases hg:sk.objs[i]= .gone
      .have:Gone os2 i:=⟨.i64,0,by rw [q1,q2.gone hg]⟩;simp_all
      .have hig:tN sk.objs[i]? =false:=by grind [tN,absurd,Option.some.inj]
       rw [hig]at h0;have h0:(es0 (std n) k sk.objs).ren[i]? =some (some (some i)):=by simpa using h0
       have hre:=b2.ren i _ (a2.ren i _ h0);have htr:kV (std n) e i=none:=by rw [b2.tr i _ (a2.ren i _ h0),a2.tr i _ h0];rfl
       refine⟨λ⟨cc,nn,hgo⟩=> ?_,λx hx=> .inr ?_⟩
       .obtain⟨oo,r1,r2,r3,r4⟩:=q2.rel H S.heap hck m3 (λh=>by cases h);obtain⟨o3,h3,h4⟩:=r4 i hg hre;obtain⟨o4,h5,h6⟩:=S.heap.old i _ hgo;rw [h3]at h5;cases h5;cases h6;exact h4.elim
       .have:=q2.s1 i x.1 x.2 hg hre (by rw [hx])
        grind [nmh]
    .cases hx
   .cases hx
  .cases hx
 .cases hx
end
end Go.TX
namespace Go.TX
open Go Go.AE
variable [aQ]
section
variable {n:Nat}
def LX(E:Tab)(c0:Ctx)(w0:World)(h0:Heap)(k:Nat)(H0:List aU)(m0:Nat){ρ:Type}(K:Exit->RSt (std n)->(ρ->Prop)->Prop)(r:ρ->Prop):Exit->Act->World->Prop
 | .outgrown,_,_=>False
 | .panic _,_,_=>False
 | .goto _,_,_=>False
 | e,a,w=>∃c s' s,Grow c0 w0 h0 c w s'.h/\jR E s' c w a/\SR s' s/\Keep k H0 s.h/\s.m=m0/\K e s r
theorem P7{E:Tab}{c0:Ctx}{w0:World}{h0:Heap}{k:Nat}{H0:List aU}{m0:Nat}(hc0:c0.n=k){code:Code}{a:Act}{w:World}{sk:j6}{pl:Bool}{s:RSt (std n)}(hs:s.m=m0){ρ:Type}{K:Exit->RSt (std n)->(ρ->Prop)->Prop}{r:ρ->Prop}
  {W: {σ:Type}->(Exit->RSt (std n)->(σ->Prop)->Prop)->(σ->Prop)->Prop} (hW:∀ {σ:Type} {K':Exit->RSt (std n)->(σ->Prop)->Prop} {r':σ->Prop},W K' r'->code.wp E.P (LX E c0 w0 h0 k H0 m0 K' r') a w)
  (h:PU (std n) k sk pl s K W r):code.wp E.P (LX E c0 w0 h0 k H0 m0 K r) a w:=by
 have step:∀ {t:iR sk.tys} {s1:RSt (std n)} {ck:List Bool},Bu (std n) k sk s1=some (ck,t)->(∀b∈ck,b=true)->K .normal (qd (std n) sk s.m t) r->∀ {c s' a w},Grow c0 w0 h0 c w s'.h->jR E s' c w a->SR s' s1->Keep k H0 s1.h->s1.m=m0->LX E c0 w0 h0 k H0 m0 K r .normal a w:=by
  intro t s1 ck h1 h2 h3 c s' a w g A S hK hm;obtain⟨c2,s2',g2,A2,S2,K2,hm2⟩:=DW h1 h2 S A hc0 g hm;rw [hs]at h3;exact⟨c2,s2',_,g2,A2,S2,hK.trans K2,hm2,h3⟩
 unfold PU at h;split at h
 .refine wp_mono (hW h) ?_;intro e a' w' he;cases e with
  | outgrown=>exact he.elim
  | panic _=>exact he
  | goto _=>exact he
  | normal=>
   obtain⟨c,s',s1,a1,a2,a3,a4,a5,a6⟩:=he;simp only at a6;rcases hx:Bu (std n) k sk s1 with _ | ⟨ck,t'⟩
   .rw [hx]at a6;exact a6.elim
   .rw [hx]at a6;obtain⟨q1,q2⟩:=ig a6;exact step hx q1 q2 a1 a2 a3 a4 a5
  | ret=>obtain⟨c,s',s1,a1,a2,a3,a4,a5,a6⟩:=he;exact a6.elim
  | exit i=>obtain⟨c,s',s1,a1,a2,a3,a4,a5,a6⟩:=he;exact a6.elim
 .refine wp_mono (hW h) ?_;intro e a' w' he;cases e with
  | outgrown=>exact he.elim
  | panic _=>exact he
  | goto _=>exact he
  | normal=>
   obtain⟨c,s',s1,a1,a2,a3,a4,a5,a6⟩:=he;simp only at a6;rcases hx:Bu (std n) k sk s1 with _ | ⟨ck,t'⟩
   .rw [hx]at a6;exact a6.elim
   .rw [hx]at a6;obtain⟨q1,q2⟩:=ig a6;exact step hx q1 q2 a1 a2 a3 a4 a5
  | ret=>obtain⟨c,s',s1,a1,a2,a3,a4,a5,a6⟩:=he;exact⟨c,s',s1,a1,a2,a3,a4,a5,a6⟩
  | exit i=>obtain⟨c,s',s1,a1,a2,a3,a4,a5,a6⟩:=he;exact⟨c,s',s1,a1,a2,a3,a4,a5,a6⟩
section
variable {X:XT} {E:Tab} (hE:aR E) (hX:XOK X E) {C:Calls aJ} (hG:jZ E (lg C)) (hm:E.P.follows .mixedOrders=true) {ord:Nat->List dK} {chk:Nat->Array Oper->Nat->Bool} (Ad:∀id ops m,chk id ops m=true->Static E ord id ops m)
 {c0:Ctx} {w0:World} {h0:Heap} {k:Nat} {H0:List aU} {m0:Nat} (hc0:c0.n=k)
include hE hX hG hm Ad
theorem afw{id:Nat}{ops:Array Oper}{draw:Bool}{s:RSt (std n)}{ρ:Type}{K:Exit->RSt (std n)->(ρ->Prop)->Prop}{r:ρ->Prop}
  (h:(if draw then(if chk id ops s.m then jK (std n) X C ops.toList (ord id) [] (λs=>K .normal s) s else(std n).fail)else gH (std n) X C ops.toList ops.toList (λs=>K .normal s) s:(std n).M ρ) r)
  {s':St} {c:Ctx} {w:World} {a:Act} (A:jR E s' c w a) (g:Grow c0 w0 h0 c w s'.h) (S:SR s' s) (hK:Keep k H0 s.h) (hs:s.m=m0):(Code.region id ops draw).wp E.P (LX E c0 w0 h0 k H0 m0 K r) a w:=by
 have fin:∀ {e:Exit} {a:Act} {w:World},vD E c0 w0 h0 (λe s1'=>e= .normal/\∃s1,SR s1' s1/\(∀k,Keep k s.h s1.h)/\s1.m=m0/\K .normal s1 r) e a w->LX E c0 w0 h0 k H0 m0 K r e a w:=by
  intro e a w he;cases e with
  | outgrown=>exact he.elim
  | panic _=>exact he
  | goto _=>exact he
  | normal=>obtain⟨c,s1',a1,a2,_,s1,a3,a4,a5,a6⟩:=he;exact⟨c,s1',s1,a1,a2,a3,hK.trans (a4 k),a5,a6⟩
  | ret=>obtain⟨c,s1',a1,a2,q,_⟩:=he;cases q
  | exit i=>obtain⟨c,s1',a1,a2,q,_⟩:=he;cases q
 split at h
 .rename_i hd;subst hd;split at h
  .rename_i hc;have hst:=Ad _ _ _ hc;have hr:=Kh hX (h0:=s.h) (m0:=m0) (hs':=[]) S (λ_=> .refl _ _) hs (λp hp=>by simp at hp) h;refine wp_mono (Pp hE hG hm ord id ops (λe s1'=>e= .normal/\∃s1,SR s1' s1/\(∀k,Keep k s.h s1.h)/\s1.m=m0/\K .normal s1 r) s' c0 w0 h0 c w a A g ⟨by rw [S.m];exact hst,?_⟩) λe a w=>fin
   simpa using hr
  .exact h.elim
 .rename_i hd;have:draw=false:=by simpa using hd
  subst this;have hr:=I6 hX (h0:=s.h) (m0:=m0) S (λ_=> .refl _ _) hs h;refine wp_mono (wp_region_list (tJ hE hG (Q:=λe s1'=>e= .normal/\∃s1,SR s1' s1/\(∀k,Keep k s.h s1.h)/\s1.m=m0/\K .normal s1 r) ops ops.toList A g ?_)) λe a w=>fin
  simpa using hr
end
end
end Go.TX
namespace Go.TX
open Go Go.AE
variable [aQ]
section
variable {n:Nat}
variable {X:XT} {E:Tab} (hE:aR E) (hX:XOK X E) {C:Calls aJ} (hG:jZ E (lg C)) (hm:E.P.follows .mixedOrders=true) {ord:Nat->List dK} {chk:Nat->Array Oper->Nat->Bool} (Ad:∀id ops m,chk id ops m=true->Static E ord id ops m)
 {c0:Ctx} {w0:World} {h0:Heap} {k:Nat} {H0:List aU} {m0:Nat} (hc0:c0.n=k)
include hE hX hG hm Ad hc0
theorem pE:∀(code:Code) {ρ:Type} {an:Ann} {s:RSt (std n)} {K:Exit->RSt (std n)->(ρ->Prop)->Prop} {r:ρ->Prop},bM (std n) X C ord chk k an code s K r->∀ {s':St} {c:Ctx} {w:World} {a:Act},jR E s' c w a->Grow c0 w0 h0 c w s'.h->SR s' s->Keep k H0 s.h->s.m=m0->
  code.wp E.P (LX E c0 w0 h0 k H0 m0 K r) a w
 | .skip,ρ,an,s,K,r,h,s',c,w,a,A,g,S,hK,hs=>by
  have h:K .normal s r:=by cases an<;>exact h
  exact wp_skip ⟨c,s',s,g,A,S,hK,hs,h⟩
 | .region id ops draw,ρ,an,s,K,r,h,s',c,w,a,A,g,S,hK,hs=>by
  have base:∀ {σ:Type} {K':Exit->RSt (std n)->(σ->Prop)->Prop} {r':σ->Prop},(if draw then(if chk id ops s.m then jK (std n) X C ops.toList (ord id) [] (λs=>K' .normal s) s else(std n).fail)else gH (std n) X C ops.toList ops.toList (λs=>K' .normal s) s:(std n).M σ) r'->
    (Code.region id ops draw).wp E.P (LX E c0 w0 h0 k H0 m0 K' r') a w:=λh=>afw hE hX hG hm Ad h A g S hK hs
  generalize hM:bM (std n) X C ord chk k an (.region id ops draw) s K=M at h;simp only [bM]at hM;split at hM
  .subst hM;exact P7 hc0 hs base h
  .subst hM;exact base h
 | .seq x y,ρ,an,s,K,r,h,s',c,w,a,A,g,S,hK,hs=>by
  have main:∀(a1 a2:Ann) (K1:Exit->RSt (std n)->(ρ->Prop)->Prop),(∀s',K1 .normal s'=bM (std n) X C ord chk k a2 y s' K)->(∀s',K1 .ret s'=K .ret s')->(∀i s',K1 (.exit i) s'=K (.exit i) s')->bM (std n) X C ord chk k a1 x s K1 r->
    (Code.seq x y).wp E.P (LX E c0 w0 h0 k H0 m0 K r) a w:=by
   intro a1 a2 K1 e1 e2 e3 h;refine wp_seq (wp_mono (pE x h A g S hK hs) ?_);intro e a' w' he;cases e with
   | outgrown=>exact he.elim
   | panic _=>exact he
   | goto _=>exact he
   | normal=>obtain⟨c,s',s1,b1,b2,b3,b4,b5,b6⟩:=he;rw [e1]at b6;exact pE y b6 b2 b1 b3 b4 b5
   | ret=>obtain⟨c,s',s1,b1,b2,b3,b4,b5,b6⟩:=he;rw [e2]at b6;exact⟨c,s',s1,b1,b2,b3,b4,b5,b6⟩
   | exit i=>obtain⟨c,s',s1,b1,b2,b3,b4,b5,b6⟩:=he;rw [e3]at b6;exact⟨c,s',s1,b1,b2,b3,b4,b5,b6⟩
  cases an with
  | seq a1 a2=>rw [bM]at h;refine main a1 a2 _ ?_ ?_ ?_ h<;>intros<;>rfl
  | u=>rw [bM]at h;refine main .u .u _ ?_ ?_ ?_ h<;>intros<;>rfl
  | _=>simp [bM]at h
 | .cond cd x y,ρ,an,s,K,r,h,s',c,w,a,A,g,S,hK,hs=>by
  have he:EvR X E n (nmh s.h) s'.t (iO (std n) (eP (std n) s.t) []):=sJ (λ_ _=>rfl) S.val (λt h=>by simp at h);generalize hM:bM (std n) X C ord chk k an (.cond cd x y) s K=M at h;simp only [bM]at hM;split at hM
  .rename_i f b hb;obtain⟨pv,p1,p2⟩:=fE hX he hb;obtain⟨gf,rfl⟩:=p2.bool;have hbv:=jv (Mg A.abs p1);have main:∀(a1 a2:Ann) {σ:Type} {K':Exit->RSt (std n)->(σ->Prop)->Prop} {r':σ->Prop},((b=true->bM (std n) X C ord chk k a1 x s K' r')/\(b=false->bM (std n) X C ord chk k a2 y s K' r'))->(Code.cond cd x y).wp E.P (LX E c0 w0 h0 k H0 m0 K' r') a w:=by
    intro a1 a2 σ K' r' h;refine wp_cond hbv ?_;obtain⟨b,rfl⟩:∃b':Bool,b'=b:=⟨b,rfl⟩;cases b with
    | true=>exact pE x (h.1 rfl) A g S hK hs
    | false=>exact pE y (h.2 rfl) A g S hK hs
   split at hM
   .subst hM;exact main _ _ h
   .subst hM;exact main _ _ h
   .rename_i sk a1 a2;subst hM;exact P7 hc0 hs (λ{σ K' r'} h=>main a1 a2 h) h
   .subst hM;exact h.elim
  .subst hM;exact h.elim
 | .block id b,ρ,an,s,K,r,h,s',c,w,a,A,g,S,hK,hs=>by
  have main:∀(a1:Ann) {σ:Type} {K':Exit->RSt (std n)->(σ->Prop)->Prop} {r':σ->Prop} (K1:Exit->RSt (std n)->(σ->Prop)->Prop),(∀s',K1 .normal s'=K' .normal s')->(∀s',K1 .ret s'=K' .ret s')->(∀i s',K1 (.exit i) s'=if i==id then K' .normal s' else K' (.exit i) s')->
    bM (std n) X C ord chk k a1 b s K1 r'->(Code.block id b).wp E.P (LX E c0 w0 h0 k H0 m0 K' r') a w:=by
   intro a1 σ K' r' K1 e1 e2 e3 h;refine wp_block (wp_mono (pE b h A g S hK hs) ?_);intro e a' w' he;cases e with
   | outgrown=>exact he.elim
   | panic _=>exact he
   | goto _=>exact he
   | normal=>obtain⟨c,s',s1,b1,b2,b3,b4,b5,b6⟩:=he;rw [e1]at b6;exact⟨c,s',s1,b1,b2,b3,b4,b5,b6⟩
   | ret=>obtain⟨c,s',s1,b1,b2,b3,b4,b5,b6⟩:=he;rw [e2]at b6;exact⟨c,s',s1,b1,b2,b3,b4,b5,b6⟩
   | exit i=>
    obtain⟨c,s',s1,b1,b2,b3,b4,b5,b6⟩:=he;rw [e3]at b6;simp only [Exit.inBlock];simp only [beq_iff_eq]at b6;split
    .rename_i e;rw [if_pos e]at b6;exact⟨c,s',s1,b1,b2,b3,b4,b5,b6⟩
    .rename_i e;rw [if_neg e]at b6;exact⟨c,s',s1,b1,b2,b3,b4,b5,b6⟩
  generalize hM:bM (std n) X C ord chk k an (.block id b) s K=M at h;simp only [bM]at hM;split at hM
  .subst hM;refine main _ _ ?_ ?_ ?_ h<;>intros<;>rfl
  .subst hM;refine main _ _ ?_ ?_ ?_ h<;>intros<;>rfl
  .rename_i sk a1;subst hM;exact P7 hc0 hs (λ{σ K' r'} h=>by refine main a1 _ ?_ ?_ ?_ h<;>intros<;>rfl) h
  .subst hM;exact h.elim
 | .loop b,ρ,an,s,K,r,h,s',c,w,a,A,g,S,hK,hs=>by
  cases an with
  | loop sk a1=>
   rw [bM]at h;rcases hx0:Bu (std n) k sk s with _ | ⟨ck,x0⟩
   .rw [hx0]at h;exact h.elim
   .rw [hx0]at h;obtain⟨hck,h⟩:=ig h;obtain⟨I,μ,hI0,h⟩:=h;obtain⟨c1,s1',g1,A1,S1,K1,hm1⟩:=DW hx0 hck S A hc0 g hs;rw [hs]at h;refine wp_loop_ghost (λN a' w'=>∃c s' x,Grow c0 w0 h0 c w' s'.h/\jR E s' c w' a'/\SR s' (qd (std n) sk m0 x)/\Keep k H0 (qd (std n) sk m0 x).h/\(qd (std n) sk m0 x).m=m0/\I x/\μ x=N) (μ x0) ⟨c1,s1',x0,g1,A1,S1,hK.trans K1,hm1,hI0,rfl⟩ ?_;rintro N a' w' ⟨c2,s2',x,g2,A2,S2,K2,hm2,hi,rfl⟩;have hq:=h x hi;refine wp_mono (pE b hq A2 g2 S2 K2 hm2) ?_;intro e a3 w3 he;cases e with
    | outgrown=>exact he.elim
    | panic _=>exact he
    | goto _=>exact he
    | normal=>
     obtain⟨c4,s4',s4,b1,b2,b3,b4,b5,b6⟩:=he;simp only at b6;rcases hx4:Bu (std n) k sk s4 with _ | ⟨ck4,t4⟩
     .rw [hx4]at b6;exact b6.elim
     .rw [hx4]at b6;obtain⟨alx,b6⟩:=ig b6;obtain⟨c5,s5',g5,A5,S5,K5,hm5⟩:=DW hx4 alx b3 b2 hc0 b1 b5;exact⟨μ t4,b6.2,c5,s5',_,g5,A5,S5,b4.trans K5,hm5,b6.1,rfl⟩
    | ret=>obtain⟨c4,s4',s4,b1,b2,b3,b4,b5,b6⟩:=he;exact⟨c4,s4',s4,b1,b2,b3,b4,b5,b6⟩
    | exit i=>obtain⟨c4,s4',s4,b1,b2,b3,b4,b5,b6⟩:=he;exact⟨c4,s4',s4,b1,b2,b3,b4,b5,b6⟩
  | _=>simp [bM]at h
 | .exit i,ρ,an,s,K,r,h,s',c,w,a,A,g,S,hK,hs=>by
  have h:K (.exit i) s r:=by cases an<;>exact h
  exact wp_exit ⟨c,s',s,g,A,S,hK,hs,h⟩
 | .ret,ρ,an,s,K,r,h,s',c,w,a,A,g,S,hK,hs=>by
  have h:K .ret s r:=by cases an<;>exact h
  exact wp_ret ⟨c,s',s,g,A,S,hK,hs,h⟩
 | .rangeFunc ..,ρ,an,s,K,r,h,_,_,_,_,_,_,_,_,_=>by cases an<;>simp [bM]at h
 | .scope _,ρ,an,s,K,r,h,_,_,_,_,_,_,_,_,_=>by cases an<;>simp [bM]at h
 | .label _,ρ,an,s,K,r,h,_,_,_,_,_,_,_,_,_=>by cases an<;>simp [bM]at h
 | .goto _,ρ,an,s,K,r,h,_,_,_,_,_,_,_,_,_=>by cases an<;>simp [bM]at h
 | .refuse _,ρ,an,s,K,r,h,_,_,_,_,_,_,_,_,_=>by cases an<;>simp [bM]at h
end
end Go.TX
namespace Go.TX
open Go Go.AE
variable [aQ]
section
variable {n:Nat}
theorem jm:∀(r:List (Option (Option Nat))) (m k:Nat),(newNames r m k).length=k
 | _,_,0=>by simp [newNames]
 | [],m,k+1=>by simp [newNames,jm [] (m+1) k]
 | some (some l)::r,m,k+1=>by simp [newNames,jm r m k]
 | some none::r,m,k+1=>by simp [newNames,jm r (m+1) k]
 | none::r,m,k+1=>by simp [newNames,jm r (m+1) k]
structure Xv(r:List (Option (Option Nat)))(h:List aU)(os:List aU)(nms:List Nat)(kT:List aU):Prop where
 len:h.length<=kT.length
 at_:∀(i:Nat),i<os.length->∃l,nms[i]? =some l/\kT[l]? =os[i]? /\(r[i]? =some (some (some l))\/(h.length<=l/\∀q:Nat,r[i]? ≠some (some (some q))))
 old:∀l,l<h.length->(∀i:Nat,i<os.length->r[i]? ≠some (some (some l)))->kT[l]? =h[l]?
 inj:∀(i j l:Nat),nms[i]? =some l->nms[j]? =some l->i=j
 new:∀l,h.length<=l->l<kT.length->∃i:Nat,i<os.length/\nms[i]? =some l
theorem P8:∀(os:List aU) (r:List (Option (Option Nat))) (h:List aU),(∀i l:Nat,r[i]? =some (some (some l))->i<os.length->l<h.length)->(∀i j l:Nat,r[i]? =some (some (some l))->r[j]? =some (some (some l))->i=j)->
  Xv r h os (newNames r h.length os.length) (jl (std n) h (newNames r h.length os.length) os)
 | [],r,h,h1,h2=>by
  refine⟨?_,λi hi=>by simp at hi,λl _ _=> ?_,λi j l hi=>by simp [newNames]at hi,λl a b=> ?_⟩<;>simp only [List.length_nil,newNames,jl]at* <;>first | exact Nat.le_refl _ | rfl | omega
 | o::os,r,h,h1,h2=>by
  have fresh:∀r',(∀(i:Nat),r'[i]? =r[i+1]?)->(∀q:Nat,r[0]? ≠some (some (some q)))->newNames r h.length (os.length+1)=h.length::newNames r' (h.length+1) os.length->Xv r h (o::os) (newNames r h.length (os.length+1)) (jl (std n) h (newNames r h.length (os.length+1)) (o::os)):=by
   intro r' hr h0 e;rw [e];have hl:(h++ [o]).length=h.length+1:=by simp
   have P:=P8 os r' (h++ [o]) (λi l hi hi2=>by grind) (λi j l hi hj=>by grind);rw [hl]at P;have hput:jl (std n) h (h.length::newNames r' (h.length+1) os.length) (o::os)=jl (std n) (h++ [o]) (newNames r' (h.length+1) os.length) os:=by
    simp [jl]
   rw [hput];have hcur:(jl (std n) (h++ [o]) (newNames r' (h.length+1) os.length) os)[h.length]? =some o:=by
    rw [P.old h.length (by simp) (λi hi hh=>by grind)];simp
   refine⟨by grind,λi hi=> ?_,λl hl2 hn=> ?_,λi j l hi hj=> ?_,λl ha hb=> ?_⟩
   .cases i with
    | zero=>simp_all
    | succ i=>
     obtain⟨l,q1,q2,q3⟩:=P.at_ i (by simpa using hi)
     grind
   .rw [P.old l (by simp;omega) (λi hi hh=>hn (i+1) (by simp;omega) (by simp_all))]
    grind
   .have ne:∀(j:Nat),(newNames r' (h.length+1) os.length)[j]? =some h.length->False:=by
     intro j hj;have hj2:j<os.length:=by grind [List.getElem?_eq_some_iff,jm]
     obtain⟨l,q1,q2,q3⟩:=P.at_ j hj2
     grind
    cases i with
    | zero=>grind
    | succ i=>
     cases j with
     | zero=>simp_all
     | succ j=>rw [P.inj i j l (by simpa using hi) (by simpa using hj)]
   .by_cases e:l=h.length
    .subst e;exact⟨0,by simp,rfl⟩
    .obtain⟨i,q1,q2⟩:=P.new l (by simp;omega) hb;exact⟨i+1,by simp;omega,by simpa using q2⟩
  match r,h1,h2,fresh with
  | [],h1,h2,fresh=>exact fresh [] (λi=>by simp) (λq=>by simp) rfl
  | none::r',h1,h2,fresh=>exact fresh r' (λi=>by simp) (λq=>by simp) rfl
  | some none::r',h1,h2,fresh=>exact fresh r' (λi=>by simp) (λq=>by simp) rfl
  | some (some l0)::r',h1,h2,_=>
   have hl0:l0<h.length:=h1 0 l0 rfl (by simp);have e:newNames (some (some l0)::r') h.length (os.length+1)=l0::newNames r' h.length os.length:=rfl;show Xv _ _ _ (newNames (some (some l0)::r') h.length (os.length+1)) (jl (std n) h (newNames (some (some l0)::r') h.length (os.length+1)) (o::os));rw [e];have hl:(h.set l0 o).length=h.length:=by simp
   have P:=P8 os r' (h.set l0 o) (λi l hi hi2=>by rw [hl];exact h1 (i+1) l (by simpa using hi) (by simp;omega)) (λi j l hi hj=>by have:=h2 (i+1) (j+1) l (by simpa using hi) (by simpa using hj);omega);rw [hl]at P;have hput:jl (std n) h (l0::newNames r' h.length os.length) (o::os)=jl (std n) (h.set l0 o) (newNames r' h.length os.length) os:=by
    have:Nat.blt l0 h.length=true:=by simpa using hl0
    simp [jl,hl0]
   rw [hput];have hcur:(jl (std n) (h.set l0 o) (newNames r' h.length os.length) os)[l0]? =some o:=by
    rw [P.old l0 (by simpa using hl0) (λi hi hh=>by have:=h2 0 (i+1) l0 rfl (by simpa using hh);omega)];simp_all
   refine⟨by have:=P.len;omega,λi hi=> ?_,λl hl2 hn=> ?_,λi j l hi hj=> ?_,λl ha hb=> ?_⟩
   .cases i with
    | zero=>exact⟨l0,rfl,by rw [hcur];rfl,.inl rfl⟩
    | succ i=>
     obtain⟨l,q1,q2,q3⟩:=P.at_ i (by simpa using hi);refine⟨l,by simpa using q1,by rw [q2];simp,?_⟩;simp only [List.getElem?_cons_succ];rcases q3 with q3 | ⟨q3,q4⟩
     .exact .inl q3
     .exact .inr ⟨by rw [hl]at q3;exact q3,q4⟩
   .rw [P.old l ah (λi hi hh=>hn (i+1) (by simp;omega) (by simpa using hh))];have:l0≠l:=λe=>hn 0 (by simp) (by rw [e];rfl)
    exact List.getElem?_set_ne this
   .have ne:∀(j:Nat),(newNames r' h.length os.length)[j]? =some l0->False:=by
     intro j hj;have hj2:j<os.length:=by grind [List.getElem?_eq_some_iff,jm]
     obtain⟨l,q1,q2,q3⟩:=P.at_ j hj2;rw [hj]at q1;cases q1;rcases q3 with q3 | ⟨q3,q4⟩
     .have:=h2 0 (j+1) l0 rfl (by simpa using q3);omega
     omega
    cases i with
    | zero=>grind
    | succ i=>
     cases j with
     | zero=>grind
     | succ j=>rw [P.inj i j l (by simpa using hi) (by simpa using hj)]
   .obtain⟨i,q1,q2⟩:=P.new l (by rw [hl];exact ha) hb;exact⟨i+1,by simp;omega,by simpa using q2⟩
theorem VB{nm:Nat->Nat}{k:SkV}{r r':List (LV aJ)}{v:SVal}(h:zQ aJ nm k r=some (v,r')):qQ v=false:=by
 cases k with
 | c k=>simp only [zQ]at h;split at h<;>cases h;rfl
 | agg ks=>simp only [zQ]at h;split at h<;>cases h;rfl
 | sv f c=>
  unfold zQ at h;split at h<;>first | (cases h;rfl) | simp_all | cases h
theorem Fp{nm:Nat->Nat}:∀ {ks:List SkV} {r r':List (LV aJ)} {vs:List SVal},oI aJ nm ks r=some (vs,r')->∀v∈vs,qQ v=false
 | [],r,r',vs,h=>by grind [oI,Option.some.injEq,Prod.mk.injEq]
 | k::ks,r,r',vs,h=>by
  simp only [oI]at h;split at h
  .rename_i x r1 hx;split at h
   .rename_i xs r2 hxs;cases h;intro v hv;cases hv with
    | head=>exact VB hx
    | tail _ hv=>exact Fp hxs v hv
   .cases h
  .cases h
theorem Ae:∀ {ls:List Nat} {h:List aU} {l:Nat} {g:Bool} {c:Co} {xs:List c.den},l∈ls->h[l]? =some (.rows g c xs)->Gone (bJ (std n) h ls) l
 | [],_,_,_,_,_,hm,_=>by simp at hm
 | a::ls,h,l,g,c,xs,hm,hl=>by
  rw [iL];have stays:∀(ls:List Nat) (h:List aU),Gone h l->Gone (bJ (std n) h ls) l:=by
   intro ls
   induction ls with
   | nil=>intro h hg;exact hg
   | cons b ls ih=>
    intro h ⟨cc,nn,hg⟩;rw [iL];refine ih _ ⟨cc,nn,?_⟩
    grind [gJ,wP]
  by_cases e:a=l
  .subst e;refine stays ls _ ⟨c,(xs.length:Int),?_⟩
   grind [gJ,List.getElem?_set_self,List.getElem?_eq_some_iff]
  .refine Ae (g:=g) (c:=c) (xs:=xs) ?_ (by rw [wP e];exact hl)
   grind
theorem Ja{h:List aU}:∀ {ks:List SkO} {j:Nat} {s s':ES (std n)},zP (std n) h j ks s=some s'->∀ {i:Nat} {k:SkO},ks[i]? =some k->k≠ .gone->∀ {l:Nat} (_:s'.ren[j+i]? =some (some (some l))),∃o,h[l]? =some o/\¬Gone [o] 0
 | [],_,_,_,_,i,k,hk,_,_,_=>by simp at hk
 | q::ks,j,s,s',hx,i,k,hk,hg,l,h5=>by
  simp only [zP]at hx;split at hx
  .rename_i s1 h1;cases i with
   | succ i=>
    have:=Ja hx (i:=i) (k:=k) (by simpa using hk) hg (l:=l) (by grind);exact this
   | zero=>
    simp at hk;subst hk;rw [Nat.add_zero]at h5;have e1:ELe s s':=by
     obtain⟨_,_,_,a2,_⟩:=Tw (m:=n) (λi=>i) h1 (.gone .i64 0) ⟨.i64,0,rfl⟩;obtain⟨_,_,_,b2,_⟩:=sH (m:=n) (λi=>i) (λ_=> .gone .i64 0) (λ_=>⟨.i64,0,rfl⟩) hx;exact a2.trans b2
    cases q with
    | gone=>exact absurd rfl hg
    | box kk=>
     rcases hr:s.ren[j]? with _ | _ | _ | l0<;>simp only [PK,hr,reduceCtorEq]at h1
     have:=e1.ren j _ hr;rw [h5]at this;cases this;split at h1
     .rename_i v hv;exact⟨_,hv,λ⟨c,m,hgo⟩=>by simp at hgo⟩
     .cases h1
    | rows f c=>
     rcases hr:s.ren[j]? with _ | _ | _ | l0<;>simp only [PK,hr,reduceCtorEq]at h1
     .have:=e1.ren j _ hr;simp_all
     .have:=e1.ren j _ hr;rw [h5]at this;cases this;split at h1
      .rename_i g c' xs hv;exact⟨_,hv,λ⟨c,m,hgo⟩=>by simp at hgo⟩
      .cases h1
  .cases hx
end
end Go.TX
namespace Go.TX
open Go Go.AE
variable [aQ]
section
variable {n:Nat}
theorem Km{X:XT}{E:Tab}(hX:XOK X E){s':St}{s:RSt (std n)}(S:SR s' s):∀ {rs:List ResultVar} {qs:List SVal},PW (std n) X s rs=some qs->∃ps,F2 (PVR (nmh s.h)) ps qs/\∀K,K ps->oh E s' rs K
 | [],qs,h=>by simp only [PW,Option.some.injEq]at h;subst h;exact⟨[],.nil,λK hK=>hK⟩
 | .tmp t::r,qs,h=>by
  simp only [PW]at h;split at h
  .rename_i v hv;split at h
   .rename_i vs hvs;cases h;obtain⟨pv,p1,p2⟩:=S.val t _ hv;obtain⟨ps,q1,q2⟩:=Km hX S hvs;exact⟨pv::ps,.cons p2 q1,λK hK=>by grind [oh,jB]⟩
   .cases h
  .cases h
 | .cell t ty::r,qs,h=>by
  simp only [PW]at h;split at h
  .rename_i p hp;split at h
   .rename_i v hv;split at h
    .rename_i vs hvs;cases h;obtain⟨pv,p1,p2⟩:=S.val t _ hp;obtain⟨pr,r1,r2⟩:=Nk hX S.heap p2 hv (λb hb=>by simp at hb);obtain⟨ps,q1,q2⟩:=Km hX S hvs;exact⟨pr::ps,.cons r1 q1,λK hK=>by grind [oh,jB]⟩
    .cases h
   .cases h
  .cases h
theorem afx{N:NM}:∀ {ps:List PV} {vs:List SVal},F2 (PVR N) ps vs->(∀v∈vs,qQ v=false)->PVR N (one ps) (aik (std n) vs)
 | [],_,h,_=>by cases h;exact .tup .nil
 | [p],_,.cons h1 h2,_=>by cases h2;exact h1
 | p::q::ps,_,.cons h1 (.cons h2 h3),ht=>by
  have up:∀ {p v},PVR N p v->qQ v=false->PV0 N p v:=λh hv=>by
   cases h with
   | one h=>exact h
   | tup _=>simp [qQ]at hv
  have all:∀ {ps:List PV} {vs:List SVal},F2 (PVR N) ps vs->(∀v∈vs,qQ v=false)->F2 (PV0 N) ps vs:=by
   intro ps vs h
   induction h with
   | nil=>intro _;exact .nil
   | cons a _ ih=>intro ht;exact .cons (up a (ht _ (by simp))) (ih λv hv=>ht v (List.mem_cons_of_mem _ hv))
  exact .tup (all (.cons h1 (.cons h2 h3)) ht)
theorem TA{c:Ctx}{w:World}{us:List Value}{ps:List PV}(h:F2 (bg c w) us ps):bg c w (if h:us.toArray.size=1 then us.toArray[0]else .tuple us.toArray) (one ps):=by
 cases h with
 | nil=>exact JK _ _
 | cons q1 q2=>
  cases q2 with
  | nil=>simpa [one]using q1
  | cons q3 q4=>
   have hl:=(F2.cons q1 (F2.cons q3 q4)).length;rw [dif_neg (by simp)];refine .tup _ _ hl (λi hi=> ?_);have hx:∀(l:List PV),i<l.length->l[i]? =some (l.getD i default):=λl hl=>by simp_all
   obtain⟨u,hu,hr⟩:=(F2.cons q1 (F2.cons q3 q4)).get (hx _ hi);simp_all
theorem NG(h:List aU)(l:Nat):Gone [vO (std n) h l] 0:=by
 unfold vO;split
 .exact⟨_,_,rfl⟩
 .exact⟨_,_,rfl⟩
 .exact⟨_,_,rfl⟩
def Af(D:List Nat)(h:Heap):Heap:=D.map (λl=>(l,dx.gone))++h
theorem Fq{D:List Nat}{h:Heap}{l:Nat}(hl:l∈D):AE.look (Af D h) l=some .gone:=by
 induction D with
 | nil=>simp at hl
 | cons d D ih=>grind [AE.look,Af,ay,aj,absurd]
theorem sM{D:List Nat}{h:Heap}{l:Nat}(hl:l∉D):AE.look (Af D h) l=AE.look h l:=by
 induction D with
 | nil=>rfl
 | cons d D ih=>grind [AE.look,Af,aj,List.mem_cons_of_mem]
section
variable {X:XT} {E:Tab} (hE:aR E) (hX:XOK X E) {C:Calls aJ} (hG:jZ E (lg C)) (hm:E.P.follows .mixedOrders=true) {ord:Nat->List dK} {chk:Nat->Array Oper->Nat->Bool} (Ad:∀id ops m,chk id ops m=true->Static E ord id ops m)
include hE hX hG hm Ad
theorem aiD{f:FuncId}{fn:Func}{code:Code}(hf:E.P.funcs[f]? =some fn)(hb:fn.body=some code)(hent:Enters E.P f){sg:Sig}{an:Ann}{ct:Ct aJ sg}
  (hrun:∀x,ct.pre x=true->J6 (std 0) X C ord chk an sg fn code x (λy=>y=ct.fn x)):aK E f (bT ct) where
 enters:=hent
 calls:=by
  rintro args h nn K ⟨m,qs,hs,hargs,HR,hlen,cr,hcall,acr,v,kT,hvk,hK⟩ c w vs hcn sK H Gl;subst hlen;unfold kg at hcall;split at hcall
  .rename_i e1 he1;split at hcall
   .rename_i e he;split at hcall
    .rename_i kR;simp only [Bool.and_eq_true,List.isEmpty_iff]at kR;obtain⟨kR,htr⟩:=kR;have kR:=Kc kR;split at hcall
     .rename_i x hx;simp only [Option.some.injEq]at hcall;subst hcall;have hck:∀b∈e.ck,b=true:=λb hb=>acr b (List.mem_append_left _ hb)
      have hpre:ct.pre x=true:=acr _ (List.mem_append_right _ (by simp));obtain⟨N,hrun⟩:∃N:Nat,J6 (std N) X C ord chk an sg fn code x (λy=>y=ct.fn x):=⟨0,hrun x hpre⟩;simp only at hvk hK;obtain⟨new1,qs1,a1,a2,a3,a4⟩:=vV (λi=>i) he1;obtain⟨new2,os1,b1,b2,b3,b4,b5⟩:=sH (λi=>i) (λ_=>(.gone .i64 0:aU)) (λ_=>⟨.i64,0,rfl⟩) he;have hlv:e.lv.reverse=new1++new2:=by rw [b1,a1];simp [es0]
      have hun:=unpack_pack hx;rw [hlv]at hun;have hrl:e.ren.length=sg.objs.length:=by rw [b2.len,a2.len,Kk]
      have hof:∀(j:Nat) (kk:SkO),sg.objs[j]? =some kk->∃o2,os1[j]? =some o2/\OF e hs (λi=>i) j kk (.gone .i64 0) o2:=λj kk hj=>by
       obtain⟨o2,q1,q2⟩:=b5 e (.refl _) j kk hj;exact⟨o2,q1,by simpa using q2⟩
      obtain⟨o1,m1,m2,m3,m4,_,_⟩:=yE (ks:=sg.objs) (nm:=λi=>i) (old:=λ_=>(.gone .i64 0:aU)) H HR hck kR hrl b4 hof (cb:={K:=λ_ _=>False,ν:=νX e hs c,n:=0}) (hb':=[])
       (ND w _ _ _ (λ_ _ h=>h.elim) (λ_ h=>h)) false (λh=>by cases h) (ν2:=νX e hs c) (n2:=sg.objs.length) (Nat.zero_le _) (λ_ _=>rfl) (λi hi=>hi) (λi j _ _ h=>h)
       (λi l hi=>by simp only [νX];rw [hi]) (λi hi=>by simp only [νX];rw [hi]) (h2:=os1) (λi _=>rfl)
       (λl o hl ho=>by
        have:sg.objs.length<=l:=by
         rcases Nat.lt_or_ge l sg.objs.length with h | h
         .exact absurd rfl (hl l h)
         .exact h
        rw [List.getElem?_eq_none ah]at ho;cases ho) (λ_ _=>rfl)
       (λb ⟨l,o,hl,_⟩ _=>by simp [AE.look]at hl) (λf b h _=>h) (λf b ⟨l,o,hl,_⟩ _=>by simp [AE.look]at hl)
      generalize hc1:({K:=λf b=>False\/KX e c false f b,ν:=νX e hs c,n:=sg.objs.length}:Ctx)=c1 at m1 m2 m3 m4;generalize hh1:uI (λi=>i) o1 (List.range sg.objs.length) []=h1' at m1 m2 m4;have c1n:c1.n=sg.objs.length:=by rw [<-hc1]
      have c1K:∀f b,c1.K f b->c.K f b\/∃l g,(l,g)∈e.fro/\c.μ l=some b/\(f=true->g=true):=λf b hb=>by
       rw [<-hc1]at hb;rcases hb with hb | hb | ⟨l,g,q1,q2,q3⟩
       .exact hb.elim
       .exact .inl (by simpa using hb)
       .exact .inr ⟨l,g,q1,q2,λh=>q3 (by simp [h])⟩
      have afy:∀f b,c.K f b->c1.K f b:=λf b hb=>by rw [<-hc1];exact .inr (.inl (by simpa using hb))
      have aiE:∀b,fU c1 h1' b->∃(i lq:Nat) (q:dx),e.ren[i]? =some (some (some lq))/\AE.look h lq=some q/\q.live/\c.μ lq=some b:=λb hb=>by
       rcases m4 b hb with⟨l,o,hl,_⟩ | hb
       .simp [AE.look]at hl
       .exact hb
      have aiF:F2 (WV c w (nmh hs)) vs qs:=by
       clear he1 a1 a2 a3 a4 hvk hrun
       induction sK generalizing qs with
       | nil=>cases hargs;exact .nil
       | cons q1 _ ih=>cases hargs with | cons q3 q4=>exact .cons ⟨_,q1,q3⟩ (ih _ q4)
      obtain⟨aiG,p1,p2⟩:=Kl (a4 H HR b2 hck m3 (λh=>by cases h) aiF);unfold J6 at hrun;split at hrun
      .exact hrun.elim
      rename_i hkk;have hkk:sg.objs.length<=sg.fV.length:=by
       have:Nat.ble sg.objs.length sg.fV.length=true:=by simpa using hkk
       exact Nat.le_of_ble_eq_true this
      rw [show unpack (std N).aC sg.inp x=new1++new2 from hun,a3]at hrun;simp only at hrun;have hb3:=b3 [];rw [List.append_nil]at hb3;rw [show vM (std N).aC (λi=>i) (λ_=>fP.gone Co.i64 ((std N).lit 0)) 0 sg.objs new2=some (os1,[])from hb3]at hrun;simp only at hrun;have hql:qs1.length=vs.length:=by rw [<-p2.length,<-p1.length]
      refine calls_of_wp hf hb ?_;have A1:jR E {t:=(List.range qs1.length).zip (aiG.map some),h:=h1',n:=sg.objs.length,k:=0,m:=qs1.length+(fn.ntmps-qs1.length)} c1 w {tmps:=vs.toArray++Array.replicate (fn.ntmps-vs.toArray.size) undef,defers:=[]}:=by
       refine⟨⟨λi u hu=>Ac p1 ?_ i u hu,m1,?_⟩,c1n,rfl,by simp [hql]⟩
       .refine F2.sZ (by simp [hql]) λj i u hj hu=> ?_
        have:i=j:=by
         have h3:=(List.getElem?_eq_some_iff.1 hj).1;simp at h3;rw [List.getElem?_range h3]at hj;cases hj;rfl
        subst this;have hlt:i<vs.length:=(List.getElem?_eq_some_iff.1 hu).1;simp only;rw [Array.getElem?_append_left (by simpa using hlt)];simpa using hu
       .intro gg d hd;obtain⟨q1,u,q2,q3⟩:=Gl gg d hd;exact⟨afy _ _ q1,u,q2,q3.mono' λb hb=>afy _ _ hb⟩
      have S1:SR {t:=(List.range qs1.length).zip (aiG.map some),h:=h1',n:=sg.objs.length,k:=0,m:=qs1.length+(fn.ntmps-qs1.length)}
        ({t:=(List.range qs1.length).zip (qs1.map λv=>⟨none,v⟩),gs:=[],h:=os1,m:=qs1.length+(fn.ntmps-qs1.length)}:RSt (std N)):=by
       refine⟨m2,by simp [nm,b4],rfl,λi sv hi=> ?_,λt e he=>by simp at he⟩;obtain⟨q1,q2⟩:=Ab p2 i sv hi;unfold yF;rw [q1];exact q2
      refine wp_mono (pE hE hX hG hm Ad c1n code hrun A1 (.refl _ _ _) S1 (.refl _ os1) rfl) ?_
      have fin:∀ {c3:Ctx} {s3':St} {s3:RSt (std N)} {a3x:Act} {w3:World},Grow c1 w h1' c3 w3 s3'.h->jR E s3' c3 w3 a3x->SR s3' s3->Keep sg.objs.length os1 s3.h->
        Vt (std N) X sg fn s3 (λy=>y=ct.fn x)->
        a3x.defers=[]/\∃v,(results fn a3x.tmps).run E.P w3= .ok v w3/\
         Post (λv w'=>∃c' r h' j,Grow c w h c' w' h'/\bC c' w' h'/\c'.n=nm hs.length j/\bg c' w' v r/\K r h' j) (.returned v) w3:=by
       intro c3 s3' s3 anb w3 g3 A3 S3 K3 hfin;refine⟨A3.defers,?_⟩;generalize hM:Vt (std N) X sg fn s3=M at hfin;unfold Vt at hM;split at hM
       .rename_i rs hrs;split at hM
        .rename_i e2 he2;split at hM
         .rename_i e3 he3;split at hM
          .rename_i Fu;have Fu:=Kc Fu;split at hM
           .rename_i y hy;subst hM;obtain⟨aiH,hfin⟩:=ig hfin;have hfin:y=ct.fn x:=hfin;subst hfin;obtain⟨ps,rp1,rp2⟩:=Km (E:=E) hX S3 hrs;obtain⟨us,ps',u1,u2,u3⟩:=rY hE A3 _ (λq=>q=ps) (rp2 _ rfl);subst u3;refine⟨_,vF u1,?_⟩;generalize hbr:(sg.fresh&&e.fro.all λp=> !p.2)=br at hvk hK;generalize VD:(if br=true then hs else bJ (std m) hs (e.fro.map (·.1)))=h1T at hvk;have Fv:h1T.length=hs.length:=by
             rw [<-VD];split
             .rfl
             .exact qP _ _ _
            have aiI:nmh h1T=nmh hs:=by
             rw [<-VD];split
             .rfl
             .exact vS _ _ _
            obtain⟨nms,afz⟩:∃nms,newNames e.ren h1T.length sg.fV.length=nms:=⟨_,rfl⟩;rw [afz]at hvk;have aiJ:nms.length=sg.fV.length:=by rw [<-afz];exact jm _ _ _
            obtain⟨aiK,qs3,x1,x2,x3,x4⟩:=vV (λi=>nms.getD i 0) he2;obtain⟨afA,os3,y1,y2,y3,y4,y5⟩:=sH (λi=>nms.getD i 0) (λi=>vO (std m) h1T (nms.getD i 0)) (λj=>NG h1T _) he3;have hlv3:e3.lv.reverse=aiK++afA:=by rw [y1,x1];simp [es0]
            have aiL:=unpack_pack hy;rw [hlv3]at aiL;rw [show unpack (std m).aC sg.out (ct.fn x)=aiK++afA from aiL,x3]at hvk;simp only at hvk;have hy3:=y3 [];rw [List.append_nil]at hy3;rw [hy3]at hvk;simp only [Option.some.injEq,Prod.mk.injEq]at hvk;obtain⟨hv,hkT⟩:=hvk;have hrl3:e3.ren.length=sg.fV.length:=by rw [y2.len,x2.len,Kk]
            have Jb:∀(i l:Nat),e.ren[i]? =some (some (some l))->i<sg.objs.length:=λi l hi=>by rw [<-hrl];exact(List.getElem?_eq_some_iff.1 hi).1
            have passed:∀(i l:Nat),e.ren[i]? =some (some (some l))->∃o',AE.look h l=some o'/\o'.live:=λi l hi=>by
             have hik:=Jb i l hi;obtain⟨o2,q1,q2⟩:=hof i _ (List.getElem?_eq_getElem hik);obtain⟨_,_,_,_,q3⟩:=q2.rel H HR hck m3 (λh=>by cases h);exact q3 l (λhg=>kR.gone hi (by rw [List.getElem?_eq_getElem hik,hg])) hi
            have hlh:∀l o',AE.look h l=some o'->l<hs.length:=λl o' hl=>by rw [<-hcn];exact(H.obj l o' hl).1
            have P:=P8 (n:=m) os3 e.ren h1T (λi l hi _=>by rw [Fv];obtain⟨o',q,_⟩:=passed i l hi;exact hlh l o' q) (λi j l hi hj=>kR.dist hi hj);rw [y4,afz,hkT]at P;have acs:∀i,i<sg.fV.length->nms[i]? =some (nms.getD i 0):=λi hi=>by
             have:i<nms.length:=by rw [aiJ];exact hi
             simp [List.getD,List.getElem?_eq_getElem this]
            have nmP:∀i,i<sg.fV.length->kT[nms.getD i 0]? =os3[i]? /\(e.ren[i]? =some (some (some (nms.getD i 0)))\/(hs.length<=nms.getD i 0/\∀q:Nat,e.ren[i]? ≠some (some (some q)))):=λi hi=>by
             obtain⟨l,q1,q2,q3⟩:=P.at_ i (by rw [y4];exact hi);rw [acs i hi]at q1;have q1:=Option.some.inj q1;subst q1;rw [Fv]at q3;exact⟨q2,q3⟩
            have Xw:∀i j,i<sg.fV.length->j<sg.fV.length->nms.getD i 0=nms.getD j 0->i=j:=λi j hi hj hij=>P.inj i j _ (acs i hi) (by rw [hij];exact acs j hj)
            have aly:∀i,i<sg.fV.length->nms.getD i 0<kT.length:=λi hi=>by
             have h3:=(nmP i hi).1;rw [List.getElem?_eq_getElem (show i<os3.length by rw [y4];exact hi)]at h3;exact(List.getElem?_eq_some_iff.1 h3).1
            have TD:∀(i l:Nat),e.ren[i]? =some (some (some l))->nms.getD i 0=l:=λi l hi=>by
             have hik:=Nat.lt_of_lt_of_le (Jb i l hi) hkk;rcases(nmP i hik).2 with q | ⟨_,q⟩
             .rw [hi]at q;cases q;rfl
             .exact absurd hi (q l)
            have hD:∀l,l∈bS e.ren->∃i,i<sg.fV.length/\nms.getD i 0=l/\e.ren[i]? =some (some (some l)):=λl hl=>by
             obtain⟨i,hi⟩:=wR hl;exact⟨i,Nat.lt_of_lt_of_le (Jb i l hi) hkk,TD i l hi,hi⟩
            obtain⟨D,adE⟩:∃D,bS e.ren++(if br=true then []else e.fro.map (·.1))=D:=⟨_,rfl⟩;rw [adE]at hK;have NH:∀l,l∈D↔l∈bS e.ren\/(br=false/\∃f,(l,f)∈e.fro):=λl=>by
             rw [<-adE];cases br<;>simp
            have wT:∀l f,(l,f)∈e.fro->(∃g cc xs,hs[l]? =some (.rows g cc xs))/\∃o',AE.look h l=some o'/\o'.live:=λl f hl=>by
             obtain⟨_,g,cc,xs,q⟩:=kR.fro l f hl;obtain⟨o',q1,q2⟩:=HR.old l _ q;cases q2 with | rows _=>exact⟨⟨g,cc,xs,q⟩,_,q1,trivial⟩
            have Jc:∀l o,AE.look (Af D h) l=some o->o.live->l∉D/\AE.look h l=some o:=λl o hl hlv=>by
             by_cases hd:l∈D
             .rw [Fq hd]at hl;cases hl;exact hlv.elim
             .rw [sM hd]at hl;exact⟨hd,hl⟩
            have Kn:∀l o b,l∉D->AE.look h l=some o->o.live->c.μ l=some b->¬fU c1 h1' b:=λl o b hd hl hlv hb ho=>by
             obtain⟨i,lq,q,q1,q2,q3,q4⟩:=aiE b ho;have:=H.inj l o lq q b hl hlv q2 q3 hb q4;subst this;exact hd ((NH l).2 (.inl (sI q1)))
            have TF:∀b,fU c1 h1' b->fU c h b:=λb hb=>by
             obtain⟨i,lq,q,_,q2,q3,q4⟩:=aiE b hb;exact⟨lq,q,q2,q3,q4⟩
            have kept:∀f b,c.K f b->w3.heap[b]? =w.heap[b]? :=λf b hb=>g3.kept b (H.low f b hb) (λho=>H.own f b (TF b ho) hb)
            have Hb:bC c w3 (Af D h):=by
             refine⟨λl o hl=> ?_,λl o l' o' b q1 q2 q3 q4 q5 q6=> ?_,?_,λf b hb=>Nat.lt_of_lt_of_le (H.low f b hb) g3.size,H.sub⟩
             .by_cases hd:l∈D
              .rw [Fq hd]at hl;cases hl;refine⟨?_,trivial⟩;rcases(NH l).1 hd with h3 | ⟨_,f,h3⟩
               .obtain⟨i,hi⟩:=wR h3;obtain⟨o',q,_⟩:=passed i l hi;exact(H.obj l o' q).1
               .obtain⟨_,o',q,_⟩:=wT l f h3;exact(H.obj l o' q).1
              .rw [sM hd]at hl;obtain⟨q1,q2⟩:=H.obj l o hl;exact⟨q1,q2.mono (.refl c) kept g3.stays q1 (λb hlv hb=>g3.kept b (q2.lt hlv hb) (Kn l o b hd hl hlv hb))⟩
             .obtain⟨_,r1⟩:=Jc l o q1 q2;obtain⟨_,r2⟩:=Jc l' o' q3 q4;exact H.inj l o l' o' b r1 q2 r2 q4 q5 q6
             .rintro f b ⟨l,o,hl,hlv,hb⟩ hk;obtain⟨_,r1⟩:=Jc l o hl hlv;exact H.own f b ⟨l,o,r1,hlv,hb⟩ hk
            have Xx:∀l o b,AE.look h l=some o->o.live->c.μ l=some b->b<w.heap.size:=λl o b hl hlv hb=>(H.obj l o hl).2.lt hlv hb
            have adF:∀l o b,l∉D->AE.look h l=some o->o.live->c.μ l=some b->¬fU c3 s3'.h b:=λl o b hd hl hlv hb ho=>by
             rcases g3.oV b ho with h3 | h3
             .exact Kn l o b hd hl hlv hb h3
             .have:=Xx l o b hl hlv hb;omega
            have TH:∀q g b,(q,g)∈e3.fro->c3.μ q=some b->fU c3 s3'.h b:=λq g b hq hb=>by
             obtain⟨_,g',cc,xs,hl⟩:=Fu.fro q g hq;obtain⟨o',q1,q2⟩:=S3.heap.old q _ hl;cases q2 with | rows _=>exact⟨q,_,q1,trivial,hb⟩
            have aiM:br=true->∀l f,(l,f)∈e.fro->f=false:=λhb l f hl=>by
             rw [<-hbr]at hb;simp only [Bool.and_eq_true]at hb;have:=List.all_eq_true.1 hb.2 _ hl;simpa using this
            have afq:∀f b,fU c (Af D h) b->KX e3 c3 br f b->False:=by
             rintro f b ⟨l,o,hl,hlv,hb⟩ hk;obtain⟨hd,hl⟩:=Jc l o hl hlv;rcases hk with hk | ⟨q,g,q1,q2,_⟩
             .rcases g3.uT _ b hk with h3 | h3 | h3
              .rcases c1K _ b h3 with h3 | ⟨l2,g2,q1,q2,q3⟩
               .exact H.own _ b ⟨l,o,hl,hlv,hb⟩ h3
               .obtain⟨_,o2,r1,r2⟩:=wT l2 g2 q1;have:=H.inj l o l2 o2 b hl hlv r1 r2 hb q2;subst this;cases hbb:br with
                | false=>exact hd ((NH l).2 (.inr ⟨hbb,g2,q1⟩))
                | true=>
                 have h5:=q3 (by rw [hbb];simp);have h6:=aiM hbb l g2 q1;rw [h5]at h6;cases h6
              .have:=Xx l o b hl hlv hb;omega
              .exact Kn l o b hd hl hlv hb h3
             .exact adF l o b hd hl hlv hb (TH q g b q1 q2)
            have alz:∃μ2:Nat->Option (Nat×Nat),(∀l,l<hs.length->μ2 l=c.ν l)/\(∀(i q:Nat),i<sg.fV.length->hs.length<=nms.getD i 0->e3.ren[i]? =some (some (some q))->μ2 (nms.getD i 0)=E9 (trK e3 s3.h i q) (c3.ν q))/\
              (∀i:Nat,i<sg.fV.length->hs.length<=nms.getD i 0->e3.ren[i]? =some (some none)->μ2 (nms.getD i 0)=none):=by
             have hch:∀l,∃ob:Option (Nat×Nat),(l<hs.length->ob=c.ν l)/\(∀(i q:Nat),i<sg.fV.length->hs.length<=l->nms.getD i 0=l->e3.ren[i]? =some (some (some q))->ob=E9 (trK e3 s3.h i q) (c3.ν q))/\
               (∀i:Nat,i<sg.fV.length->hs.length<=l->nms.getD i 0=l->e3.ren[i]? =some (some none)->ob=none):=by
              intro l;by_cases hl:l<hs.length
              .exact⟨c.ν l,λ_=>rfl,λi q _ h4=>by omega,λi _ h4=>by omega⟩
              .by_cases hx:∃i q:Nat,i<sg.fV.length/\nms.getD i 0=l/\e3.ren[i]? =some (some (some q))
               .obtain⟨i,q,h4,h5,h6⟩:=hx;refine⟨E9 (trK e3 s3.h i q) (c3.ν q),λh=>absurd h hl,λj q' h7 _ h9 h10=> ?_,λj h7 _ h9 h10=> ?_⟩
                .have:=Xw i j h4 h7 (h5.trans h9.symm);subst this;rw [h6]at h10;cases h10;rfl
                .have:=Xw i j h4 h7 (h5.trans h9.symm);subst this;rw [h6]at h10;cases h10
               .exact⟨none,λh=>absurd h hl,λj q' h7 _ h9 h10=>absurd ⟨j,q',h7,h9,h10⟩ hx,λ_ _ _ _ _=>rfl⟩
             obtain⟨μ2,afB⟩:=Classical.axiomOfChoice hch;exact⟨μ2,λl hl=>(afB l).1 hl,λi q h4 h5 h6=>(afB _).2.1 i q h4 h5 rfl h6,λi h4 h5 h6=>(afB _).2.2 i h4 h5 rfl h6⟩
            obtain⟨μ2,μa,μb,μc⟩:=alz;have P9:∀(i:Nat) (v:Option Nat),i<sg.objs.length->e3.ren[i]? =some (some v)->v=some i/\(es0 (std N) sg.objs.length sg.fV).ren[i]? =some (some (some i)):=λi v hi hv=>by
             have hik:=Nat.lt_of_lt_of_le hi hkk;have h0:=Kj (n:=N) hi hik;have hg:tN sg.fV[i]? =false:=by
              unfold tN;split
              .rename_i hh;exact absurd hh (Fu.gone hv)
              .rfl
             rw [hg]at h0;have h0:(es0 (std N) sg.objs.length sg.fV).ren[i]? =some (some (some i)):=by simpa using h0
             have:=y2.ren i _ (x2.ren i _ h0);rw [hv]at this;cases this;exact⟨rfl,h0⟩
            have hname:∀(i q:Nat),e3.ren[i]? =some (some (some q))->μ2 (nms.getD i 0)=E9 (trK e3 s3.h i q) (c3.ν q):=λi q hi=>by
             have hik:i<sg.fV.length:=by rw [<-hrl3];exact(List.getElem?_eq_some_iff.1 hi).1
             rcases(nmP i hik).2 with h4 | ⟨h4,_⟩
             .have hio:=Jb i _ h4;obtain⟨h5,h5'⟩:=P9 i _ hio hi;cases h5;obtain⟨o',h6,_⟩:=passed i _ h4;have ht3:kV (std N) e3 i=none:=by rw [y2.tr i _ (x2.ren i _ h5'),x2.tr i _ h5'];rfl
              have ht0:kV (std m) e i=none:=by simp [kV,htr]
              rw [μa _ (hlh _ o' h6),qh ht3,l8,g3.le.ν i (by rw [c1n];exact hio)];have:=(m3.name i _ h4).2;rw [qh ht0,l8]at this;exact this.symm
             .exact μb i q hik h4 hi
            have hnil:∀(i:Nat),e3.ren[i]? =some (some none)->μ2 (nms.getD i 0)=none:=λi hi=>by
             have hik:i<sg.fV.length:=by rw [<-hrl3];exact(List.getElem?_eq_some_iff.1 hi).1
             rcases Nat.lt_or_ge i sg.objs.length with h4 | h4
             .obtain⟨h5,_⟩:=P9 i _ h4 hi;cases h5
             .rcases(nmP i hik).2 with h5 | ⟨h5,_⟩
              .have:=Jb i _ h5;omega
              .exact μc i hik h5 hi
            have hsame:Same hs kT:=λl z hz=>by
             have hll:l<hs.length:=by
              rcases Nat.lt_or_ge l hs.length with hl | hl
              .exact hl
              .simp [nmh,List.getElem?_eq_none hl]at hz
             by_cases hp:∃i:Nat,e.ren[i]? =some (some (some l))
             .obtain⟨i,hi⟩:=hp;have hio:=Jb i l hi;have hik:=Nat.lt_of_lt_of_le hio hkk;have hn:=TD i l hi;have hat:=(nmP i hik).1;rw [hn]at hat;obtain⟨k3,hk3⟩:∃k3,sg.fV[i]? =some k3:=⟨_,List.getElem?_eq_getElem hik⟩;obtain⟨o3,r1,r2⟩:=y5 e3 (.refl _) i k3 hk3;rw [Nat.zero_add]at r2;have goal:nmh [o3] 0=some z->nmh kT l=some z:=λhh=>by
               simp only [nmh,hat,r1];simpa [nmh]using hh
              by_cases hg:k3= .gone
              .refine goal ?_;rw [r2.gone hg];show nmh [vO (std m) h1T (nms.getD i 0)] 0=some z;rw [hn];rw [<-aiI]at hz;unfold vO;simp only [nmh]at hz ⊢;split at hz
               .rename_i hh;rw [hh];simpa using hz
               .rename_i hh;rw [hh];simpa using hz
               .cases hz
              .obtain⟨v3,hv3⟩:=r2.live hg;obtain⟨h5,h6⟩:=P9 i _ hio hv3;subst h5;obtain⟨o1',s1,s2⟩:=hof i _ (List.getElem?_eq_getElem hio);have alA:sg.objs[i]≠ .gone:=λhh=>kR.gone hi (by rw [List.getElem?_eq_getElem hio,hh])
               have t1:=s2.s1 l z.1 z.2 alA hi (by rw [hz]);have alB:kV (std m) e i=none:=by simp [kV,htr]
               rw [alB]at t1;have t2:nmh os1 i=some z:=by simp only [nmh,s1];simpa [nmh]using t1
               rcases(K3 i hio).2 z t2 with⟨cc,nn,hgo⟩ | t3
               .exfalso;obtain⟨v3',ane⟩:=r2.live hg;have:=Ja he3 (i:=i) hk3 hg (l:=i) (by rw [Nat.zero_add];exact hv3);obtain⟨o4,ho4,alC⟩:=this;rw [hgo]at ho4;cases ho4;exact alC ⟨_,_,rfl⟩
               .have alD:kV (std N) e3 i=none:=by rw [y2.tr i _ (x2.ren i _ h6),x2.tr i _ h6];rfl
                have t4:=r2.s1 i z.1 z.2 hg hv3 (by rw [t3]);rw [alD]at t4;exact goal t4
             .have hp':∀i:Nat,i<os3.length->e.ren[i]? ≠some (some (some l)):=λi _ hi=>hp ⟨i,hi⟩
              have:=P.old l (by rw [Fv];exact hll) hp';rw [<-aiI]at hz;simp only [nmh,this];exact hz
            have alE:∀(j:Nat) (kk:SkO),sg.fV[j]? =some kk->∃o2,os3[j]? =some o2/\OF e3 s3.h (λi=>nms.getD i 0) j kk (vO (std m) h1T (nms.getD j 0)) o2:=λj kk hj=>by
             obtain⟨o2,q1,q2⟩:=y5 e3 (.refl _) j kk hj;exact⟨o2,q1,by simpa using q2⟩
            have alF:br=true->sg.fV.all SkO.fresh=true:=λhb=>by
             rw [<-hbr]at hb;simp only [Bool.and_eq_true,Sig.fresh]at hb;exact hb.1.2
            have alG:br=true->sg.res.all SkV.fresh=true:=λhb=>by
             rw [<-hbr]at hb;simp only [Bool.and_eq_true,Sig.fresh]at hb;exact hb.1.1
            obtain⟨o3f,z1,z2,z3,z4,z5,z6⟩:=yE (ks:=sg.fV) (nm:=λi=>nms.getD i 0) (old:=λi=>vO (std m) h1T (nms.getD i 0)) A3.abs.heap S3.heap aiH Fu hrl3 y4 alE (cb:=c) (hb':=Af D h)
             Hb br alF (ν2:=μ2) (n2:=kT.length) (by rw [hcn,<-Fv];exact P.len) (λl hl=>μa l (by rw [<-hcn];exact hl)) aly Xw hname hnil (h2:=kT) (λi hi=>(nmP i hi).1)
             (λl o hl ho=>by
              have hll:l<hs.length:=by
               rcases Nat.lt_or_ge l hs.length with h4 | h4
               .exact h4
               .obtain⟨i,q1,q2⟩:=P.new l (by rw [Fv];exact h4) (List.getElem?_eq_some_iff.1 ho).1;rw [y4]at q1;rw [acs i q1]at q2;exact absurd (Option.some.inj q2) (hl i q1)
              have hnp:l∉bS e.ren:=λhp=>by
               obtain⟨i,q1,q2,_⟩:=hD l hp;exact hl i q1 q2
              have h5:=P.old l (by rw [Fv];exact hll) (λi hi hh=>hnp (sI hh));rw [h5]at ho;by_cases hd:l∈D
              .rcases(NH l).1 hd with h6 | ⟨hb0,f,h6⟩
               .exact absurd h6 hnp
               .rw [<-VD,hb0]at ho;simp only [Bool.false_eq_true,if_false]at ho;obtain⟨⟨g,cc,xs,h7⟩,_⟩:=wT l f h6;have:Gone (bJ (std m) hs (e.fro.map (·.1))) l:=Ae (List.mem_map.2 ⟨_,h6,rfl⟩) h7;obtain⟨c5,n5,h8⟩:=this;rw [h8]at ho;cases ho;exact⟨.gone,Fq hd,.gone⟩
              .have h7:hs[l]? =some o:=by
                rw [<-VD]at ho;split at ho
                .exact ho
                .rename_i hb0;rw [l6 m _ _ (λh8=>hd ((NH l).2 (.inr ⟨by simpa using hb0,by
                  obtain⟨p,hp,rfl⟩:=List.mem_map.1 h8;exact⟨p.2,hp⟩⟩)))]at ho
                 exact ho
               obtain⟨o',r1,r2⟩:=HR.old l _ h7;exact⟨o',by rw [sM hd];exact r1,r2.mono hsame⟩)
             (λl hl=>by
              have hll:hs.length<=l:=by have:=P.len;rw [Fv]at this;omega
              have hnd:l∉D:=λhd=>by
               rcases(NH l).1 hd with h4 | ⟨_,f,h4⟩
               .obtain⟨i,hi⟩:=wR h4;obtain⟨o',q,_⟩:=passed i l hi;have:=hlh l o' q;omega
               .obtain⟨_,o',q,_⟩:=wT l f h4;have:=hlh l o' q;omega
              rw [sM hnd];exact HR.new l hll)
             (λb ⟨l,o,hl,hlv,hb⟩ ho=>by
              obtain⟨hd,hl⟩:=Jc l o hl hlv;exact adF l o b hd hl hlv hb ho)
             (λf b hk ho=>A3.abs.heap.own f b ho (g3.le.K f b (afy f b hk))) afq
            have wvs:F2 (WV c3 w3 (nmh s3.h)) us rs:=by
             clear he2 x1 x2 x3 x4 hrs u1 rp2
             induction u2 generalizing rs with
             | nil=>cases rp1;exact .nil
             | cons q1 _ ih=>cases rp1 with | cons q3 q4=>exact .cons ⟨_,q1,q3⟩ (ih _ q4)
            obtain⟨alH,w1,w2⟩:=Kl (x4 A3.abs.heap S3.heap y2 aiH z3 alG wvs);have hv3:PVR (nmh kT) (one alH) v:=by rw [<-hv];exact afx w2 (Fp (x3 afA))
            have hkl:kT.length=nm hs.length (kT.length-hs.length):=by have:=P.len;rw [Fv]at this;simp [nm];omega
            have alI:∀b,fU c (Af D h) b->fU c h b:=λb ⟨l,o,hl,hlv,hb⟩=>⟨l,o,(Jc l o hl hlv).2,hlv,hb⟩
            have adG:∀b,fU c3 s3'.h b->fU c h b\/w.heap.size<=b:=λb hb=>(g3.oV b hb).imp (TF b) id
            refine⟨_,_,_,kT.length-hs.length,?_,z1,hkl,TA w1,hK _ _ _ hv3 z2 ?_ hkl⟩
            .refine⟨z5,g3.size,g3.stays,λb hb hno=>g3.kept b hb (λho=>hno (TF b ho)),λf b hb=> ?_,λb hb=> ?_,g3.os,g3.tape,g3.output⟩
             .rcases hb with hb | hb | ⟨q,g,q1,q2,_⟩
              .exact .inl hb
              .rcases g3.uT _ b hb with h4 | h4 | h4
               .rcases c1K _ b h4 with h5 | ⟨l2,g2,q1,q2,q3⟩
                .left;cases f with
                 | true=>simpa using h5
                 | false=>cases br with
                  | true=>exact H.sub b (by simpa using h5)
                  | false=>simpa using h5
                .obtain⟨_,o2,r1,r2⟩:=wT l2 g2 q1;exact .inr (.inr ⟨l2,o2,r1,r2,q2⟩)
               .exact .inr (.inl h4)
               .exact .inr (.inr (TF b h4))
              .rcases adG b (TH q g b q1 q2)with h4 | h4
               .exact .inr (.inr h4)
               .exact .inr (.inl h4)
             .rcases z4 b hb with h4 | ⟨i,lq,q,_,q2,q3,q4⟩
              .exact .inl (alI b h4)
              .exact adG b ⟨lq,q,q2,q3,q4⟩
            .refine⟨hsame,by have:=P.len;rw [Fv]at this;exact this,λl ⟨cc,nn,hgo⟩=> ?_,λl hl hnd=> ?_⟩
             .have hll:=(List.getElem?_eq_some_iff.1 hgo).1;have hnp:∀i:Nat,e.ren[i]? ≠some (some (some l)):=λi hi=>by
               obtain⟨o',q1,q2⟩:=passed i l hi;obtain⟨o2,q3,q4⟩:=HR.old l _ hgo;rw [q1]at q3;cases q3;cases q4;exact q2.elim
              have hnf:∀f,(l,f)∉e.fro:=λf hf=>by
               obtain⟨⟨g,c5,xs,h7⟩,_⟩:=wT l f hf;rw [hgo]at h7;cases h7
              refine⟨cc,nn,?_⟩;rw [P.old l (by rw [Fv];exact hll) (λi _=>hnp i),<-VD];split
              .exact hgo
              .rw [l6 m _ _ (λh8=>by
                obtain⟨p,hp,rfl⟩:=List.mem_map.1 h8;exact hnf p.2 hp)]
               exact hgo
             .have hnp:∀i:Nat,e.ren[i]? ≠some (some (some l)):=λi hi=>hnd ((NH l).2 (.inl (sI hi)))
              refine⟨?_,?_⟩
              .rw [P.old l (by rw [Fv];exact hl) (λi _=>hnp i),<-VD];split
               .rfl
               .rename_i hb0;exact l6 m _ _ (λh8=>hnd ((NH l).2 (.inr ⟨by simpa using hb0,by
                 obtain⟨p,hp,rfl⟩:=List.mem_map.1 h8;exact⟨p.2,hp⟩⟩)))
              .rw [z6 l (λi hi hh=>by
                rcases(nmP i hi).2 with h4 | ⟨h4,_⟩
                .rw [hh]at h4;exact hnp i h4
                .omega),sM hnd]
           ·(subst hM;exact hfin.elim)
          ·(subst hM;exact hfin.elim)
         ·(subst hM;exact hfin.elim)
        ·(subst hM;exact hfin.elim)
       ·(subst hM;exact hfin.elim)
      intro ex a' w' he;cases ex with
      | outgrown=>exact he.elim
      | panic _=>exact he.elim
      | goto _=>exact he.elim
      | normal=>obtain⟨c3,s3',s3,g1,g2,g3,g4,_,g6⟩:=he;exact fin g1 g2 g3 g4 g6
      | ret=>obtain⟨c3,s3',s3,g1,g2,g3,g4,_,g6⟩:=he;exact fin g1 g2 g3 g4 g6
      | exit i=>obtain⟨c3,s3',s3,g1,g2,g3,g4,_,g6⟩:=he;exact g6.elim
     .cases hcall
    .cases hcall
   .cases hcall
  .cases hcall
end
end
end Go.TX
namespace Go.TX
open Go Go.AE
structure FM{ρ:Type}(m:(ρ->Prop)->Prop):Prop where
 mono:∀Q Q':ρ->Prop,(∀y,Q y->Q' y)->m Q->m Q'
 one:∀Q:ρ->Prop,m Q->∃y,Q y/\m (λz=>z=y)
 two:∀Q Q':ρ->Prop,m Q->m Q'->∃y,Q y/\Q' y
section
variable {n:Nat} {ρ:Type}
theorem FM.fail:FM (λ_:ρ->Prop=>False):=⟨λ_ _ _ h=>h,λ_ h=>h.elim,λ_ _ h=>h.elim⟩
theorem FM.ret(t:ρ):FM (λQ:ρ->Prop=>Q t):=⟨λ_ _ h hq=>h _ hq,λ_ hq=>⟨t,hq,rfl⟩,λ_ _ h g=>⟨t,h,g⟩⟩
theorem FM.bind{α:Type}{m:(α->Prop)->Prop}{k:α->(ρ->Prop)->Prop}(hm:FM m)(hk:∀t,FM (k t)):FM (λQ=>m λt=>k t Q):=
 ⟨λQ Q' h hq=>hm.mono _ _ (λt ht=>(hk t).mono _ _ h ht) hq,λQ hq=>by
  obtain⟨t,h1,h2⟩:=hm.one _ hq;obtain⟨y,h3,h4⟩:=(hk t).one _ h1;exact⟨y,h3,hm.mono _ _ (λt' e=>by subst e;exact h4) h2⟩,λQ Q' h g=>by
  obtain⟨t,h1,h2⟩:=hm.two _ _ h g;exact(hk t).two _ _ h1 h2⟩
theorem FM.vK{α:Type}{m:(α ⊕ ρ->Prop)->Prop}{k:α->(ρ->Prop)->Prop}(hm:FM m)(hk:∀t,FM (k t)):FM (λQ=>m (Dr k Q)):=
 ⟨λQ Q' h hq=>hm.mono _ _ (λt ht=>by
  cases t with
  | inl x=>exact(hk x).mono _ _ h ht
  | inr r=>exact h _ ht) hq,λQ hq=>by
  obtain⟨t,h1,h2⟩:=hm.one _ hq;cases t with
  | inl x=>
   obtain⟨y,h3,h4⟩:=(hk x).one _ h1;exact⟨y,h3,hm.mono _ _ (λt' e=>by subst e;exact h4) h2⟩
  | inr r=>exact⟨r,h1,hm.mono _ _ (λt' e=>by subst e;rfl) h2⟩,λQ Q' h g=>by
  obtain⟨t,h1,h2⟩:=hm.two _ _ h g;cases t with
  | inl x=>exact(hk x).two _ _ h1 h2
  | inr r=>exact⟨r,h1,h2⟩⟩
theorem FM.itW{α:Type}{f:α->(α ⊕ ρ->Prop)->Prop}(hf:∀x,FM (f x)):∀(N:Nat) (x:α),FM (TX.itW N f x)
 | 0,x=>by simp_all [TX.itW,fail]
 | N+1,x=>by
  have e:TX.itW (N+1) f x=λQ=>f x (Dr (TX.itW N f) Q):=by funext Q;rw [TX.itW]
  rw [e];exact .vK (hf x) (FM.itW hf N)
theorem BI{α:Type}{k k':α->(ρ->Prop)->Prop}{Q Q':ρ->Prop}(hk:∀x,k x Q->k' x Q')(hq:∀y,Q y->Q' y):∀s,Dr k Q s->Dr k' Q' s
 | .inl x=>hk x
 | .inr r=>hq r
theorem Qa{α:Type}{f:α->(α ⊕ ρ->Prop)->Prop}(hf:∀x,FM (f x)){Q:ρ->Prop}:∀ {N M:Nat} {x:α},N<=M->TX.itW N f x Q->TX.itW M f x Q
 | 0,_,_,_,h=>by grind [TX.itW]
 | N+1,0,_,h,_=>absurd h ah
 | N+1,M+1,x,h,g=>by
  rw [TX.itW]at g ⊢;exact(hf x).mono _ _ (BI (λy k=>Qa hf ah k) (λ_ k=>k)) g
theorem Fw{α:Type}{f:α->(α ⊕ ρ->Prop)->Prop}(hf:∀x,FM (f x)){x:α}{Q:ρ->Prop}(h:Tg f x Q):∃r,Q r/\∃N,TX.itW N f x (λz=>z=r):=by
 obtain⟨I,μ,h0,hs⟩:=h;have key:∀(n:Nat) (y:α),μ y<n->I y->∃r,Q r/\∃N,TX.itW N f y (λz=>z=r):=by
  intro n
  induction n with
  | zero=>intro y h;omega
  | succ n ih=>
   intro y hy hI;obtain⟨s,h1,h2⟩:=(hf y).one _ (hs y hI);cases s with
   | inl z=>
    obtain⟨r,q1,N,q2⟩:=ih z (by have:=h1.2;omega) h1.1;refine⟨r,q1,N+1,?_⟩;rw [TX.itW];exact(hf y).mono _ _ (λs e=>by subst e;exact q2) h2
   | inr r=>
    refine⟨r,h1,1,?_⟩;rw [TX.itW];exact(hf y).mono _ _ (λs e=>by subst e;rfl) h2
 exact key _ x (Nat.lt_succ_self _) h0
theorem FM.iter{α:Type}{f:α->(α ⊕ ρ->Prop)->Prop}(hf:∀x,FM (f x))(x:α):FM (λQ=>Tg f x Q):=by
 refine⟨λQ Q' h ⟨I,μ,h0,hs⟩=>⟨I,μ,h0,λy hy=>(hf y).mono _ _ (BI (λ_ h=>h) h) (hs y hy)⟩,λQ h=> ?_,λQ Q' h g=> ?_⟩
 rotate_left
 .obtain⟨r,q1,N,q2⟩:=Fw hf h;obtain⟨t,g1,M,g2⟩:=Fw hf g;obtain⟨z,rfl,rfl⟩:=(FM.itW hf (max N M) x).two _ _ (Qa hf (Nat.le_max_left ..) q2) (Qa hf (Nat.le_max_right ..) g2);exact⟨_,q1,g1⟩
 obtain⟨r,q1,N,q2⟩:=Fw hf h;refine⟨r,q1,?_⟩;have least:∀y,(∃N,TX.itW N f y (λz=>z=r))->∃N,TX.itW N f y (λz=>z=r)/\∀M,M<N->¬TX.itW M f y (λz=>z=r):=by
  intro y ⟨N,hN⟩
  induction N using Nat.strongRecOn with
  | ind N ih=>grind
 have pick:∀y,∃N,(∃N,TX.itW N f y (λz=>z=r))->TX.itW N f y (λz=>z=r)/\∀M,M<N->¬TX.itW M f y (λz=>z=r):=λy=>by
  by_cases h:∃N,TX.itW N f y (λz=>z=r)
  .obtain⟨N,hN⟩:=least y h;grind
  simp_all
 obtain⟨ν,hν⟩:=Classical.axiomOfChoice pick;refine⟨λy=>∃N,TX.itW N f y (λz=>z=r),ν,⟨N,q2⟩,λy hy=> ?_⟩;obtain⟨h1,h2⟩:=hν y hy;cases hn:ν y with
 | zero=>grind [TX.itW]
 | succ k=>
  rw [hn]at h1;rw [TX.itW]at h1;refine(hf y).mono _ _ (BI (λz hz=> ?_) (λ_ h=>h)) h1
  grind
theorem FM.chk{b:Bool}{m:(ρ->Prop)->Prop}(h:FM m):FM (λQ=>b=true/\m Q):=
 ⟨λ_ _ hq ⟨a,c⟩=>⟨a,h.mono _ _ hq c⟩,λ_ ⟨a,c⟩=>let⟨y,q1,q2⟩:=h.one _ c;⟨y,q1,a,q2⟩,λ_ _ ⟨_,c⟩ ⟨_,d⟩=>h.two _ _ c d⟩
theorem FM.jc{m:(ρ->Prop)->Prop}(h:FM m):∀(ps:List Bool),FM (TX.jc (std n) ps m)
 | []=>h
 | _::ps=> .chk (FM.jc h ps)
theorem FM.cond{b:Bool}{x y:(ρ->Prop)->Prop}(hx:FM x)(hy:FM y):FM (λQ=>(b=true->x Q)/\(b=false->y Q)):=
 ⟨λ_ _ hq ⟨a,c⟩=>⟨λh=>hx.mono _ _ hq (a h),λh=>hy.mono _ _ hq (c h)⟩,λ_ ⟨a,c⟩=>by
  cases b with
  | true=>obtain⟨y,q1,q2⟩:=hx.one _ (a rfl);grind
  | false=>obtain⟨y,q1,q2⟩:=hy.one _ (c rfl);grind,λ_ _ ⟨a,c⟩ ⟨a',c'⟩=>by
  cases b with
  | true=>exact hx.two _ _ (a rfl) (a' rfl)
  | false=>exact hy.two _ _ (c rfl) (c' rfl)⟩
theorem FM.bind'{ts:List LTy}{m:(iR ts->Prop)->Prop}{k:iR ts->(ρ->Prop)->Prop}(hm:FM m)(hk:∀t,FM (k t)):FM ((std n).bind ts m k):=by simp_all [FM.bind]
theorem FM.afC{ts:List LTy}{m:(iR ts ⊕ ρ->Prop)->Prop}{k:iR ts->(ρ->Prop)->Prop}(hm:FM m)(hk:∀t,FM (k t)):FM ((std n).vK ts m k):=by simp_all [FM.vK]
theorem FM.inl'{ts:List LTy}(t:iR ts):FM ((std n).inl (ρ:=ρ) ts t):=FM.ret _
theorem FM.inr'{ts:List LTy}{m:(ρ->Prop)->Prop}(h:FM m):FM ((std n).inr (ρ:=ρ) ts m):=by simp_all [FM.bind,iR,FM.ret]
theorem FM.iter'{ts:List LTy}{f:iR ts->(iR ts ⊕ ρ->Prop)->Prop}(hf:∀x,FM (f x))(x:iR ts):FM ((std n).iter ts f x):=FM.iter hf x
theorem FM.ret'{ts:List LTy}(t:iR ts):FM ((std n).ret ts t):=FM.ret t
theorem FM.use{cr:CR (std n)}{K:SVal->List aU->(ρ->Prop)->Prop}(h:∀v k,FM (K v k)):FM (uF (std n) cr K):=by
 obtain⟨ck,ts,y,k,td,p⟩:=cr;unfold uF;cases ts with
 | nil=>grind [fail]
 | cons a b=>grind [fail]
end
theorem vX:∀(ts:List LTy),Nonempty (iR ts)
 | []=>⟨()⟩
 | t::r=>by
  obtain⟨y⟩:=vX r;have x:Nonempty (LT aJ t):=by
   cases t with
   | i=>exact⟨(0:Int)⟩
   | b=>exact⟨false⟩
   | s=>exact⟨(default:ByteArray)⟩
   | l c=>exact⟨([]:List c.den)⟩
   | x c=>exact⟨(default:c.den)⟩
  obtain⟨x⟩:=x;exact⟨(x,y)⟩
noncomputable def cn {s:Sig} (F:iR s.inp->(iR s.out->Prop)->Prop):Ct aJ s:=
 {pre:=λx=> @decide (∃y,F x λz=>z=y) (Classical.propDecidable _)
  fn:=λx=> @Classical.epsilon _ (vX _) λy=>F x λz=>z=y}
structure Fn(E:Tab)(f:FuncId){s:Sig}(F:iR s.inp->(iR s.out->Prop)->Prop)(c:Ct aJ s):Prop where
 e:c=cn F
 fm:∀x,FM (F x)
 ok:aK E f (bT c)
theorem Fn.cs{E:Tab}{f:FuncId}{s:Sig}{F:iR s.inp->(iR s.out->Prop)->Prop}{c:Ct aJ s}(h:Fn E f F c){x:iR s.inp}{Q:iR s.out->Prop}(g:F x Q):c.pre x=true/\Q (c.fn x):=by
 rw [h.e];obtain⟨y,h1,h2⟩:=(h.fm x).one _ g;have e:∃y,F x λz=>z=y:=⟨y,h2⟩
 refine⟨by grind [cn,decide_eq_true,Classical.propDecidable],?_⟩;obtain⟨z,k1,k2⟩:=(h.fm x).two _ _ g (@Classical.epsilon_spec _ (λy=>F x λz=>z=y) e)
 grind [cn]
variable [aQ]
section
variable {n:Nat} {ρ:Type}
theorem FM.region{X:XT}{C:Calls aJ}{ops:List Oper}{K:RSt (std n)->(ρ->Prop)->Prop}(hK:∀s,FM (K s)):∀(rest:List Oper) (s:RSt (std n)),FM (gH (std n) X C ops rest K s)
 | [],s=>by unfold gH;exact hK s
 | o::rest,s=>by
  have ih:=FM.region (X:=X) (C:=C) (ops:=ops) hK rest;unfold gH;split
  .split
   .split
    .split
     .refine FM.jc ?_ _;rw [DU];exact ih _
     .exact .fail
    .split
     .exact FM.jc (FM.use λv k=>ih _) _
     .exact .fail
   .split
    .split
     .exact ih _
     .split
      .split
       .exact FM.jc (ih _) _
       .exact .fail
      .split
       .split
        .exact FM.jc (FM.use λv k=>ih _) _
        .exact .cond (FM.jc (FM.use λv k=>ih _) _) (ih _)
       .exact .fail
     .exact .fail
    .exact .fail
  .exact .fail
theorem FM.draw{X:XT}{C:Calls aJ}{ops:List Oper}{K:RSt (std n)->(ρ->Prop)->Prop}(hK:∀s,FM (K s)):∀(rest:List dK) (hs:List (Nat×List Nat)) (s:RSt (std n)),FM (jK (std n) X C ops rest hs K s)
 | [],hs,s=>by unfold jK;exact hK s
 | (i,rs,cs)::rest,hs,s=>by
  have ih:=FM.draw (X:=X) (C:=C) (ops:=ops) hK rest;unfold jK;split
  .exact .fail
  split
  .simp only
   repeat' split
   all_goals first
    | exact .fail
    | exact ih _ _
    | exact FM.jc (ih _ _) _
    | exact FM.jc (FM.use λv k=>ih _ _) _
    | exact .cond (FM.jc (FM.use λv k=>ih _ _) _) (ih _ _)
    | (refine FM.jc ?_ _;rw [DU];exact ih _ _)
  .exact .fail
theorem FM.cut{k:Nat}{sk:j6}{pl:Bool}{s:RSt (std n)}{K:Exit->RSt (std n)->(ρ->Prop)->Prop}(hK:∀e s,FM (K e s)){W: {σ:Type}->(Exit->RSt (std n)->(σ->Prop)->Prop)->(σ->Prop)->Prop}
  (hW:∀ {σ:Type} {K':Exit->RSt (std n)->(σ->Prop)->Prop},(∀e s,FM (K' e s))->FM (W K')):FM (PU (std n) k sk pl s K W):=by
 unfold PU;split
 .refine FM.bind' (hW λe s=> ?_) (λt=>hK _ _);split
  .split
   .exact FM.jc (FM.ret' _) _
   .exact .fail
  .exact .fail
 .refine FM.afC (hW λe s=> ?_) (λt=>hK _ _);split
  .split
   .exact FM.jc (FM.inl' _) _
   .exact .fail
  .exact FM.inr' (hK _ _)
theorem FM.reg{X:XT}{C:Calls aJ}{ord:Nat->List dK}{chk:Nat->Array Oper->Nat->Bool}{id:Nat}{ops:Array Oper}{draw:Bool}{s:RSt (std n)}{K:Exit->RSt (std n)->(ρ->Prop)->Prop}(hK:∀e s,FM (K e s)):
 FM ((if draw then(if chk id ops s.m then jK (std n) X C ops.toList (ord id) [] (λs=>K .normal s) s else(std n).fail)else gH (std n) X C ops.toList ops.toList (λs=>K .normal s) s:(std n).M ρ)):=by grind [FM.draw,fail,FM.region]
end
theorem FM.exec{n:Nat}{X:XT}{C:Calls aJ}{ord:Nat->List dK}{chk:Nat->Array Oper->Nat->Bool}{k:Nat}:∀(code:Code) {ρ:Type} (an:Ann) (s:RSt (std n)) (K:Exit->RSt (std n)->(ρ->Prop)->Prop),(∀e s,FM (K e s))->FM (bM (std n) X C ord chk k an code s K)
  | .skip,ρ,an,s,K,hK=>by cases an<;>exact hK _ _
  | .region id ops draw,ρ,an,s,K,hK=>by
    simp only [bM];split
    · exact FM.cut hK λhK'=>FM.reg hK'
    · exact FM.reg hK
  | .seq x y,ρ,an,s,K,hK=>by
    have main:∀a1 a2 (K1:Exit->RSt (std n)->(ρ->Prop)->Prop),(∀s',K1 .normal s'=bM (std n) X C ord chk k a2 y s' K)->(∀e s',e≠ .normal->K1 e s'=K e s')->FM (bM (std n) X C ord chk k a1 x s K1):=by
      intro a1 a2 K1 h1 h2;refine FM.exec x a1 s K1 λe s'=> ?_
      by_cases he:e= .normal
      · subst he;rw [h1];exact FM.exec y a2 s' K hK
      · rw [h2 e s' he];exact hK _ _
    cases an with
    | seq a1 a2=>rw [bM];exact main a1 a2 _ (λ_=>rfl) (λe s' he=>by cases e<;>first | rfl | exact absurd rfl he)
    | u=>rw [bM];exact main .u .u _ (λ_=>rfl) (λe s' he=>by cases e<;>first | rfl | exact absurd rfl he)
    | _=>simp only [bM];exact .fail
  | .cond cd x y,ρ,an,s,K,hK=>by
    simp only [bM];split
    · split
      · exact .cond (FM.exec x _ s K hK) (FM.exec y _ s K hK)
      · exact .cond (FM.exec x _ s K hK) (FM.exec y _ s K hK)
      · exact FM.cut hK λhK'=> .cond (FM.exec x _ s _ hK') (FM.exec y _ s _ hK')
      · exact .fail
    · exact .fail
  | .block id b,ρ,an,s,K,hK=>by
    have main:∀ {σ:Type} {K':Exit->RSt (std n)->(σ->Prop)->Prop},(∀e s,FM (K' e s))->∀a1 (K1:Exit->RSt (std n)->(σ->Prop)->Prop),(∀e s',K1 e s'=K' e s'\/K1 e s'=K' .normal s')->FM (bM (std n) X C ord chk k a1 b s K1):=by
      intro σ K' hK' a1 K1 h1;refine FM.exec b a1 s K1 λe s'=> ?_
      rcases h1 e s' with h | h<;>rw [h]<;>exact hK' _ _
    have alt:∀ {σ:Type} {K':Exit->RSt (std n)->(σ->Prop)->Prop} (e:Exit) (s':RSt (std n)),(match e with | .exit i=>if i==id then K' .normal s' else K' (.exit i) s' | e=>K' e s':(std n).M σ)=K' e s'\/(match e with | .exit i=>if i==id then K' .normal s' else K' (.exit i) s' | e=>K' e s':(std n).M σ)=K' .normal s':=by
      intro σ K' e s';cases e with
      | exit i => simp only; split
                  · exact .inr rfl
                  · exact .inl rfl
      | _=>exact .inl rfl
    simp only [bM];split
    · exact main hK _ _ alt
    · exact main hK _ _ alt
    · exact FM.cut hK λhK'=>main hK' _ _ alt
    · exact .fail
  | .loop b,ρ,an,s,K,hK=>by
    cases an with
    | loop sk a1=>
      rw [bM];split
      · refine FM.jc (FM.iter' (λx=>FM.exec b a1 _ _ λe s'=> ?_) _) _;split
        · split
          · exact FM.jc (FM.inl' _) _
          · exact .fail
        · exact FM.inr' (hK _ _)
      · exact .fail
    | _=>simp only [bM];exact .fail
  | .exit i,ρ,an,s,K,hK=>by cases an<;>exact hK _ _
  | .ret,ρ,an,s,K,hK=>by cases an<;>exact hK _ _
  | .rangeFunc ..,ρ,an,s,K,hK=>by grind [bM,fail]
  | .scope _,ρ,an,s,K,hK=>by grind [bM,fail]
  | .label _,ρ,an,s,K,hK=>by grind [bM,fail]
  | .goto _,ρ,an,s,K,hK=>by grind [bM,fail]
  | .refuse _,ρ,an,s,K,hK=>by grind [bM,fail]
theorem FM.run{n:Nat}{X:XT}{C:Calls aJ}{ord:Nat->List dK}{chk:Nat->Array Oper->Nat->Bool}{an:Ann}{sg:Sig}{fn:Func}{code:Code}(x:iR sg.inp):FM (J6 (std n) X C ord chk an sg fn code x):=by
 unfold J6;split
 .exact .fail
 .split
  .split
   .refine FM.exec code an _ _ λe s=> ?_
    have he:FM (Vt (std n) X sg fn s):=by
     unfold Vt;split
     .split
      .split
       .split
        .split
         .exact FM.jc (FM.ret' _) _
         .exact .fail
        .exact .fail
       .exact .fail
      .exact .fail
     .exact .fail
    grind [fail]
   .exact .fail
  .exact .fail
def ofL(C:Car)(l:List (FuncId×Sigma (Ct C))):Calls C:=λf=>(l.filter λp=>p.1==f).map (·.2)
def Ko(l:List (Nat×List dK))(i:Nat):List dK:=match l.find? λp=>p.1==i with | some p=>p.2 | none=> []
def Xy(E:Tab)(l:List (Nat×List dK))(id:Nat)(ops:Array Oper)(m:Nat):Bool:=JU ops.toList (Ko l id)&&zN E m ops.toList&&JW E.P ops.toList
theorem TI{E:Tab}{l:List (Nat×List dK)}:∀id ops m,Xy E l id ops m=true->Static E (Ko l) id ops m:=λ_ _ _ h=>h
theorem Xz{E:Tab}{l:List (FuncId×Sigma (Ct aJ))}(h:∀p∈l,aK E p.1 (bT p.2.2)):jZ E (lg (ofL aJ l)):=by
 intro f R hR;unfold lg at hR;split at hR
 .cases hR
 .cases hR;rename_i hne;have hall:∀ct∈ofL aJ l f,aK E f (bT ct.2):=λct hct=>by
   obtain⟨p,hp,rfl⟩:=List.mem_map.1 hct
   grind
  obtain⟨ct,hct⟩:=List.exists_mem_of_ne_nil _ hne;exact⟨(hall ct hct).enters,λargs h n K ⟨ct,hct,hk⟩=>(hall ct hct).calls args h n K hk⟩
def Ru(X:XT)(E:Tab)(A:Alg)(ord:List (Nat×List dK))(an:Ann)(s:Sig)(fn:Func)(l:List (FuncId×Sigma (Ct A.aC)))(F:Tup A.aC s.inp->A.M (Tup A.aC s.out)):Prop:=
 ∀x,J6 A X (ofL A.aC l) (Ko ord) (Xy E ord) an s fn (fn.body.getD .skip) x=F x
section
variable {X:XT} {E:Tab} (hE:aR E) (hX:XOK X E) (hm:E.P.follows .mixedOrders=true)
include hE hX hm
theorem alJ{f:FuncId}{fn:Func}(hf:E.P.funcs[f]? =some fn)(hb:fn.body.isSome=true)(hent:∀c,fn.body=some c->Enters E.P f){l:List (FuncId×Sigma (Ct aJ))}(hl:∀p∈l,aK E p.1 (bT p.2.2)){ord:List (Nat×List dK)}{sg:Sig}{an:Ann}
  {F:iR sg.inp->(iR sg.out->Prop)->Prop} (hrun:Ru X E (std 0) ord an sg fn l F):Fn E f F (cn F):=by
 obtain⟨code,hb⟩:=Option.isSome_iff_exists.1 hb;have hr:∀x,J6 (std 0) X (ofL aJ l) (Ko ord) (Xy E ord) an sg fn code x=F x:=λx=>by have:=hrun x;simp_all
 have hFM:∀x,FM (F x):=λx=>by rw [<-hr x];exact FM.run x
 refine⟨rfl,hFM,aiD hE hX (Xz hl) hm (ord:=Ko ord) (chk:=Xy E ord) TI hf hb (hent _ hb) (an:=an) (λx hx=> ?_)⟩;rw [hr x];simp only [cn]at hx;exact @Classical.epsilon_spec _ (λy=>F x λz=>z=y) (@of_decide_eq_true _ (Classical.propDecidable _) hx)
end
abbrev aQ.z:aQ:=⟨[],[]⟩
abbrev Tup.q{C:Car}{a b c d:LTy}{ts:List LTy}(x:Tup C (a::b::c::d::ts)):Tup C ts:=x.2.2.2.2
abbrev Tup.o{C:Car}{a b c d e f g h:LTy}{ts:List LTy}(x:Tup C (a::b::c::d::e::f::g::h::ts)):Tup C ts:=x.2.2.2.2.2.2.2.2
abbrev Pt(A:Alg)(s:Sig):Type:=Tup A.aC s.inp->A.B
abbrev Ft(A:Alg)(s:Sig):Type:=Tup A.aC s.inp->Tup A.aC s.out
abbrev Ot(A:Alg)(s:Sig):Type:=A.M (Tup A.aC s.out)
structure Al(A:Alg) where
 n:Int->A.I
 z:A.I
 u:A.I
 T:A.B
 F:A.B
 e:A.I->A.I->A.B
 d:A.I->A.I->A.B
 l:A.I->A.I->A.B
 m:A.I->A.I->A.B
 g:A.I->A.I->A.B
 h:A.I->A.I->A.B
 p:A.I->A.I->A.I
 q:A.I->A.I->A.I
 t:A.I->A.I->A.I
 i: {ρ:Type}->A.I->(Tup A.aC [.i]->A.M ρ)->A.M ρ
 b: {ρ:Type}->A.B->(Tup A.aC [.b]->A.M ρ)->A.M ρ
 s: {ρ:Type}->(t:LTy)->LT A.aC t->(Tup A.aC [t]->A.M ρ)->A.M ρ
 j: {ρ:Type}->{i o:List LTy}->(Tup A.aC i->A.B)->(Tup A.aC i->Tup A.aC o)->Tup A.aC i->(Tup A.aC o->A.M ρ)->A.M ρ
 k: {ρ:Type}->{i o:List LTy}->A.B->(Tup A.aC i->A.B)->(Tup A.aC i->Tup A.aC o)->Tup A.aC i->(Tup A.aC o->A.M ρ)->A.M ρ
 v:A.B->A.M (Tup A.aC [.b])
 w: {ρ:Type}->(c:Co)->A.L c->A.I->A.M ρ->A.M ρ
 c: {ρ:Type}->A.B->A.M ρ->A.M ρ->A.M ρ
 C: {ρ:Type}->A.B->A.M ρ->A.M ρ
 r: {ts:List LTy}->Tup A.aC ts->A.M (Tup A.aC ts)
 L: {ρ:Type}->{ts:List LTy}->Tup A.aC ts->A.M (Sum (Tup A.aC ts) ρ)
 R: {ρ:Type}->{ts:List LTy}->A.M ρ->A.M (Sum (Tup A.aC ts) ρ)
 I: {ρ:Type}->(ts:List LTy)->(Tup A.aC ts->A.M (Sum (Tup A.aC ts) ρ))->Tup A.aC ts->A.M ρ
 f:(c:Co)->Nat->A.X c->A.I
 D:(c:Co)->Nat->(c':Co)->A.X c->A.L c'
 x:(c:Co)->Tup A.aC c.su->A.X c
 y:(c:Co)->A.L c->A.I
 o:(c:Co)->A.L c->A.I->A.X c
 a:A.B->A.B->A.B->A.B
 N:A.B->A.B
 O:A.B->A.B->A.B
abbrev Alg.al(A:Alg):Al A where
 n:=A.lit
 z:=A.lit 0
 u:=A.lit 1
 T:=A.bl true
 F:=A.bl false
 e:=A.cmp .eql
 d:=A.cmp .neq
 l:=A.cmp .lss
 m:=A.cmp .leq
 g:=A.cmp .gtr
 h:=A.cmp .geq
 p:=A.arith .add .i64
 q:=A.arith .sub .i64
 t:=A.arith .mul .i64
 i:=λv k=>A.uP [.i] (v,()) k
 b:=λv k=>A.uP [.b] (v,()) k
 s:=λt v k=>A.uP [t] (v,()) k
 j:=λp f a k=>A.chk (p a) (A.uP _ (f a) k)
 k:=λb p f a k=>A.chk (A.orB (A.yx b) (p a)) (A.uP _ (f a) k)
 v:=λv=>A.uP [.b] (v,()) λx=>A.ret [.b] (x.1,())
 w:=λc l i m=>A.chk (A.cmp .leq (A.lit 0) i) (A.chk (A.cmp .lss i (A.len c l)) m)
 c:=A.cond
 C:=A.chk
 r:=A.ret _
 L:=A.inl _
 R:=A.inr _
 I:=A.iter
 f:=A.fI
 D:=A.fL
 x:=A.mkX
 y:=A.len
 o:=A.get
 a:=A.JY
 N:=A.yx
 O:=A.orB
abbrev SkC.i:SkC:= .int .i64
abbrev SkV.i:SkV:= .c (.int .i64)
abbrev SkV.b:SkV:= .c .bool
abbrev SkV.p(l s:Nat):SkV:= .c (.pb l s 0)
abbrev SkV.o(l:Nat):SkV:= .c (.own l)
abbrev SkV.r(f:Bool)(c:Co):SkV:= .c (.rows f c)
abbrev SkO.g(l:List SkC):SkO:= .box (.agg l)
abbrev SkC.e:SkC:= .rows true .i64
abbrev SkO.e:SkO:= .rows true .i64
abbrev SkO.s(f:Bool)(c:Co):SkO:= .box (.sv f c)
abbrev Ann.v(a:Ann):Ann:= .seq .u a
end Go.TX
namespace Go.TX
open Go Go.AE
section
variable [aQ]
def tmps(l:List Operand):List Nat:=l.filterMap λ| .tmp t=>some t | _=>none
def opT(ops:List Oper)(o:Oper):List Nat:=
 (match o.op with
 | .build _ ps | .buildSlice _ _ ps=>tmps (ps.toList.map (·.2))
 | .slice _ x a b c=>tmps (x::(a.toList++b.toList++c.toList))
 | .makeFunc _ a b=>tmps (a.toList++b.toList)
 | .call c=>tmps c.operands.toList
 | .lookup _ a v _=>tmps [a,v]++(nN ops).map (·.2)
 | op=>tmps op.operands.toList)++(match o.guard with | some (j,_)=>(gslot ops j).toList | none=> [])
def XA(ops:List Oper)(m:List Nat)(k2:Nat):Nat->Nat->List dK->List dK
 | 0,_,out=>out
 | k+1,dn,out=>
  let dm (i:Nat):Nat:=match ops[i]? with | some o=>Wz [] o.after.toList | none=>0
  let rdy (i q:Nat):Bool:= !dn.testBit i&& (dm i&&&q)==dm i
  let rs (i:Nat):List Nat:=match ops[i]? with | some o=>opT ops o | none=> []
  let n:=List.range ops.length
  match n.find? λi=>Nat.ble (bK ops i) 1&&rdy i (n.foldl (λd j=>if k2.testBit j&& !(match gslot ops j with | some x=>(rs i).contains x | none=>false)then d ||| 2^j else d) dn)with
  | some i=>XA ops m k2 k (dn ||| 2^i) (out++ [(i,rs i,[])])
  | none=>match n.find? λi=>bK ops i==3&&rdy i (dn ||| k2)with
   | some i=>
    let a:=n.filter λj=>bK ops j==2&& !dn.testBit j&& (m.getD i 0).testBit j
    XA ops m k2 k (a.foldl (λd j=>d ||| 2^j) dn ||| 2^i) (out++a.map (λj=>(j,[],[]))++ [(i,rs i,(out.filter λp=>loadAt ops p.1&& !mD m i p.1).map (·.1))])
   | none=>out++(n.filter λj=> !dn.testBit j).map (λj=>(j,[],[]))
def aiN(ops:List Oper):List dK:=XA ops (masks ops) ((List.range ops.length).foldl (λd i=>if bK ops i==2 then d ||| 2^i else d) 0) (ops.length+1) 0 []
def NI:Code->List (Nat×List dK)
 | .region id ops true=> [(id,aiN ops.toList)]
 | .seq a b | .cond _ a b=>NI a++NI b
 | .block _ b | .loop b=>NI b
 | _=> []
def acu(f:Func):List (Nat×List dK):=NI (f.body.getD .skip)
end
inductive Ex where
 | v (n j:Nat) | ln (n:Nat) | lz (n:Nat) | bl (b:Bool) | st (s:ByteArray)
 | ar (op:BinOp) (k:IntKind) (x y:Ex) | cm (op:BinOp) (x y:Ex) | addN (x y:Ex) | M5 (x y:Ex) | neg (k:IntKind) (x:Ex) | conv (k:IntKind) (x:Ex) | Pq (x y:Ex) | kZ (x y:Ex)
 | yx (x:Ex) | M6 (x y:Ex) | orB (x y:Ex) | eqB (x y:Ex) | eqS (x y:Ex) | Pv (x:Ex)
 | Pw (b x y:Ex) | JY (b x y:Ex) | Px (b:Ex) (c:Co) (x y:Ex) | Vq (b:Ex) (c:Co) (x y:Ex)
 | len (c:Co) (x:Ex) | EK (c:Co) | get (c:Co) (x i:Ex) | set (c:Co) (x i y:Ex) | app (c:Co) (x y:Ex) | sub (c:Co) (x i j:Ex) | rep (c:Co) (n x:Ex) | lst (c:Co) (xs:List Ex) | glob (n:Nat) (c:Co)
 | fI (c:Co) (j:Nat) (x:Ex) | fB (c:Co) (j:Nat) (x:Ex) | fS (c:Co) (j:Nat) (x:Ex) | fL (c:Co) (j:Nat) (c':Co) (x:Ex) | mkX (c:Co) (ts:List LTy) (t:List Ex) | eqX (c:Co) (x y:Ex)
 | cp (i:Nat) (ts:List LTy) (t:List Ex) | cf (i:Nat) (ts:List LTy) (t:List Ex) (j:Nat)
inductive Pg where
 | ret (ts:List LTy) (t:List Ex) | uP (ts:List LTy) (t:List Ex) (k:Pg) | aiO (i:Nat) (ts:List LTy) (t:List Ex) (k:Pg) | fail | chk (b:Ex) (m:Pg) | cond (b:Ex) (x y:Pg) | bind (ts:List LTy) (m k:Pg) | vK (ts:List LTy) (m k:Pg)
 | inl (ts:List LTy) (t:List Ex) | inr (ts:List LTy) (m:Pg) | iter (ts:List LTy) (b:Pg) (t:List Ex)
abbrev Hl:Car:={I:=Ex,B:=Ex,S:=Ex,L:=λ_=>Ex,X:=λ_=>Ex}
def lvE:LV Hl->Ex | .i x=>x | .b x=>x | .s x=>x | .l _ x=>x | .x _ x=>x
def tE(ts:List LTy)(t:Tup Hl ts):List Ex:=(unpack Hl ts t).map lvE
def eT(f:Nat->Ex):(ts:List LTy)->Nat->Tup Hl ts
 | [],_=>()
 | t::r,j=>(match t with | .i=>f j | .b=>f j | .s=>f j | .l _=>f j | .x _=>f j,eT f r (j+1))
def vT(ts:List LTy)(n:Nat):Tup Hl ts:=eT (.v n) ts 0
def aiP(i:Nat):Nat->List Ex->Bool
 | _,[]=>true
 | j,.cf i' _ _ j'::r=>Nat.beq i i'&&Nat.beq j j'&&aiP i (j+1) r
 | _,_=>false
structure MS where
 run:Nat->Pg
def aiQ:Alg:={
 aC:=Hl
 M:=λ_=>MS
 lit:=λn=>(match n with | .ofNat k=> .ln k | .negSucc k=> .lz (k+1)),bl:= .bl,st:= .st,arith:= .ar,cmp:= .cm,addN:= .addN,M5:= .M5,neg:= .neg,conv:= .conv,Pq:= .Pq,kZ:= .kZ
 yx:= .yx,M6:= .M6,orB:= .orB,eqB:= .eqB,eqS:= .eqS,Pv:= .Pv,Pw:= .Pw,JY:= .JY,Px:= .Px,Vq:= .Vq
 len:= .len,EK:= .EK,get:= .get,set:= .set,app:= .app,sub:= .sub,rep:= .rep,lst:= .lst,glob:= .glob
 fI:= .fI,fB:= .fB,fS:= .fS,fL:= .fL,mkX:=λc t=> .mkX c c.su (tE c.su t),eqX:= .eqX
 ret:=λts t=>⟨λ_=> .ret ts (tE ts t)⟩
 uP:=λts t k=>⟨λn=>match tE ts t with | .cf i q e 0::r=>if aiP i 1 r then .aiO i q e ((k (vT ts n)).run (n+1))else .uP ts (.cf i q e 0::r) ((k (vT ts n)).run (n+1)) | e=> .uP ts e ((k (vT ts n)).run (n+1))⟩
 fail:=⟨λ_=> .fail⟩
 chk:=λb m=>⟨λn=> .chk b (m.run n)⟩
 cond:=λb x y=>⟨λn=> .cond b (x.run n) (y.run n)⟩
 bind:=λts m k=>⟨λn=> .bind ts (m.run n) ((k (vT ts n)).run (n+1))⟩
 vK:=λts m k=>⟨λn=> .vK ts (m.run n) ((k (vT ts n)).run (n+1))⟩
 inl:=λts t=>⟨λ_=> .inl ts (tE ts t)⟩
 inr:=λts m=>⟨λn=> .inr ts (m.run n)⟩
 iter:=λts b t=>⟨λn=> .iter ts ((b (vT ts n)).run (n+1)) (tE ts t)⟩}
def sCt(i:Nat)(s:Sig):Ct Hl s:={pre:=λt=> .cp i s.inp (tE s.inp t),fn:=λt=>eT (.cf i s.inp (tE s.inp t)) s.out 0}
def scs:List (Nat×Sig)->Nat->List (FuncId×Sigma (Ct Hl))
 | [],_=> []
 | p::r,i=>(p.1,⟨p.2,sCt i p.2⟩)::scs r (i+1)
def alK(k:aQ)(X:XT)(a:Ann)(s:Sig)(f:Func)(l:List (Nat×Sig)):Pg:=
 (J6 aiQ X (ofL Hl (scs l 0)) (Ko (acu f)) (λ_ _ _=>true) a s f (f.body.getD .skip) (vT s.inp 0)).run 1
abbrev Cs(A:Alg):List (Nat×Sig)->Type
 | []=>Unit
 | p::r=>Pt A p.2×Ft A p.2×Cs A r
abbrev csl(A:Alg):(l:List (Nat×Sig))->Cs A l->List (FuncId×Sigma (Ct A.aC))
 | [],_=> []
 | p::r,c=>(p.1,⟨p.2,⟨c.1,c.2.1⟩⟩)::csl A r c.2.2
abbrev Vs(A:Alg):=List ((ts:List LTy)×Tup A.aC ts)
section
variable (A:Alg) (L Z:Nat->A.I) (W:ByteArray->A.S) (P:∀ {α β:Type},α×β->α) (Q:∀ {α β:Type},α×β->β) (U:Unit) (l:List (Nat×Sig)) (C:Cs A l) (N:Nat) (V:Vs A)
def dfl:(t:LTy)->LT A.aC t
 | .i=>L 0 | .b=>A.bl true | .s=>W default | .l c=>A.EK c | .x c=>A.get c (A.EK c) (L 0)
def afD:(ts:List LTy)->Tup A.aC ts | []=>() | t::r=>(dfl A L W t,afD r)
def cst(t' t:LTy)(x:LT A.aC t'):LT A.aC t:=if h:t'=t then h▸x else dfl A L W t
def VE(ts' ts:List LTy)(x:Tup A.aC ts'):Tup A.aC ts:=if h:ts'=ts then h▸x else afD A L W ts
def vrT:(ts:List LTy)->Tup A.aC ts->Nat->(t:LTy)->LT A.aC t
 | [],_,_,t=>dfl A L W t
 | t'::_,x,0,t=>cst A L W t' t (P x)
 | _::r,x,j+1,t=>vrT r (Q x) j t
def vr(n j:Nat)(t:LTy):LT A.aC t:=match V[N-1-n]? with | some p=>vrT A L W P Q p.1 p.2 j t | none=>dfl A L W t
def cP:(l:List (Nat×Sig))->Cs A l->Nat->((s:Sig)->Tup A.aC s.inp)->A.B
 | [],_,_,_=>A.bl true
 | p::_,c,0,g=>c.1 (g p.2)
 | _::r,c,i+1,g=>cP r c.2.2 i g
def cF{R:Type}(d:R):(l:List (Nat×Sig))->Cs A l->Nat->((s:Sig)->Ft A s->R)->R
 | [],_,_,_=>d
 | p::_,c,0,g=>g p.2 c.2.1
 | _::r,c,i+1,g=>cF d r c.2.2 i g
mutual
def ev:Ex->(t:LTy)->LT A.aC t
 | .v n j,t=>vr A L W P Q N V n j t
 | .ln n,.i=>L n
 | .lz n,.i=>Z n
 | .bl b,.b=>A.bl b
 | .st s,.s=>W s
 | .ar op k x y,.i=>A.arith op k (ev x .i) (ev y .i)
 | .cm op x y,.b=>A.cmp op (ev x .i) (ev y .i)
 | .addN x y,.i=>A.addN (ev x .i) (ev y .i)
 | .M5 x y,.i=>A.M5 (ev x .i) (ev y .i)
 | .neg k x,.i=>A.neg k (ev x .i)
 | .conv k x,.i=>A.conv k (ev x .i)
 | .Pq x y,.i=>A.Pq (ev x .i) (ev y .i)
 | .kZ x y,.i=>A.kZ (ev x .i) (ev y .i)
 | .yx x,.b=>A.yx (ev x .b)
 | .M6 x y,.b=>A.M6 (ev x .b) (ev y .b)
 | .orB x y,.b=>A.orB (ev x .b) (ev y .b)
 | .eqB x y,.b=>A.eqB (ev x .b) (ev y .b)
 | .eqS x y,.b=>A.eqS (ev x .s) (ev y .s)
 | .Pv x,.s=>A.Pv (ev x (.l .u8))
 | .Pw b x y,.i=>A.Pw (ev b .b) (ev x .i) (ev y .i)
 | .JY b x y,.b=>A.JY (ev b .b) (ev x .b) (ev y .b)
 | .Px b _ x y,.l c=>A.Px (ev b .b) c (ev x (.l c)) (ev y (.l c))
 | .Vq b _ x y,.x c=>A.Vq (ev b .b) c (ev x (.x c)) (ev y (.x c))
 | .len c x,.i=>A.len c (ev x (.l c))
 | .EK _,.l c=>A.EK c
 | .get _ x i,.x c=>A.get c (ev x (.l c)) (ev i .i)
 | .set _ x i y,.l c=>A.set c (ev x (.l c)) (ev i .i) (ev y (.x c))
 | .app _ x y,.l c=>A.app c (ev x (.l c)) (ev y (.l c))
 | .sub _ x i j,.l c=>A.sub c (ev x (.l c)) (ev i .i) (ev j .i)
 | .rep _ n x,.l c=>A.rep c (ev n .i) (ev x (.x c))
 | .lst _ xs,.l c=>A.lst c (evs c xs)
 | .glob n _,.l c=>A.glob n c
 | .fI c j x,.i=>A.fI c j (ev x (.x c))
 | .fB c j x,.b=>A.fB c j (ev x (.x c))
 | .fS c j x,.s=>A.fS c j (ev x (.x c))
 | .fL c j _ x,.l c'=>A.fL c j c' (ev x (.x c))
 | .mkX _ ts t,.x c=>A.mkX c (VE A L W ts c.su (tp t ts))
 | .eqX c x y,.b=>A.eqX c (ev x (.x c)) (ev y (.x c))
 | .cp i ts t,.b=>cP A l C i λs=>VE A L W ts s.inp (tp t ts)
 | .cf i ts t j,ty=>cF A (dfl A L W ty) l C i λs f=>vrT A L W P Q s.out (f (VE A L W ts s.inp (tp t ts))) j ty
 | _,t=>dfl A L W t
termination_by structural e=>e
def tp:List Ex->(ts:List LTy)->Tup A.aC ts
 | _,[]=>U
 | e::r,t::ts=>(ev e t,tp r ts)
 | [],t::ts=>afD A L W (t::ts)
termination_by structural e=>e
def evs(c:Co):List Ex->List (A.X c)
 | []=> []
 | e::r=>ev e (.x c)::evs c r
termination_by structural e=>e
end
end
inductive RT where
 | t (ts:List LTy) | s (ts:List LTy) (r:RT)
abbrev RT.den(A:Alg):RT->Type
 | .t ts=>Tup A.aC ts
 | .s ts r=>Sum (Tup A.aC ts) (r.den A)
def den(A:Alg)(L Z:Nat->A.I)(W:ByteArray->A.S)(P:∀ {α β:Type},α×β->α)(Q:∀ {α β:Type},α×β->β)(U:Unit)(l:List (Nat×Sig))(C:Cs A l):Pg->(r:RT)->Nat->Vs A->A.M (r.den A)
 | .ret q t,.t ts,N,V=>A.ret ts (VE A L W q ts (tp A L Z W P Q U l C N V t q))
 | .uP ts t k,r,N,V=>A.uP ts (tp A L Z W P Q U l C N V t ts) λy=>den A L Z W P Q U l C k r (N+1) (⟨ts,y⟩::V)
 | .aiO i q t k,r,N,V=>cF A A.fail l C i λs f=>A.uP s.out (f (VE A L W q s.inp (tp A L Z W P Q U l C N V t q))) λy=>den A L Z W P Q U l C k r (N+1) (⟨s.out,y⟩::V)
 | .chk b m,r,N,V=>A.chk (ev A L Z W P Q U l C N V b .b) (den A L Z W P Q U l C m r N V)
 | .cond b x y,r,N,V=>A.cond (ev A L Z W P Q U l C N V b .b) (den A L Z W P Q U l C x r N V) (den A L Z W P Q U l C y r N V)
 | .bind ts m k,r,N,V=>A.bind ts (den A L Z W P Q U l C m (.t ts) N V) λy=>den A L Z W P Q U l C k r (N+1) (⟨ts,y⟩::V)
 | .vK ts m k,r,N,V=>A.vK ts (den A L Z W P Q U l C m (.s ts r) N V) λy=>den A L Z W P Q U l C k r (N+1) (⟨ts,y⟩::V)
 | .inl q t,.s ts _,N,V=>A.inl ts (VE A L W q ts (tp A L Z W P Q U l C N V t q))
 | .inr _ m,.s ts r,N,V=>A.inr ts (den A L Z W P Q U l C m r N V)
 | .iter ts b t,r,N,V=>A.iter ts (λy=>den A L Z W P Q U l C b (.s ts r) (N+1) (⟨ts,y⟩::V)) (tp A L Z W P Q U l C N V t ts)
 | _,_,_,_=>A.fail
inductive Hx {α:Type}:α->α->Prop | r (a:α):Hx a a
theorem nz(n:Nat):(Nat.cast (no_index (@OfNat.ofNat Nat n (instOfNatNat n))):Int)=OfNat.ofNat n:=rfl
structure Gt(k:aQ)(X:XT)(E:Tab)(a:Ann)(s:Sig)(f:Func)(l:List (Nat×Sig)) where
 F:Cs (std 0) l->iR s.inp->(iR s.out->Prop)->Prop
 h:∀C,Ru X E (std 0) (acu f) a s f (csl (std 0) l C) (F C)
def gm{k:aQ}{X:XT}{E:Tab}{a:Ann}{s:Sig}{f:Func}{l:List (Nat×Sig)}{F:(A:Alg)->Cs A l->Tup A.aC s.inp->Ot A s}
 (_g:∀A (P:∀ {α β:Type},α×β->α) (Q:∀ {α β:Type},α×β->β) (U:Unit), @P= @Prod.fst-> @Q= @Prod.snd->U=()->∀C x,Hx (den A (λn=>A.lit (Nat.cast n)) (λn=>A.lit (-(Nat.cast n))) A.st P Q U l C (alK k X a s f l) (.t s.out) 1 [⟨s.inp,x⟩]) (F A C x):=by
  intro A P Q U hP hQ hU C x;generalize hL:(λn:Nat=>A.lit (Nat.cast n))=L;generalize hZ:(λn:Nat=>A.lit (-(Nat.cast n)))=Z
  conv=>arg 1;arg 10;reduce
  conv=>arg 1;reduce
  subst hL hZ hP hQ hU
  try dsimp only [nz]
  exact .r _)
 (h:∀A C,Ru X E A (acu f) a s f (csl A l C) (F A C):=by intro _ _ _;kernel_rfl):Gt k X E a s f l:=⟨F (std 0),h (std 0)⟩
end Go.TX
namespace Go.AE
open Go
inductive aN (h:Heap):Cell->D->(Nat->Prop)->Prop
 | int (f:Bool) (k:IntKind) (n:Int):aN h (.d f (.int k n)) (.int k n) (λ_=>False)
 | bool (f:Bool) (b:Bool):aN h (.d f (.bool b)) (.bool b) (λ_=>False)
 | nil (sz:Nat):aN h .nil (.rows sz []) (λ_=>False)
 | flat (l sz:Nat) (f:Bool) (es:List (List D)):look h l=some (.rows f sz es)->nY es=true->aN h (.os l sz 0 es.length) (.rows sz es) (λx=>x=l)
 | grid (l sz:Nat) (cs:List (List Cell)) (es:List (List D)) (N:Nat->Nat->Nat->Prop):look h l=some (.grid sz cs)->cs.length=es.length->
  (∀i,i<es.length->(es.getD i []).length=sz)->(∀i,i<es.length->(cs.getD i []).length=sz)->(∀i,i<es.length->∃j,j<sz/\(gd es i j).bY=false)->
  (∀i j,i<es.length->j<sz->aN h (gc cs i j) (gd es i j) (N i j))->
  (∀i j x,i<es.length->j<sz->N i j x->x≠l)->
  (∀i j i' j' x,i<es.length->j<sz->i'<es.length->j'<sz->N i j x->N i' j' x->i=i'/\j=j')->
  aN h (.os l sz 0 es.length) (.rows sz es) (λx=>x=l\/∃i j,i<es.length/\j<sz/\N i j x)
def aN.frame{h h':Heap}{x:Cell}{d:D}{N:Nat->Prop}(t:aN h x d N)(hh:∀l,N l->look h' l=look h l):aN h' x d N:=by
 induction t with
 | int f k n=>exact .int f k n
 | bool f b=>exact .bool f b
 | nil sz=>exact .nil sz
 | flat l sz f es hl hs=>exact .flat l sz f es (by rw [hh l rfl];exact hl) hs
 | grid l sz cs es N hl hc h1 h1c hns h2 h3 h4 ih=>
  exact .grid l sz cs es N (by rw [hh l (.inl rfl)];exact hl) hc h1 h1c hns (λi j hi hj=>ih i j hi hj λl hl=>hh l (.inr ⟨i,j,hi,hj,hl⟩)) h3 h4
def aN.cast{h:Heap}{x:Cell}{d:D}{N M:Nat->Prop}(t:aN h x d N)(e:∀l,N l↔M l):aN h x d M:=by
 have:N=M:=funext λl=>propext (e l)
 rw [<-this];exact t
def TJ{c:Ctx}{w:World}{h:Heap}(H:bC c w h){l sz:Nat}{f:Bool}{es:List (List D)}(hl:look h l=some (.rows f sz es)){v:Value}(hv:bB c w v (.os l sz 0 es.length)):dJ (λb=>b<w.heap.size) w v (.rows sz es):=by
 have hro:=(H.obj l _ hl).2;generalize hn:es.length=n at hv;cases hv with
 | os0 a _ _ hl' hm=>have:es=[]:=List.eq_nil_of_length_eq_zero hn;subst this;exact .none _ _ _
 | osE a _ _ _ b hl' hm=>have:es=[]:=List.eq_nil_of_length_eq_zero hn;subst this;exact .none _ _ _
 | os _ _ _ _ cap b o hl' hm hcap hroom=>
  simp only [gq,hm]at hro;obtain⟨cells,e,hb,hrow⟩:=hro;obtain⟨u,hu⟩:=hrow.ab4;refine .rows b (o+0*sz) cap sz n es u (lt_of_some hb) hn.symm hcap (λi j hi hj=> ?_) (λi hi=>(hrow i hi).1) (λi j hi hj=>(hu i j hi hj).2.mono' (H.low f));rw [jw hb,Nat.zero_mul,Nat.add_zero,Nat.add_assoc];have:=(hu i j hi hj).1
  rwa [mG]at this
def aN.rel{c:Ctx}{w:World}{h:Heap}(H:bC c w h){x:Cell}{d:D}{N:Nat->Prop}(t:aN h x d N):∀ {v:Value},bB c w v x->dJ (λb=>b<w.heap.size) w v d:=by
 induction t with
 | int f k n=>intro v hv;cases hv with | d _ _ _ hv=>exact hv.bY _ rfl
 | bool f b=>intro v hv;cases hv with | d _ _ _ hv=>exact hv.bY _ rfl
 | nil sz=>intro v hv;cases hv;exact .none _ _ _
 | flat l sz f es hl hs=>intro v hv;exact TJ H hl hv
 | grid l sz cs es N hl hc h1 h1c hns h2 h3 h4 ih=>
  intro v hv;have hro:=(H.obj l _ hl).2;generalize hn:es.length=n at hv;cases hv with
  | os0 a _ _ hl' hm=>have:es=[]:=List.eq_nil_of_length_eq_zero hn;subst this;exact .none _ _ _
  | osE a _ _ _ b hl' hm=>have:es=[]:=List.eq_nil_of_length_eq_zero hn;subst this;exact .none _ _ _
  | os _ _ _ _ cap b o hl' hm hcap hroom=>
   simp only [gq,hm]at hro;obtain⟨cells,e,hb,hrow⟩:=hro;have hu:∀i j,∃u,i<es.length->j<sz->(from_ cells o)[i*sz+j]? =some u/\bB c w u (gc cs i j):=by
    intro i j;by_cases hi:i<es.length
    .by_cases hj:j<sz
     .obtain⟨v,hv,hr⟩:=(hrow i ah).2 j hj;exact⟨v,λ_ _=>⟨hv,hr⟩⟩
     .exact⟨undef,λ_ h=>absurd h hj⟩
    .exact⟨undef,λh=>absurd h hi⟩
   refine .rows b (o+0*sz) cap sz n es (λi j=>Classical.choose (hu i j)) (lt_of_some hb) hn.symm hcap (λi j hi hj=> ?_) h1 (λi j hi hj=>ih i j hi hj (Classical.choose_spec (hu i j) hi hj).2);rw [jw hb,Nat.zero_mul,Nat.add_zero,Nat.add_assoc];exact mG.symm.trans (Classical.choose_spec (hu i j) hi hj).1
inductive jL (h:Heap):Cell->Cell->Prop
 | d (f:Bool) (x:D):jL h (.d f x) (.d true x)
 | nil:jL h .nil .nil
 | clip (f:Bool) (sz:Nat) (es:List (List D)):jL h (.clip f sz es) (.d true (.rows sz es))
 | tree {x:Cell} {d:D} {N:Nat->Prop}:aN h x d N->jL h x (.d true d)
 | alL (sz:Nat):jL h .nil (.d true (.rows sz []))
 | own {l sz:Nat} {f:Bool} {es:List (List D)}:look h l=some (.rows f sz es)->jL h (.os l sz 0 es.length) (.d true (.rows sz es))
inductive Fx (h:Heap):PV->PV->Prop
 | c {x y:Cell}:jL h x y->Fx h (.c x) (.c y)
 | agg {xs ys:List Cell}:F2 (jL h) xs ys->Fx h (.agg xs) (.agg ys)
inductive Jd:PV->Prop
 | int (f:Bool) (k:IntKind) (n:Int):Jd (.c (.d f (.int k n)))
 | bool (f:Bool) (b:Bool):Jd (.c (.d f (.bool b)))
 | none:Jd (.tup [])
def lend(R:Trans):Trans:=λargs h n K=>∃ds,F2 (Fx h) args ds/\R ds [] 0 (λr _ _=>Jd r/\K r h 0)
def vY(w:World):Ctx:={K:=λ_ b=>b<w.heap.size,ν:=λ_=>none,n:=0}
def Fy(w:World):bC (vY w) w []:=
 ⟨λl o h=>(by cases h),λl o l' o' b h=>(by cases h),λf b ⟨l,o,h,_⟩=>(by cases h),λf b h=>h,λb h=>h⟩
def C9{E:Tab}{c:Ctx}{w:World}{h:Heap}(H:bC c w h)(G:oH E c w):oH E (vY w) w:=λg d hd=>
 let⟨h1,u,h2,h3⟩:=G g d hd
 ⟨H.low _ _ h1,u,h2,h3.mono' (H.low false)⟩
def F2.comp{α β γ:Type}{R:α->β->Prop}{S:β->γ->Prop}{T:α->γ->Prop}(h:∀a b c,R a b->S b c->T a c):∀ {l:List α} {m:List β} {n:List γ},F2 R l m->F2 S m n->F2 T l n
 | _,_,_,.nil,.nil=> .nil
 | _,_,_,.cons a r,.cons b s=> .cons (h _ _ _ a b) (F2.comp h r s)
def jL.rel{c:Ctx}{w:World}{h:Heap}(H:bC c w h){x y:Cell}(l:jL h x y){v:Value}(hv:bB c w v x):bB (vY w) w v y:=by
 cases l with
 | d f x=>cases hv with | d _ _ _ hv=>exact .d _ _ _ (hv.mono' (H.low f))
 | nil=>cases hv;exact .nil
 | clip f sz es=>cases hv with | clip _ a n _ _ hv=>exact .d _ _ _ (hv.mono' (H.low f))
 | tree t=>exact .d _ _ _ (t.rel H hv)
 | alL sz=>cases hv;exact .d _ _ _ (.none _ _ _)
 | own hl=>exact .d _ _ _ (TJ H hl hv)
def Fx.rel{c:Ctx}{w:World}{h:Heap}(H:bC c w h){x y:PV}(l:Fx h x y){v:Value}(hv:bg c w v x):bg (vY w) w v y:=by
 cases l with
 | c l=>cases hv with | c _ _ hv=>exact .c _ _ (l.rel H hv)
 | agg l=>
  cases hv with | agg vs _ hv=>
  exact .agg _ _ (F2.comp (λa b c h1 h2=>h2.rel H h1) hv l)
def Jd.rel{c c':Ctx}{w w':World}{v:Value}{r:PV}(s:Jd r)(h:bg c w v r):bg c' w' v r:=by
 cases s with
 | int f k n=>rw [iC h];exact .c _ _ (.d _ _ _ (.int k n))
 | bool f b=>rw [jv h];exact .c _ _ (.d _ _ _ (.bool b))
 | none=>
  cases h with | tup vs _ hl _=>
  have:vs=[]:=List.eq_nil_of_length_eq_zero hl;subst this;exact .tup _ _ rfl (λi hi=>by simp at hi)
def DX{E:Tab}{f:FuncId}{R:Trans}(hR:aK E f R):aK E f (lend R) where
 enters:=hR.enters
 calls:=by
  rintro args h n K ⟨ds,hl,hk⟩ c w vs hn hv H G;refine(hR.calls ds [] 0 _ hk (vY w) w vs rfl (F2.comp (λa b c h1 h2=>h2.rel H h1) hv hl) (Fy w) (C9 H G)).mono ?_;rintro e w' he;cases e with
  | returned v=>
   obtain⟨c',r,h',j,g,H',hj,hr,hs,hk⟩:=he;have hkeep:∀b,b<w.heap.size->w'.heap[b]? =w.heap[b]? :=λb hb=>g.kept b hb λ⟨l,o,h,_⟩=>by cases h
   obtain⟨H2,g2⟩:=side (w':=w') H (K:=c.K) g.size hkeep g.stays (λ_ _ h=>h) (λ_ _ h=> .inl h) (λf b hb=>Nat.lt_of_lt_of_le (H.low f b hb) g.size) H.sub g.os g.tape g.output;exact⟨c,r,h,0,g2,H2,by simpa [nm]using hn,hs.rel hr,hk⟩
  | panicked ch=>exact he.elim
  | outgrown=>exact he.elim
def either(R S:Trans):Trans:=λargs h n K=>R args h n K\/S args h n K
def VF{E:Tab}{f:FuncId}{R S:Trans}(h1:aK E f R)(h2:aK E f S):aK E f (either R S) where
 enters:=h1.enters
 calls:=λargs h n K hk=>hk.elim (h1.calls args h n K) (h2.calls args h n K)
structure gK(h:Heap)(l sz:Nat)(cs:List (List Cell))(es:List (List D))(N:Nat->Nat->Nat->Prop):Prop where
 at_:look h l=some (.grid sz cs)
 len:cs.length=es.length
 wid:∀i,i<es.length->(es.getD i []).length=sz
 Ho:∀i,i<es.length->(cs.getD i []).length=sz
 ns:∀i,i<es.length->∃j,j<sz/\(gd es i j).bY=false
 cell:∀i j,i<es.length->j<sz->aN h (gc cs i j) (gd es i j) (N i j)
 ne:∀i j x,i<es.length->j<sz->N i j x->x≠l
 one:∀i j i' j' x,i<es.length->j<sz->i'<es.length->j'<sz->N i j x->N i' j' x->i=i'/\j=j'
def gK.N(l sz n:Nat)(N:Nat->Nat->Nat->Prop):Nat->Prop:=λx=>x=l\/∃i j,i<n/\j<sz/\N i j x
def gK.tree{h:Heap}{l sz:Nat}{cs:List (List Cell)}{es:List (List D)}{N:Nat->Nat->Nat->Prop}(g:gK h l sz cs es N):aN h (.os l sz 0 es.length) (.rows sz es) (gK.N l sz es.length N):=
 .grid l sz cs es N g.at_ g.len g.wid g.Ho g.ns g.cell g.ne g.one
def XC(N:Nat->Nat->Nat->Prop)(i j:Nat)(M:Nat->Prop):Nat->Nat->Nat->Prop:=λi' j'=>if i=i'/\j=j' then M else N i' j'
def fJ{α:Type}{l:List α}{i:Nat}{x d:α}(h:i<l.length):(l.set i x).getD i d=x:=by simp [List.getD,h]
def dW{α:Type}{l:List α}{i j:Nat}{x d:α}(h:i≠j):(l.set i x).getD j d=l.getD j d:=by simp [List.getD,h]
def Kq{es:List (List D)}{i j i' j':Nat}{d:D}(hi:i<es.length)(hj:j< (es.getD i []).length):gd (es.set i ((es.getD i []).set j d)) i' j'=if i=i'/\j=j' then d else gd es i' j':=by
 unfold gd;by_cases e:i=i'
 .subst e;rw [fJ hi];by_cases e':j=j'
  .subst e';rw [fJ hj,if_pos ⟨rfl,rfl⟩]
  .rw [dW e',if_neg (λh=>e' h.2)]
 .rw [dW e,if_neg (λh=>e h.1)]
def afE{cs:List (List Cell)}{i j i' j':Nat}{x:Cell}{row:List Cell}(hr:cs[i]? =some row)(hj:j<row.length):gc (cs.set i (splice row [x] j)) i' j'=if i=i'/\j=j' then x else gc cs i' j':=by
 have hi:i<cs.length:=(List.getElem?_eq_some_iff.1 hr).1;have hg:cs.getD i []=row:=by simp [List.getD,hr]
 unfold gc;by_cases e:i=i'
 .subst e;rw [fJ hi,hg];have hs:splice row [x] j=row.set j x:=by
   unfold splice;rw [List.set_eq_take_append_cons_drop,if_pos hj];simp
  rw [hs];by_cases e':j=j'
  .subst e';rw [fJ hj,if_pos ⟨rfl,rfl⟩]
  .rw [dW e',if_neg (λh=>e' h.2)]
 .rw [dW e,if_neg (λh=>e h.1)]
def gK.set{h:Heap}{l sz:Nat}{cs:List (List Cell)}{es:List (List D)}{N:Nat->Nat->Nat->Prop}(g:gK h l sz cs es N){i j:Nat}{row:List Cell}(hr:cs[i]? =some row)(hj:j<sz){x:Cell}{d:D}
  (hx:∀h,aN h x d (λ_=>False)) (hsc:(gd es i j).bY=true):gK ((l,.grid sz (cs.set i (splice row [x] j)))::h) l sz (cs.set i (splice row [x] j)) (es.set i ((es.getD i []).set j d)) (XC N i j λ_=>False):=by
 have hi:i<cs.length:=(List.getElem?_eq_some_iff.1 hr).1;have hg:cs.getD i []=row:=by simp [List.getD,hr]
 have hi2:i<es.length:=by rw [<-g.len];exact hi
 have hrl:row.length=sz:=by have:=g.Ho i hi2;rwa [hg]at this
 have hel:=g.wid i hi2;have frame:∀i' j',i'<es.length->j'<sz->∀y,N i' j' y->look ((l,.grid sz (cs.set i (splice row [x] j)))::h) y=look h y:=λi' j' a b y hy=>aj _ _ (Ne.symm (g.ne i' j' y a b hy))
 refine⟨ay _ _ _,by simp [g.len],λi' h1=> ?_,λi' h1=> ?_,λi' h1=> ?_,λi' j' h1 h2=> ?_,λi' j' y h1 h2 h3=> ?_,λi' j' i2 j2 y h1 h2 h3 h4 h5 h6=> ?_⟩
 .rw [List.length_set]at h1;by_cases e:i=i'
  .subst e;rw [fJ hi2,List.length_set];exact hel
  .rw [dW e];exact g.wid i' h1
 .rw [List.length_set]at h1;by_cases e:i=i'
  .subst e;rw [fJ hi];unfold splice;simp;omega
  .rw [dW e];exact g.Ho i' h1
 .rw [List.length_set]at h1;obtain⟨q,hq,hs⟩:=g.ns i' h1;refine⟨q,hq,?_⟩;rw [Kq hi2 ah,if_neg]
  .exact hs
  .rintro⟨rfl,rfl⟩;rw [hsc]at hs;cases hs
 .rw [List.length_set]at h1;rw [afE hr ah,Kq hi2 ah];unfold XC;by_cases e:i=i'/\j=j'
  .rw [if_pos e,if_pos e,if_pos e];exact hx _
  .rw [if_neg e,if_neg e,if_neg e];exact(g.cell i' j' h1 h2).frame (frame i' j' h1 h2)
 .rw [List.length_set]at h1;unfold XC at h3;split at h3
  .exact h3.elim
  .exact g.ne i' j' y h1 h2 h3
 .rw [List.length_set]at h1 h3;unfold XC at h5 h6;split at h5
  .exact h5.elim
  .split at h6
   .exact h6.elim
   .exact g.one i' j' i2 j2 y h1 h2 h3 h4 h5 h6
def gK.inner{h h':Heap}{l sz:Nat}{cs:List (List Cell)}{es:List (List D)}{N:Nat->Nat->Nat->Prop}(g:gK h l sz cs es N){i j:Nat}(hi:i<es.length)(hj:j<sz){d:D}(hns:(gd es i j).bY=false->d.bY=false)
  (ht:aN h' (gc cs i j) d (N i j)) (hf:∀y,¬N i j y->look h' y=look h y):gK h' l sz cs (es.set i ((es.getD i []).set j d)) N:=by
 have hel:=g.wid i hi;refine⟨(hf l λhl=>g.ne i j l hi hj hl rfl).trans g.at_,by simp [g.len],λi' h1=> ?_,λi' h1=> ?_,λi' h1=> ?_,λi' j' h1 h2=> ?_,λi' j' y h1 h2 h3=> ?_,λi' j' i2 j2 y h1 h2 h3 h4 h5 h6=> ?_⟩
 .rw [List.length_set]at h1;by_cases e:i=i'
  .subst e;rw [fJ hi,List.length_set];exact hel
  .rw [dW e];exact g.wid i' h1
 .rw [List.length_set]at h1;exact g.Ho i' h1
 .rw [List.length_set]at h1;obtain⟨q,hq,hs⟩:=g.ns i' h1;refine⟨q,hq,?_⟩;rw [Kq hi ah];split
  .rename_i e;obtain⟨rfl,rfl⟩:=e;exact hns hs
  .exact hs
 .rw [List.length_set]at h1;rw [Kq hi ah];by_cases e:i=i'/\j=j'
  .obtain⟨rfl,rfl⟩:=e;rw [if_pos ⟨rfl,rfl⟩];exact ht
  .rw [if_neg e];exact(g.cell i' j' h1 h2).frame λy hy=>hf y λhy'=>e (g.one i j i' j' y hi hj h1 h2 hy' hy)
 .rw [List.length_set]at h1;exact g.ne i' j' y h1 h2 h3
 .rw [List.length_set]at h1 h3;exact g.one i' j' i2 j2 y h1 h2 h3 h4 h5 h6
def gK.frame{h h':Heap}{l sz:Nat}{cs:List (List Cell)}{es:List (List D)}{N:Nat->Nat->Nat->Prop}(g:gK h l sz cs es N)(hf:∀y,gK.N l sz es.length N y->look h' y=look h y):gK h' l sz cs es N:=
 ⟨(hf l (.inl rfl)).trans g.at_,g.len,g.wid,g.Ho,g.ns,λi j a b=>(g.cell i j a b).frame λy hy=>hf y (.inr ⟨i,j,a,b,hy⟩),g.ne,g.one⟩
def qm{α:Type}{l m:List α}{i:Nat}{d:α}(h:i<l.length):(l++m).getD i d=l.getD i d:=by simp [List.getD,List.getElem?_append_left h]
def qo{α:Type}{l:List α}{x d:α}:(l++ [x]).getD l.length d=x:=by simp [List.getD]
def gK.push{h:Heap}{l sz:Nat}{cs:List (List Cell)}{es:List (List D)}{N:Nat->Nat->Nat->Prop}(g:gK h l sz cs es N){l':Nat}{row:List Cell}{d:List D}{M:Nat->Nat->Prop}
  (hrow:row.length=sz) (hd:d.length=sz) (hns:∃j,j<sz/\(d.getD j default).bY=false) (ht:∀j,j<sz->aN h (row.getD j default) (d.getD j default) (M j))
  (hM:∀j x,j<sz->M j x->x≠l'/\x≠l) (hN:∀i j x,i<es.length->j<sz->N i j x->x≠l')
  (h1:∀j j' x,j<sz->j'<sz->M j x->M j' x->j=j') (h2:∀i j j' x,i<es.length->j<sz->j'<sz->N i j x->¬M j' x):
  gK ((l',.grid sz (cs++ [row]))::(l,.gone)::h) l' sz (cs++ [row]) (es++ [d]) (λi j=>if i=es.length then M j else N i j):=by
 have hl:=g.len;have el:(es++ [d]).length=es.length+1:=by simp
 have fr:∀x,x≠l'->x≠l->look ((l',.grid sz (cs++ [row]))::(l,.gone)::h) x=look h x:=λx a b=>by rw [aj _ _ (Ne.symm a),aj _ _ (Ne.symm b)]
 refine⟨ay _ _ _,by simp [hl],λi hi=> ?_,λi hi=> ?_,λi hi=> ?_,λi j hi hj=> ?_,λi j x hi hj hx=> ?_,λi j i' j' x hi hj hi' hj' hx hx'=> ?_⟩
 .by_cases e:i=es.length
  .subst e;rw [qo];exact hd
  .rw [qm ah];exact g.wid i ah
 .by_cases e:i=es.length
  .rw [e,<-hl,qo];exact hrow
  .rw [qm ah];exact g.Ho i ah
 .by_cases e:i=es.length
  .obtain⟨j,hj,hs⟩:=hns;exact⟨j,hj,by unfold gd;rw [e,qo];exact hs⟩
  .obtain⟨j,hj,hs⟩:=g.ns i ah;exact⟨j,hj,by unfold gd at hs ⊢;rw [qm ah];exact hs⟩
 .unfold gc gd;by_cases e:i=es.length
  .rw [if_pos e];rw [e,qo,<-hl,qo];exact(ht j hj).frame λx hx=>fr x (hM j x hj hx).1 (hM j x hj hx).2
  .rw [if_neg e,qm ah,qm ah];exact(g.cell i j ah hj).frame λx hx=>fr x (hN i j x ah hj hx) (g.ne i j x ah hj hx)
 .split at hx
  .exact(hM j x hj hx).1
  .exact hN i j x ah hj hx
 .split at hx
  .rename_i e;split at hx'
   .rename_i e';exact⟨ah,h1 j j' x hj hj' hx hx'⟩
   .exact absurd hx (h2 i' j' j x ah hj' hj hx')
  .split at hx'
   .exact absurd hx' (h2 i j j' x ah hj hj' hx)
   .exact g.one i j i' j' x ah hj ah hj' hx hx'
def gK.first{h:Heap}{l' sz:Nat}{row:List Cell}{d:List D}{M:Nat->Nat->Prop}
  (hrow:row.length=sz) (hd:d.length=sz) (hns:∃j,j<sz/\(d.getD j default).bY=false) (ht:∀j,j<sz->aN h (row.getD j default) (d.getD j default) (M j))
  (hM:∀j x,j<sz->M j x->x≠l') (h1:∀j j' x,j<sz->j'<sz->M j x->M j' x->j=j'):gK ((l',.grid sz [row])::h) l' sz [row] [d] (λ_ j=>M j):=by
 have fr:∀x,x≠l'->look ((l',.grid sz [row])::h) x=look h x:=λx a=>aj _ _ (Ne.symm a)
 have z:∀i,i< [d].length->i=0:=λi hi=>by simpa using hi
 refine⟨ay _ _ _,rfl,λi hi=> ?_,λi hi=> ?_,λi hi=> ?_,λi j hi hj=> ?_,λi j x hi hj hx=>hM j x hj hx,λi j i' j' x hi hj hi' hj' hx hx'=>⟨by rw [z i hi,z i' hi'],h1 j j' x hj hj' hx hx'⟩⟩
 .rw [z i hi];exact hd
 .rw [z i hi];exact hrow
 .obtain⟨j,hj,hs⟩:=hns;exact⟨j,hj,by rw [z i hi];exact hs⟩
 .rw [z i hi];exact(ht j hj).frame λx hx=>fr x (hM j x hj hx)
def gP(h:Heap)(y:Cell)(sz:Nat)(es:List (List D))(N:Nat->Prop):Prop:=
 (y= .nil/\es=[])\/∃l cs NN,y= .os l sz 0 es.length/\gK h l sz cs es NN/\∀x,gK.N l sz es.length NN x->N x
def gP.tree{h:Heap}{y:Cell}{sz:Nat}{es:List (List D)}{N:Nat->Prop}(r:gP h y sz es N):∃M,aN h y (.rows sz es) M/\∀x,M x->N x:=by
 rcases r with⟨rfl,rfl⟩ | ⟨l,cs,NN,rfl,g,hN⟩
 .exact⟨_,.nil sz,λ_ h=>h.elim⟩
 .exact⟨_,g.tree,hN⟩
def gP.frame{h h':Heap}{y:Cell}{sz:Nat}{es:List (List D)}{N:Nat->Prop}(r:gP h y sz es N)(hf:∀x,N x->look h' x=look h x):gP h' y sz es N:=by
 rcases r with⟨rfl,rfl⟩ | ⟨l,cs,NN,rfl,g,hN⟩
 .exact .inl ⟨rfl,rfl⟩
 .exact .inr ⟨l,cs,NN,rfl,g.frame λx hx=>hf x (hN x hx),hN⟩
def gP.app{h:Heap}{n k:Nat}{y:Cell}{sz:Nat}{es:List (List D)}{N:Nat->Prop}(r:gP h y sz es N){row:List Cell}{d:List D}{M:Nat->Nat->Prop}
  (hrow:row.length=sz) (hd:d.length=sz) (hns:∃j,j<sz/\(d.getD j default).bY=false) (ht:∀j,j<sz->aN h (row.getD j default) (d.getD j default) (M j))
  (hM:∀j x,j<sz->M j x->x<nm n k/\¬N x) (hN:∀x,N x->x<nm n k) (h1:∀j j' x,j<sz->j'<sz->M j x->M j' x->j=j') (hmax:es.length+1<=gX)
  {K:PV->Heap->Nat->Prop} (hK:∀h1,gP h1 (.os (nm n k) sz 0 (es.length+1)) sz (es++ [d]) (λx=>x=nm n k\/N x\/∃j,j<sz/\M j x)->(∀x,x<nm n k->¬N x->look h1 x=look h x)->
   K (.c (.os (nm n k) sz 0 (es.length+1))) h1 (k+1)):vB h n k sz (.c y) [row] K:=by
 have el:(es++ [d]).length=es.length+1:=by simp
 rcases r with⟨rfl,rfl⟩ | ⟨l,cs,NN,rfl,g,hNN⟩
 .refine⟨by simpa using hmax,?_⟩;refine hK _ (.inr ⟨nm n k,[row],_,rfl,gK.first (M:=M) hrow hd hns ht (λj x a b=>Nat.ne_of_lt (hM j x a b).1) h1,?_⟩) (λx hx _=>aj _ _ (Nat.ne_of_gt hx));rintro x (hx | ⟨i,j,hi,hj,hx⟩)
  .exact .inl hx
  .exact .inr (.inr ⟨j,hj,hx⟩)
 .have hl:N l:=hNN l (.inl rfl);simp only [vB,g.at_,bZ];refine⟨trivial,by rw [g.len];exact Nat.le_refl _,trivial,trivial,hmax,?_⟩;rw [List.take_of_length_le (by rw [g.len];exact Nat.le_refl _)];have gN:∀i j x,i<es.length->j<sz->NN i j x->N x:=λi j x a b c=>hNN x (.inr ⟨i,j,a,b,c⟩)
  have G:=gK.push g (l':=nm n k) (M:=M) hrow hd hns ht (λj x a b=>⟨Nat.ne_of_lt (hM j x a b).1,λe=>(hM j x a b).2 (e▸hl)⟩) (λi j x a b c=>Nat.ne_of_lt (hN x (gN i j x a b c))) h1
   (λi j j' x a b b' c c'=>(hM j' x b' c').2 (gN i j x a b c))
  have hlen:(es++ [d]).length=es.length+1:=el;refine hK _ (.inr ⟨nm n k,_,_,by rw [hlen],G,?_⟩) (λx hx hnx=> ?_)
  .rintro x (hx | ⟨i,j,hi,hj,hx⟩)
   .exact .inl hx
   .split at hx
    .exact .inr (.inr ⟨j,hj,hx⟩)
    .exact .inr (.inl (gN i j x ah hj hx))
  .rw [aj _ _ (Nat.ne_of_gt hx),aj _ _ (λ(e:l=x)=>hnx (e▸hl))]
variable {E:Tab} {G:fO} {dr:jI}
theorem aP{id:Nat}{ops:Array Oper}{b:Code}{Q:Exit->St->Prop}{s:St}(h:aF E G ops.toList ops.toList (aw E G dr b Q) s):aw E G dr (.seq (.region id ops false) b) Q s:=by
 simp only [aw];exact h
theorem kI{id:Nat}{ops:Array Oper}{Q:Exit->St->Prop}{s:St}(h:aF E G ops.toList ops.toList (Q .normal) s):aw E G dr (.region id ops false) Q s:=by
 simp only [aw];exact h
theorem BJ{id:Nat}{ops:Array Oper}{b:Code}{Q:Exit->St->Prop}{s:St}(h:dr id ops (aw E G dr b Q) s):aw E G dr (.seq (.region id ops true) b) Q s:=by
 simp only [aw];exact h
theorem Kr{id:Nat}{ops:Array Oper}{Q:Exit->St->Prop}{s:St}(h:dr id ops (Q .normal) s):aw E G dr (.region id ops true) Q s:=by
 simp only [aw];exact h
theorem bG{a b:Code}{Q:Exit->St->Prop}{s:St}(h:aw E G dr a (zF (aw E G dr b Q) Q) s):aw E G dr (.seq a b) Q s:=h
theorem rD{id:Nat}{b:Code}{Q:Exit->St->Prop}{s:St}(h:aw E G dr b (O7 id Q) s):aw E G dr (.block id b) Q s:=h
theorem lQ{Q:Exit->St->Prop}{s:St}(h:Q .ret s):aw E G dr .ret Q s:=h
theorem fM{c:Operand}{x y:Code}{Q:Exit->St->Prop}{s:St}{f b:Bool}(hc:ev E s.t c=some (.c (.d f (.bool b))))(h1:b=true->aw E G dr x Q s)(h2:b=false->aw E G dr y Q s):aw E G dr (.cond c x y) Q s:=by
 simp only [aw,hc,aB,uU,xG];exact⟨h1,h2⟩
theorem XD{f:FuncId}{fn:Func}{code:Code}(hE:aR E)(hG:jZ E G)(hD:Eo E dr)(hf:E.P.funcs[f]? =some fn)(hb:fn.body=some code)(hent:Enters E.P f){R:Trans}
  (hbody:∀args h n K,R args h n K->dh E G dr fn code args h n K):aK E f R:=
 G7 hE hG hD hf hb hent λargs h n K hR=>⟨K,hbody args h n K hR,λr h' k c w v hK hn hv H=>⟨c,r,h',k,.refl _ _ _,H,hn,hv,hK⟩⟩
theorem bX{ops r:List Oper}{o:Oper}{K:St->Prop}{s:St}(hg:o.guard=none)(h:Em E G o s (aF E G ops r K)):aF E G ops (o::r) K s:=by
 simp only [aF,nM,hg];exact h
theorem XE{ops r:List Oper}{o:Oper}{K:St->Prop}{s:St}{j d:Nat}{want f b:Bool}(hg:o.guard=some (j,want))(hj:gslot ops j=some d)(hl:aA s.t d=some (.c (.d f (.bool b))))(hb:b=want)(hd:dOK s.m o.dst)(h:Em E G o s (aF E G ops r K)):aF E G ops (o::r) K s:=by
 simp only [aF,nM,hg,hj,vC,hl];exact⟨hd,fG (λ_=>h) (λe=>absurd hb e)⟩
theorem aiR{ops r:List Oper}{o:Oper}{K:St->Prop}{s:St}{j d:Nat}{want f b:Bool}(hg:o.guard=some (j,want))(hj:gslot ops j=some d)(hl:aA s.t d=some (.c (.d f (.bool b))))(hb:b≠want)(hd:dOK s.m o.dst)(h:aF E G ops r K (s.put o.dst (some nC))):aF E G ops (o::r) K s:=by
 simp only [aF,nM,hg,hj,vC,hl];exact⟨hd,fG (λe=>absurd e hb) (λ_=>h)⟩
theorem aiS{ops r:List Oper}{o:Oper}{K:St->Prop}{s:St}{j d:Nat}{want:Bool}(hg:o.guard=some (j,want))(hj:gslot ops j=some d)(hl:aA s.t d=some nC)(hd:dOK s.m o.dst)(h:aF E G ops r K (s.put o.dst (some nC))):aF E G ops (o::r) K s:=by
 simp only [aF,nM,hg,hj,vC,hl];exact⟨hd,h⟩
theorem cZ{o:Oper}{K:St->Prop}{s:St}(h0:bQ o.op=0)(hd:dOK s.m o.dst)(h:aH E o.op s.t s.h λv=>K (s.put o.dst (some v))):Em E G o s K:=by
 refine⟨hd,?_⟩;rw [h0];exact h
theorem gQ{o:Oper}{K:St->Prop}{s:St}(h0:bQ o.op=1)(hd:dOK s.m o.dst)(h:aX E o.op s.t s.h s.n s.k λv h k=>K (St.put {s with h:=h,k:=k} o.dst (some v))):Em E G o s K:=by
 refine⟨hd,?_⟩;rw [h0];exact .inl h
theorem acv{o:Oper}{K:St->Prop}{s:St}(h0:bQ o.op=1)(hd:dOK s.m o.dst)(h:nG E o.op s.t s.h s.n s.k λv h k=>K (St.put {s with h:=h,k:=k} o.dst (some v))):Em E G o s K:=by
 refine⟨hd,?_⟩;rw [h0];exact .inr h
theorem Kt{o:Oper}{K:St->Prop}{s:St}(h0:bQ o.op=2)(hd:dOK s.m o.dst)(h:dw E G o.op s λv h k=>K (St.put {s with h:=h,k:=k} o.dst (some v))):Em E G o s K:=by
 refine⟨hd,?_⟩;rw [h0];exact h
theorem iH{t:Slots}{i:Nat}{v:PV}(h:aA t i=some v):ev E t (.tmp i)=some v:=h
theorem aL{t:Slots}{i:Nat}{v:Option PV}:aA ((i,v)::t) i=v:=if_pos rfl
theorem au{t:Slots}{i j:Nat}{v:Option PV}(h:j≠i):aA ((j,v)::t) i=aA t i:=if_neg h
theorem DY{b0 r1 r2 ti tn tc tk:Nat}{o1 o2 o3:Oper}{ty1 ty2 ty3 ty4:TypeId}{body:Code}{Q:Exit->St->Prop}{s:St}{n:Nat}(J:Nat->St->Prop)
  (h1:o1.op= .binOp .lss ty1 (.tmp ti) (.tmp tn) ty2) (d1:o1.dst=some tc) (g1:o1.guard=none)
  (h2:o2.op= .binOp .add ty3 (.tmp ti) (.const (.int .i64 1)) ty4) (d2:o2.dst=some tk) (g2:o2.guard=none)
  (h3:o3.op= .move (.tmp tk)) (d3:o3.dst=some ti) (g3:o3.guard=none) (hn:n<4611686018427387904)
  (hs:∀i s,J i s->aA s.t ti=some (ci .i64 i)/\aA s.t tn=some (ci .i64 n)/\tc<s.m/\tk<s.m/\ti<s.m)
  (hc:∀i s b,J i s->J i {s with t:=(tc,some (cb b))::s.t})
  (h0:J 0 s)
  (step:∀i s,i<n->J i s->∀Q2:Exit->St->Prop,(∀s',aA s'.t ti=some (ci .i64 i)->tk<s'.m->ti<s'.m->J (i+1) {s' with t:=(ti,some (ci .i64 (i+1:Nat)))::(tk,some (ci .i64 (i+1:Nat)))::s'.t}->Q2 .normal s')->aw E G dr body Q2 s)
  (done:∀s,J n s->Q .normal s):
  aw E G dr (.block b0 (.loop (.seq (.region r1 #[o1] false) (.seq (.cond (.tmp tc) .skip (.exit b0)) (.seq body (.region r2 #[o2,o3] false)))))) Q s:=by
 refine rD ?_;show Wt E _ _ s;refine⟨λm s=>∃i,i+m=n/\J i s,n,⟨s,.refl E s,0,ah,h0⟩,?_⟩;rintro m s1 ⟨i,hi,hJ⟩;obtain⟨e1,e2,e3,e4,e5⟩:=hs i s1 hJ;refine aP (bX g1 (cZ (by rw [h1];rfl) (by rw [d1];exact e3) ?_));rw [h1,d1];simp only [aH,iH e1,iH e2,aB,mq,ci,iB,St.put,aF];refine⟨.inl trivial,?_⟩;have hJ':=hc i s1 (decide ((i:Int)< (n:Int))) hJ;refine bG (fM (f:=true) (b:=decide ((i:Int)< (n:Int))) aL (λht=> ?_) (λhf=> ?_))
 .have hlt:i<n:=by simpa using ht
  show aw E G dr (.seq body (.region r2 #[o2,o3] false)) _ _;refine bG (step i _ hlt hJ' _ λs' q1 q2 q3 q4=> ?_);refine kI (bX g2 (cZ (by rw [h2];rfl) (by rw [d2];exact q2) ?_));rw [h2,d2];have hw:IntKind.i64.wrap ((i:Int)+1)=((i+1:Nat):Int):=by rw [IntWalk.i64_in _ ah];simp
  simp only [aH,ev,q1,aB,fD,mq,ci,iB,St.put,hw];refine⟨.inl trivial,bX g3 (cZ (by rw [h3];rfl) (by rw [d3];exact q3) ?_)⟩;rw [h3,d3];simp only [aH,ev,aL,aB,St.put,aF];exact⟨m-1,_,ah,.refl E _,i+1,ah,q4⟩
 .have hge:¬i<n:=by simpa using hf
  have he:i=n:=by omega
  subst he;show(if b0=b0 then Q .normal _ else _);rw [if_pos rfl];exact done _ hJ'
section
variable [aQ]
theorem aY{ops:List Oper}{i:Nat}{rs cs:List Nat}{r:List dK}{hs:List Held}{K:St->Prop}{s:St}{o:Oper}(ho:ops[i]? =some o)(hk:kindOf o.op=0)(hd:dOK s.m o.dst)(hg:o.guard=none)
  (h:aH E o.op (cut s.t rs) s.h λv=>aZ E G ops r ((i,o,cut s.t rs,some v)::hs) K (s.put o.dst (some v))):aZ E G ops ((i,rs,cs)::r) hs K s:=by
 simp only [aZ,ho,MV,hk,eH,hg];exact⟨hd,h⟩
theorem iq{ops:List Oper}{i:Nat}{rs cs:List Nat}{r:List dK}{hs:List Held}{K:St->Prop}{s:St}{o:Oper}(ho:ops[i]? =some o)(hk:kindOf o.op=3)(hd:dOK s.m o.dst)(hg:o.guard=none)
  (h:xu E G o (cut s.t rs) s λv h k=>jS E ops h hs cs/\aZ E G ops r hs K (St.put {s with h:=h,k:=k} o.dst (some v))):aZ E G ops ((i,rs,cs)::r) hs K s:=by
 simp only [aZ,ho,MV,hk,hg];exact⟨hd,h⟩
theorem Fz{ops:List Oper}{i:Nat}{rs cs:List Nat}{r:List dK}{hs:List Held}{K:St->Prop}{s:St}{o:Oper}(ho:ops[i]? =some o)(hk:kindOf o.op=2)(hd:dOK s.m o.dst)
  (h:aX E o.op [] s.h s.n s.k λv h k=>aZ E G ops r hs K (St.put {s with h:=h,k:=k} o.dst (some v))):aZ E G ops ((i,rs,cs)::r) hs K s:=by
 simp only [aZ,ho,MV,hk];exact⟨hd,h⟩
theorem iW{o:Oper}{t:Slots}{s:St}{K:PV->Heap->Nat->Prop}(h0:bQ o.op=2)(h:dw E G o.op {s with t:=t} K):xu E G o t s K:=by
 unfold xu;rw [h0];exact h
theorem sN{o:Oper}{t:Slots}{s:St}{K:PV->Heap->Nat->Prop}(h0:bQ o.op=1)(h:nG E o.op t s.h s.n s.k K):xu E G o t s K:=by
 unfold xu;rw [h0];exact .inr h
theorem ou{o:Oper}{t:Slots}{s:St}{K:PV->Heap->Nat->Prop}(h0:bQ o.op=1)(h:aX E o.op t s.h s.n s.k K):xu E G o t s K:=by
 unfold xu;rw [h0];exact .inl h
theorem BK{ops:List Oper}{hs:List Held}{K:St->Prop}{s:St}(h:K s):aZ E G ops [] hs K s:=h
end
end Go.AE
namespace Go.AE
open Go
variable {E:Tab} {G:fO} {dr:jI}
def Da(x:Cell)(d:D):Prop:=(∃f,x= .d f d)\/(x= .nil/\∃sz,d= .rows sz [])
def Je(x:Cell)(sz:Nat)(es:List (List D)):Prop:=(∃f,x= .d f (.rows sz es))\/(x= .nil/\es=[])
structure bO(h:Heap)(sz:Nat)(cells:List Cell)(d:List D)(M:Nat->Nat->Prop):Prop where
 len:cells.length=sz
 cell:∀j,j<sz->aN h (cells.getD j default) (d.getD j default) (M j)
 one:∀j j' x,j<sz->j'<sz->M j x->M j' x->j=j'
def ElB(sz:Nat)(d:List D):Prop:=d.length=sz/\∃j,j<sz/\(d.getD j default).bY=false
def oK(sz:Nat)(B:List D->Prop):Trans:=λargs h n K=>∃(cells:List Cell) (d:List D),args=[.agg cells]/\cells.length=sz/\d.length=sz/\(∀j,j<sz->Da (cells.getD j default) (d.getD j default))/\B d/\
 ∀h' j cells' M,bO h' sz cells' d M->(∀q x,q<sz->M q x->n<=x/\x<n+j)->(∀l,l<n->look h' l=look h l)->K (.agg cells') h' j
def acw(sz:Nat)(B:List D->Prop):Trans:=λargs h n K=>∃(x:Cell) (es:List (List D)),args=[.c x]/\Je x sz es/\es.length<=gX/\(∀d∈es,ElB sz d/\B d)/\
 ∀h' j y N,aN h' y (.rows sz es) N->(∀l,N l->n<=l/\l<n+j)->(∀l,l<n->look h' l=look h l)->K (.c y) h' j
def eo(d:Option Nat)(op:Op)(o:Oper):Prop:=o.op=op/\o.dst=d/\o.guard=none
theorem eo.pure{d:Option Nat}{op:Op}{o:Oper}(e:eo d op o){ops r:List Oper}{K:St->Prop}{s:St}(h0:bQ op=0)(hd:dOK s.m d)(h:aH E op s.t s.h λv=>aF E G ops r K (s.put d (some v))):aF E G ops (o::r) K s:=by
 obtain⟨h1,h2,h3⟩:=e;exact bX h3 (cZ (by rw [h1];exact h0) (by rw [h2];exact hd) (by rw [h1,h2];exact h))
theorem eo.data{d:Option Nat}{op:Op}{o:Oper}(e:eo d op o){ops r:List Oper}{K:St->Prop}{s:St}(h0:bQ op=1)(hd:dOK s.m d)(h:aX E op s.t s.h s.n s.k λv h k=>aF E G ops r K (St.put {s with h:=h,k:=k} d (some v))):aF E G ops (o::r) K s:=by
 obtain⟨h1,h2,h3⟩:=e;exact bX h3 (gQ (by rw [h1];exact h0) (by rw [h2];exact hd) (by rw [h1,h2];exact h))
theorem eo.grid{d:Option Nat}{op:Op}{o:Oper}(e:eo d op o){ops r:List Oper}{K:St->Prop}{s:St}(h0:bQ op=1)(hd:dOK s.m d)(h:nG E op s.t s.h s.n s.k λv h k=>aF E G ops r K (St.put {s with h:=h,k:=k} d (some v))):aF E G ops (o::r) K s:=by
 obtain⟨h1,h2,h3⟩:=e;exact bX h3 (acv (by rw [h1];exact h0) (by rw [h2];exact hd) (by rw [h1,h2];exact h))
theorem eo.call{d:Option Nat}{op:Op}{o:Oper}(e:eo d op o){ops r:List Oper}{K:St->Prop}{s:St}(h0:bQ op=2)(hd:dOK s.m d)(h:dw E G op s λv h k=>aF E G ops r K (St.put {s with h:=h,k:=k} d (some v))):aF E G ops (o::r) K s:=by
 obtain⟨h1,h2,h3⟩:=e;exact bX h3 (Kt (by rw [h1];exact h0) (by rw [h2];exact hd) (by rw [h1,h2];exact h))
theorem Qb{ts te:TypeId}{f:FuncId}{sz:Nat}{B:List D->Prop}{fs:List (Nat×TypeId)}{zero:List Cell}{by_:Nat}{r0 r1 r2 r3 r4 r5 r6 r7:Nat}{o0 o1 o2 o3 o4 o5 o6 o7 o8 o9 o10 o11 o12 o13 o14 o15 o16 o17 o18 o19:Oper}{ty1 ty2 ty3 ty4:TypeId}{fn:Func}
  (hts:E.ty ts=some ⟨.slice te,1,24,[.nil]⟩) (hte:E.ty te=some ⟨.struct fs,sz,by_,zero⟩) (hz:zero.length=sz) (hsz:sz≠0) (hbig:sz<=100) (hby:by_<=1024) (hG:G f=some (oK sz B))
  (e0:eo (some 2) (.assign (.const (.slice none 0 0))) o0) (e1:eo (some 3) (.assign (.const (.slice none 0 0))) o1) (e2:eo (some 6) (.move (.tmp 0)) o2)
  (e3:eo (some 7) (.call {callee:= .builtin .len,args:= #[.tmp 6],argTypes:= #[ts]}) o3) (e4:eo (some 8) (.move (.const (.int .i64 0))) o4)
  (e5:eo (some 9) (.binOp .lss ty1 (.tmp 8) (.tmp 7) ty2) o5) (e6:eo (some 10) (.indexAddr ts (.tmp 6) (.tmp 8)) o6) (e7:eo (some 11) (.load te (.tmp 10)) o7) (e8:eo (some 5) (.alloc te) o8) (e9:eo none (.store te (.tmp 5) (.tmp 11)) o9)
  (e10:eo (some 12) (.move (.tmp 3)) o10) (e11:eo (some 13) (.load te (.tmp 5)) o11) (e12:eo (some 14) (.call {callee:= .value (.func f),args:= #[.tmp 13],argTypes:= #[te]}) o12) (e13:eo (some 15) (.buildSlice ts 1 #[(0,.tmp 14)]) o13)
  (e14:eo (some 16) (.call {callee:= .builtin .append,args:= #[.tmp 12,.tmp 15],argTypes:= #[ts,ts]}) o14) (e15:eo (some 3) (.assign (.tmp 16)) o15)
  (e16:eo (some 17) (.binOp .add ty3 (.tmp 8) (.const (.int .i64 1)) ty4) o16) (e17:eo (some 8) (.move (.tmp 17)) o17) (e18:eo (some 18) (.move (.tmp 3)) o18) (e19:eo (some 2) (.assign (.tmp 18)) o19)
  (hr:fn.results.toList=[.tmp 2]) (hn:fn.ntmps=19) {args:List PV} {h:Heap} {n:Nat} {K:PV->Heap->Nat->Prop} (hR:acw sz B args h n K):
  dh E G dr fn (.seq (.region r0 #[o0] false) (.seq (.region r1 #[o1] false) (.seq (.seq (.region r2 #[o2,o3,o4] false) (.block 0 (.loop (.seq (.region r3 #[o5] false) (.seq (.cond (.tmp 9) .skip (.exit 0))
   (.seq (.block 1 (.seq (.region r4 #[o6,o7,o8,o9] false) (.region r5 #[o10,o11,o12,o13,o14,o15] false))) (.region r6 #[o16,o17] false))))))) (.seq (.region r7 #[o18,o19] false) .ret)))) args h n K:=by
 obtain⟨x,es,rfl,hx,hl,hB,hK⟩:=hR;unfold dh;rw [hr,hn];dsimp only [slotsOf,List.length];refine aP (e0.pure rfl (by simp only [dOK];decide) ?_);simp only [aH,ev,fD,aB,St.put,aF];refine aP (e1.pure rfl (by simp only [dOK];decide) ?_);simp only [aH,ev,fD,aB,St.put,aF];have alM:oW (.c x)=λK=>K (ci .i64 es.length):=by
  rcases hx with⟨f,rfl⟩ | ⟨rfl,rfl⟩
  .unfold oW;simp
  .rfl
 refine bG (aP (e2.pure rfl (by simp only [dOK];decide) ?_));simp only [aH,ev,fD,aB,St.put,aA,reduceIte,Nat.reduceEqDiff];refine e3.pure rfl (by simp only [dOK];decide) ?_;simp only [aH,lT,ev,fD,aB,aD,St.put,aA,reduceIte,Nat.reduceEqDiff,hts,alM,true_and];refine e4.pure rfl (by simp only [dOK];decide) ?_;simp only [aH,ev,fD,aB,St.put,aA,reduceIte,Nat.reduceEqDiff,aF]
 let J:Nat->St->Prop:=λi s=>∃(y:Cell) (N:Nat->Prop),aA s.t 8=some (ci .i64 i)/\aA s.t 7=some (ci .i64 es.length)/\s.m=19/\s.n=n/\aA s.t 6=some (.c x)/\
  aA s.t 3=some (.c y)/\gP s.h y sz (es.take i) N/\(∀l,N l->n<=l/\l<nm n s.k)/\(∀l,l<n->look s.h l=look h l)
 refine DY (n:=es.length) J e5.1 e5.2.1 e5.2.2 e16.1 e16.2.1 e16.2.2 e17.1 e17.2.1 e17.2.2 (by unfold gX at hl;omega) (λi s hJ=> ?_) (λi s b hJ=> ?_) ?_ (λi s hi hJ Q2 hQ=> ?_) (λs hJ=> ?_)
 .obtain⟨y,N,q1,q2,q3,q4,q5,q6,q7,q8,q9⟩:=hJ;exact⟨q1,q2,by rw [q3];decide,by rw [q3];decide,by rw [q3];decide⟩
 .obtain⟨y,N,q1,q2,q3,q4,q5,q6,q7,q8,q9⟩:=hJ;refine⟨y,N,?_,?_,q3,q4,?_,?_,q7,q8,q9⟩<;>simp only [aA,reduceIte,Nat.reduceEqDiff]<;>assumption
 .exact⟨.nil,λ_=>False,rfl,rfl,rfl,rfl,rfl,rfl,.inl ⟨rfl,rfl⟩,λ_ h=>h.elim,λl hl=>rfl⟩
 .obtain⟨y,N,q1,q2,q3,q4,q5,q6,q7,q8,q9⟩:=hJ;obtain⟨g,rfl⟩:∃f,x= .d f (.rows sz es):=by
   rcases hx with h | ⟨_,rfl⟩
   .exact h
   .exact absurd hi (Nat.not_lt_zero _)
  have hm:es[i]? =some es[i]:=List.getElem?_eq_getElem hi;obtain⟨⟨hdl,hns⟩,hdB⟩:=hB _ (List.getElem_mem hi);generalize es[i]=d at hm hdl hns hdB;obtain⟨t,hh,nn,kk,mm⟩:=s;dsimp only at q1 q2 q3 q4 q5 q6 q7 q8 q9;subst q3;have q4:=q4.symm;subst q4;refine rD (aP (e6.pure rfl (by simp only [dOK];decide) ?_));simp only [aH,ev,aB,aD,q5,q1,bV,hts,hte,jQ,ci,St.put];refine⟨λ_=>trivial,ah,ah,?_⟩;refine e7.pure rfl (by simp only [dOK];decide) ?_;simp only [aH,ev,aB,aD,aA,reduceIte,fF,hte,D8,nW,Int.toNat_natCast,St.put];refine⟨hi,λrow hrow=> ?_⟩;have hrow:row=d:=by rw [hm]at hrow;exact(Option.some.inj hrow).symm
  subst hrow;refine⟨ah,?_⟩;have et:((row.drop 0).take sz).map (Cell.d g)=row.map (Cell.d g):=by rw [List.drop_zero,List.take_of_length_le ah]
  rw [et];have hcl:(row.map (Cell.d g)).length=sz:=by rw [List.length_map];exact hdl
  have hcr:∀j,j<sz->(row.map (Cell.d g)).getD j default= .d g (row.getD j default):=λj hj=>by simp [List.getD,List.getElem?_map,List.getElem?_eq_getElem (show j<row.length by omega)]
  generalize row.map (Cell.d g)=cells at hcl hcr;refine e8.data rfl (by simp only [dOK];decide) ?_;simp only [aX,aD,hte,St.put];refine⟨λe=>hsz (by rw [<-hz,e];rfl),?_⟩;refine e9.data rfl (by simp only [dOK]) ?_;simp only [aX,aD,aB,bZ,ev,aA,reduceIte,Nat.reduceEqDiff,hte,dO,aI,look,St.put,aF];have sp:splice zero cells 0=cells:=by unfold splice;simp [hcl,hz]
  rw [sp];refine⟨hcl,hsz,trivial,ah,?_⟩;generalize hb:((nm n kk,dx.box cells)::(nm n kk,dx.box zero)::hh:Heap)=h1;have w1:look h1 (nm n kk)=some (.box cells):=by rw [<-hb];exact ay _ _ _
  have w2:∀x,x≠nm n kk->look h1 x=look hh x:=λx hx=>by rw [<-hb,aj _ _ (Ne.symm hx),aj _ _ (Ne.symm hx)]
  have a7:gP h1 y sz (es.take i) N:=q7.frame λx hx=>w2 x (by have:=(q8 x hx).2;unfold nm at*;omega)
  have a9:∀l,l<n->look h1 l=look h l:=λl hl=>by rw [w2 l (by unfold nm;omega)];exact q9 l hl
  clear hb q7 q9
  refine kI (e10.pure rfl (by simp only [dOK];decide) ?_);simp only [aH,ev,aB,aA,reduceIte,Nat.reduceEqDiff,q6,St.put];refine e11.pure rfl (by simp only [dOK];decide) ?_;simp only [aH,ev,aB,aD,bZ,aA,reduceIte,Nat.reduceEqDiff,fF,hte,w1,qG,mh,iU.agg,true_and,St.put];have et2:(cells.drop 0).take sz=cells:=by rw [List.drop_zero,List.take_of_length_le ah]
  rw [et2];refine⟨ah,e12.call rfl (by simp only [dOK];decide) ?_⟩;simp only [dw,jy,fnA,iK,aB,jf,ev,aA,reduceIte,Nat.reduceEqDiff,hG,List.map,List.append_nil,List.nil_append,List.cons_append,St.put];refine⟨cells,row,rfl,hcl,hdl,λj hj=> .inl ⟨g,hcr j hj⟩,hdB,λh2 j cells' M tr fr1 fr2=> ?_⟩;have b7:gP h2 y sz (es.take i) N:=a7.frame λx hx=>fr2 x (by have:=(q8 x hx).2;unfold nm at*;omega)
  have b9:∀l,l<n->look h2 l=look h l:=λl hl=>by rw [fr2 l (by unfold nm;omega)];exact a9 l hl
  refine e13.grid rfl (by simp only [dOK];decide) ?_;simp only [nG,vw,aB,aD,ev,aA,reduceIte,Nat.reduceEqDiff,hts,hte,aI,List.map,St.put];refine⟨hsz,rfl,ah,tr.len,?_⟩;generalize hb:((nm n (kk+1+j),dx.grid sz [cells'])::h2:Heap)=h3;have v1:look h3 (nm n (kk+1+j))=some (.grid sz [cells']):=by rw [<-hb];exact ay _ _ _
  have v2:∀x,x≠nm n (kk+1+j)->look h3 x=look h2 x:=λx hx=>by rw [<-hb,aj _ _ (Ne.symm hx)]
  have g2:∀q x,q<sz->M q x->nm n (kk+1)<=x/\x<nm n (kk+1+j):=λq x a b=>by have:=fr1 q x a b;unfold nm at*;omega
  have c7:gP h3 y sz (es.take i) N:=b7.frame λx hx=>v2 x (by have:=(q8 x hx).2;unfold nm at*;omega)
  have c9:∀l,l<n->look h3 l=look h l:=λl hl=>by rw [v2 l (by unfold nm;omega)];exact b9 l hl
  have ctr:∀q,q<sz->aN h3 (cells'.getD q default) (row.getD q default) (M q):=λq hq=>(tr.cell q hq).frame λx hx=>v2 x (by have:=(g2 q x hq hx).2;unfold nm at*;omega)
  clear hb
  refine e14.grid rfl (by simp only [dOK];decide) ?_;simp only [nG,aB,aD,bZ,ev,aA,reduceIte,Nat.reduceEqDiff,hts,hte,O4,MJ,v1,List.length,true_and,St.put];refine⟨hsz,hby,by decide,?_⟩;have eL:(es.take i).length=i:=by simp;omega
  refine gP.app (M:=M) (d:=row) c7 tr.len hdl hns ctr (λq x hq hx=>⟨by have:=(g2 q x hq hx).2;unfold nm at*;omega,λhN=>by have:=(g2 q x hq hx).1;have:=(q8 x hN).2;unfold nm at*;omega⟩)
   (λx hx=>by have:=(q8 x hx).2;unfold nm at*;omega) tr.one (by rw [eL];omega) (λh4 r4 f4=> ?_)
  have d9:∀l,l<n->look h4 l=look h l:=λl hl=>by rw [f4 l (by unfold nm;omega) (λhN=>by have:=(q8 _ hN).1;omega)];exact c9 l hl
  refine e15.pure rfl (by simp only [dOK];decide) ?_;simp only [aH,ev,aB,aA,reduceIte,St.put,aF];show Q2 .normal _;refine hQ _ (by simp only [aA,reduceIte,Nat.reduceEqDiff];exact q1) (show 17<19 by decide) (show 8<19 by decide) ?_;have eT:es.take (i+1)=es.take i++ [row]:=by rw [List.take_succ,hm];rfl
  have ne2:∀x,(x=nm n (kk+1+j+1)\/N x\/∃q,q<sz/\M q x)->n<=x/\x<nm n (kk+1+j+1+1):=by
   rintro x (rfl | hx | ⟨q,hq,hx⟩)
   .unfold nm;omega
   .have:=q8 x hx;unfold nm at*;omega
   .have:=g2 q x hq hx;unfold nm at*;omega
  refine⟨_,_,by simp only [aA,reduceIte],by simp only [aA,reduceIte,Nat.reduceEqDiff];exact q2,rfl,rfl,by simp only [aA,reduceIte,Nat.reduceEqDiff];exact q5,
   by simp only [aA,reduceIte,Nat.reduceEqDiff];rfl,by rw [eT];exact r4,ne2,d9⟩
 .obtain⟨y,N,q1,q2,q3,q4,q5,q6,q7,q8,q9⟩:=hJ;rw [List.take_length]at q7;obtain⟨t,hh,nn,kk,mm⟩:=s;dsimp only at q1 q2 q3 q4 q5 q6 q7 q8 q9;subst q3;have q4:=q4.symm;subst q4;show aw E G dr _ _ _;refine aP (e18.pure rfl (by simp only [dOK];decide) ?_);simp only [aH,ev,aB,q6,St.put];refine e19.pure rfl (by simp only [dOK];decide) ?_;simp only [aH,ev,aB,aA,reduceIte,St.put,aF];refine lQ ?_;simp only [pX,oh,one,aB,aA,reduceIte,true_and];obtain⟨M,hM,hMN⟩:=q7.tree;exact hK hh kk y M hM (λl hl=>by have:=q8 l (hMN l hl);unfold nm at*;omega) q9
theorem FB{b0 r1 r2 ti ta x1 x2 x3 x4 x5 x6:Nat}{c1 c2 c3 c4 u1 u2 u3:Oper}{ts ty1 ty2 ty3 ty4:TypeId}{y:TY}{body:Code}{Q:Exit->St->Prop}{s:St}{n m:Nat}{v:PV}(J:Nat->St->Prop)
  (hts:E.ty ts=some y) (hsl:match y.desc with | .slice _=>True | _=>False) (hv:oW v=λK=>K (ci .i64 n))
  (h1:eo (some x1) (.move (.tmp ti)) c1) (h2:eo (some x2) (.move (.tmp ta)) c2) (h3:eo (some x3) (.call {callee:= .builtin .len,args:= #[.tmp x2],argTypes:= #[ts]}) c3) (h4:eo (some x4) (.binOp .lss ty1 (.tmp x1) (.tmp x3) ty2) c4)
  (k1:eo (some x5) (.move (.tmp ti)) u1) (k2:eo (some x6) (.binOp .add ty3 (.tmp x5) (.const (.int .i64 1)) ty4) u2) (k3:eo (some ti) (.assign (.tmp x6)) u3)
  (hn:n<4611686018427387904) (d1:x1≠x2) (d2:x1≠x3) (d3:x1≠ta) (d4:x2≠x3)
  (hs:∀i s,J i s->aA s.t ti=some (ci .i64 i)/\aA s.t ta=some v/\s.m=m)
  (hm:x1<m/\x2<m/\x3<m/\x4<m/\x5<m/\x6<m/\ti<m)
  (hc:∀i s a b c d,J i s->J i {s with t:=(x4,a)::(x3,b)::(x2,c)::(x1,d)::s.t})
  (h0:J 0 s)
  (step:∀i s,i<n->J i s->∀Q2:Exit->St->Prop,(∀s',aA s'.t ti=some (ci .i64 i)->s'.m=m->J (i+1) {s' with t:=(ti,some (ci .i64 (i+1:Nat)))::(x6,some (ci .i64 (i+1:Nat)))::(x5,some (ci .i64 i))::s'.t}->Q2 .normal s')->aw E G dr body Q2 s)
  (done:∀s,J n s->Q .normal s):
  aw E G dr (.block b0 (.loop (.seq (.seq (.region r1 #[c1,c2,c3,c4] false) (.cond (.tmp x4) .skip (.exit b0))) (.seq body (.region r2 #[u1,u2,u3] false))))) Q s:=by
 refine rD ?_;show Wt E _ _ s;refine⟨λq s=>∃i,i+q=n/\J i s,n,⟨s,.refl E s,0,ah,h0⟩,?_⟩;rintro q s1 ⟨i,hi,hJ⟩;obtain⟨e1,e2,e3⟩:=hs i s1 hJ;obtain⟨m1,m2,m3,m4,m5,m6,m7⟩:=hm;refine bG (aP (h1.pure rfl (by rw [e3];exact m1) ?_));simp only [aH,ev,e1,aB,St.put];refine h2.pure rfl (by show _<s1.m;rw [e3];exact m2) ?_;simp only [aH,ev,au d3,e2,aB,St.put];refine h3.pure rfl (by show _<s1.m;rw [e3];exact m3) ?_;simp only [aH,lT,ev,aL,aB,aD,hts,hv,St.put];refine⟨hsl,h4.pure rfl (by show _<s1.m;rw [e3];exact m4) ?_⟩;simp only [aH,ev,aL,au d2.symm,au d1.symm,aB,mq,ci,iB,St.put,aF];refine⟨.inl trivial,?_⟩;have hJ':=hc i s1 (some (cb (decide ((i:Int)< (n:Int))))) (some (ci .i64 n)) (some v) (some (ci .i64 i)) hJ;refine fM (f:=true) (b:=decide ((i:Int)< (n:Int))) aL (λht=> ?_) (λhf=> ?_)
 .have hlt:i<n:=by simpa using ht
  show aw E G dr (.seq body (.region r2 #[u1,u2,u3] false)) _ _;refine bG (step i _ hlt hJ' _ λs' q1 q3 q4=> ?_);refine kI (k1.pure rfl (by rw [q3];exact m5) ?_);simp only [aH,ev,q1,aB,St.put];refine k2.pure rfl (by show _<s'.m;rw [q3];exact m6) ?_;have hw:IntKind.i64.wrap ((i:Int)+1)=((i+1:Nat):Int):=by rw [IntWalk.i64_in _ ah];simp
  simp only [aH,ev,aL,aB,fD,mq,ci,iB,St.put,hw];refine⟨.inl trivial,k3.pure rfl (by show _<s'.m;rw [q3];exact m7) ?_⟩;simp only [aH,ev,aL,aB,St.put,aF];exact⟨q-1,_,ah,.refl E _,i+1,ah,q4⟩
 .have hge:¬i<n:=by simpa using hf
  have he:i=n:=by omega
  subst he;show(if b0=b0 then Q .normal _ else _);rw [if_pos rfl];exact done _ hJ'
end Go.AE
namespace Go.AE
open Go
def Jf:Cell->Prop | .d _ _=>True | .nil=>True | .clip _ _ _=>True | .np=>True | _=>False
def NJ:PV->Prop | .c x=>Jf x | .agg cs=>∀x∈cs,Jf x | .tup _=>False
def Ctx.bare(c:Ctx):Ctx:={K:=c.K,ν:=λ_=>none,n:=0}
def Jg{c:Ctx}{w:World}{x:Cell}(h:Jf x){v:Value}(hv:bB c w v x):bB c.bare w v x:=by
 cases hv with
 | d f v x hv=>exact .d _ _ _ hv
 | nil=>exact .nil
 | clip f a n sz es hv=>exact .clip _ _ _ _ _ hv
 | np=>exact .np
 | _=>exact h.elim
def Qc{c:Ctx}{w:World}{x:PV}(h:NJ x){v:Value}(hv:bg c w v x):bg c.bare w v x:=by
 cases hv with
 | c v x hv=>exact .c _ _ (Jg h hv)
 | agg vs cs hv=>
  refine .agg _ _ ?_;have key:∀ {vs:List Value} {cs:List Cell},F2 (bB c w) vs cs->(∀x∈cs,Jf x)->F2 (bB c.bare w) vs cs:=by
   intro vs cs h
   induction h with
   | nil=>intro _;exact .nil
   | cons a _ ih=>intro hh;exact .cons (Jg (hh _ (List.mem_cons_self ..)) a) (ih λx hx=>hh x (List.mem_cons_of_mem _ hx))
  exact key hv h
 | tup=>exact h.elim
def XF{c:Ctx}{w:World}{h:Heap}(H:bC c w h):bC c.bare w []:=
 ⟨λl o h=>(by cases h),λl o l' o' b h=>(by cases h),λf b ⟨l,o,h,_⟩=>(by cases h),H.low,H.sub⟩
inductive Jh:Heap->PV->PV->Prop
 | same {h:Heap} {r:PV}:Jh h r r
 | c {h h':Heap} {x:Cell} {f:Bool} {d:D}:zw h x (λg e k=>g=f/\e=d/\k=h')->Jh h (.c x) (.c (.d f d))
 | agg {h h':Heap} {cs:List Cell} {f:Bool} {ds:List D}:lJ h cs (λg e k=>g=f/\e=ds/\k=h')->Jh h (.agg cs) (.agg (ds.map (.d f)))
 | two {h h' h'':Heap} {cs es:List Cell} {f g:Bool} {ds fs:List D}:lJ h cs (λa e k=>a=f/\e=ds/\k=h')->lJ h' es (λa e k=>a=g/\e=fs/\k=h'')->Jh h (.tup [.agg cs,.agg es]) (.tup [.agg (ds.map (.d f)),.agg (fs.map (.d g))])
def F2.frz{c:Ctx}{w:World}{f:Bool}{vs:List Value}{ds:List D}(h:F2 (dJ (c.K f) w) vs ds):F2 (bB c w) vs (ds.map (.d f)):=by
 induction h with
 | nil=>exact .nil
 | cons a _ ih=>exact .cons (.d _ _ _ a) ih
def XG{c:Ctx}{w:World}{h:Heap}(H:bC c w h){r r':PV}(fr:Jh h r r'){v:Value}(hv:bg c w v r):∃c' h',Grow c w h c' w h'/\bC c' w h'/\bg c' w v r':=by
 cases fr with
 | same=>exact⟨c,h,.refl _ _ _,H,hv⟩
 | c hg=>
  cases hv with | c _ _ hv=>
  obtain⟨c',h',g,d,g1,H1,_,hd,rfl,rfl,rfl⟩:=vo H hv hg;exact⟨c',h',g1,H1,.c _ _ (.d _ _ _ hd)⟩
 | agg hg=>
  cases hv with | agg vs _ hv=>
  obtain⟨c',h',f,ds,g1,H1,_,hd,rfl,rfl,rfl⟩:=kF _ H hv hg;exact⟨c',h',g1,H1,.agg _ _ (F2.frz hd)⟩
 | two hg1 hg2=>
  cases hv with | tup vs _ hl hr=>
  have a0:=hr 0 (by simp);have a1:=hr 1 (by simp)
  match vs,hl with
  | [u0,u1],_=>
   simp only [List.getD,List.getElem?_cons_zero,List.getElem?_cons_succ,Option.getD_some]at a0 a1;cases a0 with | agg us0 _ b0=>
   cases a1 with | agg us1 _ b1=>
   obtain⟨c1,h1,f,ds,g1,H1,_,hd,rfl,rfl,rfl⟩:=kF _ H b0 hg1;obtain⟨c2,h2,f2,ds2,g2,H2,_,hd2,rfl,rfl,rfl⟩:=kF _ H1 (F2.mono (λ_ _ x=>x.grow H g1) b1) hg2;refine⟨c2,h2,g1.trans g2,H2,.tup _ _ rfl λi hi=> ?_⟩;have hi2:i=0\/i=1:=by simp only [List.length]at hi;omega
   rcases hi2 with rfl | rfl
   .exact .agg _ _ (F2.mono (λ_ _ x=>x.grow H1 g2) (F2.frz hd))
   .exact .agg _ _ (F2.frz hd2)
def iso(R:Trans):Trans:=λargs h n K=>(∀a∈args,NJ a)/\R args [] 0 (λr h' _=>∃r',Jh h' r r'/\XH r'/\K r' h 0)
where
 XH:PV->Prop | .tup vs=>∀v∈vs,NJ v | v=>NJ v
def Ji{c c':Ctx}{w:World}(hK:∀f b,c.K f b->c'.K f b){x:Cell}(h:Jf x){v:Value}(hv:bB c w v x):bB c' w v x:=by
 cases hv with
 | d f v x hv=>exact .d _ _ _ (hv.mono' (hK f))
 | nil=>exact .nil
 | clip f a n sz es hv=>exact .clip _ _ _ _ _ (hv.mono' (hK f))
 | np=>exact .np
 | _=>exact h.elim
def yI{c c':Ctx}{w:World}(hK:∀f b,c.K f b->c'.K f b){x:PV}(h:NJ x){v:Value}(hv:bg c w v x):bg c' w v x:=by
 cases hv with
 | c v x hv=>exact .c _ _ (Ji hK h hv)
 | agg vs cs hv=>
  refine .agg _ _ ?_;have key:∀ {vs:List Value} {cs:List Cell},F2 (bB c w) vs cs->(∀x∈cs,Jf x)->F2 (bB c' w) vs cs:=by
   intro vs cs h
   induction h with
   | nil=>intro _;exact .nil
   | cons a _ ih=>intro hh;exact .cons (Ji hK (hh _ (List.mem_cons_self ..)) a) (ih λx hx=>hh x (List.mem_cons_of_mem _ hx))
  exact key hv h
 | tup=>exact h.elim
def NK{c c':Ctx}{w:World}(hK:∀f b,c.K f b->c'.K f b){x:PV}(h:iso.XH x){v:Value}(hv:bg c w v x):bg c' w v x:=by
 cases x with
 | c x=>exact yI (x:= .c x) hK h hv
 | agg cs=>exact yI (x:= .agg cs) hK h hv
 | tup vs=>
  cases hv with | tup us _ hl hr=>
  refine .tup _ _ hl λi hi=>yI hK (h _ ?_) (hr i hi)
  have:vs.getD i default=vs[i]:=by simp [List.getD,hi]
  rw [this];exact List.getElem_mem hi
def Ku{E:Tab}{f:FuncId}{R:Trans}(hR:aK E f R):aK E f (iso R) where
 enters:=hR.enters
 calls:=by
  rintro args h n K ⟨hf,hk⟩ c w vs hn hv H G;have hargs:F2 (bg c.bare w) vs args:=by
   clear hk
   induction hv with
   | nil=>exact .nil
   | cons a _ ih=>exact .cons (Qc (hf _ (List.mem_cons_self ..)) a) (ih λx hx=>hf x (List.mem_cons_of_mem _ hx))
  have G':oH E c.bare w:=λg d hd=>G g d hd
  refine(hR.calls args [] 0 _ hk c.bare w vs rfl hargs (XF H) G').mono ?_;rintro e w' he;cases e with
  | returned v=>
   obtain⟨c1,r,h1,j,g1,H1,hj,hr,r',hfr,hfz,hK⟩:=he;obtain⟨c2,h2,g2,H2,hr2⟩:=XG H1 hfr hr;have g:=g1.trans g2;have no:∀b,¬fU c.bare [] b:=λb ⟨l,o,h,_⟩=>by cases h
   obtain⟨H3,g3⟩:=side (w':=w') H (K:=c2.K) g.size (λb hb=>g.kept b hb (no b)) g.stays g.le.K (λf b hb=>(g.uT f b hb).imp id λh=>h.resolve_right (no b)) H2.low H2.sub g.os g.tape g.output;exact⟨c.wide c2.K,r',h,0,g3,H3,by simpa [nm,Ctx.wide]using hn,NK (c:=c2) (c':=c.wide c2.K) (λ_ _ h=>h) hfz hr2,hK⟩
  | panicked ch=>exact he.elim
  | outgrown=>exact he.elim
end Go.AE
namespace Go.TX
open Go Go.AE
variable [aQ]
inductive Tail (L:Code):Code->Code->Prop
 | here:Tail L .skip L
 | seq {x c' c:Code}:Tail L c' c->Tail L (.seq x c') (.seq x c)
section
variable {n:Nat}
variable {X:XT} {E:Tab} (hE:aR E) (hX:XOK X E) {C:Calls aJ} (hG:jZ E (lg C)) (hm:E.P.follows .mixedOrders=true) {ord:Nat->List dK} {chk:Nat->Array Oper->Nat->Bool} (Ad:∀id ops m,chk id ops m=true->Static E ord id ops m)
 {c0:Ctx} {w0:World} {h0:Heap} {k:Nat} {H0:List aU} {m0:Nat} (hc0:c0.n=k)
include hE hX hG hm Ad hc0
theorem VG{L:Code}{Q:Exit->Act->World->Prop}{ρ:Type}{K:Exit->RSt (std n)->(ρ->Prop)->Prop}{r:ρ->Prop}(hL:∀a w,LX E c0 w0 h0 k H0 m0 K r .normal a w->L.wp E.P Q a w)(hQ:∀e a w,e≠ .normal->LX E c0 w0 h0 k H0 m0 K r e a w->Q e a w):
  ∀ {c' c:Code},Tail L c' c->∀ {an:Ann} {s:RSt (std n)},bM (std n) X C ord chk k an c' s K r->∀ {s':St} {cx:Ctx} {w:World} {a:Act},jR E s' cx w a->Grow c0 w0 h0 cx w s'.h->SR s' s->Keep k H0 s.h->s.m=m0->
  c.wp E.P Q a w:=by
 intro c' c t
 induction t with
 | here=>
  intro an s h s' cx w a A g S hK hs;have h:K .normal s r:=by cases an<;>exact h
  exact hL a w ⟨cx,s',s,g,A,S,hK,hs,h⟩
 | @seq x c' c t ih=>
  intro an s h s' cx w a A g S hK hs
  have main:∀(a1 a2:Ann) (K1:Exit->RSt (std n)->(ρ->Prop)->Prop),(∀s',K1 .normal s'=bM (std n) X C ord chk k a2 c' s' K)->(∀s',K1 .ret s'=K .ret s')->(∀i s',K1 (.exit i) s'=K (.exit i) s')->bM (std n) X C ord chk k a1 x s K1 r->
    (Code.seq x c).wp E.P Q a w:=by
   intro a1 a2 K1 e1 e2 e3 h;refine wp_seq (wp_mono (pE hE hX hG hm Ad hc0 x h A g S hK hs) ?_);intro e a' w' he;cases e with
   | outgrown=>exact he.elim
   | panic _=>exact he.elim
   | goto _=>exact he.elim
   | normal=>obtain⟨cx,s',s1,b1,b2,b3,b4,b5,b6⟩:=he;rw [e1]at b6;exact ih b6 b2 b1 b3 b4 b5
   | ret=>obtain⟨cx,s',s1,b1,b2,b3,b4,b5,b6⟩:=he;rw [e2]at b6;exact hQ .ret _ _ (by simp) ⟨cx,s',s1,b1,b2,b3,b4,b5,b6⟩
   | exit i=>obtain⟨cx,s',s1,b1,b2,b3,b4,b5,b6⟩:=he;rw [e3]at b6;exact hQ (.exit i) _ _ (by simp) ⟨cx,s',s1,b1,b2,b3,b4,b5,b6⟩
  cases an with
  | seq a1 a2=>rw [bM]at h;refine main a1 a2 _ ?_ ?_ ?_ h<;>intros<;>rfl
  | u=>rw [bM]at h;refine main .u .u _ ?_ ?_ ?_ h<;>intros<;>rfl
  | _=>simp [bM]at h
end
end Go.TX
namespace Go.AE
open Go
def kfC:Cell->Prop | .d _ (.int _ _)=>True | .d _ (.bool _)=>True | .nil=>True | .os _ _ _ _=>True | _=>False
def kfO:dx->Prop | .rows _ _ es=>nY es=true | .grid _ cs=>∀row∈cs,∀x∈row,kfC x | _=>False
def kfV:PV->Prop | .c x=>kfC x | .agg cs=>∀x∈cs,kfC x | .tup vs=>∀v∈vs,match v with | .c x=>kfC x | .agg cs=>∀x∈cs,kfC x | .tup _=>False
def aN.kf{h:Heap}{x:Cell}{d:D}{N:Nat->Prop}(t:aN h x d N):kfC x/\∀l,N l->∃o,look h l=some o/\kfO o:=by
 induction t with
 | int f k n=>exact⟨trivial,λ_ h=>h.elim⟩
 | bool f b=>exact⟨trivial,λ_ h=>h.elim⟩
 | nil sz=>exact⟨trivial,λ_ h=>h.elim⟩
 | flat l sz f es hl hs=>exact⟨trivial,λy hy=>⟨.rows f sz es,by have e:y=l:=hy;rw [e];exact hl,hs⟩⟩
 | grid l sz cs es N hl hc h1 h1c hns h2 h3 h4 ih=>
  refine⟨trivial,?_⟩;rintro y (rfl | ⟨i,j,hi,hj,hy⟩)
  .refine⟨_,hl,λrow hrow x hx=> ?_⟩;obtain⟨i,hi,rfl⟩:=List.mem_iff_getElem.1 hrow;obtain⟨j,hj,rfl⟩:=List.mem_iff_getElem.1 hx;have hi2:i<es.length:=by omega
   have hg:cs.getD i []=cs[i]:=by simp [List.getD,hi]
   have hw:=h1c i hi2;rw [hg]at hw;have:=(ih i j hi2 ah).1;unfold gc at this;rw [hg]at this;simpa [List.getD,hj]using this
  .exact(ih i j hi hj).2 y hy
noncomputable def mP (P:Nat->Prop) (h:Heap):Heap:=h.filter λp=> @decide (P p.1) (Classical.propDecidable _)
def pJ{P:Nat->Prop}{l:Nat}:∀ {h:Heap},(P l->look (mP P h) l=look h l)/\(¬P l->look (mP P h) l=none)
 | []=>⟨λ_=>rfl,λ_=>rfl⟩
 | (m,o)::h=>by
  have ih:=pJ (P:=P) (l:=l) (h:=h);unfold mP at ih ⊢;by_cases e:m=l
  .subst e;refine⟨λhp=> ?_,λhp=> ?_⟩
   .rw [List.filter_cons_of_pos (by simpa using hp),ay,ay]
   .rw [List.filter_cons_of_neg (by simpa using hp)];exact ih.2 hp
  .by_cases hm:P m
   .rw [List.filter_cons_of_pos (by simpa using hm),aj _ _ e,aj _ _ e];exact ih
   .rw [List.filter_cons_of_neg (by simpa using hm),aj _ _ e];exact ih
def Ag{l:Nat}{b:Heap}:∀ {a:Heap},look (a++b) l=(match look a l with | some o=>some o | none=>look b l)
 | []=>rfl
 | (m,o)::a=>by
  by_cases e:m=l
  .subst e;simp [look]
  .rw [List.cons_append,aj _ _ e,aj _ _ e];exact Ag
def VH(c:Ctx)(h:Heap)(N:Nat->Prop)(b:Nat):Prop:=∃l o,N l/\look h l=some o/\o.live/\c.μ l=some b
def VH.mono{c:Ctx}{h:Heap}{N M:Nat->Prop}(hN:∀l,N l->M l){b:Nat}:VH c h N b->VH c h M b:=λ⟨l,o,a,r⟩=>⟨l,o,hN l a,r⟩
def aN.alN{c:Ctx}{w:World}{h:Heap}(H:bC c w h){x:Cell}{d:D}{N:Nat->Prop}(t:aN h x d N):∀ {v:Value},bB c w v x->dJ (VH c h N) w v d:=by
 induction t with
 | int f k n=>intro v hv;cases hv with | d _ _ _ hv=>exact hv.bY _ rfl
 | bool f b=>intro v hv;cases hv with | d _ _ _ hv=>exact hv.bY _ rfl
 | nil sz=>intro v hv;cases hv;exact .none _ _ _
 | flat l sz f es hl hs=>
  intro v hv;have hro:=(H.obj l _ hl).2;generalize hn:es.length=n at hv;cases hv with
  | os0 a _ _ hl' hm=>have:es=[]:=List.eq_nil_of_length_eq_zero hn;subst this;exact .none _ _ _
  | osE a _ _ _ b hl' hm=>have:es=[]:=List.eq_nil_of_length_eq_zero hn;subst this;exact .none _ _ _
  | os _ _ _ _ cap b o hl' hm hcap hroom=>
   simp only [gq,hm]at hro;obtain⟨cells,e,hb,hrow⟩:=hro;obtain⟨u,hu⟩:=hrow.ab4;refine .rows b (o+0*sz) cap sz n es u ⟨l,_,rfl,hl,trivial,iA hm⟩ hn.symm hcap (λi j hi hj=> ?_) (λi hi=>(hrow i hi).1) (λi j hi hj=>(hu i j hi hj).2.bY _ ?_)
   .rw [jw hb,Nat.zero_mul,Nat.add_zero,Nat.add_assoc];have:=(hu i j hi hj).1
    rwa [mG]at this
   .have hlen:=(hrow i hi).1;have hg:es.getD i []=es[i]:=by simp [List.getD,hi]
    have h1:=List.all_eq_true.1 hs _ (List.getElem_mem hi);unfold gd;rw [hg]at hlen ⊢;have h2:=List.all_eq_true.1 h1 _ (List.getElem_mem (show j<es[i].length by omega));simpa [List.getD,show j<es[i].length by omega]using h2
 | grid l sz cs es N hl hc h1 h1c hns h2 h3 h4 ih=>
  intro v hv;have hro:=(H.obj l _ hl).2;generalize hn:es.length=n at hv;cases hv with
  | os0 a _ _ hl' hm=>have:es=[]:=List.eq_nil_of_length_eq_zero hn;subst this;exact .none _ _ _
  | osE a _ _ _ b hl' hm=>have:es=[]:=List.eq_nil_of_length_eq_zero hn;subst this;exact .none _ _ _
  | os _ _ _ _ cap b o hl' hm hcap hroom=>
   simp only [gq,hm]at hro;obtain⟨cells,e,hb,hrow⟩:=hro;have hu:∀i j,∃u,i<es.length->j<sz->(from_ cells o)[i*sz+j]? =some u/\bB c w u (gc cs i j):=by
    intro i j;by_cases hi:i<es.length
    .by_cases hj:j<sz
     .obtain⟨v,hv,hr⟩:=(hrow i ah).2 j hj;exact⟨v,λ_ _=>⟨hv,hr⟩⟩
     .exact⟨undef,λ_ h=>absurd h hj⟩
    .exact⟨undef,λh=>absurd h hi⟩
   refine .rows b (o+0*sz) cap sz n es (λi j=>Classical.choose (hu i j)) ⟨l,_,.inl rfl,hl,trivial,iA hm⟩ hn.symm hcap (λi j hi hj=> ?_) h1
    (λi j hi hj=>(ih i j hi hj (Classical.choose_spec (hu i j) hi hj).2).mono' λb=>VH.mono λx hx=> .inr ⟨i,j,ah,hj,hx⟩)
   rw [jw hb,Nat.zero_mul,Nat.add_zero,Nat.add_assoc];exact mG.symm.trans (Classical.choose_spec (hu i j) hi hj).1
inductive Hq (h:Heap) (N:Nat->Prop):Cell->Cell->Prop
 | d (f:Bool) (x:D):Hq h N (.d f x) (.d f x)
 | nil:Hq h N .nil .nil
 | tree {x:Cell} {d:D} {M:Nat->Prop}:aN h x d M->(∀l,M l->N l)->Hq h N x (.d true d)
inductive VI (h:Heap) (N:Nat->Prop):PV->PV->Prop
 | c {x y:Cell}:Hq h N x y->VI h N (.c x) (.c y)
 | agg {xs ys:List Cell}:F2 (Hq h N) xs ys->VI h N (.agg xs) (.agg ys)
def Ctx.FC(c:Ctx)(h:Heap)(N:Nat->Prop):Ctx:={c with K:=λf b=>c.K f b\/VH c h N b}
def VJ{c:Ctx}{w:World}{h:Heap}(H:bC c w h)(N:Nat->Prop):bC (c.FC h N) w (mP (λl=>¬N l) h)/\Grow c w h (c.FC h N) w (mP (λl=>¬N l) h):=by
 have mem:∀l o,look (mP (λl=>¬N l) h) l=some o->¬N l/\look h l=some o:=λl o ho=>by
  by_cases a:N l
  .rw [pJ.2 (λk=>k a)]at ho;cases ho
  .rw [pJ.1 a]at ho;exact⟨a,ho⟩
 have le:CLe c (c.FC h N):=⟨λ_ _ h=> .inl h,Nat.le_refl _,λ_ _=>rfl⟩;refine⟨⟨?_,?_,?_,?_,?_⟩,⟨le,Nat.le_refl _,.refl w,λ_ _ _=>rfl,?_,?_,rfl,rfl,rfl⟩⟩
 .intro l o ho;obtain⟨a,b⟩:=H.obj l o (mem l o ho).2;exact⟨a,b.mono le (λ_ _ _=>rfl) (.refl w) a (λ_ _ _=>rfl)⟩
 .exact λl o l' o' b h1 h2 h3 h4 h5 h6=>H.inj l o l' o' b (mem l o h1).2 h2 (mem l' o' h3).2 h4 h5 h6
 .rintro f b ⟨l,o,h1,h2,h3⟩ (hk | ⟨l',o',g1,g2,g3,g4⟩)
  .exact H.own f b ⟨l,o,(mem l o h1).2,h2,h3⟩ hk
  .have:=H.inj l o l' o' b (mem l o h1).2 h2 g2 g3 h3 g4;subst this;exact(mem l o h1).1 g1
 .rintro f b (hk | ⟨l',o',g1,g2,g3,g4⟩)
  .exact H.low f b hk
  .exact(H.obj l' o' g2).2.lt g3 g4
 .rintro b (hk | hk)
  .exact .inl (H.sub b hk)
  .exact .inr hk
 .rintro f b (hk | ⟨l',o',g1,g2,g3,g4⟩)
  .exact .inl hk
  .exact .inr (.inr ⟨l',o',g2,g3,g4⟩)
 .rintro b ⟨l,o,h1,h2,h3⟩;exact .inl ⟨l,o,(mem l o h1).2,h2,h3⟩
def Hq.rel{c:Ctx}{w:World}{h:Heap}{N:Nat->Prop}(H:bC c w h){x y:Cell}(l:Hq h N x y){v:Value}(hv:bB c w v x):bB (c.FC h N) w v y:=by
 cases l with
 | d f x=>cases hv with | d _ _ _ hv=>exact .d _ _ _ (hv.mono' λ_ h=> .inl h)
 | nil=>cases hv;exact .nil
 | tree t hM=>exact .d _ _ _ ((t.alN H hv).mono' λb hb=> .inr (hb.mono hM))
def VI.rel{c:Ctx}{w:World}{h:Heap}{N:Nat->Prop}(H:bC c w h){x y:PV}(l:VI h N x y){v:Value}(hv:bg c w v x):bg (c.FC h N) w v y:=by
 cases l with
 | c l=>cases hv with | c _ _ hv=>exact .c _ _ (l.rel H hv)
 | agg l=>
  cases hv with | agg vs _ hv=>
  exact .agg _ _ (F2.comp (λa b c h1 h2=>h2.rel H h1) hv l)
def XI(R:Trans):Trans:=λargs h n K=>∃(ds:List PV) (N:Nat->Prop),F2 (VI h N) args ds/\iso R ds (mP (λl=>¬N l) h) n K
def XJ{E:Tab}{f:FuncId}{R:Trans}(hR:aK E f R):aK E f (XI R) where
 enters:=hR.enters
 calls:=by
  rintro args h n K ⟨ds,N,hl,hk⟩ c w vs hn hv H G;obtain⟨H0,g0⟩:=VJ H N;have hv0:F2 (bg (c.FC h N) w) vs ds:=F2.comp (R:=bg c w) (S:=VI h N) (λa b d h1 h2=>h2.rel H h1) hv hl;refine((Ku hR).calls ds _ n K hk (c.FC h N) w vs hn hv0 H0 (G.grow H g0)).mono ?_;rintro e w' he;cases e with
  | returned v=>
   obtain⟨c',r,h',j,g,he⟩:=he;exact⟨c',r,h',j,g0.trans g,he⟩
  | panicked ch=>exact he.elim
  | outgrown=>exact he.elim
theorem gK.put{h:Heap}{l sz:Nat}{cs:List (List Cell)}{es:List (List D)}{N:Nat->Nat->Nat->Prop}(g:gK h l sz cs es N){i:Nat}(hi:i<es.length){row:List Cell}{d:List D}{M:Nat->Nat->Prop}
  (hrow:row.length=sz) (hd:d.length=sz) (hns:∃j,j<sz/\(d.getD j default).bY=false) (ht:∀j,j<sz->aN h (row.getD j default) (d.getD j default) (M j))
  (hM:∀j x,j<sz->M j x->x≠l) (h1:∀j j' x,j<sz->j'<sz->M j x->M j' x->j=j') (h2:∀i j j' x,i<es.length->j<sz->j'<sz->N i j x->¬M j' x):
  gK ((l,.grid sz (cs.set i row))::h) l sz (cs.set i row) (es.set i d) (λi' j=>if i'=i then M j else N i' j):=by
 have hl:=g.len;have fr:∀x,x≠l->look ((l,.grid sz (cs.set i row))::h) x=look h x:=λx a=>by rw [aj _ _ (Ne.symm a)]
 refine⟨ay _ _ _,by simp [hl],λk hk=> ?_,λk hk=> ?_,λk hk=> ?_,λk j hk hj=> ?_,λk j x hk hj hx=> ?_,λk j k' j' x hk hj hk' hj' hx hx'=> ?_⟩
 .rw [List.length_set]at hk;by_cases e:i=k
  .subst e;rw [fJ hi];exact hd
  .rw [dW e];exact g.wid k hk
 .rw [List.length_set]at hk;by_cases e:i=k
  .subst e;rw [fJ ah];exact hrow
  .rw [dW e];exact g.Ho k hk
 .rw [List.length_set]at hk;by_cases e:i=k
  .subst e;obtain⟨j,a,b⟩:=hns;exact⟨j,a,by unfold gd;rw [fJ hi];exact b⟩
  .obtain⟨j,a,b⟩:=g.ns k hk;exact⟨j,a,by unfold gd at b ⊢;rw [dW e];exact b⟩
 .rw [List.length_set]at hk;unfold gc gd;by_cases e:i=k
  .subst e;rw [fJ ah,fJ hi,if_pos rfl];exact(ht j hj).frame λx hx=>fr x (hM j x hj hx)
  .rw [dW e,dW e,if_neg (Ne.symm e)];exact(g.cell k j hk hj).frame λx hx=>fr x (g.ne k j x hk hj hx)
 .rw [List.length_set]at hk;split at hx
  .exact hM j x hj hx
  .exact g.ne k j x hk hj hx
 .rw [List.length_set]at hk hk';split at hx
  .rename_i e;split at hx'
   .rename_i e';exact⟨ah,h1 j j' x hj hj' hx hx'⟩
   .exact absurd hx (h2 k' j' j x hk' hj' hj hx')
  .split at hx'
   .exact absurd hx' (h2 k j j' x hk hj hj' hx)
   .exact g.one k j k' j' x hk hj hk' hj' hx hx'
def gK.zero{h:Heap}{l sz m:Nat}{zs:List Cell}{ds:List D}(hz:zs.length=sz)(hd:ds.length=sz)(hns:∃j,j<sz/\(ds.getD j default).bY=false)
  (ht:∀j,j<sz->aN ((l,.grid sz (List.replicate m zs))::h) (zs.getD j default) (ds.getD j default) (λ_=>False)):
  gK ((l,.grid sz (List.replicate m zs))::h) l sz (List.replicate m zs) (List.replicate m ds) (λ_ _ _=>False):=by
 have g1:∀i,i<m->(List.replicate m zs).getD i []=zs:=λi hi=>by simp [List.getD,hi]
 have g2:∀i,i<m->(List.replicate m ds).getD i []=ds:=λi hi=>by simp [List.getD,hi]
 refine⟨ay _ _ _,by simp,λk hk=> ?_,λk hk=> ?_,λk hk=> ?_,λk j hk hj=> ?_,λk j x hk hj hx=>hx.elim,λk j k' j' x hk hj hk' hj' hx hx'=>hx.elim⟩<;>rw [List.length_replicate]at hk
 .rw [g2 k hk];exact hd
 .rw [g1 k hk];exact hz
 .obtain⟨j,a,b⟩:=hns;exact⟨j,a,by unfold gd;rw [g2 k hk];exact b⟩
 .unfold gc gd;rw [g1 k hk,g2 k hk];exact ht j hj
structure vZ(h:Heap)(l sz n i:Nat)(es:List (List D))(N:Nat->Prop):Prop where
 ex:∃cs fs NN,gK h l sz cs fs NN/\fs.length=n/\fs.take i=es.take i/\∀x,gK.N l sz n NN x->N x
def vZ.frame{h h':Heap}{l sz n i:Nat}{es:List (List D)}{N:Nat->Prop}(r:vZ h l sz n i es N)(hf:∀x,N x->look h' x=look h x):vZ h' l sz n i es N:=by
 obtain⟨cs,fs,NN,g,e,t,hN⟩:=r;exact⟨cs,fs,NN,g.frame λx hx=>hf x (hN x (by rw [<-e];exact hx)),e,t,hN⟩
theorem vZ.look{h:Heap}{l sz n i:Nat}{es:List (List D)}{N:Nat->Prop}(r:vZ h l sz n i es N):∃cs,AE.look h l=some (.grid sz cs)/\cs.length=n:=by
 obtain⟨cs,fs,NN,g,e,t,hN⟩:=r;exact⟨cs,g.at_,g.len.trans e⟩
def vZ.tree{h:Heap}{l sz n:Nat}{es:List (List D)}{N:Nat->Prop}(r:vZ h l sz n n es N)(hn:es.length=n):∃M,aN h (.os l sz 0 n) (.rows sz es) M/\∀x,M x->N x:=by
 obtain⟨cs,fs,NN,g,e,t,hN⟩:=r;have:fs=es:=by rw [List.take_of_length_le ah,List.take_of_length_le ah]at t;exact t
 subst this;subst hn;exact⟨_,g.tree,hN⟩
def vZ.step{h:Heap}{l sz n i:Nat}{es:List (List D)}{N:Nat->Prop}(r:vZ h l sz n i es N)(hi:i<n)(hn:es.length=n){cs:List (List Cell)}(hl:AE.look h l=some (.grid sz cs)){row:List Cell}{d:List D}{M:Nat->Nat->Prop}(he:es[i]? =some d)
  (hrow:row.length=sz) (hd:d.length=sz) (hns:∃j,j<sz/\(d.getD j default).bY=false) (ht:∀j,j<sz->aN h (row.getD j default) (d.getD j default) (M j))
  (h1:∀j j' x,j<sz->j'<sz->M j x->M j' x->j=j') (h2:∀j x,j<sz->M j x->¬N x):
  vZ ((l,.grid sz (cs.set i row))::h) l sz n (i+1) es (λx=>N x\/∃j,j<sz/\M j x):=by
 obtain⟨cs',fs,NN,g,e,t,hN⟩:=r;have:cs'=cs:=by have:=g.at_;rw [hl]at this;cases this;rfl
 subst this;refine⟨cs'.set i row,fs.set i d,_,g.put (i:=i) (M:=M) ah hrow hd hns ht (λj x hj hx e'=>h2 j x hj hx (e'▸hN l (.inl rfl))) h1 (λk j j' x hk hj hj' hx hm=>h2 j' x hj' hm (hN x (.inr ⟨k,j,ah,hj,hx⟩))),by simp [e],?_,?_⟩
 .have h3:(fs.set i d).take (i+1)=fs.take i++ [d]:=by
   rw [List.take_add_one];rw [List.take_set_of_le (Nat.le_refl i)];simp [show i<fs.length by omega]
  rw [h3,t,List.take_add_one,he];rfl
 .rintro x (hx | ⟨k,j,hk,hj,hx⟩)
  .exact .inl (hN x (.inl hx))
  .split at hx
   .exact .inr ⟨j,hj,hx⟩
   .exact .inl (hN x (.inr ⟨k,j,hk,hj,hx⟩))
def aN.aiT{h:Heap}{x:Cell}{d:D}{N:Nat->Prop}(t:aN h x d N)(hd:d.bY=true):∀y,¬N y:=by
 cases t with
 | int f k n=>exact λ_ h=>h
 | bool f b=>exact λ_ h=>h
 | nil sz=>cases hd
 | flat=>cases hd
 | grid=>cases hd
def aN.len{h:Heap}{x:Cell}{sz:Nat}{es:List (List D)}{N:Nat->Prop}(t:aN h x (.rows sz es) N):oW (.c x)=λK=>K (ci .i64 es.length):=by
 cases t with
 | nil sz=>rfl
 | flat=>unfold oW;simp
 | grid=>unfold oW;simp
def FD{es:List (List D)}(hs:nY es=true){i j:Nat}(hi:i<es.length)(hj:j< (es.getD i []).length):(gd es i j).bY=true:=by
 have hg:es.getD i []=es[i]:=by simp [List.getD,hi]
 have h1:=List.all_eq_true.1 hs _ (List.getElem_mem hi);unfold gd;rw [hg]at hj ⊢;have h2:=List.all_eq_true.1 h1 _ (List.getElem_mem hj);simpa [List.getD,hj]using h2
def aN.XK{h:Heap}{x:Cell}{sz:Nat}{es:List (List D)}{N:Nat->Prop}(t:aN h x (.rows sz es) N){i j:Nat}(hi:i<es.length)(hj:j< (es.getD i []).length)(hn:(gd es i j).bY=false):
  ∃l cs NN,x= .os l sz 0 es.length/\gK h l sz cs es NN/\∀y,gK.N l sz es.length NN y↔N y:=by
 cases t with
 | nil sz=>exact absurd hi (Nat.not_lt_zero _)
 | flat l sz f es hl hs=>rw [FD hs hi hj]at hn;cases hn
 | grid l sz cs es N hl hc h1 h1c hns h2 h3 h4=>exact⟨l,cs,N,rfl,⟨hl,hc,h1,h1c,hns,h2,h3,h4⟩,λy=>Iff.rfl⟩
def aN.afF{h:Heap}{x:Cell}{sz:Nat}{es:List (List D)}{N:Nat->Prop}(t:aN h x (.rows sz es) N){i:Nat}(hi:i<es.length)(hs:nY es=true)(hl:∀i,i<es.length->(es.getD i []).length=sz):
  ∃l f,x= .os l sz 0 es.length/\look h l=some (.rows f sz es)/\∀y,y=l↔N y:=by
 cases t with
 | nil sz=>exact absurd hi (Nat.not_lt_zero _)
 | flat l sz f es hl hs=>exact⟨l,f,rfl,hl,λy=>Iff.rfl⟩
 | grid l sz cs es N hl' hc h1 h1c hns h2 h3 h4=>
  obtain⟨j,a,b⟩:=hns i hi;rw [FD hs hi (by rw [hl i hi];exact a)]at b;cases b
def aN.alO{h:Heap}{x:Cell}{sz:Nat}{es:List (List D)}{N:Nat->Prop}(t:aN h x (.rows sz es) N){i j q:Nat}(hi:i<es.length)(hq:q<sz)(hw:(es.getD i []).length=sz)(hn:(gd es i q).bY=false)(hj:j<sz)(hs:(gd es i j).bY=true):
  ∃l cs row,x= .os l sz 0 es.length/\look h l=some (.grid sz cs)/\cs[i]? =some row/\row.length=sz/\N l/\
   ∀c d,(∀h,aN h c d (λ_=>False))->aN ((l,.grid sz (cs.set i (splice row [c] j)))::h) x (.rows sz (es.set i ((es.getD i []).set j d))) N:=by
 obtain⟨l,cs,NN,rfl,g,hN⟩:=t.XK hi ah hn;have hc:i<cs.length:=by rw [g.len];exact hi
 have hr:cs[i]? =some cs[i]:=List.getElem?_eq_getElem hc;have hg:cs.getD i []=cs[i]:=by simp [List.getD,hc]
 refine⟨l,cs,cs[i],rfl,g.at_,hr,by have:=g.Ho i hi;rwa [hg]at this,(hN l).1 (.inl rfl),λc d hx=> ?_⟩;have g2:=(g.set hr hj hx hs).tree;rw [List.length_set]at g2;have e:=aN.aiT (g.cell i j hi hj) hs;refine g2.cast λy=> ?_
 rw [<-hN y];unfold gK.N XC;refine or_congr Iff.rfl ⟨?_,?_⟩
 .rintro⟨i',j',a,b,k⟩;split at k
  .exact k.elim
  .exact⟨i',j',a,b,k⟩
 .rintro⟨i',j',a,b,k⟩;refine⟨i',j',a,b,?_⟩;rw [if_neg]
  .exact k
  .rintro⟨rfl,rfl⟩;exact e y k
def aN.inner{h:Heap}{x:Cell}{sz:Nat}{es:List (List D)}{N:Nat->Prop}(t:aN h x (.rows sz es) N){i j:Nat}(hi:i<es.length)(hw:(es.getD i []).length=sz)(hj:j<sz)(hn:(gd es i j).bY=false):
  ∃l cs row c M,x= .os l sz 0 es.length/\look h l=some (.grid sz cs)/\cs[i]? =some row/\row.length=sz/\row[j]? =some c/\aN h c (gd es i j) M/\(∀y,M y->N y)/\
   ∀h' d,d.bY=false->aN h' c d M->(∀y,¬M y->look h' y=look h y)->aN h' x (.rows sz (es.set i ((es.getD i []).set j d))) N:=by
 obtain⟨l,cs,NN,rfl,g,hN⟩:=t.XK hi ah hn;have hc:i<cs.length:=by rw [g.len];exact hi
 have hr:cs[i]? =some cs[i]:=List.getElem?_eq_getElem hc;have hg:cs.getD i []=cs[i]:=by simp [List.getD,hc]
 have hl:cs[i].length=sz:=by have:=g.Ho i hi;rwa [hg]at this
 have hgc:gc cs i j=cs[i][j]:=by unfold gc;rw [hg];simp [List.getD,show j<cs[i].length by omega]
 refine⟨l,cs,cs[i],cs[i][j],NN i j,rfl,g.at_,hr,hl,List.getElem?_eq_getElem ah,by rw [<-hgc];exact g.cell i j hi hj,λy hy=>(hN y).1 (.inr ⟨i,j,hi,hj,hy⟩),λh' d hd ht hf=> ?_⟩;have g2:=(g.inner hi hj (λ_=>hd) (by rw [hgc];exact ht) hf).tree;rw [List.length_set]at g2;exact g2.cast hN
def aN.alP{h:Heap}{x:Cell}{sz:Nat}{es:List (List D)}{N:Nat->Prop}(t:aN h x (.rows sz es) N){i:Nat}(hi:i<es.length)(hs:nY es=true)(hl:∀i,i<es.length->(es.getD i []).length=sz):
  ∃l f,x= .os l sz 0 es.length/\look h l=some (.rows f sz es)/\N l/\∀f' es',es'.length=es.length->nY es'=true->aN ((l,.rows f' sz es')::h) x (.rows sz es') N:=by
 obtain⟨l,f,rfl,hk,hN⟩:=t.afF hi hs hl;refine⟨l,f,rfl,hk,(hN l).1 rfl,λf' es' he hs'=> ?_⟩;have:=(aN.flat (h:=(l,.rows f' sz es')::h) l sz f' es' (ay _ _ _) hs').cast hN
 rwa [he]at this
end Go.AE
namespace Go.TX
open Go Go.AE
def ctI(xs:List Int):Int:=xs.length
def mkI:Int->List Int->List Int
 | _,[]=> []
 | k,_::r=>k::mkI (k+1) r
def ctM:List ak->Int
 | []=>0
 | m::r=>1+ctI m.atoms+ctM r
def mkM:Int->List ak->List ak
 | _,[]=> []
 | k,m::r=>⟨k,mkI (k+1) m.atoms⟩::mkM (k+1+ctI m.atoms) r
def ctA:List Atom->Int
 | []=>0
 | a::r=>2+ctM a.x+ctM a.y+ctA r
def mkA:Int->List Atom->List Atom
 | _,[]=> []
 | k,a::r=>⟨k,k+1,mkM (k+2) a.x,mkM (k+2+ctM a.x) a.y⟩::mkA (k+2+ctM a.x+ctM a.y) r
def FE(xs:List Int):0<=ctI xs:=Int.natCast_nonneg _
def dV:∀p:List ak,0<=ctM p
 | []=>Int.le_refl 0
 | m::r=>by have:=dV r;have:=FE m.atoms;unfold ctM;omega
def FH:∀p:List Atom,0<=ctA p
 | []=>Int.le_refl 0
 | a::r=>by have:=FH r;have:=dV a.x;have:=dV a.y;unfold ctA;omega
def Ah:∀(k:Int) (xs:List Int),(mkI k xs).length=xs.length
 | _,[]=>rfl
 | k,_::r=>by simp [mkI,Ah (k+1) r]
def Kv:∀(k:Int) (p:List ak),(mkM k p).length=p.length
 | _,[]=>rfl
 | k,m::r=>by simp [mkM,Kv _ r]
def TK:∀(k:Int) (p:List Atom),(mkA k p).length=p.length
 | _,[]=>rfl
 | k,a::r=>by simp [mkA,TK _ r]
def XL(k:Int)(xs:List Int):ctI (mkI k xs)=ctI xs:=by unfold ctI;rw [Ah]
def tY:∀(k:Int) (p:List ak),ctM (mkM k p)=ctM p
 | _,[]=>rfl
 | k,m::r=>by simp only [mkM,ctM,XL,tY _ r]
def Qd:∀(k:Int) (p:List Atom),ctA (mkA k p)=ctA p
 | _,[]=>rfl
 | k,a::r=>by simp only [mkA,ctA,tY,Qd _ r]
def XM:∀(k j:Int) (xs:List Int),mkI k (mkI j xs)=mkI k xs
 | _,_,[]=>rfl
 | k,j,_::r=>by simp only [mkI,XM (k+1) (j+1) r]
def FI:∀(k j:Int) (p:List ak),mkM k (mkM j p)=mkM k p
 | _,_,[]=>rfl
 | k,j,m::r=>by simp only [mkM,XM,XL,FI _ _ r]
def XO:∀(k j:Int) (p:List Atom),mkA k (mkA j p)=mkA k p
 | _,_,[]=>rfl
 | k,j,a::r=>by simp only [mkA,FI,tY,XO _ _ r]
def nQ:List ak->Nat->Int
 | [],_=>0
 | _,0=>0
 | m::r,i+1=>1+ctI m.atoms+nQ r i
def FJ:∀p:List ak,nQ p p.length=ctM p
 | []=>rfl
 | m::r=>by simp only [List.length,nQ,ctM,FJ r]
def BL:∀(p:List ak) (i:Nat) (h:i<p.length),nQ p (i+1)=nQ p i+1+ctI (p[i]).atoms
 | m::r,0,_=>by cases r<;>simp [nQ]
 | m::r,i+1,h=>by
  have:=BL r i (by simpa using h);simp only [nQ,List.getElem_cons_succ]at this ⊢;omega
def Kw:∀(k:Int) (p:List ak) (i:Nat) (h:i<p.length),(mkM k p)[i]? =some ⟨k+nQ p i,mkI (k+nQ p i+1) (p[i]).atoms⟩
 | k,m::r,0,_=>by simp [mkM,nQ]
 | k,m::r,i+1,h=>by
  have:=Kw (k+1+ctI m.atoms) r i (by simpa using h);simp only [mkM,List.getElem?_cons_succ,List.getElem_cons_succ,nQ];rw [this];have e:k+1+ctI m.atoms+nQ r i=k+(1+ctI m.atoms+nQ r i):=by omega
  rw [e]
def Qe:∀(k:Int) (xs:List Int) (i:Nat),i<xs.length->(mkI k xs).getD i default=k+i
 | _,[],i,h=>absurd h (Nat.not_lt_zero _)
 | k,x::r,0,_=>by simp [mkI]
 | k,x::r,i+1,h=>by
  have:=Qe (k+1) r i (by simpa using h);simp only [mkI,List.getD_cons_succ,this];push_cast;omega
def Jj(p:List ak):nQ p 0=0:=by cases p<;>rfl
def Ky:∀(p:List ak) (i:Nat),0<=nQ p i
 | [],_=>by simp [nQ]
 | m::r,0=>by simp [nQ]
 | m::r,i+1=>by have:=Ky r i;have:=FE m.atoms;simp only [nQ];omega
def Kz:∀(p:List ak) (i:Nat),i<=p.length->nQ p i<=ctM p
 | [],_,_=>by simp [nQ,ctM]
 | m::r,0,_=>by have:=dV (m::r);simpa [nQ]using this
 | m::r,i+1,h=>by have:=Kz r i (by simpa using h);simp only [nQ,ctM];omega
def TM:∀p:List ak,(p.length:Int)<=ctM p
 | []=>by simp [ctM]
 | m::r=>by have:=TM r;have:=FE m.atoms;simp only [ctM,List.length_cons];push_cast;omega
def kJ:List Atom->Nat->Int
 | [],_=>0
 | _,0=>0
 | a::r,i+1=>2+ctM a.x+ctM a.y+kJ r i
def FK:∀p:List Atom,kJ p p.length=ctA p
 | []=>rfl
 | m::r=>by simp only [List.length,kJ,ctA,FK r]
def BM:∀(p:List Atom) (i:Nat) (h:i<p.length),kJ p (i+1)=kJ p i+2+ctM (p[i]).x+ctM (p[i]).y
 | m::r,0,_=>by cases r<;>simp [kJ]
 | m::r,i+1,h=>by
  have:=BM r i (by simpa using h);simp only [kJ,List.getElem_cons_succ]at this ⊢;omega
def KA:∀(k:Int) (p:List Atom) (i:Nat) (h:i<p.length),(mkA k p)[i]? =some ⟨k+kJ p i,k+kJ p i+1,mkM (k+kJ p i+2) (p[i]).x,mkM (k+kJ p i+2+ctM (p[i]).x) (p[i]).y⟩
 | k,m::r,0,_=>by simp [mkA,kJ]
 | k,m::r,i+1,h=>by
  have:=KA (k+2+ctM m.x+ctM m.y) r i (by simpa using h);simp only [mkA,List.getElem?_cons_succ,List.getElem_cons_succ,kJ];rw [this];have e:k+2+ctM m.x+ctM m.y+kJ r i=k+(2+ctM m.x+ctM m.y+kJ r i):=by omega
  rw [e]
def Jk(p:List Atom):kJ p 0=0:=by cases p<;>rfl
def KC:∀(p:List Atom) (i:Nat),0<=kJ p i
 | [],_=>by simp [kJ]
 | m::r,0=>by simp [kJ]
 | m::r,i+1=>by have:=KC r i;have:=dV m.x;have:=dV m.y;simp only [kJ];omega
def KD:∀(p:List Atom) (i:Nat),i<=p.length->kJ p i<=ctA p
 | [],_,_=>by simp [kJ,ctA]
 | m::r,0,_=>by have:=FH (m::r);simpa [kJ]using this
 | m::r,i+1,h=>by have:=KD r i (by simpa using h);simp only [kJ,ctA];omega
def TN:∀p:List Atom,(p.length:Int)<=ctA p
 | []=>by simp [ctA]
 | m::r=>by have:=TN r;have:=dV m.x;have:=dV m.y;simp only [ctA,List.length_cons];push_cast;omega
def mid{α:Type}(a b:List α)(i:Nat):List α:=a.take i++b.drop i
def TP{α:Type}{a b:List α}(h:a.length=b.length)(i:Nat):(mid a b i).length=b.length:=by
 unfold mid;simp;omega
def mid_zero{α:Type}{a b:List α}:mid a b 0=b:=by simp [mid]
def mid_end{α:Type}{a b:List α}(h:a.length=b.length):mid a b b.length=a:=by
 unfold mid;rw [List.take_of_length_le ah,List.drop_of_length_le (Nat.le_refl _),List.append_nil]
def acy{α:Type}{a b:List α}(h:a.length=b.length){i:Nat}(hi:i<b.length):(mid a b i)[i]? =some b[i]:=by
 unfold mid;rw [List.getElem?_append_right (by simp;omega)];simp [show min i a.length=i by omega,hi]
def TQ{α:Type}{a b:List α}(h:a.length=b.length){i:Nat}(hi:i<b.length){x:α}(hx:a[i]? =some x):(mid a b i).set i x=mid a b (i+1):=by
 unfold mid;have hl:(a.take i).length=i:=by simp;omega
 rw [List.set_append_right _ _ ah,hl,Nat.sub_self,List.drop_eq_getElem_cons hi,List.set_cons_zero,List.take_add_one,hx];simp
def TR{α:Type}{row:α->List D}{q:List α}{i j:Nat}{x:D}{m m':α}(hm:q[i]? =some m)(h:(row m).set j x=row m'):(q.map row).set i (((q.map row).getD i []).set j x)=(q.set i m').map row:=by
 have hi:i<q.length:=(List.getElem?_eq_some_iff.1 hm).1;have hg:(q.map row).getD i []=row m:=by simp [List.getD,hm]
 rw [hg,h,List.map_set]
def Qf{α:Type}{row:α->List D}{q:List α}{i:Nat}{m:α}(hm:q[i]? =some m):(q.map row).getD i []=row m:=by simp [List.getD,hm]
def KE{α:Type}{row:α->List D}{q:List α}{i j:Nat}{m:α}(hm:q[i]? =some m):gd (q.map row) i j=(row m).getD j default:=by
 unfold gd;rw [Qf hm]
def ctP:List (List ak)->Int
 | []=>0
 | p::r=>ctM p+ctP r
def mkP:Int->List (List ak)->List (List ak)
 | _,[]=> []
 | k,p::r=>mkM k p::mkP (k+ctM p) r
def ctE:List Ev->Int
 | []=>0
 | e::r=>2+ctM e.x+ctM e.y+ctP e.regs+ctE r
def mkE:Int->List Ev->List Ev
 | _,[]=> []
 | k,e::r=>⟨k,k+1,mkM (k+2) e.x,mkM (k+2+ctM e.x) e.y,mkP (k+2+ctM e.x+ctM e.y) e.regs⟩::mkE (k+2+ctM e.x+ctM e.y+ctP e.regs) r
def ctS(s:Sym):Int:=ctE s.events+ctP s.regs+ctM s.x+ctM s.y
def mkS(k:Int)(s:Sym):Sym:=⟨mkE k s.events,mkP (k+ctE s.events) s.regs,s.fin,mkM (k+ctE s.events+ctP s.regs) s.x,mkM (k+ctE s.events+ctP s.regs+ctM s.x) s.y,s.k⟩
def rE:∀p:List (List ak),0<=ctP p
 | []=>Int.le_refl 0
 | m::r=>by have:=rE r;have:=dV m;unfold ctP;omega
def BN:∀p:List Ev,0<=ctE p
 | []=>Int.le_refl 0
 | m::r=>by have:=BN r;have:=dV m.x;have:=dV m.y;have:=rE m.regs;unfold ctE;omega
def KF:∀(k:Int) (p:List (List ak)),(mkP k p).length=p.length
 | _,[]=>rfl
 | k,m::r=>by simp [mkP,KF _ r]
def KG:∀(k:Int) (p:List Ev),(mkE k p).length=p.length
 | _,[]=>rfl
 | k,m::r=>by simp [mkE,KG _ r]
def FN:∀(k:Int) (p:List (List ak)),ctP (mkP k p)=ctP p
 | _,[]=>rfl
 | k,m::r=>by simp only [mkP,ctP,tY,FN _ r]
def Qg:∀(k:Int) (p:List Ev),ctE (mkE k p)=ctE p
 | _,[]=>rfl
 | k,m::r=>by simp only [mkE,ctE,tY,FN,Qg _ r]
def Qh:∀(k j:Int) (p:List (List ak)),mkP k (mkP j p)=mkP k p
 | _,_,[]=>rfl
 | k,j,m::r=>by simp only [mkP,FI,tY,Qh _ _ r]
def XP:∀(k j:Int) (p:List Ev),mkE k (mkE j p)=mkE k p
 | _,_,[]=>rfl
 | k,j,a::r=>by simp only [mkE,FI,tY,Qh,FN,XP _ _ r]
def XQ(k:Int)(s:Sym):ctS (mkS k s)=ctS s:=by simp only [ctS,mkS,Qg,FN,tY]
def afG(k j:Int)(s:Sym):mkS k (mkS j s)=mkS k s:=by simp only [mkS,XP,Qh,FI,Qg,FN,tY]
def pF:List (List ak)->Nat->Int
 | [],_=>0
 | _,0=>0
 | m::r,i+1=>ctM m+pF r i
def FP:∀p:List (List ak),pF p p.length=ctP p
 | []=>rfl
 | m::r=>by simp only [List.length,pF,ctP,FP r]
def Jl(p:List (List ak)):pF p 0=0:=by cases p<;>rfl
def BO:∀(p:List (List ak)) (i:Nat) (h:i<p.length),pF p (i+1)=pF p i+ctM p[i]
 | m::r,0,_=>by cases r<;>simp [pF]
 | m::r,i+1,h=>by
  have:=BO r i (by simpa using h);simp only [pF,List.getElem_cons_succ]at this ⊢;omega
def KH:∀(p:List (List ak)) (i:Nat),0<=pF p i
 | [],_=>by simp [pF]
 | m::r,0=>by simp [pF]
 | m::r,i+1=>by have:=KH r i;have:=dV m;simp only [pF];omega
def KI:∀(p:List (List ak)) (i:Nat),i<=p.length->pF p i<=ctP p
 | [],_,_=>by simp [pF,ctP]
 | m::r,0,_=>by have:=rE (m::r);simpa [pF]using this
 | m::r,i+1,h=>by have:=KI r i (by simpa using h);simp only [pF,ctP];omega
def KJ:∀(k:Int) (p:List (List ak)) (i:Nat) (h:i<p.length),(mkP k p)[i]? =some (mkM (k+pF p i) p[i])
 | k,m::r,0,_=>by simp [mkP,pF]
 | k,m::r,i+1,h=>by
  have:=KJ (k+ctM m) r i (by simpa using h);simp only [mkP,List.getElem?_cons_succ,List.getElem_cons_succ,pF];rw [this,show k+ctM m+pF r i=k+(ctM m+pF r i) by omega]
def jd:List Ev->Nat->Int
 | [],_=>0
 | _,0=>0
 | e::r,i+1=>2+ctM e.x+ctM e.y+ctP e.regs+jd r i
def FQ:∀p:List Ev,jd p p.length=ctE p
 | []=>rfl
 | m::r=>by simp only [List.length,jd,ctE,FQ r]
def Jm(p:List Ev):jd p 0=0:=by cases p<;>rfl
def BP:∀(p:List Ev) (i:Nat) (h:i<p.length),jd p (i+1)=jd p i+2+ctM (p[i]).x+ctM (p[i]).y+ctP (p[i]).regs
 | m::r,0,_=>by cases r<;>simp [jd]
 | m::r,i+1,h=>by
  have:=BP r i (by simpa using h);simp only [jd,List.getElem_cons_succ]at this ⊢;omega
def KL:∀(p:List Ev) (i:Nat),0<=jd p i
 | [],_=>by simp [jd]
 | m::r,0=>by simp [jd]
 | m::r,i+1=>by have:=KL r i;have:=dV m.x;have:=dV m.y;have:=rE m.regs;simp only [jd];omega
def KM:∀(p:List Ev) (i:Nat),i<=p.length->jd p i<=ctE p
 | [],_,_=>by simp [jd,ctE]
 | m::r,0,_=>by have:=BN (m::r);simpa [jd]using this
 | m::r,i+1,h=>by have:=KM r i (by simpa using h);simp only [jd,ctE];omega
def KN:∀(k:Int) (p:List Ev) (i:Nat) (h:i<p.length),(mkE k p)[i]? =some ⟨k+jd p i,k+jd p i+1,mkM (k+jd p i+2) (p[i]).x,mkM (k+jd p i+2+ctM (p[i]).x) (p[i]).y,mkP (k+jd p i+2+ctM (p[i]).x+ctM (p[i]).y) (p[i]).regs⟩
 | k,m::r,0,_=>by simp [mkE,jd]
 | k,m::r,i+1,h=>by
  have:=KN (k+2+ctM m.x+ctM m.y+ctP m.regs) r i (by simpa using h);simp only [mkE,List.getElem?_cons_succ,List.getElem_cons_succ,jd];rw [this,show k+2+ctM m.x+ctM m.y+ctP m.regs+jd r i=k+(2+ctM m.x+ctM m.y+ctP m.regs+jd r i) by omega]
def XR{α:Type}{a b:List α}(h:a.length=b.length){i:Nat}(hi:i<b.length):mid a b i=(mid a b i).set i b[i]:=by
 have h1:=acy h hi;obtain⟨h2,h3⟩:=List.getElem?_eq_some_iff.1 h1;rw [<-h3,List.set_getElem_self]
def TS{α:Type}{q:List α}{i:Nat}{m:α}(hi:i<q.length):(q.set i m)[i]? =some m:=by simp [hi]
def Qi{α:Type}{row:α->List D}{h:Heap}{x:Cell}{sz:Nat}{q:List α}{m:α}{N:Nat->Prop}{i:Nat}(t:aN h x (.rows sz ((q.set i m).map row)) N)(hi:i<q.length)(hw:(row m).length=sz){c0 j:Nat}(hc:c0<sz)
  (hn:((row m).getD c0 default).bY=false) (hj:j<sz) (hs:((row m).getD j default).bY=true):
  ∃l cs rw,x= .os l sz 0 q.length/\AE.look h l=some (.grid sz cs)/\cs[i]? =some rw/\rw.length=sz/\N l/\
   ∀c d m',(∀h,aN h c d (λ_=>False))->(row m).set j d=row m'->aN ((l,.grid sz (cs.set i (splice rw [c] j)))::h) x (.rows sz ((q.set i m').map row)) N:=by
 have hm:=TS (q:=q) (m:=m) hi;obtain⟨l,cs,rw',e1,e2,e3,e4,e5,e6⟩:=t.alO (i:=i) (j:=j) (q:=c0) (by simpa using hi) hc (by rw [Qf hm];exact hw) (by rw [KE hm];exact hn) hj (by rw [KE hm];exact hs);refine⟨l,cs,rw',by simpa using e1,e2,e3,e4,e5,λc d m' hx hd=> ?_⟩;have:=e6 c d hx
 rwa [TR hm hd,List.set_set]at this
def Ai{α:Type}{row:α->List D}{h:Heap}{x:Cell}{sz:Nat}{q:List α}{m:α}{N:Nat->Prop}{i:Nat}(t:aN h x (.rows sz ((q.set i m).map row)) N)(hi:i<q.length)(hw:(row m).length=sz){j:Nat}(hj:j<sz)
  (hn:((row m).getD j default).bY=false):
  ∃l cs rw c M,x= .os l sz 0 q.length/\AE.look h l=some (.grid sz cs)/\cs[i]? =some rw/\rw.length=sz/\rw[j]? =some c/\aN h c ((row m).getD j default) M/\(∀y,M y->N y)/\
   ∀h' d m',d.bY=false->(row m).set j d=row m'->aN h' c d M->(∀y,¬M y->AE.look h' y=AE.look h y)->aN h' x (.rows sz ((q.set i m').map row)) N:=by
 have hm:=TS (q:=q) (m:=m) hi;obtain⟨l,cs,rw',c,M,e1,e2,e3,e4,e5,e6,e7,e8⟩:=t.inner (i:=i) (j:=j) (by simpa using hi) (by rw [Qf hm];exact hw) hj (by rw [KE hm];exact hn);rw [KE hm]at e6;refine⟨l,cs,rw',c,M,by simpa using e1,e2,e3,e4,e5,e6,e7,λh' d m' hd h1 h2 h3=> ?_⟩;have:=e8 h' d hd h2 h3
 rwa [TR hm h1,List.set_set]at this
def lx(co:Co)(x:co.den):List D:=(dM (std 0) co x 0 co.fields).map l5
def XU{N:NM}{f:Bool}{co:Co}{x:co.den}:F2 (RC N) ((lx co x).map (.d f)) (cellsS (.sv f co x)):=by
 show F2 (RC N) (((dM (std 0) co x 0 co.fields).map l5).map (.d f)) ((dM (std 0) co x 0 co.fields).map (.d f));generalize dM (std 0) co x 0 co.fields=l
 induction l with
 | nil=>exact .nil
 | cons a l ih=>exact .cons (.d rfl λh=> .inl h) ih
def xM{N:NM}{f:Bool}{co:Co}{x:co.den}:PVR N (.agg ((lx co x).map (.d f))) (.sv f co x):= .one (.agg rfl XU)
def alQ{N:NM}{f:Bool}{k:Int}:PVR N (.c (.d f (.int .i64 k))) (.c (.d f (.int .i64 k))):= .one (.c (.d rfl λh=> .inl h))
def aiU:gy [] []:=⟨λl o h=>(by simp at h),λl _=>rfl⟩
def yJ{s:Sig}{ct:Ct aJ s}{args:List PV}{K:PV->Heap->Nat->Prop}(vs:List SVal)(hv:F2 (PVR (nmh [])) args vs){cr:CR (std 0)}(hc:kg (std 0) [] s ct vs=some cr)(hk:∀b∈cr.ck,b=true){v:SVal}{k:List aU}
  (h2:cr.k cr.y=some (v,k)) (hK:∀r h'' j,PVR (nmh k) r v->gy h'' k->k.length=j->K r h'' j):bT ct args [] 0 K:=
 ⟨0,vs,[],hv,aiU,rfl,cr,hc,hk,v,k,h2,λr h'' j a b _ d=>hK r h'' j a b (by rw [d];exact Nat.zero_add j)⟩
def acz{co:Co}(ct:Ct aJ ⟨[.sv false co,.c (.int .i64)],[],[.c (.int .i64)],[]⟩)(x:co.den)(k:Int):
  ∃cr,kg (std 0) [] _ ct [.sv true co x,.c (.d true (.int .i64 k))]=some cr/\cr.ck=[ct.pre (x,k,())]/\cr.k cr.y=some (.c (.d true (.int .i64 (ct.fn (x,k,())).1)),[]):=by
 cases co<;>exact⟨_,rfl,rfl,rfl⟩
def acA{co:Co}(ct:Ct aJ ⟨[.sv false co,.sv false co],[],[.c .bool],[]⟩)(x y:co.den):
  ∃cr,kg (std 0) [] _ ct [.sv true co x,.sv true co y]=some cr/\cr.ck=[ct.pre (x,y,())]/\cr.k cr.y=some (.c (.d true (.bool (ct.fn (x,y,())).1)),[]):=by
 cases co<;>exact⟨_,rfl,rfl,rfl⟩
def TU{co:Co}{ct:Ct aJ ⟨[.sv false co,.c (.int .i64)],[],[.c (.int .i64)],[]⟩}{cs:List Cell}{x:co.den}{k:Int}{f:Bool}{h:Heap}{n:Nat}{K:PV->Heap->Nat->Prop}(hc:F2 (jL h) cs ((lx co x).map (.d true)))
  (hp:ct.pre (x,k,())=true) (hK:∀f,K (.c (.d f (.int .i64 (ct.fn (x,k,())).1))) h 0):lend (bT ct) [.agg cs,.c (.d f (.int .i64 k))] h n K:=by
 obtain⟨cr,e1,e2,e3⟩:=acz ct x k;refine⟨[.agg ((lx co x).map (.d true)),.c (.d true (.int .i64 k))],.cons (.agg hc) (.cons (.c (.d f _)) .nil),yJ [.sv true co x,.c (.d true (.int .i64 k))] (.cons xM (.cons alQ .nil)) e1 (λb hb=> ?_) e3 λr h'' j hr _ _=> ?_⟩
 .rw [e2]at hb;rw [List.mem_singleton.1 hb];exact hp
 .cases hr with | one hr=>
  cases hr with
  | c hr=>cases hr with | d a _=>subst a;exact⟨.int _ _ _,hK _⟩
  | agg a _=>cases a
def acB{co:Co}{ct:Ct aJ ⟨[.sv false co,.sv false co],[],[.c .bool],[]⟩}{cs ds:List Cell}{x y:co.den}{h:Heap}{n:Nat}{K:PV->Heap->Nat->Prop}(hc:F2 (jL h) cs ((lx co x).map (.d true)))(hd:F2 (jL h) ds ((lx co y).map (.d true)))
  (hp:ct.pre (x,y,())=true) (hK:∀f,K (.c (.d f (.bool (ct.fn (x,y,())).1))) h 0):lend (bT ct) [.agg cs,.agg ds] h n K:=by
 obtain⟨cr,e1,e2,e3⟩:=acA ct x y;refine⟨[.agg ((lx co x).map (.d true)),.agg ((lx co y).map (.d true))],.cons (.agg hc) (.cons (.agg hd) .nil),yJ [.sv true co x,.sv true co y] (.cons xM (.cons xM .nil)) e1 (λb hb=> ?_) e3 λr h'' j hr _ _=> ?_⟩
 .rw [e2]at hb;rw [List.mem_singleton.1 hb];exact hp
 .cases hr with | one hr=>
  cases hr with
  | c hr=>cases hr with | d a _=>subst a;exact⟨.bool _ _,hK _⟩
  | agg a _=>cases a
def afH{co:Co}(f:Bool)(ct:Ct aJ ⟨[.sv false co],[],[.c .bool],[]⟩)(x:co.den):
  ∃cr,kg (std 0) [] _ ct [.sv f co x]=some cr/\cr.ck=[ct.pre (x,())]/\cr.k cr.y=some (.c (.d true (.bool (ct.fn (x,())).1)),[]):=by
 cases co<;>exact⟨_,rfl,rfl,rfl⟩
def XV{N:NM}{r:PV}{g b:Bool}(hr:PVR N r (.c (.d g (.bool b)))):∃f,r= .c (.d f (.bool b)):=by
 cases hr with | one hr=>
 cases hr with
 | c hr=>cases hr with | d a _=>subst a;exact⟨_,rfl⟩
 | agg a _=>cases a
end Go.TX
namespace Go.AE
open Go
variable {E:Tab} {G:fO} {dr:jI}
def sk(l:List Oper):List (Option Nat×Op×Bool):=l.map λo=>(o.dst,o.op,o.guard.isNone)
theorem dZ{l:List Oper}{d:Option Nat}{op:Op}{r:List (Option Nat×Op×Bool)}(h:sk l=(d,op,true)::r):∃o l',l=o::l'/\eo d op o/\sk l'=r:=by
 cases l with
 | nil=>cases h
 | cons o l'=>
  simp only [sk,List.map_cons,List.cons.injEq,Prod.mk.injEq,Option.isNone_iff_eq_none]at h;exact⟨o,l',rfl,⟨h.1.2.1,h.1.1,h.1.2.2⟩,h.2⟩
theorem yK{l:List Oper}(h:sk l=[]):l=[]:=by
 cases l with
 | nil=>rfl
 | cons=>cases h
theorem BQ{a:Array Oper}{l:List Oper}(h:a.toList=l):a=l.toArray:=by cases a;cases h;rfl
theorem aM{ops l:List Oper}{d:Option Nat}{op:Op}{r:List (Option Nat×Op×Bool)}{K:St->Prop}{s:St}(e:sk l=(d,op,true)::r)(h0:bQ op=0)(hd:dOK s.m d)
  (h:∀l',sk l'=r->aH E op s.t s.h λv=>aF E G ops l' K (s.put d (some v))):aF E G ops l K s:=by
 obtain⟨o,l',rfl,e,e'⟩:=dZ e;exact e.pure h0 hd (h l' e')
theorem jM{ops l:List Oper}{d:Option Nat}{op:Op}{r:List (Option Nat×Op×Bool)}{K:St->Prop}{s:St}(e:sk l=(d,op,true)::r)(h0:bQ op=1)(hd:dOK s.m d)
  (h:∀l',sk l'=r->aX E op s.t s.h s.n s.k λv h k=>aF E G ops l' K (St.put {s with h:=h,k:=k} d (some v))):aF E G ops l K s:=by
 obtain⟨o,l',rfl,e,e'⟩:=dZ e;exact e.data h0 hd (h l' e')
theorem acC{ops l:List Oper}{d:Option Nat}{op:Op}{r:List (Option Nat×Op×Bool)}{K:St->Prop}{s:St}(e:sk l=(d,op,true)::r)(h0:bQ op=1)(hd:dOK s.m d)
  (h:∀l',sk l'=r->nG E op s.t s.h s.n s.k λv h k=>aF E G ops l' K (St.put {s with h:=h,k:=k} d (some v))):aF E G ops l K s:=by
 obtain⟨o,l',rfl,e,e'⟩:=dZ e;exact e.grid h0 hd (h l' e')
theorem tZ{ops l:List Oper}{d:Option Nat}{op:Op}{r:List (Option Nat×Op×Bool)}{K:St->Prop}{s:St}(e:sk l=(d,op,true)::r)(h0:bQ op=2)(hd:dOK s.m d)
  (h:∀l',sk l'=r->dw E G op s λv h k=>aF E G ops l' K (St.put {s with h:=h,k:=k} d (some v))):aF E G ops l K s:=by
 obtain⟨o,l',rfl,e,e'⟩:=dZ e;exact e.call h0 hd (h l' e')
theorem fH{ops l:List Oper}{K:St->Prop}{s:St}(e:sk l=[])(h:K s):aF E G ops l K s:=by
 rw [yK e];exact h
def yL(sz:Nat)(B:List (List D)->Prop):Trans:=λargs h n K=>∃(x:Cell) (es:List (List D)),args=[.c x]/\Je x sz es/\B es/\
 ∀h' j y N,aN h' y (.rows sz es) N->(∀l,N l->n<=l/\l<n+j)->(∀l,l<n->look h' l=look h l)->K (.c y) h' j
inductive ZT:List Cell->List D->Prop
 | nil:ZT [] []
 | i (f:Bool) (k:IntKind) (n:Int) {r:List Cell} {s:List D}:ZT r s->ZT (.d f (.int k n)::r) (.int k n::s)
 | b (f b:Bool) {r:List Cell} {s:List D}:ZT r s->ZT (.d f (.bool b)::r) (.bool b::s)
 | n (sz:Nat) {r:List Cell} {s:List D}:ZT r s->ZT (.nil::r) (.rows sz []::s)
theorem ZT.len{zs:List Cell}{ds:List D}(z:ZT zs ds):zs.length=ds.length:=by
 induction z<;>simp_all
theorem ZT.tree{zs:List Cell}{ds:List D}(z:ZT zs ds){h:Heap}:∀j,j<zs.length->aN h (zs.getD j default) (ds.getD j default) (λ_=>False):=by
 induction z with
 | nil=>exact λj hj=>absurd hj (Nat.not_lt_zero _)
 | i f k n z ih=>intro j hj;cases j with | zero=>exact .int f k n | succ j=>exact ih j (by simpa using hj)
 | b f b z ih=>intro j hj;cases j with | zero=>exact .bool f b | succ j=>exact ih j (by simpa using hj)
 | n sz z ih=>intro j hj;cases j with | zero=>exact .nil sz | succ j=>exact ih j (by simpa using hj)
theorem ZT.trees{zs:List Cell}{ds:List D}(z:ZT zs ds){h:Heap}{sz:Nat}(hs:zs.length=sz):bO h sz zs ds (λ_ _=>False):=
 ⟨hs,λj hj=>z.tree j ah,λ_ _ _ _ _ h=>h.elim⟩
theorem bO.frame{h h':Heap}{sz:Nat}{cs:List Cell}{d:List D}{M:Nat->Nat->Prop}(t:bO h sz cs d M)(f:∀j x,j<sz->M j x->look h' x=look h x):bO h' sz cs d M:=
 ⟨t.len,λj hj=>(t.cell j hj).frame λx hx=>f j x hj hx,t.one⟩
def XW(M M':Nat->Nat->Prop)(off w:Nat):Nat->Nat->Prop:=λj=>if off<=j/\j<off+w then M' (j-off)else M j
theorem FR{α:Type}{a b:List α}{off j w:Nat}{d:α}(hw:b.length=w)(h:off+w<=a.length):(a.take off++b++a.drop (off+w)).getD j d=if off<=j/\j<off+w then b.getD (j-off) d else a.getD j d:=by
 subst hw;simp only [List.getD,List.append_assoc];by_cases h1:j<off
 .rw [if_neg ah,List.getElem?_append_left (by simp;omega),List.getElem?_take_of_lt h1]
 .rw [List.getElem?_append_right (by simp;omega)];have e:(a.take off).length=off:=by simp;omega
  rw [e];by_cases h2:j<off+b.length
  .rw [if_pos ah,List.getElem?_append_left ah]
  .rw [if_neg ah,List.getElem?_append_right ah,List.getElem?_drop,show off+b.length+(j-off-b.length)=j by omega]
theorem bO.put{h:Heap}{sz off w:Nat}{cs cs':List Cell}{d d':List D}{M M':Nat->Nat->Prop}(t:bO h sz cs d M)(t':bO h w cs' d' M')(hd:d.length=sz)(hd':d'.length=w)(ho:off+w<=sz)
  (hn:∀j j' x,j<sz->j'<w->M j x->M' j' x->False):bO h sz (splice cs cs' off) (cB d d' off) (XW M M' off w):=by
 have e1:=t.len;have e2:=t'.len;refine⟨by unfold splice;simp;omega,λj hj=> ?_,λj j' x hj hj' hx hx'=> ?_⟩
 .unfold splice cB XW;rw [e2,hd',FR e2 ah,FR hd' ah];split
  .exact t'.cell _ ah
  .exact t.cell j hj
 .unfold XW at hx hx';split at hx<;>split at hx'
  .have:=t'.one _ _ x ah ah hx hx';omega
  .exact(hn j' _ x hj' ah hx' hx).elim
  .exact(hn j _ x hj ah hx hx').elim
  .exact t.one j j' x hj hj' hx hx'
structure WB(n m:Nat)(h0:Heap)(sa:Nat)(ca:List Cell)(sz:Nat)(d:List D)(s:St):Prop where
 s1:aA s.t 1=some (.c (.ptr (nm n 0) sa 0 0))
 s2:aA s.t 2=some (.c (.ptr (nm n 1) sz 0 0))
 s3:aA s.t 3=some (.c (.ptr (nm n 2) sz 0 0))
 b1:look s.h (nm n 0)=some (.box ca)
 b2:∃c2,look s.h (nm n 1)=some (.box c2)/\c2.length=sz
 tr:∃co M,look s.h (nm n 2)=some (.box co)/\bO s.h sz co d M/\∀j x,j<sz->M j x->nm n 3<=x/\x<nm n s.k
 fr:∀l,l<n->look s.h l=look h0 l
 m:s.m=m
 n:s.n=n
 k:3<=s.k
 ca:ca.length=sa
 d:d.length=sz
theorem WB.step{n m:Nat}{h0:Heap}{sa:Nat}{ca:List Cell}{sz:Nat}{d:List D}{s:St}(W:WB n m h0 sa ca sz d s){co:List Cell}(hco:look s.h (nm n 2)=some (.box co)){h1:Heap}{j w off:Nat}{cs':List Cell}{d':List D}{M':Nat->Nat->Prop}{t:Slots}
  (t':bO h1 w cs' d' M') (hd':d'.length=w) (ho:off+w<=sz) (rg:∀q x,q<w->M' q x->nm n s.k<=x/\x<nm n s.k+j) (fr:∀l,l<nm n s.k->look h1 l=look s.h l)
  (ht:∀i,i<=3->aA t i=aA s.t i):WB n m h0 sa ca sz (cB d d' off) {t:=t,h:=(nm n 2,.box (splice co cs' off))::h1,n:=s.n,k:=s.k+j,m:=s.m}:=by
 obtain⟨s1,s2,s3,b1,⟨c2,b2,b2'⟩,⟨co',M,tr0,tr,rg0⟩,fr0,hm,hn,hk,hca,hd⟩:=W;have:co'=co:=by rw [hco]at tr0;cases tr0;rfl
 subst this;have lk:∀l,l<nm n s.k->l≠nm n 2->look ((nm n 2,.box (splice co' cs' off))::h1) l=look s.h l:=λl h e=>by rw [aj _ _ (Ne.symm e),fr l h]
 have a:∀i,i<3->nm n i<nm n s.k:=λi hi=>by unfold nm;omega
 refine⟨(ht 1 ah).trans s1,(ht 2 ah).trans s2,(ht 3 ah).trans s3,?_,⟨c2,?_,b2'⟩,⟨splice co' cs' off,XW M M' off w,ay _ _ _,?_,?_⟩,λl hl=> ?_,hm,hn,by dsimp only;omega,hca,?_⟩
 .dsimp only;rw [lk _ (a 0 ah) (by unfold nm;omega)];exact b1
 .dsimp only;rw [lk _ (a 1 ah) (by unfold nm;omega)];exact b2
 .have f1:bO ((nm n 2,.box (splice co' cs' off))::h1) sz co' d M:=tr.frame λj x hj hx=>by
   obtain⟨p,q⟩:=rg0 j x hj hx;exact lk x q (by unfold nm at*;omega)
  have f2:bO ((nm n 2,.box (splice co' cs' off))::h1) w cs' d' M':=t'.frame λq x hq hx=>aj _ _ (by have:=(rg q x hq hx).1;unfold nm at*;omega)
  exact f1.put f2 hd hd' ho λj j' x hj hj' hx hx'=>by have:=(rg0 j x hj hx).2;have:=(rg j' x hj' hx').1;omega
 .intro q x hq hx;dsimp only;unfold XW at hx;split at hx
  .have:=rg _ x ah hx;unfold nm at*;omega
  .have:=rg0 q x hq hx;unfold nm at*;omega
 .dsimp only;rw [lk l (by unfold nm;omega) (by unfold nm;omega)];exact fr0 l hl
 .unfold cB;simp;omega
def acD:D->Prop | .int _ _=>True | .bool _=>True | _=>False
theorem TW{x:D}(h:acD x){f:Bool}:∀h,aN h (.d f x) x (λ_=>False):=by
 cases x with
 | int k n=>exact λ_=> .int f k n
 | bool b=>exact λ_=> .bool f b
 | _=>exact h.elim
theorem acE{c:Cell}{x:D}(h:acD x)(r:Da c x):∃f,c= .d f x:=by
 rcases r with h | ⟨_,sz,rfl⟩
 .exact h
 .exact h.elim
def w1:Op->Prop | .store .. =>True | _=>False
theorem WB.sc{n m:Nat}{h0:Heap}{sa:Nat}{ca:List Cell}{sz:Nat}{d da:List D}{s:St}(W:WB n m h0 sa ca sz d s)(hR:∀j,j<sa->Da (ca.getD j default) (da.getD j default))
  {Ta To ty:TypeId} {q off x1 x2 x3 r:Nat} {a:Array Oper} {fa fo:List (Nat×TypeId)} {ba bo:Nat} {za zo:List Cell} {y:TY} {rest:Code} {Q:Exit->St->Prop}
  (hs:sk a.toList=[(some x1,.fieldAddr Ta (.tmp 1) q,true),(some x2,.load ty (.tmp x1),true),(some x3,.fieldAddr To (.tmp 3) q,true),(none,.store ty (.tmp x3) (.tmp x2),true)])
  (hTa:E.ty Ta=some ⟨.struct fa,sa,ba,za⟩) (hTo:E.ty To=some ⟨.struct fo,sz,bo,zo⟩) (hfa:fa[q]? =some (off,ty)) (hfo:fo[q]? =some (off,ty)) (hy:E.ty ty=some y) (hy1:y.size=1) (hya:y.desc.agg=false)
  (hoa:off<sa) (ho:off<sz) (hsc:acD (da.getD off default)) (hx:3<x1/\3<x2/\3<x3/\x1<m/\x2<m/\x3<m/\x2≠x3)
  (next:∀s',WB n m h0 sa ca sz (cB d [da.getD off default] off) s'->aw E G dr rest Q s'):aw E G dr (.seq (.region r a false) rest) Q s:=by
 obtain⟨g,hc⟩:=acE hsc (hR off hoa);obtain⟨co,M,tr0,tr,rg0⟩:=W.tr;have hcg:ca[off]? =some (.d g (da.getD off default)):=by rw [<-hc];simp [List.getD,show off<ca.length by rw [W.ca];exact hoa]
 obtain⟨i1,i2,i3,i4,i5,i6,i7⟩:=hx;refine aP ?_;generalize a.toList=L at hs;refine aM hs rfl (by rw [W.m];exact i4) λl hs=> ?_
 simp only [aH,ev,W.s1,aB,bF,hTa,aD,hfa,hy];refine⟨by rw [hy1];decide,?_⟩;refine aM hs rfl (by show _<s.m;rw [W.m];exact i5) λl hs=> ?_
 simp only [aH,ev,St.put,aL,aB,fF,hy,aD,W.b1,bZ,qG,mh,hya,Bool.false_eq_true,if_false,Nat.zero_add,hcg,nD,true_and];refine aM hs rfl (by show _<s.m;rw [W.m];exact i6) λl hs=> ?_
 have n3:∀v v',aA ((x2,v)::(x1,v')::s.t) 3=aA s.t 3:=λv v'=>by rw [au ah,au ah]
 simp only [aH,ev,n3,W.s3,aB,bF,hTo,aD,hfo,hy];refine⟨by rw [hy1];decide,?_⟩;refine jM hs rfl trivial λl hs=> ?_
 simp only [aX,ev,St.put,aL,au i7.symm,aB,aD,hy,dO,aI,tr0,bZ,List.length_singleton,hy1,Nat.zero_add,true_and];refine⟨by decide,by rw [tr.len];omega,fH hs (next _ ?_)⟩;refine W.step (j:=0) tr0 (w:=1) (off:=off) (cs':=[.d g (da.getD off default)]) (d':=[da.getD off default]) (M':=λ_ _=>False) ⟨rfl,λj hj=> ?_,λ_ _ _ _ _ h=>h.elim⟩ rfl ah (λ_ _ _ h=>h.elim) (λ_ _=>rfl) λi hi=> ?_
 .have:j=0:=by omega
  subst this;exact TW hsc _
 .rw [au ah,au ah,au ah]
theorem WB.ls{n m:Nat}{h0:Heap}{sa:Nat}{ca:List Cell}{sz:Nat}{d da:List D}{s:St}(W:WB n m h0 sa ca sz d s)(hR:∀j,j<sa->Da (ca.getD j default) (da.getD j default))
  {Ta To ty to_:TypeId} {q off x1 x2 x3 x4 r w:Nat} {f:FuncId} {B:List (List D)->Prop} {es:List (List D)} {a:Array Oper} {fa fo:List (Nat×TypeId)} {ba bo:Nat} {za zo:List Cell} {y yo:TY} {rest:Code} {Q:Exit->St->Prop} {ct:Array TypeId}
  (hs:sk a.toList=[(some x1,.fieldAddr Ta (.tmp 1) q,true),(some x2,.load ty (.tmp x1),true),(some x3,.call {callee:= .value (.func f),args:= #[.tmp x2],argTypes:=ct},true),(some x4,.fieldAddr To (.tmp 3) q,true),(none,.store to_ (.tmp x4) (.tmp x3),true)])
  (hTa:E.ty Ta=some ⟨.struct fa,sa,ba,za⟩) (hTo:E.ty To=some ⟨.struct fo,sz,bo,zo⟩) (hfa:fa[q]? =some (off,ty)) (hfo:fo[q]? =some (off,to_)) (hy:E.ty ty=some y) (hy1:y.size=1) (hya:y.desc.agg=false) (hyo:E.ty to_=some yo) (XY:yo.size=1)
  (hoa:off<sa) (ho:off<sz) (hG:G f=some (yL w B)) (hd:da.getD off default= .rows w es) (hB:B es) (hx:3<x1/\3<x2/\3<x3/\3<x4/\x1<m/\x2<m/\x3<m/\x4<m/\x3≠x4)
  (next:∀s',WB n m h0 sa ca sz (cB d [da.getD off default] off) s'->aw E G dr rest Q s'):aw E G dr (.seq (.region r a false) rest) Q s:=by
 have hc:=hR off hoa;obtain⟨co,M,tr0,tr,rg0⟩:=W.tr;have hcg:ca[off]? =some (ca.getD off default):=by simp [List.getD,show off<ca.length by rw [W.ca];exact hoa]
 obtain⟨i1,i2,i3,i4,i5,i6,i7,i8,i9⟩:=hx;have rr:Je (ca.getD off default) w es:=by
  rw [hd]at hc;rcases hc with h | ⟨h,sz',e⟩
  .exact .inl h
  .injection e with _ e;exact .inr ⟨h,e⟩
 refine aP ?_;generalize a.toList=L at hs;refine aM hs rfl (by rw [W.m];exact i5) λl hs=> ?_
 simp only [aH,ev,W.s1,aB,bF,hTa,aD,hfa,hy];refine⟨by rw [hy1];decide,?_⟩;refine aM hs rfl (by show _<s.m;rw [W.m];exact i6) λl hs=> ?_
 simp only [aH,ev,St.put,aL,aB,fF,hy,aD,W.b1,bZ,qG,mh,hya,Bool.false_eq_true,if_false,Nat.zero_add,hcg,nD,true_and];refine tZ hs rfl (by show _<s.m;rw [W.m];exact i7) λl hs=> ?_
 simp only [dw,jy,fnA,iK,aB,jf,ev,aL,hG,List.map,List.append_nil];refine⟨_,es,rfl,rr,hB,λh1 j y1 N tr1 fa1 fb1=> ?_⟩;rw [W.n]at fa1 fb1;refine aM hs rfl (by show _<s.m;rw [W.m];exact i8) λl hs=> ?_
 have n3:∀u v v',aA ((x3,u)::(x2,v)::(x1,v')::s.t) 3=aA s.t 3:=λu v v'=>by rw [au ah,au ah,au ah]
 simp only [aH,ev,St.put,n3,W.s3,aB,bF,hTo,aD,hfo,hyo];refine⟨by rw [XY];decide,?_⟩;refine jM hs rfl trivial λl hs=> ?_
 have afI:look h1 (nm n 2)=some (.box co):=by rw [fb1 _ (by have:=W.k;unfold nm;omega)];exact tr0
 simp only [aX,ev,St.put,aL,au i9.symm,aB,aD,hyo,dO,aI,afI,bZ,List.length_singleton,XY,Nat.zero_add,true_and];refine⟨by decide,by rw [tr.len];omega,fH hs (next _ ?_)⟩;refine W.step tr0 (w:=1) (off:=off) (cs':=[y1]) (d':=[da.getD off default]) (M':=λ_=>N) ⟨rfl,λq hq=> ?_,λj j' _ a b _ _=>by omega⟩ rfl ah (λ_ x _ h=>fa1 x h) fb1 λi hi=> ?_
 .have:q=0:=by omega
  subst this;show aN h1 y1 (da.getD off default) N;rw [hd];exact tr1
 .rw [au ah,au ah,au ah,au ah]
theorem WB.el{n m:Nat}{h0:Heap}{sa:Nat}{ca:List Cell}{sz:Nat}{d da:List D}{s:St}(W:WB n m h0 sa ca sz d s)(hR:∀j,j<sa->Da (ca.getD j default) (da.getD j default))
  {Ta To ty to_:TypeId} {q off x1 x2 x3 x4 r w:Nat} {f:FuncId} {B:List D->Prop} {a:Array Oper} {fa fo:List (Nat×TypeId)} {ba bo:Nat} {za zo:List Cell} {y yo:TY} {rest:Code} {Q:Exit->St->Prop} {ct:Array TypeId}
  (hs:sk a.toList=[(some x1,.fieldAddr Ta (.tmp 1) q,true),(some x2,.load ty (.tmp x1),true),(some x3,.call {callee:= .value (.func f),args:= #[.tmp x2],argTypes:=ct},true),(some x4,.fieldAddr To (.tmp 3) q,true),(none,.store to_ (.tmp x4) (.tmp x3),true)])
  (hTa:E.ty Ta=some ⟨.struct fa,sa,ba,za⟩) (hTo:E.ty To=some ⟨.struct fo,sz,bo,zo⟩) (hfa:fa[q]? =some (off,ty)) (hfo:fo[q]? =some (off,to_)) (hy:E.ty ty=some y) (hy1:y.size=w) (hya:y.desc.agg=true) (hyo:E.ty to_=some yo) (XY:yo.size=w) (hw:w≠0)
  (hoa:off+w<=sa) (ho:off+w<=sz) (hG:G f=some (oK w B)) (hda:da.length=sa) (hB:B ((da.drop off).take w)) (hx:3<x1/\3<x2/\3<x3/\3<x4/\x1<m/\x2<m/\x3<m/\x4<m/\x3≠x4)
  (next:∀s',WB n m h0 sa ca sz (cB d ((da.drop off).take w) off) s'->aw E G dr rest Q s'):aw E G dr (.seq (.region r a false) rest) Q s:=by
 obtain⟨co,M,tr0,tr,rg0⟩:=W.tr;obtain⟨i1,i2,i3,i4,i5,i6,i7,i8,i9⟩:=hx;have hca:=W.ca;have g1:∀ {α:Type} (l:List α) (z:α) (j:Nat),j<w->((l.drop off).take w).getD j z=l.getD (off+j) z:=λl z j hj=>by simp [List.getD,List.getElem?_take,hj,List.getElem?_drop]
 refine aP ?_;generalize a.toList=L at hs;refine aM hs rfl (by rw [W.m];exact i5) λl hs=> ?_
 simp only [aH,ev,W.s1,aB,bF,hTa,aD,hfa,hy];refine⟨by rw [hy1];exact hw,?_⟩;refine aM hs rfl (by show _<s.m;rw [W.m];exact i6) λl hs=> ?_
 simp only [aH,ev,St.put,aL,aB,fF,hy,aD,W.b1,bZ,qG,mh,hya,if_true,Nat.zero_add,true_and,hy1];refine⟨ah,?_⟩;refine tZ hs rfl (by show _<s.m;rw [W.m];exact i7) λl hs=> ?_
 simp only [dw,jy,fnA,iK,aB,jf,ev,aL,hG,List.map,List.append_nil];refine⟨_,(da.drop off).take w,rfl,by simp;omega,by simp;omega,λj hj=> ?_,hB,λh1 j cs1 M1 tr1 fa1 fb1=> ?_⟩
 .rw [g1 _ _ j hj,g1 _ _ j hj];exact hR _ ah
 rw [W.n]at fa1 fb1;refine aM hs rfl (by show _<s.m;rw [W.m];exact i8) λl hs=> ?_
 have n3:∀u v v',aA ((x3,u)::(x2,v)::(x1,v')::s.t) 3=aA s.t 3:=λu v v'=>by rw [au ah,au ah,au ah]
 simp only [aH,ev,St.put,n3,W.s3,aB,bF,hTo,aD,hfo,hyo];refine⟨by rw [XY];exact hw,?_⟩;refine jM hs rfl trivial λl hs=> ?_
 have afI:look h1 (nm n 2)=some (.box co):=by rw [fb1 _ (by have:=W.k;unfold nm;omega)];exact tr0
 simp only [aX,ev,St.put,aL,au i9.symm,aB,aD,hyo,dO,aI,afI,bZ,XY,tr1.len,Nat.zero_add,true_and];refine⟨hw,by rw [tr.len];omega,fH hs (next _ ?_)⟩;refine W.step tr0 (w:=w) (off:=off) (M':=M1) tr1 (by simp;omega) ho fa1 fb1 λi hi=> ?_
 rw [au ah,au ah,au ah,au ah]
theorem BR{Ta To:TypeId}{sa sz bo r0 r1:Nat}{fo:List (Nat×TypeId)}{zo:List Cell}{dz:List D}{B:List D->Prop}{a0 a1:Array Oper}{fn:Func}{rest:Code}(hTo:E.ty To=some ⟨.struct fo,sz,bo,zo⟩)
  (hz:ZT zo dz) (hzl:zo.length=sz) (hsz:sz≠0) (hsa:sa≠0) (h0:sk a0.toList=[(some 1,.box Ta (.tmp 0),true),(some 2,.alloc To,true)]) (h1:sk a1.toList=[(some 3,.alloc To,true)]) (hm:3<fn.ntmps)
  {args:List PV} {h:Heap} {n:Nat} {K:PV->Heap->Nat->Prop} (hR:oK sa B args h n K)
  (next:∀(ca:List Cell) (da:List D) s,(∀j,j<sa->Da (ca.getD j default) (da.getD j default))->da.length=sa->B da->WB n fn.ntmps h sa ca sz dz s->
   (∀h' j cells' M,bO h' sa cells' da M->(∀q x,q<sa->M q x->n<=x/\x<n+j)->(∀l,l<n->look h' l=look h l)->K (.agg cells') h' j)->aw E G dr rest (pX E fn.results.toList n K) s):
  dh E G dr fn (.seq (.region r0 a0 false) (.seq (.region r1 a1 false) rest)) args h n K:=by
 obtain⟨ca,da,rfl,hca,hda,hr,hB,hK⟩:=hR;unfold dh;have em: [PV.agg ca].length+(fn.ntmps- [PV.agg ca].length)=fn.ntmps:=by simp only [List.length];omega
 rw [em];dsimp only [slotsOf];refine aP ?_;generalize a0.toList=L at h0;refine jM h0 rfl (by show 1<fn.ntmps;omega) λl h0=> ?_
 simp only [aX,ev,aL,aB,aI,St.put];refine⟨by rw [hca];exact hsa,?_⟩;refine jM h0 rfl (by show 2<fn.ntmps;omega) λl h0=> ?_
 simp only [aX,aD,hTo,St.put];refine⟨λe=>hsz (by rw [<-hzl,e];rfl),fH h0 ?_⟩;refine aP ?_;generalize a1.toList=L at h1;refine jM h1 rfl (by show 3<fn.ntmps;omega) λl h1=> ?_
 simp only [aX,aD,hTo,St.put];refine⟨λe=>hsz (by rw [<-hzl,e];rfl),fH h1 (next ca da _ hr hda hB ?_ hK)⟩;rw [hca];have e:∀ {a b:Nat},a≠b->nm n a≠nm n b:=λh=>by unfold nm;omega
 refine⟨rfl,rfl,rfl,?_,⟨zo,?_,hzl⟩,⟨zo,λ_ _=>False,ay _ _ _,hz.trees hzl,λ_ _ _ h=>h.elim⟩,λl hl=> ?_,rfl,rfl,Nat.le_refl _,hca,hz.len▸hzl⟩
 .rw [aj _ _ (e (by decide)),aj _ _ (e (by decide)),ay]
 .rw [aj _ _ (e (by decide)),ay]
 .have a:∀q,nm n q≠l:=λq=>by unfold nm;omega
  dsimp only;rw [aj _ _ (a _),aj _ _ (a _),aj _ _ (a _)]
theorem WB.fin{n m:Nat}{h0:Heap}{sa:Nat}{ca:List Cell}{sz:Nat}{d:List D}{s:St}(W:WB n m h0 sa ca sz d s){To:TypeId}{x r bo:Nat}{fo:List (Nat×TypeId)}{zo:List Cell}{a:Array Oper}{rs:List ResultVar}{K:PV->Heap->Nat->Prop}
  (hs:sk a.toList=[(some x,.load To (.tmp 3),true),(none,.store To (.tmp 2) (.tmp x),true)]) (hTo:E.ty To=some ⟨.struct fo,sz,bo,zo⟩) (hsz:sz≠0) (hx:3<x/\x<m) (hrs:rs=[.cell 2 To])
  (hK:∀h' j cells' M,bO h' sz cells' d M->(∀q x,q<sz->M q x->n<=x/\x<n+j)->(∀l,l<n->look h' l=look h0 l)->K (.agg cells') h' j):aw E G dr (.seq (.region r a false) .ret) (pX E rs n K) s:=by
 subst hrs;obtain⟨s1,s2,s3,b1,⟨c2,b2,b2'⟩,⟨co,M,tr0,tr,rg0⟩,fr0,hm,hn,hk,hca,hd⟩:=W;obtain⟨t,hh,nn,kk,mm⟩:=s;dsimp only at*;subst hm hn;refine aP ?_;generalize a.toList=L at hs;have tk:(co.drop 0).take sz=co:=by rw [List.drop_zero,List.take_of_length_le (by rw [tr.len];exact Nat.le_refl _)]
 refine aM hs rfl hx.2 λl hs=> ?_
 simp only [aH,ev,s3,aB,fF,hTo,aD,tr0,bZ,qG,mh,iU.agg,if_true,Nat.zero_add,true_and,tr.len,St.put,tk];refine⟨Nat.le_refl _,jM hs rfl trivial λl hs=> ?_⟩;have sp:splice c2 co 0=co:=by unfold splice;simp [tr.len,b2']
 simp only [aX,ev,St.put,aL,au (show x≠2 by omega),s2,aB,aD,hTo,dO,aI,b2,bZ,tr.len,Nat.zero_add,true_and,sp];refine⟨hsz,ah,fH hs (lQ ?_)⟩;have tk2:(co.drop 0).take sz=co:=tk;simp only [pX,oh,au (show x≠2 by omega),s2,aB,fF,hTo,aD,ay,bZ,qG,mh,iU.agg,if_true,Nat.zero_add,true_and,tr.len,tk,one];refine⟨Nat.le_refl _,hK _ kk co M (tr.frame λj x hj hx=>aj _ _ ?_) (λq x hq hx=> ?_) λl hl=> ?_⟩
 .have:=(rg0 j x hj hx).1;unfold nm at*;omega
 .have:=rg0 q x hq hx;unfold nm at*;omega
 .rw [aj _ _ (by unfold nm;omega)];exact fr0 l hl
end Go.AE
namespace Go.AE
open Go
variable {E:Tab} {G:fO} {dr:jI}
theorem wU{x:Cell}{sz:Nat}{es:List (List D)}(h:Je x sz es):oW (.c x)=λK=>K (ci .i64 es.length):=by
 rcases h with⟨f,rfl⟩ | ⟨rfl,rfl⟩
 .unfold oW;simp
 .rfl
theorem NP{x:Cell}{sz:Nat}{es:List (List D)}(h:Je x sz es){i:Nat}(hi:i<es.length):∃f,x= .d f (.rows sz es):=by
 rcases h with h | ⟨_,rfl⟩
 .exact h
 .exact absurd hi (Nat.not_lt_zero _)
structure Fil(h:Heap)(l sz n i:Nat)(es:List (List D))(N:Nat->Prop)(fl:Bool):Prop where
 g:fl=false->vZ h l sz n i es N
 f:fl=true->∃f fs,look h l=some (.rows f sz fs)/\fs.length=n/\fs.take i=es.take i/\N l
theorem Fil.frame{h h':Heap}{l sz n i:Nat}{es:List (List D)}{N:Nat->Prop}{fl:Bool}(r:Fil h l sz n i es N fl)(hf:∀x,N x->look h' x=look h x):Fil h' l sz n i es N fl:=
 ⟨λe=>(r.g e).frame hf,λe=>let⟨f,fs,a,b⟩:=r.f e;⟨f,fs,(hf l b.2.2).trans a,b⟩⟩
theorem FT{h:Heap}:∀ {cs:List Cell} {ds:List D},cs.length=ds.length->(∀j,j<ds.length->(ds.getD j default).bY=true)->(∀j,j<ds.length->∃N,aN h (cs.getD j default) (ds.getD j default) N)->∃f,∀K:Bool->List D->Heap->Prop,K f ds h->lJ h cs K
 | [],[],_,_,_=>⟨true,λK hk=>hk⟩
 | c::cs,d::ds,hl,hs,ht=>by
  obtain⟨g,hg⟩:=FT (h:=h) (cs:=cs) (ds:=ds) (by simpa using hl) (λj hj=>hs (j+1) (by simpa using hj)) (λj hj=>ht (j+1) (by simpa using hj));obtain⟨N,t⟩:=ht 0 (by simp);have s0:d.bY=true:=hs 0 (by simp);simp only [List.getD_cons_zero]at t;cases t with
  | int f k n=>exact⟨(f || D.bY (.int k n))&&g,λK hk=>hg _ hk⟩
  | bool f b=>exact⟨(f || D.bY (.bool b))&&g,λK hk=>hg _ hk⟩
  | nil sz=>cases s0
  | flat=>cases s0
  | grid=>cases s0
theorem Fil.put{h:Heap}{l sz n i:Nat}{es:List (List D)}{N:Nat->Prop}{fl:Bool}(r:Fil h l sz n i es N fl){y:TY}(hy:y.size=sz)(hsz:sz≠0)(hi:i<n)(hn:es.length=n){cells:List Cell}{d:List D}{M:Nat->Nat->Prop}(he:es[i]? =some d)(hd:d.length=sz)
  (hns:fl=false->∃j,j<sz/\(d.getD j default).bY=false) (hfl:fl=true->∀j,j<sz->(d.getD j default).bY=true) (ht:bO h sz cells d M) (h2:∀j x,j<sz->M j x->¬N x) {v:PV} (hv:aI v=cells)
  {K:Heap->Prop} (hK:∀h',Fil h' l sz n (i+1) es (λx=>N x\/∃j,j<sz/\M j x) fl->(∀x,x≠l->look h' x=look h x)->K h'):dO h y (.c (.ptr l sz i 0)) v K:=by
 have hl:=ht.len;unfold dO;simp only [hv,hl,hy];refine⟨trivial,hsz,?_⟩;cases fl with
 | false=>
  have g:=r.g rfl;obtain⟨cs,hcs,hcl⟩:=g.look;have hr:cs[i]? =some cs[i]:=List.getElem?_eq_getElem ah;have hw:cs[i].length=sz:=by
   obtain⟨cs',fs,NN,gt,e,_⟩:=g;have:cs'=cs:=by have:=gt.at_;rw [hcs]at this;cases this;rfl
   subst this;have:=gt.Ho i ah;simpa [List.getD,show i<cs'.length by omega]using this
  simp only [hcs,bZ,hr,D9,true_and,Nat.zero_add];refine⟨Nat.le_refl _,hK _ ⟨λ_=> ?_,λe=>nomatch e⟩ λx hx=>aj _ _ (Ne.symm hx)⟩;have sp:splice cs[i] cells 0=cells:=by unfold splice;simp [hl,hw]
  rw [sp];exact g.step hi hn hcs he hl hd (hns rfl) (λj hj=>ht.cell j hj) ht.one h2
 | true=>
  obtain⟨f,fs,a,b,c,hN⟩:=r.f rfl;obtain⟨g,hg⟩:=FT (h:=h) (cs:=cells) (ds:=d) ah (λj hj=>hfl rfl j ah) (λj hj=>⟨_,ht.cell j ah⟩);have hr:fs[i]? =some fs[i]:=List.getElem?_eq_getElem ah;simp only [a,bZ,true_and];refine⟨ah,hg _ ⟨by first | exact a | trivial,ah,λrow hrow=> ?_⟩⟩;refine hK _ ⟨λe=>(nomatch e),λ_=>⟨_,_,ay _ _ _,by simpa using b,?_,.inl hN⟩⟩ λx hx=>aj _ _ (Ne.symm hx)
  rw [if_pos (by first | exact hd | simp [hd])];have h3:(fs.set i d).take (i+1)=fs.take i++ [d]:=by
   rw [List.take_add_one,List.take_set_of_le (Nat.le_refl i)];simp [show i<fs.length by omega]
  rw [h3,c,List.take_add_one,he];rfl
theorem Fil.tree{h:Heap}{l sz n:Nat}{es:List (List D)}{N:Nat->Prop}{fl:Bool}(r:Fil h l sz n n es N fl)(hn:es.length=n)(hfl:fl=true->nY es=true):∃M,aN h (.os l sz 0 n) (.rows sz es) M/\∀x,M x->N x:=by
 cases fl with
 | false=>exact(r.g rfl).tree hn
 | true=>
  obtain⟨f,fs,a,b,c,hN⟩:=r.f rfl;have:fs=es:=by rw [List.take_of_length_le ah,List.take_of_length_le ah]at c;exact c
  subst this;subst hn;exact⟨_,.flat l sz f fs a (hfl rfl),λx hx=>by have e:x=l:=hx;rw [e];exact hN⟩
def ToB(fl:Bool)(sz:Nat)(B:List D->Prop)(es:List (List D)):Prop:=es.length<=gX/\∀d∈es,d.length=sz/\(fl=false->∃j,j<sz/\(d.getD j default).bY=false)/\(fl=true->∀j,j<sz->(d.getD j default).bY=true)/\B d
theorem ToB.bY{sz:Nat}{B:List D->Prop}{es:List (List D)}(h:ToB true sz B es):nY es=true:=by
 refine List.all_eq_true.2 λd hd=>List.all_eq_true.2 λx hx=> ?_
 obtain⟨a,_,b,_⟩:=h.2 d hd;obtain⟨j,hj,rfl⟩:=List.mem_iff_getElem.1 hx;have:=b rfl j ah;simpa [List.getD,hj]using this
theorem KO(fl:Bool){ta ea ts te:TypeId}{f:FuncId}{sz:Nat}{B:List D->Prop}{fa fs:List (Nat×TypeId)}{za zero:List Cell}{dz:List D}{ba by_ r0 r1 r2 r3 r4 r5 r6:Nat}{a0 a1 a2 a3 a4 a5 a6:Array Oper}{ty1 ty2 ty3 ty4:TypeId}{fn:Func}{ct:Array TypeId}
  (hta:E.ty ta=some ⟨.slice ea,1,24,[.nil]⟩) (hea:E.ty ea=some ⟨.struct fa,sz,ba,za⟩) (hts:E.ty ts=some ⟨.slice te,1,24,[.nil]⟩) (hte:E.ty te=some ⟨.struct fs,sz,by_,zero⟩) (hz:ZT zero dz) (hzl:zero.length=sz)
  (hns:fl=false->∃j,j<sz/\(dz.getD j default).bY=false) (hzd:fl=true->ZD zero dz) (hsz:sz≠0) (hby:by_<=1024) (hG:G f=some (oK sz B))
  (h0:sk a0.toList=[(some 2,.assign (.const (.slice none 0 0)),true)])
  (h1:sk a1.toList=[(some 5,.move (.tmp 0),true),(some 6,.call {callee:= .builtin .len,args:= #[.tmp 5],argTypes:= #[ta]},true),(some 7,.makeSlice ts (.tmp 6) (.tmp 6),true),(some 3,.assign (.tmp 7),true)])
  (h2:sk a2.toList=[(some 4,.assign (.const (.int .i64 0)),true)])
  (h3:sk a3.toList=[(some 8,.move (.tmp 4),true),(some 9,.move (.tmp 0),true),(some 10,.call {callee:= .builtin .len,args:= #[.tmp 9],argTypes:= #[ta]},true),(some 11,.binOp .lss ty1 (.tmp 8) (.tmp 10) ty2,true)])
  (h5:sk a5.toList=[(some 14,.move (.tmp 3),true),(some 15,.move (.tmp 4),true),(some 16,.move (.tmp 0),true),(some 17,.move (.tmp 4),true),(some 18,.indexAddr ta (.tmp 16) (.tmp 17),true),(some 19,.load ea (.tmp 18),true),
   (some 20,.call {callee:= .value (.func f),args:= #[.tmp 19],argTypes:=ct},true),(some 21,.indexAddr ts (.tmp 14) (.tmp 15),true),(none,.store te (.tmp 21) (.tmp 20),true)])
  (h4:sk a4.toList=[(some 12,.move (.tmp 4),true),(some 13,.binOp .add ty3 (.tmp 12) (.const (.int .i64 1)) ty4,true),(some 4,.assign (.tmp 13),true)])
  (h6:sk a6.toList=[(some 22,.move (.tmp 3),true),(some 2,.assign (.tmp 22),true)])
  (hr:fn.results.toList=[.tmp 2]) (hn:fn.ntmps=23) {args:List PV} {h:Heap} {n:Nat} {K:PV->Heap->Nat->Prop} (hR:yL sz (ToB fl sz B) args h n K):
  dh E G dr fn (.seq (.region r0 a0 false) (.seq (.region r1 a1 false) (.seq (.seq (.region r2 a2 false) (.block 0 (.loop (.seq (.seq (.region r3 a3 false) (.cond (.tmp 11) .skip (.exit 0))) (.seq (.block 1 (.region r5 a5 false)) (.region r4 a4 false))))))
   (.seq (.region r6 a6 false) .ret)))) args h n K:=by
 obtain⟨x,es,rfl,hx,hB,hK⟩:=hR;obtain⟨hl,hB'⟩:=id hB;unfold dh;rw [hr,hn];dsimp only [slotsOf,List.length];refine aP ?_;generalize a0.toList=L at h0;refine aM h0 rfl (by simp only [dOK];decide) λl h0=> ?_
 simp only [aH,ev,fD,aB,St.put];refine fH h0 (aP ?_);generalize a1.toList=L at h1;refine aM h1 rfl (by simp only [dOK];decide) λl h1=> ?_
 simp only [aH,ev,aB,St.put,aA,reduceIte,Nat.reduceEqDiff];refine aM h1 rfl (by simp only [dOK];decide) λl h1=> ?_
 simp only [aH,lT,ev,aB,aD,St.put,aA,reduceIte,hta,wU hx,true_and]
 have mk:∀ {l:List Oper} {ops:List Oper} {t:Slots} {K:St->Prop} {r:List (Option Nat×Op×Bool)},sk l=(some 7,.makeSlice ts (.tmp 6) (.tmp 6),true)::r->aA t 6=some (ci .i64 es.length)->
   (∀l' h',sk l'=r->Fil h' (nm n 0) sz es.length 0 es (λy=>y=nm n 0) fl->(∀y,y≠nm n 0->look h' y=look h y)->aF E G ops l' K {t:=(7,some (.c (.os (nm n 0) sz 0 es.length)))::t,h:=h',n:=n,k:=1,m:=23})->
   aF E G ops l K {t:=t,h:=h,n:=n,k:=0,m:=23}:=by
  intro l ops t K r e h6 hk;cases fl with
  | false=>
   refine acC e rfl (by simp only [dOK];decide) λl' e=> ?_
   simp only [nG,aD,hts,hte,aB,ev,h6,jQ,ci,St.put];refine⟨hsz,hby,trivial,ah,ah,hk l' _ e ⟨λ_=> ?_,λe=>nomatch e⟩ λy hy=>aj _ _ (Ne.symm hy)⟩;rw [Int.toNat_natCast];refine⟨_,_,_,gK.zero (ds:=dz) hzl (hz.len▸hzl) (hns rfl) (λj hj=>hz.tree j ah),by simp,by simp,?_⟩;rintro y (hy | ⟨_,_,_,_,k⟩)
   .exact hy
   .exact k.elim
  | true=>
   refine jM e rfl (by simp only [dOK];decide) λl' e=> ?_
   simp only [aX,aD,hts,hte,aB,ev,h6,jQ,ci,St.put];refine⟨dz,hzd rfl,hsz,hby,trivial,ah,ah,hk l' _ e ⟨λe=>(nomatch e),λ_=> ?_⟩ λy hy=>aj _ _ (Ne.symm hy)⟩;rw [Int.toNat_natCast];exact⟨_,_,ay _ _ _,by simp,by simp,rfl⟩
 refine mk h1 rfl λl h' h1 F0 F1=> ?_
 refine aM h1 rfl (by simp only [dOK];decide) λl h1=> ?_
 simp only [aH,ev,aB,St.put,aA,reduceIte];refine fH h1 (bG (aP ?_));generalize a2.toList=L at h2;refine aM h2 rfl (by simp only [dOK];decide) λl h2=> ?_
 simp only [aH,ev,fD,aB,St.put];refine fH h2 ?_;obtain⟨o0,l0,q0,e8,h3⟩:=dZ h3;obtain⟨o1,l1,rfl,e9,h3⟩:=dZ h3;obtain⟨o2,l2,rfl,e10,h3⟩:=dZ h3;obtain⟨o3,l3,rfl,e11,h3⟩:=dZ h3;obtain rfl:=yK h3;obtain rfl:=BQ q0;obtain⟨p0,l0,q1,e12,h4⟩:=dZ h4;obtain⟨p1,l1,rfl,e13,h4⟩:=dZ h4;obtain⟨p2,l2,rfl,e4,h4⟩:=dZ h4;obtain rfl:=yK h4;obtain rfl:=BQ q1
 let J:Nat->St->Prop:=λi s=>∃N:Nat->Prop,aA s.t 4=some (ci .i64 i)/\aA s.t 0=some (.c x)/\s.m=23/\s.n=n/\aA s.t 3=some (.c (.os (nm n 0) sz 0 es.length))/\
  Fil s.h (nm n 0) sz es.length i es N fl/\(∀l,N l->n<=l/\l<nm n s.k)/\(∀l,l<n->look s.h l=look h l)
 refine FB (n:=es.length) (m:=23) (v:= .c x) J hta trivial (wU hx) e8 e9 e10 e11 e12 e13 e4 (by unfold gX at hl;omega) (by decide) (by decide) (by decide) (by decide) (λi s hJ=> ?_) (by decide) (λi s a b c d hJ=> ?_) ?_ (λi s hi hJ Q2 hQ=> ?_) (λs hJ=> ?_)
 .obtain⟨N,a1,a2,a3,a4,a5,a6,a7,a8⟩:=hJ;exact⟨a1,a2,a3⟩
 .obtain⟨N,a1,a2,a3,a4,a5,a6,a7,a8⟩:=hJ;refine⟨N,?_,?_,a3,a4,?_,a6,a7,a8⟩<;>simp only [aA,reduceIte,Nat.reduceEqDiff]<;>assumption
 .exact⟨_,rfl,rfl,rfl,rfl,rfl,F0,λy hy=>by have hy:y=nm n 0:=hy;subst hy;unfold nm;dsimp only;omega,λy hy=>F1 y (by unfold nm;omega)⟩
 .obtain⟨N,b1,b2,b3,b4,b5,b6,b7,b8⟩:=hJ;obtain⟨g,rfl⟩:=NP hx hi;have hm:es[i]? =some es[i]:=List.getElem?_eq_getElem hi;obtain⟨hdl,d1,d2,hdB⟩:=hB' _ (List.getElem_mem hi);generalize es[i]=d at hm hdl d1 d2 hdB;obtain⟨t,hh,nn,kk,mm⟩:=s;dsimp only at b1 b2 b3 b4 b5 b6 b7 b8;subst b3;have b4:=b4.symm;subst b4;refine rD (kI ?_);generalize a5.toList=L at h5;refine aM h5 rfl (by simp only [dOK];decide) λl h5=> ?_
  simp only [aH,ev,aB,b5,St.put];refine aM h5 rfl (by simp only [dOK];decide) λl h5=> ?_
  simp only [aH,ev,aB,aA,reduceIte,Nat.reduceEqDiff,b1,St.put];refine aM h5 rfl (by simp only [dOK];decide) λl h5=> ?_
  simp only [aH,ev,aB,aA,reduceIte,Nat.reduceEqDiff,b2,St.put];refine aM h5 rfl (by simp only [dOK];decide) λl h5=> ?_
  simp only [aH,ev,aB,aA,reduceIte,Nat.reduceEqDiff,b1,St.put];refine aM h5 rfl (by simp only [dOK];decide) λl h5=> ?_
  simp only [aH,ev,aB,aD,aA,reduceIte,Nat.reduceEqDiff,bV,hta,hea,jQ,ci,St.put];refine⟨λ_=>trivial,ah,ah,?_⟩;refine aM h5 rfl (by simp only [dOK];decide) λl h5=> ?_
  simp only [aH,ev,aB,aD,aA,reduceIte,fF,hea,D8,nW,Int.toNat_natCast,St.put];refine⟨hi,λrow hrow=> ?_⟩;have hrow:row=d:=by rw [hm]at hrow;exact(Option.some.inj hrow).symm
  subst hrow;refine⟨ah,?_⟩;have et:((row.drop 0).take sz).map (Cell.d g)=row.map (Cell.d g):=by rw [List.drop_zero,List.take_of_length_le ah]
  rw [et];have hcl:(row.map (Cell.d g)).length=sz:=by rw [List.length_map];exact hdl
  have hcr:∀j,j<sz->(row.map (Cell.d g)).getD j default= .d g (row.getD j default):=λj hj=>by simp [List.getD,List.getElem?_map,List.getElem?_eq_getElem (show j<row.length by omega)]
  generalize row.map (Cell.d g)=cells at hcl hcr;refine tZ h5 rfl (by simp only [dOK];decide) λl h5=> ?_
  simp only [dw,jy,fnA,iK,aB,jf,ev,aA,reduceIte,hG,List.map,List.append_nil,St.put];refine⟨cells,row,rfl,hcl,hdl,λj hj=> .inl ⟨g,hcr j hj⟩,hdB,λh2 j cells' M tr fr1 fr2=> ?_⟩;refine aM h5 rfl (by simp only [dOK];decide) λl h5=> ?_
  simp only [aH,ev,aB,aD,aA,reduceIte,Nat.reduceEqDiff,bV,hts,hte,jQ,ci,St.put];refine⟨trivial,ah,ah,?_⟩;rw [Int.toNat_natCast,Nat.zero_add];refine jM h5 rfl trivial λl h5=> ?_
  simp only [aX,aD,aB,ev,aA,reduceIte,Nat.reduceEqDiff,hte,St.put];have c6:Fil h2 (nm n 0) sz es.length i es N fl:=b6.frame λy hy=>fr2 y (by have:=(b7 y hy).2;unfold nm at*;omega)
  refine c6.put rfl hsz hi rfl hm hdl d1 d2 tr (λq y hq hy hN=>by have:=(fr1 q y hq hy).1;have:=(b7 y hN).2;unfold nm at*;omega) rfl λh3 f3 k3=> ?_
  refine fH h5 ?_;show Q2 .normal _;refine hQ _ (by simp only [aA,reduceIte,Nat.reduceEqDiff];exact b1) rfl ?_;refine⟨_,by simp only [aA,reduceIte],by simp only [aA,reduceIte,Nat.reduceEqDiff];exact b2,rfl,rfl,by simp only [aA,reduceIte,Nat.reduceEqDiff];exact b5,f3,?_,λy hy=> ?_⟩
  .rintro y (hy | ⟨q,hq,hy⟩)
   .have:=b7 y hy;refine⟨this.1,?_⟩;show y<nm n (kk+j);unfold nm at*;omega
   .have:=fr1 q y hq hy;refine⟨by unfold nm at*;omega,?_⟩;show y<nm n (kk+j);unfold nm at*;omega
  .dsimp only;rw [k3 y (by unfold nm;omega),fr2 y (by unfold nm;omega)];exact b8 y hy
 .obtain⟨N,b1,b2,b3,b4,b5,b6,b7,b8⟩:=hJ;obtain⟨t,hh,nn,kk,mm⟩:=s;dsimp only at b1 b2 b3 b4 b5 b6 b7 b8;subst b3;have b4:=b4.symm;subst b4;show aw E G dr _ _ _;refine aP ?_;generalize a6.toList=L at h6;refine aM h6 rfl (by simp only [dOK];decide) λl h6=> ?_
  simp only [aH,ev,aB,b5,St.put];refine aM h6 rfl (by simp only [dOK];decide) λl h6=> ?_
  simp only [aH,ev,aB,aA,reduceIte,St.put];refine fH h6 (lQ ?_);simp only [pX,oh,one,aB,aA,reduceIte,true_and];obtain⟨M,hM,hMN⟩:=b6.tree rfl λe=>by subst e;exact hB.bY
  exact hK hh kk _ M hM (λl hl=>by have:=b7 l (hMN l hl);unfold nm at*;omega) b8
end Go.AE
namespace Go.AE
open Go
variable {E:Tab} {G:fO} {dr:jI}
theorem XZ{ta te:TypeId}{kd:IntKind}{by_ r0 r1 r2 r3 r4 r5 r6:Nat}{a0 a1 a2 a3 a4 a5 a6:Array Oper}{ty1 ty2 ty3 ty4:TypeId}{fn:Func}{g0:Bool}{v0:Int}
  (hta:E.ty ta=some ⟨.slice te,1,24,[.nil]⟩) (hte:E.ty te=some ⟨.int kd,1,by_,[.d g0 (.int kd v0)]⟩) (hby:by_<=1024)
  (h0:sk a0.toList=[(some 2,.assign (.const (.slice none 0 0)),true)])
  (h1:sk a1.toList=[(some 5,.move (.tmp 0),true),(some 6,.call {callee:= .builtin .len,args:= #[.tmp 5],argTypes:= #[ta]},true),(some 7,.makeSlice ta (.tmp 6) (.tmp 6),true),(some 3,.assign (.tmp 7),true)])
  (h2:sk a2.toList=[(some 4,.assign (.const (.int .i64 0)),true)])
  (h3:sk a3.toList=[(some 8,.move (.tmp 4),true),(some 9,.move (.tmp 0),true),(some 10,.call {callee:= .builtin .len,args:= #[.tmp 9],argTypes:= #[ta]},true),(some 11,.binOp .lss ty1 (.tmp 8) (.tmp 10) ty2,true)])
  (h5:sk a5.toList=[(some 14,.move (.tmp 3),true),(some 15,.move (.tmp 4),true),(some 16,.move (.tmp 0),true),(some 17,.move (.tmp 4),true),(some 18,.indexAddr ta (.tmp 16) (.tmp 17),true),(some 19,.load te (.tmp 18),true),
   (some 20,.indexAddr ta (.tmp 14) (.tmp 15),true),(none,.store te (.tmp 20) (.tmp 19),true)])
  (h4:sk a4.toList=[(some 12,.move (.tmp 4),true),(some 13,.binOp .add ty3 (.tmp 12) (.const (.int .i64 1)) ty4,true),(some 4,.assign (.tmp 13),true)])
  (h6:sk a6.toList=[(some 21,.move (.tmp 3),true),(some 2,.assign (.tmp 21),true)])
  (hr:fn.results.toList=[.tmp 2]) (hn:fn.ntmps=22) {args:List PV} {h:Heap} {n:Nat} {K:PV->Heap->Nat->Prop} (hR:yL 1 (ToB true 1 λd=>∃v,d=[.int kd v]) args h n K):
  dh E G dr fn (.seq (.region r0 a0 false) (.seq (.region r1 a1 false) (.seq (.seq (.region r2 a2 false) (.block 0 (.loop (.seq (.seq (.region r3 a3 false) (.cond (.tmp 11) .skip (.exit 0))) (.seq (.block 1 (.region r5 a5 false)) (.region r4 a4 false))))))
   (.seq (.region r6 a6 false) .ret)))) args h n K:=by
 obtain⟨x,es,rfl,hx,hB,hK⟩:=hR;obtain⟨hl,hB'⟩:=id hB;unfold dh;rw [hr,hn];dsimp only [slotsOf,List.length];refine aP ?_;generalize a0.toList=L at h0;refine aM h0 rfl (by simp only [dOK];decide) λl h0=> ?_
 simp only [aH,ev,fD,aB,St.put];refine fH h0 (aP ?_);generalize a1.toList=L at h1;refine aM h1 rfl (by simp only [dOK];decide) λl h1=> ?_
 simp only [aH,ev,aB,St.put,aA,reduceIte,Nat.reduceEqDiff];refine aM h1 rfl (by simp only [dOK];decide) λl h1=> ?_
 simp only [aH,lT,ev,aB,aD,St.put,aA,reduceIte,hta,wU hx,true_and]
 have mk:∀ {l:List Oper} {ops:List Oper} {t:Slots} {K:St->Prop} {r:List (Option Nat×Op×Bool)},sk l=(some 7,.makeSlice ta (.tmp 6) (.tmp 6),true)::r->aA t 6=some (ci .i64 es.length)->
   (∀l' h',sk l'=r->Fil h' (nm n 0) 1 es.length 0 es (λy=>y=nm n 0) true->(∀y,y≠nm n 0->look h' y=look h y)->aF E G ops l' K {t:=(7,some (.c (.os (nm n 0) 1 0 es.length)))::t,h:=h',n:=n,k:=1,m:=22})->
   aF E G ops l K {t:=t,h:=h,n:=n,k:=0,m:=22}:=by
  intro l ops t K r e h6 hk;refine jM e rfl (by simp only [dOK];decide) λl' e=> ?_
  simp only [aX,aD,hta,hte,aB,ev,h6,jQ,ci,St.put];refine⟨[.int kd v0],.d _ _ .nil,by decide,hby,trivial,ah,ah,hk l' _ e ⟨λe=>(nomatch e),λ_=> ?_⟩ λy hy=>aj _ _ (Ne.symm hy)⟩;rw [Int.toNat_natCast];exact⟨_,_,ay _ _ _,by simp,by simp,rfl⟩
 refine mk h1 rfl λl h' h1 F0 F1=> ?_
 refine aM h1 rfl (by simp only [dOK];decide) λl h1=> ?_
 simp only [aH,ev,aB,St.put,aA,reduceIte];refine fH h1 (bG (aP ?_));generalize a2.toList=L at h2;refine aM h2 rfl (by simp only [dOK];decide) λl h2=> ?_
 simp only [aH,ev,fD,aB,St.put];refine fH h2 ?_;obtain⟨o0,l0,q0,e8,h3⟩:=dZ h3;obtain⟨o1,l1,rfl,e9,h3⟩:=dZ h3;obtain⟨o2,l2,rfl,e10,h3⟩:=dZ h3;obtain⟨o3,l3,rfl,e11,h3⟩:=dZ h3;obtain rfl:=yK h3;obtain rfl:=BQ q0;obtain⟨p0,l0,q1,e12,h4⟩:=dZ h4;obtain⟨p1,l1,rfl,e13,h4⟩:=dZ h4;obtain⟨p2,l2,rfl,e4,h4⟩:=dZ h4;obtain rfl:=yK h4;obtain rfl:=BQ q1
 let J:Nat->St->Prop:=λi s=>∃N:Nat->Prop,aA s.t 4=some (ci .i64 i)/\aA s.t 0=some (.c x)/\s.m=22/\s.n=n/\aA s.t 3=some (.c (.os (nm n 0) 1 0 es.length))/\
  Fil s.h (nm n 0) 1 es.length i es N true/\(∀l,N l->n<=l/\l<nm n s.k)/\(∀l,l<n->look s.h l=look h l)
 refine FB (n:=es.length) (m:=22) (v:= .c x) J hta trivial (wU hx) e8 e9 e10 e11 e12 e13 e4 (by unfold gX at hl;omega) (by decide) (by decide) (by decide) (by decide) (λi s hJ=> ?_) (by decide) (λi s a b c d hJ=> ?_) ?_ (λi s hi hJ Q2 hQ=> ?_) (λs hJ=> ?_)
 .obtain⟨N,a1,a2,a3,a4,a5,a6,a7,a8⟩:=hJ;exact⟨a1,a2,a3⟩
 .obtain⟨N,a1,a2,a3,a4,a5,a6,a7,a8⟩:=hJ;refine⟨N,?_,?_,a3,a4,?_,a6,a7,a8⟩<;>simp only [aA,reduceIte,Nat.reduceEqDiff]<;>assumption
 .exact⟨_,rfl,rfl,rfl,rfl,rfl,F0,λy hy=>by have hy:y=nm n 0:=hy;subst hy;unfold nm;dsimp only;omega,λy hy=>F1 y (by unfold nm;omega)⟩
 .obtain⟨N,b1,b2,b3,b4,b5,b6,b7,b8⟩:=hJ;obtain⟨g,rfl⟩:=NP hx hi;have hm:es[i]? =some es[i]:=List.getElem?_eq_getElem hi;obtain⟨hdl,d1,d2,hdB⟩:=hB' _ (List.getElem_mem hi);generalize es[i]=d at hm hdl d1 d2 hdB;obtain⟨t,hh,nn,kk,mm⟩:=s;dsimp only at b1 b2 b3 b4 b5 b6 b7 b8;subst b3;have b4:=b4.symm;subst b4;refine rD (kI ?_);generalize a5.toList=L at h5;refine aM h5 rfl (by simp only [dOK];decide) λl h5=> ?_
  simp only [aH,ev,aB,b5,St.put];refine aM h5 rfl (by simp only [dOK];decide) λl h5=> ?_
  simp only [aH,ev,aB,aA,reduceIte,Nat.reduceEqDiff,b1,St.put];refine aM h5 rfl (by simp only [dOK];decide) λl h5=> ?_
  simp only [aH,ev,aB,aA,reduceIte,Nat.reduceEqDiff,b2,St.put];refine aM h5 rfl (by simp only [dOK];decide) λl h5=> ?_
  simp only [aH,ev,aB,aA,reduceIte,Nat.reduceEqDiff,b1,St.put];refine aM h5 rfl (by simp only [dOK];decide) λl h5=> ?_
  simp only [aH,ev,aB,aD,aA,reduceIte,Nat.reduceEqDiff,bV,hta,hte,jQ,ci,St.put];refine⟨λ_=>trivial,ah,ah,?_⟩;refine aM h5 rfl (by simp only [dOK];decide) λl h5=> ?_
  simp only [aH,ev,aB,aD,aA,reduceIte,fF,hte,D8,nW,Int.toNat_natCast,St.put];obtain⟨v,rfl⟩:=hdB;refine⟨hi,λrow hrow=> ?_⟩;have hrow:row=[.int kd v]:=by rw [hm]at hrow;exact(Option.some.inj hrow).symm
  subst hrow;refine⟨⟨v,rfl⟩,λv' hv=> ?_⟩;obtain rfl:v=v':=by injection hv with hv;injection hv
  refine aM h5 rfl (by simp only [dOK];decide) λl h5=> ?_
  simp only [aH,ev,aB,aD,aA,reduceIte,Nat.reduceEqDiff,bV,hta,hte,jQ,ci,St.put];refine⟨trivial,ah,ah,?_⟩;rw [Int.toNat_natCast,Nat.zero_add];refine jM h5 rfl trivial λl h5=> ?_
  simp only [aX,aD,aB,ev,aA,reduceIte,Nat.reduceEqDiff,hte,St.put];refine b6.put rfl (by decide) hi rfl hm hdl d1 d2 (M:=λ_ _=>False) ⟨rfl,λj hj=> ?_,λ_ _ _ _ _ h=>h.elim⟩ (λ_ _ _ h=>h.elim) rfl λh3 f3 k3=> ?_
  .have:j=0:=by omega
   subst this;exact .int _ _ _
  refine fH h5 ?_;show Q2 .normal _;refine hQ _ (by simp only [aA,reduceIte,Nat.reduceEqDiff];exact b1) rfl ?_;refine⟨_,by simp only [aA,reduceIte],by simp only [aA,reduceIte,Nat.reduceEqDiff];exact b2,rfl,rfl,by simp only [aA,reduceIte,Nat.reduceEqDiff];exact b5,f3,?_,λy hy=> ?_⟩
  .rintro y (hy | ⟨q,hq,hy⟩)
   .exact b7 y hy
   .exact hy.elim
  .dsimp only;rw [k3 y (by unfold nm;omega)];exact b8 y hy
 .obtain⟨N,b1,b2,b3,b4,b5,b6,b7,b8⟩:=hJ;obtain⟨t,hh,nn,kk,mm⟩:=s;dsimp only at b1 b2 b3 b4 b5 b6 b7 b8;subst b3;have b4:=b4.symm;subst b4;show aw E G dr _ _ _;refine aP ?_;generalize a6.toList=L at h6;refine aM h6 rfl (by simp only [dOK];decide) λl h6=> ?_
  simp only [aH,ev,aB,b5,St.put];refine aM h6 rfl (by simp only [dOK];decide) λl h6=> ?_
  simp only [aH,ev,aB,aA,reduceIte,St.put];refine fH h6 (lQ ?_);simp only [pX,oh,one,aB,aA,reduceIte,true_and];obtain⟨M,hM,hMN⟩:=b6.tree rfl λ_=>hB.bY
  exact hK hh kk _ M hM (λl hl=>by have:=b7 l (hMN l hl);unfold nm at*;omega) b8
end Go.AE
namespace Go.AE
open Go Go.TX
variable {E:Tab} {G:fO} {dr:jI}
structure MkS{α:Type}(mk:Int->List α->List α)(ct:List α->Int)(pre:List α->Nat->Int)(mk1:Int->α->α)(c1:α->Int):Prop where
 len:∀k l,(mk k l).length=l.length
 get:∀k l i (h:i<l.length),(mk k l)[i]? =some (mk1 (k+pre l i) l[i])
 z:∀l,pre l 0=0
 step:∀l i (h:i<l.length),pre l (i+1)=pre l i+c1 l[i]
 all:∀l,pre l l.length=ct l
 le:∀l i,i<=l.length->pre l i<=ct l
 nn:∀l i,0<=pre l i
def Hr{α:Type}(sz:Nat)(row:α->List D)(mk:Int->List α->List α)(ct:List α->Int)(B:α->Prop):Trans:=λargs h n K=>∃(x:Cell) (xs:List α) (k:Int) (f:Bool) (N:Nat->Prop),args=[.c x,.c (.d f (.int .i64 k))]/\aN h x (.rows sz (xs.map row)) N/\
 xs.length<=1000000000000000000/\(∀a∈xs,B a)/\0<=k/\k+ct xs<=4000000000000000000/\∀h' g,aN h' x (.rows sz ((mk k xs).map row)) N->(∀l,¬N l->look h' l=look h l)->K (.c (.d g (.int .i64 (k+ct xs)))) h' 0
def VK{β:Type}(sz:Nat)(row:β->List D)(mk:Int->β->β)(ct:β->Int)(B:β->Prop):Trans:=λargs h n K=>∃(cs:List Cell) (b:β) (k:Int) (f:Bool) (M:Nat->Nat->Prop),args=[.agg cs,.c (.d f (.int .i64 k))]/\bO h sz cs (row b) M/\
 (∀j x,j<sz->M j x->x<n)/\B b/\0<=k/\k+ct b<=4000000000000000000/\∀h' g j,bO h' sz cs (row (mk k b)) M->(∀l,l<n->(∀q,q<sz->¬M q l)->look h' l=look h l)->K (.c (.d g (.int .i64 (k+ct b)))) h' j
theorem X0{α:Type}{row:α->List D}{h:Heap}{x:Cell}{sz:Nat}{q:List α}{m:α}{N:Nat->Prop}{i j:Nat}(t:aN h x (.rows sz ((q.set i m).map row)) N)(hi:i<q.length)(hw:∀a,(row a).length=sz)
  (hk:(∃c0,c0<sz/\((row m).getD c0 default).bY=false)\/∀a,∀d∈row a,d.bY=true) (hj:j<sz) (hs:((row m).getD j default).bY=true):
  ∃l,x= .os l sz 0 q.length/\∀(y:TY) (f:Bool) (d:D) (m':α) (K:Heap->Prop),y.size=1->acD d->(row m).set j d=row m'->
   (∀h',aN h' x (.rows sz ((q.set i m').map row)) N->(∀z,¬N z->look h' z=look h z)->K h')->dO h y (.c (.ptr l sz i j)) (.c (.d f d)) K:=by
 rcases hk with⟨c0,hc,hn⟩ | hk
 .obtain⟨l,cs,rw',rfl,e2,e3,e4,e5,e6⟩:=Qi t hi (hw m) hc hn hj hs;refine⟨l,rfl,λy f d m' K hy hd hm hK=> ?_⟩;unfold dO;simp only [aI,List.length_singleton,hy,e2,bZ,e3,D9,true_and];exact⟨by decide,ah,hK _ (e6 _ d m' (TW hd) hm) λz hz=>aj _ _ λe=>hz (e▸e5)⟩
 .have hsc:∀q:List α,nY (q.map row)=true:=λq=>List.all_eq_true.2 λr hr=>by
   obtain⟨a,_,rfl⟩:=List.mem_map.1 hr;exact List.all_eq_true.2 λd hd=>hk a d hd
  have hwd:∀(q:List α) i,i< (q.map row).length->((q.map row).getD i []).length=sz:=λq i hi=>by
   have hi':i<q.length:=by simpa using hi
   simp [List.getD,hi',hw]
  have hl:((q.set i m).map row).length=q.length:=by simp
  obtain⟨l,g,e1,e2,e5,e6⟩:=t.alP (i:=i) (by rw [hl];exact hi) (hsc _) (hwd _);rw [hl]at e1;subst e1;have hmi:((q.set i m).map row)[i]? =some (row m):=by simp [hi]
  refine⟨l,rfl,λy f d m' K hy hd hm hK=> ?_⟩;have hdn:∀K:Bool->List D->Heap->Prop,(∀b,K b [d] h)->lJ h [.d f d] K:=λK hK=>hK _
  unfold dO;simp only [aI,List.length_singleton,hy,e2,bZ,true_and];refine⟨by decide,by rw [hl];exact hi,hdn _ λb=>⟨by first | exact e2 | trivial,by simp only [List.length_singleton];omega,λr hr=> ?_⟩⟩;rw [hmi]at hr;obtain rfl:=Option.some.inj hr;have es:(if j=0/\ [d].length=sz then [d]else cB (row m) [d] j)=row m':=by
   rw [<-hm];split
   .rename_i e;obtain⟨rfl,e⟩:=e;have:=hw m
    match hr:row m with
    | []=>rw [hr]at this;simp only [List.length_nil,List.length_singleton]at this e;omega
    | [a]=>rfl
    | _::_::_=>rw [hr]at this;simp only [List.length_cons,List.length_nil]at this e;omega
   .unfold cB;rw [List.set_eq_take_append_cons_drop,if_pos (by rw [hw];exact hj)];simp
  rw [es];have eq:((q.set i m).map row).set i (row m')=(q.set i m').map row:=by rw [<-List.map_set,List.set_set]
  rw [eq];exact hK _ (e6 _ _ (by simp) (hsc _)) λz hz=>aj _ _ λe=>hz (e▸e5)
structure MB{α:Type}(m n:Nat)(h0:Heap)(x:Cell)(N:Nat->Prop)(sz:Nat)(row:α->List D)(q:List α)(i:Nat)(e:α)(k:Int)(s:St):Prop where
 za:aA s.t 0=some (.c x)
 zi:aA s.t 5=some (ci .i64 i)
 zk:∃f,aA s.t 1=some (.c (.d f (.int .i64 k)))
 zm:s.m=m
 zn:s.n=n
 zq:s.k=0
 zt:aN s.h x (.rows sz ((q.set i e).map row)) N
 zf:∀l,¬N l->look s.h l=look h0 l
 zh:i<q.length
theorem MB.put{α:Type}{m n:Nat}{h0:Heap}{x:Cell}{N:Nat->Prop}{sz:Nat}{row:α->List D}{q:List α}{i:Nat}{e e':α}{k k':Int}{s:St}(W:MB m n h0 x N sz row q i e k s){h':Heap}(t:aN h' x (.rows sz ((q.set i e').map row)) N)(f:∀z,¬N z->look h' z=look s.h z)
  {t':Slots} (e0:aA t' 0=aA s.t 0) (e5:aA t' 5=aA s.t 5) (e1:∃f,aA t' 1=some (.c (.d f (.int .i64 k')))):MB m n h0 x N sz row q i e' k' {t:=t',h:=h',n:=s.n,k:=s.k,m:=s.m}:=
 ⟨e0.trans W.za,e5.trans W.zi,e1,W.zm,W.zn,W.zq,t,λl hl=>(f l hl).trans (W.zf l hl),W.zh⟩
section
variable {α:Type} {m n:Nat} {h0:Heap} {x:Cell} {N:Nat->Prop} {sz:Nat} {row:α->List D} {q:List α} {i:Nat} {e:α} {k:Int} {s:St} (W:MB m n h0 x N sz row q i e k s) (hw:∀a,(row a).length=sz)
include W
theorem MB.inc{y1 y2 r:Nat}{ty1 ty2:TypeId}{a:Array Oper}{Q:Exit->St->Prop}(hs:sk a.toList=[(some y1,.move (.tmp 1),true),(some y2,.binOp .add ty1 (.tmp y1) (.const (.int .i64 1)) ty2,true),(some 1,.assign (.tmp y2),true)])
  (hx:5<y1/\5<y2/\y1<m/\y2<m) (hk:0<=k) (hk2:k+1<=4000000000000000000) (next:∀s',MB m n h0 x N sz row q i e (k+1) s'->Q .normal s'):aw E G dr (.region r a false) Q s:=by
 obtain⟨f,hf⟩:=W.zk;obtain⟨i1,i2,i3,i4⟩:=hx;refine kI ?_;generalize a.toList=L at hs;refine aM hs rfl (by rw [W.zm];exact i3) λl hs=> ?_
 simp only [aH,ev,hf,aB,St.put];refine aM hs rfl (by show _<s.m;rw [W.zm];exact i4) λl hs=> ?_
 have hwr:IntKind.i64.wrap (k+1)=k+1:=IntWalk.i64_in _ ah;simp only [aH,ev,aL,fD,aB,mq,ci,iB,hwr,St.put];refine⟨.inl trivial,aM hs rfl (by show _<s.m;rw [W.zm];omega) λl hs=> ?_⟩;simp only [aH,ev,aL,aB,St.put];refine fH hs (next _ (W.put W.zt (λ_ _=>rfl) ?_ ?_ ⟨_,aL⟩))
 .rw [au (by decide),au ah,au ah]
 .rw [au (by decide),au ah,au ah]
include hw
theorem MB.set0{x1 x2 x3 x4 r:Nat}{ts te:TypeId}{a:Array Oper}{y ye:TY}{e':α}{Q:Exit->St->Prop}(hs:sk a.toList=[(some x1,.move (.tmp 0),true),(some x2,.move (.tmp 5),true),(some x3,.move (.tmp 1),true),(some x4,.indexAddr ts (.tmp x1) (.tmp x2),true),(none,.store te (.tmp x4) (.tmp x3),true)])
  (hts:E.ty ts=some y) (hy:y.desc= .slice te) (hte:E.ty te=some ye) (hz:ye.size=1) (hsz:sz=1) (hk:∀a,∀d∈row a,d.bY=true) (hs0:((row e).getD 0 default).bY=true) (hm:(row e).set 0 (.int .i64 k)=row e')
  (hx:5<x1/\x1<x2/\x2<x3/\x3<x4/\x4<m) (next:∀s',MB m n h0 x N sz row q i e' k s'->Q .normal s'):aw E G dr (.region r a false) Q s:=by
 obtain⟨f,hf⟩:=W.zk;obtain⟨i1,i2,i3,i4,i5⟩:=hx;obtain⟨l0,rfl,hst⟩:=X0 (j:=0) W.zt W.zh hw (.inr hk) ah hs0;refine kI ?_;generalize a.toList=L at hs;refine aM hs rfl (by rw [W.zm];show _<_;omega) λl hs=> ?_
 simp only [aH,ev,W.za,aB,St.put];refine aM hs rfl (by show _<s.m;rw [W.zm];omega) λl hs=> ?_
 simp only [aH,ev,au (show x1≠5 by omega),W.zi,aB,St.put];refine aM hs rfl (by show _<s.m;rw [W.zm];omega) λl hs=> ?_
 simp only [aH,ev,au (show x1≠1 by omega),au (show x2≠1 by omega),hf,aB,St.put];refine aM hs rfl (by show _<s.m;rw [W.zm];omega) λl hs=> ?_
 simp only [aH,ev,aL,au (show x3≠x2 by omega),au (show x3≠x1 by omega),au (show x2≠x1 by omega),aB,bV,hts,aD,hy,hte,jQ,ci,St.put];have hi:=W.zh;refine⟨by rw [hz,hsz],ah,ah,?_⟩;rw [Int.toNat_natCast,Nat.zero_add];refine jM hs rfl trivial λl hs=> ?_
 simp only [aX,ev,aL,au (show x4≠x3 by omega),aB,hte,aD,St.put];refine hst ye f _ e' _ hz trivial hm λh' t' f'=>fH hs (next _ (W.put t' f' ?_ ?_ ⟨f,?_⟩))
 .rw [au ah,au ah,au ah,au ah]
 .rw [au ah,au ah,au ah,au ah]
 .rw [au ah,au ah,au ah,au ah];exact hf
theorem MB.set{x1 x2 x3 x4 x5 j fi r:Nat}{ts te t3:TypeId}{a:Array Oper}{y ye y3:TY}{fs:List (Nat×TypeId)}{e':α}{Q:Exit->St->Prop}
  (hs:sk a.toList=[(some x1,.move (.tmp 0),true),(some x2,.move (.tmp 5),true),(some x3,.move (.tmp 1),true),(some x4,.indexAddr ts (.tmp x1) (.tmp x2),true),(some x5,.fieldAddr te (.tmp x4) fi,true),(none,.store t3 (.tmp x5) (.tmp x3),true)])
  (hts:E.ty ts=some y) (hy:y.desc= .slice te) (hte:E.ty te=some ye) (hz:ye.size=sz) (hd:ye.desc= .struct fs) (hfi:fs[fi]? =some (j,t3)) (ht3:E.ty t3=some y3) (h31:y3.size=1) (hj:j<sz)
  (hk:(∃c0,c0<sz/\((row e).getD c0 default).bY=false)\/∀a,∀d∈row a,d.bY=true) (hs0:((row e).getD j default).bY=true) (hm:(row e).set j (.int .i64 k)=row e')
  (hx:5<x1/\x1<x2/\x2<x3/\x3<x4/\x4<x5/\x5<m) (next:∀s',MB m n h0 x N sz row q i e' k s'->Q .normal s'):aw E G dr (.region r a false) Q s:=by
 obtain⟨f,hf⟩:=W.zk;obtain⟨i1,i2,i3,i4,i5,i6⟩:=hx;obtain⟨l0,rfl,hst⟩:=X0 (j:=j) W.zt W.zh hw hk hj hs0;refine kI ?_;generalize a.toList=L at hs;refine aM hs rfl (by rw [W.zm];show _<_;omega) λl hs=> ?_
 simp only [aH,ev,W.za,aB,St.put];refine aM hs rfl (by show _<s.m;rw [W.zm];omega) λl hs=> ?_
 simp only [aH,ev,au (show x1≠5 by omega),W.zi,aB,St.put];refine aM hs rfl (by show _<s.m;rw [W.zm];omega) λl hs=> ?_
 simp only [aH,ev,au (show x1≠1 by omega),au (show x2≠1 by omega),hf,aB,St.put];refine aM hs rfl (by show _<s.m;rw [W.zm];omega) λl hs=> ?_
 simp only [aH,ev,aL,au (show x3≠x2 by omega),au (show x3≠x1 by omega),au (show x2≠x1 by omega),aB,bV,hts,aD,hy,hte,jQ,ci,St.put];have hi:=W.zh;refine⟨hz.symm,ah,ah,?_⟩;rw [Int.toNat_natCast,Nat.zero_add];refine aM hs rfl (by show _<s.m;rw [W.zm];omega) λl hs=> ?_
 simp only [aH,ev,aL,aB,bF,hte,aD,hd,hfi,ht3,St.put,Nat.zero_add];refine⟨by rw [h31];decide,jM hs rfl trivial λl hs=> ?_⟩;simp only [aX,ev,aL,au (show x5≠x3 by omega),au (show x4≠x3 by omega),aB,ht3,aD,St.put];refine hst y3 f _ e' _ h31 trivial hm λh' t' f'=>fH hs (next _ (W.put t' f' ?_ ?_ ⟨f,?_⟩))
 .rw [au ah,au ah,au ah,au ah,au ah]
 .rw [au ah,au ah,au ah,au ah,au ah]
 .rw [au ah,au ah,au ah,au ah,au ah];exact hf
theorem MB.call{β:Type}{xw:β->List D}{mk:Int->List β->List β}{ct:List β->Int}{B:β->Prop}{szB:Nat}{bs:List β}{x1 x2 x3 x4 x5 x6 x7 j fi g r:Nat}{ts te tl:TypeId}{a:Array Oper}{y ye yl:TY}{fs:List (Nat×TypeId)}{e':α}{Q:Exit->St->Prop}{ctt:Array TypeId}
  (hs:sk a.toList=[(some x1,.move (.tmp 0),true),(some x2,.move (.tmp 5),true),(some x3,.indexAddr ts (.tmp x1) (.tmp x2),true),(some x4,.fieldAddr te (.tmp x3) fi,true),(some x5,.load tl (.tmp x4),true),(some x6,.move (.tmp 1),true),
   (some x7,.call {callee:= .value (.func g),args:= #[.tmp x5,.tmp x6],argTypes:=ctt},true),(some 1,.assign (.tmp x7),true)])
  (hts:E.ty ts=some y) (hy:y.desc= .slice te) (hte:E.ty te=some ye) (hz:ye.size=sz) (hd:ye.desc= .struct fs) (hfi:fs[fi]? =some (j,tl)) (htl:E.ty tl=some yl) (hl1:yl.size=1) (hla:yl.desc.agg=false) (hj:j<sz)
  (hG:G g=some (Hr szB xw mk ct B)) (hcell:(row e).getD j default= .rows szB (bs.map xw)) (hB:bs.length<=1000000000000000000/\∀b∈bs,B b) (hm:(row e).set j (.rows szB ((mk k bs).map xw))=row e')
  (hx:5<x1/\x1<x2/\x2<x3/\x3<x4/\x4<x5/\x5<x6/\x6<x7/\x7<m) (hk:0<=k) (hk2:k+ct bs<=4000000000000000000) (next:∀s',MB m n h0 x N sz row q i e' (k+ct bs) s'->Q .normal s'):aw E G dr (.region r a false) Q s:=by
 obtain⟨f,hf⟩:=W.zk;obtain⟨i1,i2,i3,i4,i5,i6,i7,i8⟩:=hx;have hi:=W.zh;obtain⟨l0,cs,rw',c,M,rfl,e2,e3,e4,e5,e6,e7,e8⟩:=Ai (j:=j) W.zt W.zh (hw e) hj (by rw [hcell];rfl);rw [hcell]at e6;refine kI ?_;generalize a.toList=L at hs;refine aM hs rfl (by rw [W.zm];show _<_;omega) λl hs=> ?_
 simp only [aH,ev,W.za,aB,St.put];refine aM hs rfl (by show _<s.m;rw [W.zm];omega) λl hs=> ?_
 simp only [aH,ev,au (show x1≠5 by omega),W.zi,aB,St.put];refine aM hs rfl (by show _<s.m;rw [W.zm];omega) λl hs=> ?_
 simp only [aH,ev,aL,au (show x2≠x1 by omega),aB,bV,hts,aD,hy,hte,jQ,ci,St.put];refine⟨hz.symm,ah,ah,?_⟩;rw [Int.toNat_natCast,Nat.zero_add];refine aM hs rfl (by show _<s.m;rw [W.zm];omega) λl hs=> ?_
 simp only [aH,ev,aL,aB,bF,hte,aD,hd,hfi,htl,St.put,Nat.zero_add];refine⟨by rw [hl1];decide,aM hs rfl (by show _<s.m;rw [W.zm];omega) λl hs=> ?_⟩;simp only [aH,ev,aL,aB,fF,htl,aD,e2,bZ,qG,e3,D9,mh,hla,Bool.false_eq_true,if_false,e5,nD,true_and,St.put];refine aM hs rfl (by show _<s.m;rw [W.zm];omega) λl hs=> ?_
 have n1:∀a b c d e,aA ((x5,a)::(x4,b)::(x3,c)::(x2,d)::(x1,e)::s.t) 1=aA s.t 1:=λa b c d e=>by rw [au ah,au ah,au ah,au ah,au ah]
 simp only [aH,ev,n1,hf,aB,St.put];refine tZ hs rfl (by show _<s.m;rw [W.zm];omega) λl hs=> ?_
 simp only [dw,jy,fnA,iK,aB,jf,ev,aL,au (show x6≠x5 by omega),hG,List.map,List.append_nil,St.put];refine⟨c,bs,k,f,M,rfl,e6,hB.1,hB.2,hk,hk2,λh' g t1 f1=> ?_⟩;refine aM hs rfl (by show _<s.m;rw [W.zm];omega) λl hs=> ?_
 simp only [aH,ev,aL,aB,St.put,Nat.add_zero];refine fH hs (next _ (W.put (e8 h' _ e' rfl hm t1 f1) (λz hz=>f1 z λa=>hz (e7 z a)) ?_ ?_ ⟨_,aL⟩))
 .rw [au (by decide),au ah,au ah,au ah,au ah,au ah,au ah,au ah]
 .rw [au (by decide),au ah,au ah,au ah,au ah,au ah,au ah,au ah]
theorem MB.T9{β:Type}{xw:β->List D}{mk:Int->List β->List β}{ct:List β->Int}{B:β->Prop}{szB:Nat}{bs:List β}{x1 x2 x3 x4 x8 x5 x6 x7 j j1 j2 fi fi2 g r:Nat}{ts te te2 tl:TypeId}{a:Array Oper}{y ye ye2 yl:TY}{fs fs2:List (Nat×TypeId)}{e':α}{Q:Exit->St->Prop}{ctt:Array TypeId}
  (hs:sk a.toList=[(some x1,.move (.tmp 0),true),(some x2,.move (.tmp 5),true),(some x3,.indexAddr ts (.tmp x1) (.tmp x2),true),(some x4,.fieldAddr te (.tmp x3) fi,true),(some x8,.fieldAddr te2 (.tmp x4) fi2,true),(some x5,.load tl (.tmp x8),true),(some x6,.move (.tmp 1),true),
   (some x7,.call {callee:= .value (.func g),args:= #[.tmp x5,.tmp x6],argTypes:=ctt},true),(some 1,.assign (.tmp x7),true)])
  (hts:E.ty ts=some y) (hy:y.desc= .slice te) (hte:E.ty te=some ye) (hz:ye.size=sz) (hd:ye.desc= .struct fs) (hfi:fs[fi]? =some (j1,te2)) (aiV:E.ty te2=some ye2) (hd2:ye2.desc= .struct fs2) (alR:fs2[fi2]? =some (j2,tl)) (alS:j1+j2=j) (htl:E.ty tl=some yl) (hl1:yl.size=1) (hla:yl.desc.agg=false) (hj:j<sz)
  (hG:G g=some (Hr szB xw mk ct B)) (hcell:(row e).getD j default= .rows szB (bs.map xw)) (hB:bs.length<=1000000000000000000/\∀b∈bs,B b) (hm:(row e).set j (.rows szB ((mk k bs).map xw))=row e')
  (hx:5<x1/\x1<x2/\x2<x3/\x3<x4/\x4<x8/\x8<x5/\x5<x6/\x6<x7/\x7<m/\ye2.size≠0) (hk:0<=k) (hk2:k+ct bs<=4000000000000000000) (next:∀s',MB m n h0 x N sz row q i e' (k+ct bs) s'->Q .normal s'):aw E G dr (.region r a false) Q s:=by
 obtain⟨f,hf⟩:=W.zk;obtain⟨i1,i2,i3,i4,i5,i6,i7,i8,i9,hz2⟩:=hx;subst alS;have hi:=W.zh;obtain⟨l0,cs,rw',c,M,rfl,e2,e3,e4,e5,e6,e7,e8⟩:=Ai (j:=j1+j2) W.zt W.zh (hw e) hj (by rw [hcell];rfl);rw [hcell]at e6;refine kI ?_;generalize a.toList=L at hs;refine aM hs rfl (by rw [W.zm];show _<_;omega) λl hs=> ?_
 simp only [aH,ev,W.za,aB,St.put];refine aM hs rfl (by show _<s.m;rw [W.zm];omega) λl hs=> ?_
 simp only [aH,ev,au (show x1≠5 by omega),W.zi,aB,St.put];refine aM hs rfl (by show _<s.m;rw [W.zm];omega) λl hs=> ?_
 simp only [aH,ev,aL,au (show x2≠x1 by omega),aB,bV,hts,aD,hy,hte,jQ,ci,St.put];refine⟨hz.symm,ah,ah,?_⟩;rw [Int.toNat_natCast,Nat.zero_add];refine aM hs rfl (by show _<s.m;rw [W.zm];omega) λl hs=> ?_
 simp only [aH,ev,aL,aB,bF,hte,aD,hd,hfi,aiV,St.put,Nat.zero_add];refine⟨hz2,aM hs rfl (by show _<s.m;rw [W.zm];omega) λl hs=> ?_⟩;simp only [aH,ev,aL,aB,bF,aiV,aD,hd2,alR,htl,St.put];refine⟨by rw [hl1];decide,aM hs rfl (by show _<s.m;rw [W.zm];omega) λl hs=> ?_⟩;simp only [aH,ev,aL,aB,fF,htl,aD,e2,bZ,qG,e3,D9,mh,hla,Bool.false_eq_true,if_false,e5,nD,true_and,St.put];refine aM hs rfl (by show _<s.m;rw [W.zm];omega) λl hs=> ?_
 have n1:∀a a' b c d e,aA ((x5,a)::(x8,a')::(x4,b)::(x3,c)::(x2,d)::(x1,e)::s.t) 1=aA s.t 1:=λa a' b c d e=>by rw [au ah,au ah,au ah,au ah,au ah,au ah]
 simp only [aH,ev,n1,hf,aB,St.put];refine tZ hs rfl (by show _<s.m;rw [W.zm];omega) λl hs=> ?_
 simp only [dw,jy,fnA,iK,aB,jf,ev,aL,au (show x6≠x5 by omega),hG,List.map,List.append_nil,St.put];refine⟨c,bs,k,f,M,rfl,e6,hB.1,hB.2,hk,hk2,λh' g t1 f1=> ?_⟩;refine aM hs rfl (by show _<s.m;rw [W.zm];omega) λl hs=> ?_
 simp only [aH,ev,aL,aB,St.put,Nat.add_zero];refine fH hs (next _ (W.put (e8 h' _ e' rfl hm t1 f1) (λz hz=>f1 z λa=>hz (e7 z a)) ?_ ?_ ⟨_,aL⟩))
 .rw [au (by decide),au ah,au ah,au ah,au ah,au ah,au ah,au ah,au ah]
 .rw [au (by decide),au ah,au ah,au ah,au ah,au ah,au ah,au ah,au ah]
end
end Go.AE
namespace Go.AE
open Go Go.TX
variable {E:Tab} {G:fO} {dr:jI}
theorem pK{α:Type}{sz:Nat}{row:α->List D}{mk:Int->List α->List α}{ct:List α->Int}{pre:List α->Nat->Int}{mk1:Int->α->α}{c1:α->Int}{B:α->Prop}(S:MkS mk ct pre mk1 c1){ts:TypeId}{y:TY}{m z:Nat}{a0 a1 a2 a3 a4:Array Oper}{body:Code}{fn:Func}{r0 r1 r2 r3 r4:Nat}{ty1 ty2 ty3 ty4:TypeId}
  (hts:E.ty ts=some y) (hsl:match y.desc with | .slice _=>True | _=>False) (hw:∀a,(row a).length=sz)
  (h0:sk a0.toList=[(some 4,.assign (.const (.int .i64 0)),true)]) (h1:sk a1.toList=[(some 5,.assign (.const (.int .i64 0)),true)])
  (h2:sk a2.toList=[(some 6,.move (.tmp 5),true),(some 7,.move (.tmp 0),true),(some 8,.call {callee:= .builtin .len,args:= #[.tmp 7],argTypes:= #[ts]},true),(some 9,.binOp .lss ty1 (.tmp 6) (.tmp 8) ty2,true)])
  (h3:sk a3.toList=[(some 10,.move (.tmp 5),true),(some 11,.binOp .add ty3 (.tmp 10) (.const (.int .i64 1)) ty4,true),(some 5,.assign (.tmp 11),true)])
  (h4:sk a4.toList=[(some z,.move (.tmp 1),true),(some 4,.assign (.tmp z),true)])
  (hr:fn.results.toList=[.tmp 4]) (hn:fn.ntmps=m) (hz:11<z/\z<m) {args:List PV} {h:Heap} {n:Nat} {K:PV->Heap->Nat->Prop} (hR:Hr sz row mk ct B args h n K)
  (step:∀(x:Cell) (N:Nat->Prop) (q:List α) (i:Nat) (e:α) (k:Int) s (Q:Exit->St->Prop),B e->0<=k->k+c1 e<=4000000000000000000->MB m n h x N sz row q i e k s->(∀s',MB m n h x N sz row q i (mk1 k e) (k+c1 e) s'->Q .normal s')->aw E G dr body Q s):
  dh E G dr fn (.seq (.region r0 a0 false) (.seq (.seq (.region r1 a1 false) (.block 0 (.loop (.seq (.seq (.region r2 a2 false) (.cond (.tmp 9) .skip (.exit 0))) (.seq (.block 1 body) (.region r3 a3 false)))))) (.seq (.region r4 a4 false) .ret))) args h n K:=by
 obtain⟨x,xs,k,f,N,rfl,tr,hl,hB,hk,hk2,hK⟩:=hR;unfold dh;have em: [PV.c x,PV.c (.d f (.int .i64 k))].length+(fn.ntmps- [PV.c x,PV.c (.d f (.int .i64 k))].length)=m:=by simp only [List.length];omega
 rw [em,hr];dsimp only [slotsOf];have len:oW (.c x)=λK=>K (ci .i64 xs.length):=by rw [tr.len,List.length_map]
 refine aP ?_;generalize a0.toList=L at h0;refine aM h0 rfl (by show 4<m;omega) λl h0=> ?_
 simp only [aH,ev,fD,aB,St.put];refine fH h0 (bG (aP ?_));generalize a1.toList=L at h1;refine aM h1 rfl (by show 5<m;omega) λl h1=> ?_
 simp only [aH,ev,fD,aB,St.put];refine fH h1 ?_;obtain⟨o0,l0,q0,e8,h2⟩:=dZ h2;obtain⟨o1,l1,rfl,e9,h2⟩:=dZ h2;obtain⟨o2,l2,rfl,e10,h2⟩:=dZ h2;obtain⟨o3,l3,rfl,e11,h2⟩:=dZ h2;obtain rfl:=yK h2;obtain rfl:=BQ q0;obtain⟨p0,l0,q1,e12,h3⟩:=dZ h3;obtain⟨p1,l1,rfl,e13,h3⟩:=dZ h3;obtain⟨p2,l2,rfl,e4,h3⟩:=dZ h3;obtain rfl:=yK h3;obtain rfl:=BQ q1;have S1:∀i,(mk k xs).length=xs.length/\(mid (mk k xs) xs i).length=xs.length:=λi=>⟨S.len k xs,TP (S.len k xs) i⟩
 let J:Nat->St->Prop:=λi s=>aA s.t 5=some (ci .i64 i)/\aA s.t 0=some (.c x)/\s.m=m/\s.n=n/\s.k=0/\(∃f,aA s.t 1=some (.c (.d f (.int .i64 (k+pre xs i)))))/\
  aN s.h x (.rows sz ((mid (mk k xs) xs i).map row)) N/\(∀l,¬N l->look s.h l=look h l)
 refine FB (n:=xs.length) (m:=m) (v:= .c x) J hts hsl len e8 e9 e10 e11 e12 e13 e4 ah (by decide) (by decide) (by decide) (by decide) (λi s hJ=>⟨hJ.1,hJ.2.1,hJ.2.2.1⟩) ah (λi s a b c d hJ=> ?_) ?_ (λi s hi hJ Q2 hQ=> ?_) (λs hJ=> ?_)
 .obtain⟨a1,a2,a3,a4,a5,⟨g,a6⟩,a7,a8⟩:=hJ;refine⟨?_,?_,a3,a4,a5,⟨g,?_⟩,a7,a8⟩<;>simp only [aA,reduceIte,Nat.reduceEqDiff]<;>assumption
 .refine⟨rfl,rfl,rfl,rfl,rfl,⟨f,?_⟩,?_,λ_ _=>rfl⟩
  .rw [S.z,Int.add_zero];rfl
  .rw [mid_zero];exact tr
 .obtain⟨a1,a2,a3,a4,a5,⟨g,a6⟩,a7,a8⟩:=hJ;have st:=S.step xs i hi;have le:=S.le xs (i+1) ah;have nn:=S.nn xs i;have gt:=S.get k xs i hi;have hmi:=TQ (S1 0).1 hi gt;rw [XR (S1 0).1 hi]at a7;refine rD (step x N (mid (mk k xs) xs i) i xs[i] (k+pre xs i) s _ (hB _ (List.getElem_mem hi)) ah ah ⟨a2,a1,⟨g,a6⟩,a3,a4,a5,a7,a8,by rw [(S1 i).2];exact hi⟩ λs' W=> ?_);show Q2 .normal s';refine hQ s' W.zi W.zm ?_;obtain⟨g',w1⟩:=W.zk;refine⟨aL,?_,W.zm,W.zn,W.zq,⟨g',?_⟩,?_,W.zf⟩
  .rw [au (by decide),au (by decide),au (by decide)];exact W.za
  .rw [au (by decide),au (by decide),au (by decide),w1,st,Int.add_assoc]
  .have t:=W.zt;rw [hmi]at t;exact t
 .obtain⟨b1,b2,b3,b4,b5,⟨g,b6⟩,b7,b8⟩:=hJ;rw [S.all]at b6;rw [mid_end (S1 0).1]at b7;show aw E G dr _ _ _;refine aP ?_;generalize a4.toList=L at h4;refine aM h4 rfl (by rw [b3];exact hz.2) λl h4=> ?_
  simp only [aH,ev,b6,aB,St.put];refine aM h4 rfl (by show 4<s.m;omega) λl h4=> ?_
  simp only [aH,ev,aL,aB,St.put];refine fH h4 (lQ ?_);simp only [pX,oh,aL,aB,one];refine⟨b4,?_⟩;rw [b5];exact hK _ g b7 b8
structure XB(m n:Nat)(h0:Heap)(sz:Nat)(cs:List Cell)(M:Nat->Nat->Prop)(d:List D)(k:Int)(s:St):Prop where
 zk:∃f,aA s.t 1=some (.c (.d f (.int .i64 k)))
 z2:aA s.t 2=some (.c (.ptr (nm n 0) sz 0 0))
 zb:look s.h (nm n 0)=some (.box cs)
 zt:bO s.h sz cs d M
 zM:∀j x,j<sz->M j x->x<n
 zf:∀l,l<n->(∀q,q<sz->¬M q l)->look s.h l=look h0 l
 zm:s.m=m
 zn:s.n=n
 zq:1<=s.k
 zd:d.length=sz
theorem XB.put{m n:Nat}{h0:Heap}{sz:Nat}{cs:List Cell}{M:Nat->Nat->Prop}{d:List D}{k k':Int}{s:St}(W:XB m n h0 sz cs M d k s){off w j:Nat}{h':Heap}{d':List D}(ho:off+w<=sz)(hd':d'.length=w)
  (t':bO h' w ((cs.drop off).take w) d' (λq=>M (off+q))) (f:∀l,l<nm n s.k->(∀q,q<w->¬M (off+q) l)->look h' l=look s.h l) {t:Slots} (e2:aA t 2=aA s.t 2) (e1:∃f,aA t 1=some (.c (.d f (.int .i64 k')))):
  XB m n h0 sz cs M (cB d d' off) k' {t:=t,h:=h',n:=s.n,k:=s.k+j,m:=s.m}:=by
 obtain⟨zk,z2,zb,zt,zM,zf,zm,zn,zq,zd⟩:=W;have hl:=zt.len;have fr:∀j x,j<sz->M j x->(j<off\/off+w<=j)->look h' x=look s.h x:=λj x hj hx ho'=>f x (by have:=zM j x hj hx;unfold nm;omega) λq hq hx'=>by have:=zt.one j (off+q) x hj ah hx hx';omega
 refine⟨e1,e2.trans z2,?_,⟨hl,λj hj=> ?_,zt.one⟩,zM,λl hl hn=> ?_,zm,zn,by show 1<=s.k+_;omega,by unfold cB;simp;omega⟩
 .rw [f _ (by unfold nm;omega) λq hq hx=>by have:=zM _ _ ah hx;unfold nm at this;omega];exact zb
 .unfold cB;rw [hd',FR hd' ah];split
  .rename_i hj';have:=t'.cell (j-off) ah;rw [show off+(j-off)=j by omega]at this;have e:((cs.drop off).take w).getD (j-off) default=cs.getD j default:=by
    simp only [List.getD,List.getElem?_take,List.getElem?_drop,show j-off<w by omega,if_true,show off+(j-off)=j by omega]
   rwa [e]at this
  .exact(zt.cell j hj).frame λx hx=>fr j x hj hx ah
 .rw [f l (by unfold nm;omega) λq hq=>hn _ ah];exact zf l hl hn
theorem XB.sub{m n:Nat}{h0:Heap}{sz:Nat}{cs:List Cell}{M:Nat->Nat->Prop}{d:List D}{k:Int}{s:St}(W:XB m n h0 sz cs M d k s){off w:Nat}(ho:off+w<=sz):bO s.h w ((cs.drop off).take w) ((d.drop off).take w) (λq=>M (off+q)):=by
 have g1:∀ {α:Type} (l:List α) (z:α) (j:Nat),j<w->((l.drop off).take w).getD j z=l.getD (off+j) z:=λl z j hj=>by simp [List.getD,List.getElem?_take,hj,List.getElem?_drop]
 refine⟨by have:=W.zt.len;simp;omega,λj hj=> ?_,λj j' x hj hj' hx hx'=> ?_⟩
 .rw [g1 _ _ j hj,g1 _ _ j hj];exact W.zt.cell _ ah
 .have:=W.zt.one _ _ x (show off+j<sz by omega) (show off+j'<sz by omega) hx hx';omega
section
variable {m n:Nat} {h0:Heap} {sz:Nat} {cs:List Cell} {M:Nat->Nat->Prop} {d:List D} {k:Int} {s:St} (W:XB m n h0 sz cs M d k s)
include W
theorem XB.li{β:Type}{xw:β->List D}{mk:Int->List β->List β}{ct:List β->Int}{B:β->Prop}{szB:Nat}{bs:List β}{x1 x2 x3 x4 fi off g r:Nat}{T ty:TypeId}{a:Array Oper}{yT yl:TY}{fs:List (Nat×TypeId)}{rest:Code}{Q:Exit->St->Prop}{ctt:Array TypeId}
  (hs:sk a.toList=[(some x1,.fieldAddr T (.tmp 2) fi,true),(some x2,.load ty (.tmp x1),true),(some x3,.move (.tmp 1),true),(some x4,.call {callee:= .value (.func g),args:= #[.tmp x2,.tmp x3],argTypes:=ctt},true),(some 1,.assign (.tmp x4),true)])
  (hT:E.ty T=some yT) (hd:yT.desc= .struct fs) (hfi:fs[fi]? =some (off,ty)) (hty:E.ty ty=some yl) (hl1:yl.size=1) (hla:yl.desc.agg=false) (ho:off<sz)
  (hG:G g=some (Hr szB xw mk ct B)) (hcell:d.getD off default= .rows szB (bs.map xw)) (hB:bs.length<=1000000000000000000/\∀b∈bs,B b)
  (hx:4<x1/\x1<x2/\x2<x3/\x3<x4/\x4<m) (hk:0<=k) (hk2:k+ct bs<=4000000000000000000) (next:∀s',XB m n h0 sz cs M (cB d [.rows szB ((mk k bs).map xw)] off) (k+ct bs) s'->aw E G dr rest Q s'):aw E G dr (.seq (.region r a false) rest) Q s:=by
 obtain⟨f,hf⟩:=W.zk;obtain⟨i1,i2,i3,i4,i5⟩:=hx;have hc:cs[off]? =some (cs.getD off default):=by simp [List.getD,show off<cs.length by rw [W.zt.len];exact ho]
 have tr:=W.zt.cell off ho;rw [hcell]at tr;refine aP ?_;generalize a.toList=L at hs;refine aM hs rfl (by rw [W.zm];show _<_;omega) λl hs=> ?_
 simp only [aH,ev,W.z2,aB,bF,hT,aD,hd,hfi,hty,St.put,Nat.zero_add];refine⟨by rw [hl1];decide,aM hs rfl (by show _<s.m;rw [W.zm];omega) λl hs=> ?_⟩;simp only [aH,ev,aL,aB,fF,hty,aD,W.zb,bZ,qG,mh,hla,Bool.false_eq_true,if_false,hc,nD,true_and,St.put];refine aM hs rfl (by show _<s.m;rw [W.zm];omega) λl hs=> ?_
 simp only [aH,ev,au (show x1≠1 by omega),au (show x2≠1 by omega),hf,aB,St.put];refine tZ hs rfl (by show _<s.m;rw [W.zm];omega) λl hs=> ?_
 simp only [dw,jy,fnA,iK,aB,jf,ev,aL,au (show x3≠x2 by omega),hG,List.map,List.append_nil,St.put];refine⟨_,bs,k,f,M off,rfl,tr,hB.1,hB.2,hk,hk2,λh' g t1 f1=> ?_⟩;refine aM hs rfl (by show _<s.m;rw [W.zm];omega) λl hs=> ?_
 simp only [aH,ev,aL,aB,St.put];refine fH hs (next _ (W.put (j:=0) (w:=1) ah rfl ⟨by have:=W.zt.len;simp;omega,λq hq=> ?_,λa b _ _ _ _ _=>by omega⟩ (λl _ hq=>f1 l (hq 0 (by decide))) ?_ ⟨_,aL⟩))
 .have:q=0:=by omega
  subst this;have e:((cs.drop off).take 1).getD 0 default=cs.getD off default:=by simp [List.getD,List.getElem?_take,List.getElem?_drop]
  rw [e];exact t1
 .rw [au (by decide),au ah,au ah,au ah,au ah]
theorem XB.st{β:Type}{xw:β->List D}{mk:Int->β->β}{ct:β->Int}{B:β->Prop}{w:Nat}{b:β}{x1 x2 x3 x4 fi off g r:Nat}{T ty:TypeId}{a:Array Oper}{yT yl:TY}{fs:List (Nat×TypeId)}{rest:Code}{Q:Exit->St->Prop}{ctt:Array TypeId}
  (hs:sk a.toList=[(some x1,.fieldAddr T (.tmp 2) fi,true),(some x2,.load ty (.tmp x1),true),(some x3,.move (.tmp 1),true),(some x4,.call {callee:= .value (.func g),args:= #[.tmp x2,.tmp x3],argTypes:=ctt},true),(some 1,.assign (.tmp x4),true)])
  (hT:E.ty T=some yT) (hd:yT.desc= .struct fs) (hfi:fs[fi]? =some (off,ty)) (hty:E.ty ty=some yl) (hl1:yl.size=w) (hw:w≠0) (hla:yl.desc.agg=true) (ho:off+w<=sz)
  (hG:G g=some (VK w xw mk ct B)) (hcell:(d.drop off).take w=xw b) (hB:B b) (hrw:(xw (mk k b)).length=w)
  (hx:4<x1/\x1<x2/\x2<x3/\x3<x4/\x4<m) (hk:0<=k) (hk2:k+ct b<=4000000000000000000) (next:∀s',XB m n h0 sz cs M (cB d (xw (mk k b)) off) (k+ct b) s'->aw E G dr rest Q s'):aw E G dr (.seq (.region r a false) rest) Q s:=by
 obtain⟨f,hf⟩:=W.zk;obtain⟨i1,i2,i3,i4,i5⟩:=hx;have tr:=W.sub ho;rw [hcell]at tr;have hcl:=W.zt.len;refine aP ?_;generalize a.toList=L at hs;refine aM hs rfl (by rw [W.zm];show _<_;omega) λl hs=> ?_
 simp only [aH,ev,W.z2,aB,bF,hT,aD,hd,hfi,hty,St.put,Nat.zero_add];refine⟨by rw [hl1];exact hw,aM hs rfl (by show _<s.m;rw [W.zm];omega) λl hs=> ?_⟩;simp only [aH,ev,aL,aB,fF,hty,aD,W.zb,bZ,qG,mh,hla,if_true,hl1,true_and,St.put];refine⟨ah,aM hs rfl (by show _<s.m;rw [W.zm];omega) λl hs=> ?_⟩;simp only [aH,ev,au (show x1≠1 by omega),au (show x2≠1 by omega),hf,aB,St.put];refine tZ hs rfl (by show _<s.m;rw [W.zm];omega) λl hs=> ?_
 simp only [dw,jy,fnA,iK,aB,jf,ev,aL,au (show x3≠x2 by omega),hG,List.map,List.append_nil,St.put];refine⟨_,b,k,f,_,rfl,tr,λj x hj hx=> ?_,hB,hk,hk2,λh' g j t1 f1=> ?_⟩
 .have:=W.zM _ x (show off+j<sz by omega) hx;have:=W.zn;unfold nm;omega
 rw [W.zn]at f1;refine aM hs rfl (by show _<s.m;rw [W.zm];omega) λl hs=> ?_
 simp only [aH,ev,aL,aB,St.put];refine fH hs (next _ (W.put (w:=w) ho hrw t1 f1 ?_ ⟨_,aL⟩));rw [au (by decide),au ah,au ah,au ah,au ah]
theorem XB.fin{z r:Nat}{a:Array Oper}{rs:List ResultVar}{K:PV->Heap->Nat->Prop}(hs:sk a.toList=[(some z,.move (.tmp 1),true),(some 4,.assign (.tmp z),true)])(hz:4<z/\z<m)(hrs:rs=[.tmp 4])
  (hK:∀h' g j,bO h' sz cs d M->(∀l,l<n->(∀q,q<sz->¬M q l)->look h' l=look h0 l)->K (.c (.d g (.int .i64 k))) h' j):aw E G dr (.seq (.region r a false) .ret) (pX E rs n K) s:=by
 subst hrs;obtain⟨f,hf⟩:=W.zk;refine aP ?_;generalize a.toList=L at hs;refine aM hs rfl (by rw [W.zm];exact hz.2) λl hs=> ?_
 simp only [aH,ev,hf,aB,St.put];refine aM hs rfl (by show 4<s.m;rw [W.zm];omega) λl hs=> ?_
 simp only [aH,ev,aL,aB,St.put];refine fH hs (lQ ?_);simp only [pX,oh,aL,aB,one];exact⟨W.zn,hK _ f _ W.zt W.zf⟩
end
theorem KP{β:Type}{sz:Nat}{row:β->List D}{mk:Int->β->β}{ct:β->Int}{B:β->Prop}{T:TypeId}{m r0:Nat}{a0:Array Oper}{fn:Func}{rest:Code}(hrow:∀b,(row b).length=sz)(hsz:sz≠0)
  (h0:sk a0.toList=[(some 2,.box T (.tmp 0),true),(some 4,.assign (.const (.int .i64 0)),true)]) (hn:fn.ntmps=m) (hm:4<m) {args:List PV} {h:Heap} {n:Nat} {K:PV->Heap->Nat->Prop} (hR:VK sz row mk ct B args h n K)
  (next:∀(cs:List Cell) (b:β) (k:Int) (M:Nat->Nat->Prop) s,B b->0<=k->k+ct b<=4000000000000000000->XB m n h sz cs M (row b) k s->
   (∀h' g j,bO h' sz cs (row (mk k b)) M->(∀l,l<n->(∀q,q<sz->¬M q l)->look h' l=look h l)->K (.c (.d g (.int .i64 (k+ct b)))) h' j)->aw E G dr rest (pX E fn.results.toList n K) s):
  dh E G dr fn (.seq (.region r0 a0 false) rest) args h n K:=by
 obtain⟨cs,b,k,f,M,rfl,tr,hM,hB,hk,hk2,hK⟩:=hR;unfold dh;have em: [PV.agg cs,PV.c (.d f (.int .i64 k))].length+(fn.ntmps- [PV.agg cs,PV.c (.d f (.int .i64 k))].length)=m:=by simp only [List.length];omega
 rw [em];dsimp only [slotsOf];refine aP ?_;generalize a0.toList=L at h0;refine jM h0 rfl (by show 2<m;omega) λl h0=> ?_
 simp only [aX,ev,aL,aB,aI,St.put];refine⟨by rw [tr.len];exact hsz,?_⟩;refine aM h0 rfl (by show 4<m;omega) λl h0=> ?_
 simp only [aH,ev,fD,aB,St.put];refine fH h0 (next cs b k M _ hB hk hk2 ⟨⟨f,rfl⟩,by rw [tr.len];rfl,ay _ _ _,tr.frame λj x hj hx=>aj _ _ ?_,hM,λl hl _=>aj _ _ ?_,rfl,rfl,Nat.le_refl _,hrow b⟩ hK)
 .have:=hM j x hj hx;unfold nm;omega
 .unfold nm;omega
end Go.AE
namespace Go.AE
open Go
variable {E:Tab} {G:fO} {dr:jI}
end Go.AE
namespace Go.TX
open Go Go.AE
def L_b(co:Co)(G:co.den->Prop)(p:co.den->Bool):Trans:=λargs h n K=>∃(cs:List Cell) (a:co.den),args=[.agg cs]/\F2 (jL h) cs ((lx co a).map (.d true))/\G a/\∀g,K (.c (.d g (.bool (p a)))) h 0
def aiW(co:Co)(G:co.den->Prop)(p:co.den->co.den->Bool):Trans:=λargs h n K=>∃(cs ds:List Cell) (a b:co.den),args=[.agg cs,.agg ds]/\F2 (jL h) cs ((lx co a).map (.d true))/\F2 (jL h) ds ((lx co b).map (.d true))/\G a/\∀g,K (.c (.d g (.bool (p a b)))) h 0
def afJ(co:Co)(G:co.den->Int->Prop)(p:co.den->Int->Int):Trans:=λargs h n K=>∃(cs:List Cell) (a:co.den) (k:Int) (f:Bool),args=[.agg cs,.c (.d f (.int .i64 k))]/\F2 (jL h) cs ((lx co a).map (.d true))/\G a k/\∀g,K (.c (.d g (.int .i64 (p a k)))) h 0
theorem iN{E:Tab}{f:FuncId}{R S:Trans}(hR:aK E f R)(h:∀args h n K,S args h n K->R args h n K):aK E f S:=
 ⟨hR.enters,λargs hh n K hk=>hR.calls args hh n K (h _ _ _ _ hk)⟩
variable {E:Tab} {f:FuncId}
theorem X3{co:Co}{G:co.den->Prop}{p:co.den->Bool}{ct:Ct aJ ⟨[.sv false co],[],[.c .bool],[]⟩}(h:aK E f (bT ct))(hp:∀x,G x->ct.pre (x,())=true/\ct.fn (x,())=(p x,())):aK E f (L_b co G p):=
 iN (DX h) λargs hh n K=>by
  rintro⟨cs,a,rfl,hc,hG,hK⟩;obtain⟨q1,q2⟩:=hp a hG;obtain⟨cr,e1,e2,e3⟩:=afH true ct a;refine⟨[.agg ((lx co a).map (.d true))],.cons (.agg hc) .nil,yJ [.sv true co a] (.cons xM .nil) e1 (λb hb=> ?_) e3 λr h'' j hr _ _=> ?_⟩
  .rw [e2]at hb;rw [List.mem_singleton.1 hb];exact q1
  .obtain⟨g,rfl⟩:=XV hr;exact⟨.bool _ _,by rw [q2];exact hK g⟩
theorem X4{co:Co}{G:co.den->Prop}{p:co.den->co.den->Bool}{ct:Ct aJ ⟨[.sv false co,.sv false co],[],[.c .bool],[]⟩}(h:aK E f (bT ct))(hp:∀x y,G x->ct.pre (x,y,())=true/\ct.fn (x,y,())=(p x y,())):aK E f (aiW co G p):=
 iN (DX h) λargs hh n K=>by
  rintro⟨cs,ds,a,b,rfl,hc,hd,hG,hK⟩;obtain⟨q1,q2⟩:=hp a b hG;exact acB (x:=a) (y:=b) hc hd q1 λg=>by rw [q2];exact hK g
theorem X5{co:Co}{G:co.den->Int->Prop}{p:co.den->Int->Int}{ct:Ct aJ ⟨[.sv false co,.c (.int .i64)],[],[.c (.int .i64)],[]⟩}(h:aK E f (bT ct))(hp:∀x k,G x k->ct.pre (x,k,())=true/\ct.fn (x,k,())=(p x k,())):aK E f (afJ co G p):=
 iN (DX h) λargs hh n K=>by
  rintro⟨cs,a,k,f,rfl,hc,hG,hK⟩;obtain⟨q1,q2⟩:=hp a k hG;exact TU (x:=a) hc q1 λg=>by rw [q2];exact hK g
end Go.TX
namespace Go.AE
open Go
theorem yM{E:Tab}{G:fO}{ops l:List Oper}{K P:St->Prop}{s:St}(h1:∀s,P s->K s)(h2:∀K:St->Prop,(∀s,P s->K s)->aF E G ops l K s):aF E G ops l K s:=h2 K h1
theorem mQ{E:Tab}{G:fO}{dr:jI}{b:Code}{Q:Exit->St->Prop}{s:St}(h:aw E G dr b Q s):aw E G dr .skip (zF (aw E G dr b Q) Q) s:=h
variable {E:Tab} {G:fO} {dr:jI}
structure HS(h:Heap)(q:Nat)(bx:List (Nat×List Cell))(ts:List (List Cell×List D)):Prop where
 b:∀(i l:Nat) (cs:List Cell),bx[i]? =some (l,cs)->look h l=some (.box cs)/\l<q
 t:∃M:Nat->Nat->Nat->Prop,(∀i cs d,ts[i]? =some (cs,d)->bO h d.length cs d (M i)/\∀j l,j<d.length->M i j l->l<q/\∀(a b:Nat) (c:List Cell),bx[a]? =some (b,c)->l≠b)/\
  ∀i i' cs d cs' d' j j' l,ts[i]? =some (cs,d)->ts[i']? =some (cs',d')->i≠i'->j<d.length->j'<d'.length->M i j l->M i' j' l->False
theorem HS.nil{h:Heap}{q:Nat}:HS h q [] []:=⟨λi l cs h=>(by simp at h),λ_ _ _=>False,λi cs d h=>(by simp at h),λ_ _ _ _ _ _ _ _ _ h=>(by simp at h)⟩
theorem HS.frame{h h':Heap}{q q':Nat}{bx:List (Nat×List Cell)}{ts:List (List Cell×List D)}(H:HS h q bx ts)(hq:q<=q')(f:∀l,l<q->look h' l=look h l):HS h' q' bx ts:=by
 obtain⟨b,M,t,o⟩:=H;refine⟨λi l cs hi=>⟨(f l (b i l cs hi).2).trans (b i l cs hi).1,Nat.lt_of_lt_of_le (b i l cs hi).2 hq⟩,M,λi cs d hi=> ?_,o⟩;obtain⟨t1,t2⟩:=t i cs d hi;exact⟨t1.frame λj x hj hx=>f x (t2 j x hj hx).1,λj l hj hl=>⟨Nat.lt_of_lt_of_le (t2 j l hj hl).1 hq,(t2 j l hj hl).2⟩⟩
theorem HS.box{h:Heap}{q:Nat}{bx:List (Nat×List Cell)}{ts:List (List Cell×List D)}(H:HS h q bx ts)(cs:List Cell):HS ((q,.box cs)::h) (q+1) ((q,cs)::bx) ts:=by
 have H':HS ((q,.box cs)::h) (q+1) bx ts:=H.frame (Nat.le_succ q) λl hl=>aj _ _ (Nat.ne_of_gt hl)
 obtain⟨b,M,t,o⟩:=H';refine⟨λi l c hi=> ?_,M,λi c d hi=>⟨(t i c d hi).1,λj l hj hl=>⟨((t i c d hi).2 j l hj hl).1,λa b' c' ha=> ?_⟩⟩,o⟩
 .cases i with
  | zero=>simp only [List.getElem?_cons_zero,Option.some.injEq,Prod.mk.injEq]at hi;obtain⟨rfl,rfl⟩:=hi;exact⟨ay _ _ _,Nat.lt_succ_self _⟩
  | succ i=>exact b i l c (by simpa using hi)
 .cases a with
  | zero=>
   simp only [List.getElem?_cons_zero,Option.some.injEq,Prod.mk.injEq]at ha;obtain⟨rfl,rfl⟩:=ha;rintro rfl;obtain⟨o1,h1,h2⟩:=((t i c d hi).1.cell j hj).kf.2 l hl;rw [ay]at h1;cases h1;exact h2
  | succ a=>exact((t i c d hi).2 j l hj hl).2 a b' c' (by simpa using ha)
theorem HS.tree{h h':Heap}{q j:Nat}{bx:List (Nat×List Cell)}{ts:List (List Cell×List D)}(H:HS h q bx ts){cs:List Cell}{d:List D}{M:Nat->Nat->Prop}(t:bO h' d.length cs d M)(r:∀i x,i<d.length->M i x->q<=x/\x<q+j)(f:∀l,l<q->look h' l=look h l):
  HS h' (q+j) bx ((cs,d)::ts):=by
 have b:=(HS.frame (q':=q+j) H (Nat.le_add_right _ _) f).b;obtain⟨bq,M2,t2,o2⟩:=H;have tq:∀i c d',ts[i]? =some (c,d')->∀j l,j<d'.length->M2 i j l->l<q:=λi c d' hi j l hj hl=>((t2 i c d' hi).2 j l hj hl).1
 refine⟨b,λi=>match i with | 0=>M | i+1=>M2 i,λi c d' hi=> ?_,λi i' c d' c' d'' a a' l hi hi' ne ha ha' hl hl'=> ?_⟩
 .cases i with
  | zero=>
   simp only [List.getElem?_cons_zero,Option.some.injEq,Prod.mk.injEq]at hi;obtain⟨rfl,rfl⟩:=hi;exact⟨t,λa l ha hl=>⟨(r a l ha hl).2,λa' b' c' ha' e=>by have:=(bq a' b' c' ha').2;have:=(r a l ha hl).1;omega⟩⟩
  | succ i=>
   have hi:ts[i]? =some (c,d'):=by simpa using hi
   obtain⟨u1,u2⟩:=t2 i c d' hi;exact⟨u1.frame λa x ha hx=>f x (u2 a x ha hx).1,λa l ha hl=>⟨Nat.lt_of_lt_of_le (u2 a l ha hl).1 (Nat.le_add_right _ _),(u2 a l ha hl).2⟩⟩
 .cases i with
  | zero=>
   simp only [List.getElem?_cons_zero,Option.some.injEq,Prod.mk.injEq]at hi;obtain⟨rfl,rfl⟩:=hi;cases i' with
   | zero=>exact ne rfl
   | succ i'=>have:=(r a l ha hl).1;have:=tq i' c' d'' (by simpa using hi') a' l ha' hl';omega
  | succ i=>
   cases i' with
   | zero=>
    simp only [List.getElem?_cons_zero,Option.some.injEq,Prod.mk.injEq]at hi';obtain⟨rfl,rfl⟩:=hi';have:=(r a' l ha' hl').1;have:=tq i c d' (by simpa using hi) a l ha hl;omega
   | succ i'=>exact o2 i i' c d' c' d'' a a' l (by simpa using hi) (by simpa using hi') ah ha ha' hl hl'
theorem bO.sO{h:Heap}{cs:List Cell}{d:List D}{M:Nat->Nat->Prop}(t:bO h d.length cs d M):F2 (jL h) cs (d.map (.d true)):=
 F2.sZ (by simp [t.len]) λi a b ha hb=>by
  simp only [List.getElem?_map,Option.map_eq_some_iff]at hb;obtain⟨d0,hd,rfl⟩:=hb;have hi:i<d.length:=(List.getElem?_eq_some_iff.1 hd).1;have:=t.cell i hi;rw [show cs.getD i default=a by simp [List.getD,ha],show d.getD i default=d0 by simp [List.getD,hd]]at this;exact .tree this
theorem HS.sO{h:Heap}{q:Nat}{bx:List (Nat×List Cell)}{ts:List (List Cell×List D)}(H:HS h q bx ts){i:Nat}{cs:List Cell}{d:List D}(hi:ts[i]? =some (cs,d)):F2 (jL h) cs (d.map (.d true)):=by
 obtain⟨_,M,t,_⟩:=H;exact(t i cs d hi).1.sO
theorem HS.turn{h:Heap}{q i:Nat}{bx:List (Nat×List Cell)}{ts:List (List Cell×List D)}(H:HS h q bx ts){cs:List Cell}{d:List D}(hi:ts[i]? =some (cs,d)):∃M:Nat->Nat->Prop,bO h d.length cs d M/\(∀j x,j<d.length->M j x->x<q)/\
  ∀(h':Heap) (q':Nat) (d':List D),d'.length=d.length->q<=q'->bO h' d.length cs d' M->(∀l,l<q->(∀j,j<d.length->¬M j l)->look h' l=look h l)->HS h' q' bx (ts.set i (cs,d')):=by
 obtain⟨b,M,t,o⟩:=H;obtain⟨t0,r0⟩:=t i cs d hi;refine⟨M i,t0,λj x hj hx=>(r0 j x hj hx).1,λh' q' d' hl hq t' f=>⟨λa l c ha=>⟨(f l (b a l c ha).2 λj hj hx=>(r0 j l hj hx).2 a l c ha rfl).trans (b a l c ha).1,Nat.lt_of_lt_of_le (b a l c ha).2 hq⟩,M,λa c e ha=> ?_,λa a' c e c' e' j j' l ha ha' ne hj hj' hx hx'=> ?_⟩⟩
 .by_cases e1:i=a
  .subst e1;rw [List.getElem?_set_self (List.getElem?_eq_some_iff.1 hi).1,Option.some.injEq,Prod.mk.injEq]at ha;obtain⟨rfl,rfl⟩:=ha;exact⟨by rw [hl];exact t',λj l hj hx=>⟨Nat.lt_of_lt_of_le (r0 j l ah hx).1 hq,(r0 j l ah hx).2⟩⟩
  .rw [List.getElem?_set_ne e1]at ha;obtain⟨u1,u2⟩:=t a c e ha;exact⟨u1.frame λj x hj hx=>f x (u2 j x hj hx).1 λj' hj' hx'=>o i a cs d c e j' j x hi ha e1 hj' hj hx' hx,λj l hj hx=>⟨Nat.lt_of_lt_of_le (u2 j l hj hx).1 hq,(u2 j l hj hx).2⟩⟩
 .have un:∀ {a:Nat} {c:List Cell} {e:List D},(ts.set i (cs,d'))[a]? =some (c,e)->∃c0 e0,ts[a]? =some (c0,e0)/\e0.length=e.length:=λ{a c e} ha=>by
   by_cases e1:i=a
   .subst e1;rw [List.getElem?_set_self (List.getElem?_eq_some_iff.1 hi).1,Option.some.injEq,Prod.mk.injEq]at ha;obtain⟨rfl,rfl⟩:=ha;exact⟨_,_,hi,hl.symm⟩
   .rw [List.getElem?_set_ne e1]at ha;exact⟨_,_,ha,rfl⟩
  obtain⟨_,_,p1,p2⟩:=un ha;obtain⟨_,_,p3,p4⟩:=un ha';exact o a a' _ _ _ _ j j' l p1 p3 ne ah ah hx hx'
theorem dR{ops r:List Oper}{o:Oper}{K:St->Prop}{t_:Slots}{h_:Heap}{n_ k_ m_:Nat}{ty:TypeId}{i d l w q a:Nat}{cs:List Cell}{y:TY}{bx:List (Nat×List Cell)}{ts:List (List Cell×List D)}(H:HS h_ q bx ts)(e:eo (some d) (.load ty (.tmp i)) o)(hd:d<m_)(hl:aA t_ i=some (.c (.ptr l w 0 0)))
  (hb:bx[a]? =some (l,cs)) (hy:E.ty ty=some y) (hag:y.desc.agg=true) (hsz:y.size=cs.length) (h:aF E G ops r K ⟨(d,some (.agg cs))::t_,h_,n_,k_,m_⟩):aF E G ops (o::r) K ⟨t_,h_,n_,k_,m_⟩:=by
 refine e.pure rfl hd ?_;simp only [aH,ev,hl,aB,fF,hy,aD,(H.b a l cs hb).1,bZ,qG,mh,hag,if_true,true_and,hsz,List.drop_zero,List.take_length,Nat.zero_add];exact⟨Nat.le_refl _,h⟩
theorem dS{ops r:List Oper}{o:Oper}{K:St->Prop}{t_:Slots}{h_:Heap}{n_ k_ m_:Nat}{i d:Nat}{v:PV}(e:eo (some d) (.move (.tmp i)) o)(hd:d<m_)(hl:aA t_ i=some v)(h:aF E G ops r K ⟨(d,some v)::t_,h_,n_,k_,m_⟩):aF E G ops (o::r) K ⟨t_,h_,n_,k_,m_⟩:=by
 refine e.pure rfl hd ?_;simp only [aH,ev,hl,aB];exact h
theorem rF{ops r:List Oper}{o:Oper}{K:St->Prop}{t_:Slots}{h_:Heap}{n_ k_ m_:Nat}{i d:Nat}{v:PV}(e:eo (some d) (.assign (.tmp i)) o)(hd:d<m_)(hl:aA t_ i=some v)(h:aF E G ops r K ⟨(d,some v)::t_,h_,n_,k_,m_⟩):aF E G ops (o::r) K ⟨t_,h_,n_,k_,m_⟩:=by
 refine e.pure rfl hd ?_;simp only [aH,ev,hl,aB];exact h
theorem sP{ops r:List Oper}{o:Oper}{K:St->Prop}{t_:Slots}{h_:Heap}{n_ k_ m_:Nat}{d:Nat}{v:Value}{p:PV}(e:eo (some d) (.assign (.const v)) o)(hd:d<m_)(hv:fD v=some p)(h:aF E G ops r K ⟨(d,some p)::t_,h_,n_,k_,m_⟩):aF E G ops (o::r) K ⟨t_,h_,n_,k_,m_⟩:=by
 refine e.pure rfl hd ?_;simp only [aH,ev,hv,aB];exact h
theorem BS{ops r:List Oper}{o:Oper}{K:St->Prop}{t_:Slots}{h_:Heap}{n_ k_ m_:Nat}{i d:Nat}{f b:Bool}{ty:TypeId}(e:eo (some d) (.unOp .not ty (.tmp i)) o)(hd:d<m_)(hl:aA t_ i=some (.c (.d f (.bool b))))(h:aF E G ops r K ⟨(d,some (cb (!b)))::t_,h_,n_,k_,m_⟩):aF E G ops (o::r) K ⟨t_,h_,n_,k_,m_⟩:=by
 refine e.pure rfl hd ?_;simp only [aH,ev,hl,aB,unA];exact h
theorem yN{ops r:List Oper}{o:Oper}{K:St->Prop}{t_:Slots}{h_:Heap}{n_ k_ m_:Nat}{i d:Nat}{f:Bool}{k:Int}{t1 t2:TypeId}(e:eo (some d) (.binOp .lss t1 (.tmp i) (.const (.int .i64 0)) t2) o)(hd:d<m_)(hl:aA t_ i=some (.c (.d f (.int .i64 k))))(h:aF E G ops r K ⟨(d,some (cb (decide (k<0))))::t_,h_,n_,k_,m_⟩):aF E G ops (o::r) K ⟨t_,h_,n_,k_,m_⟩:=by
 refine e.pure rfl hd ?_;simp only [aH,ev,hl,aB,fD,ci,mq,iB,true_or,true_and];exact h
theorem adH{ops r:List Oper}{o:Oper}{K:St->Prop}{t_:Slots}{h_:Heap}{n_ k_ m_:Nat}{i j d:Nat}{f g:Bool}{k k':Int}{t1 t2:TypeId}(e:eo (some d) (.binOp .neq t1 (.tmp i) (.tmp j) t2) o)(hd:d<m_)(hl:aA t_ i=some (.c (.d f (.int .i64 k))))(hr:aA t_ j=some (.c (.d g (.int .i64 k'))))
  (h:aF E G ops r K ⟨(d,some (cb (!decide (k=k'))))::t_,h_,n_,k_,m_⟩):aF E G ops (o::r) K ⟨t_,h_,n_,k_,m_⟩:=by
 refine e.pure rfl hd ?_;simp only [aH,ev,hl,hr,aB,mq,iB,true_or,true_and];exact h
theorem NQ{ops r:List Oper}{o:Oper}{K:St->Prop}{t_:Slots}{h_:Heap}{n_ k_ m_:Nat}{f:FuncId}{R:Trans}{i d:Nat}{v:PV}{ct:Array TypeId}(e:eo (some d) (.call {callee:= .value (.func f),args:= #[.tmp i],argTypes:=ct}) o)(hd:d<m_)(hl:aA t_ i=some v)(hG:G f=some R)
  (h:R [v] h_ (nm n_ k_) λu h' j=>aF E G ops r K ⟨(d,some u)::t_,h',n_,k_+j,m_⟩):aF E G ops (o::r) K ⟨t_,h_,n_,k_,m_⟩:=by
 refine e.call rfl hd ?_;simp only [dw,jy,fnA,iK,aB,jf,ev,hl,hG,List.map,List.append_nil];exact h
theorem gB{ops r:List Oper}{o:Oper}{K:St->Prop}{t_:Slots}{h_:Heap}{n_ k_ m_:Nat}{f:FuncId}{R:Trans}{i j d:Nat}{v w:PV}{ct:Array TypeId}(e:eo (some d) (.call {callee:= .value (.func f),args:= #[.tmp i,.tmp j],argTypes:=ct}) o)(hd:d<m_)(hl:aA t_ i=some v)(hr:aA t_ j=some w)(hG:G f=some R)
  (h:R [v,w] h_ (nm n_ k_) λu h' j=>aF E G ops r K ⟨(d,some u)::t_,h',n_,k_+j,m_⟩):aF E G ops (o::r) K ⟨t_,h_,n_,k_,m_⟩:=by
 refine e.call rfl hd ?_;simp only [dw,jy,fnA,iK,aB,jf,ev,hl,hr,hG,List.map,List.append_nil];exact h
theorem Ua{ops r:List Oper}{o:Oper}{K:St->Prop}{t_:Slots}{h_:Heap}{n_ k_ m_:Nat}{i d a:Nat}{vs:List PV}{v:PV}(e:eo (some d) (.extract (.tmp i) a) o)(hd:d<m_)(hl:aA t_ i=some (.tup vs))(ha:vs[a]? =some v)(h:aF E G ops r K ⟨(d,some v)::t_,h_,n_,k_,m_⟩):aF E G ops (o::r) K ⟨t_,h_,n_,k_,m_⟩:=by
 refine e.pure rfl hd ?_;simp only [aH,ev,hl,aB,kY,ha];exact h
theorem X6{ops r:List Oper}{o o':Oper}{K:St->Prop}{t_:Slots}{h_:Heap}{n_ k_ m_:Nat}{i d:Nat}{T:TypeId}{y:TY}{cs:List Cell}{bx:List (Nat×List Cell)}{ts:List (List Cell×List D)}(H:HS h_ (nm n_ k_) bx ts)(e:eo (some d) (.alloc T) o)(e':eo none (.store T (.tmp d) (.tmp i)) o')(hd:d<m_)(hl:aA t_ i=some (.agg cs))(hi:d≠i)
  (hy:E.ty T=some y) (hsz:y.size=cs.length) (hz:y.zero.length=cs.length) (h0:cs≠ []) (h:∀h',HS h' (nm n_ (k_+1)) ((nm n_ k_,cs)::bx) ts->aF E G ops r K ⟨(d,some (.c (.ptr (nm n_ k_) cs.length 0 0)))::t_,h',n_,k_+1,m_⟩):aF E G ops (o::o'::r) K ⟨t_,h_,n_,k_,m_⟩:=by
 have hn:cs.length≠0:=λe=>h0 (List.eq_nil_of_length_eq_zero e)
 refine e.data rfl hd ?_;simp only [aX,aD,hy,St.put];refine⟨λe=>hn (by rw [<-hz,e];rfl),e'.data rfl trivial ?_⟩;have sp:splice y.zero cs 0=cs:=by unfold splice;simp [hz]
 simp only [aX,aD,aB,ev,aL,au hi,hl,hy,dO,aI,ay,bZ,hsz,hz,true_and,St.put,Nat.zero_add,sp];refine⟨hn,Nat.le_refl _,h _ ?_⟩;have H1:=H.box cs;refine HS.frame (q:=nm n_ (k_+1)) (h:=(nm n_ k_,.box cs)::h_) H1 (Nat.le_refl _) λl hl=> ?_
 by_cases e:nm n_ k_=l
 .subst e;rw [ay,ay]
 .rw [aj _ _ e,aj _ _ e,aj _ _ e]
theorem nm_add{n k j:Nat}:nm n k+j=nm n (k+j):=by unfold nm;omega
theorem HS.xO{h h':Heap}{n k j:Nat}{bx:List (Nat×List Cell)}{ts:List (List Cell×List D)}(H:HS h (nm n k) bx ts){cs:List Cell}{d:List D}{M:Nat->Nat->Prop}(t:bO h' d.length cs d M)(r:∀i x,i<d.length->M i x->nm n k<=x/\x<nm n k+j)(f:∀l,l<nm n k->look h' l=look h l):
 HS h' (nm n (k+j)) bx ((cs,d)::ts):=by rw [<-nm_add];exact H.tree t r f
theorem HS.new2{h:Heap}{n k:Nat}{bx:List (Nat×List Cell)}{ts:List (List Cell×List D)}(H:HS h (nm n k) bx ts)(c1 c2 z1 z2:List Cell):
  HS ((nm n (k+1),.box c2)::(nm n k,.box c1)::(nm n (k+1),.box z2)::(nm n k,.box z1)::h) (nm n (k+1+1)) ((nm n (k+1),c2)::(nm n k,c1)::bx) ts:=by
 have H2:=(H.box c1).box c2;rw [nm_add,nm_add]at H2;refine H2.frame (Nat.le_refl _) λl hl=> ?_
 have e:nm n k≠nm n (k+1):=by unfold nm;omega
 by_cases e1:nm n (k+1)=l
 .subst e1;rw [ay,ay]
 .by_cases e2:nm n k=l
  .subst e2;rw [aj _ _ e1,ay,aj _ _ e1,ay]
  .rw [aj _ _ e1,aj _ _ e2,aj _ _ e1,aj _ _ e2,aj _ _ e1,aj _ _ e2]
def spM(M:Nat->Nat->Nat->Prop)(n:Nat):Nat->Nat->Nat->Prop
 | 0=>M 0
 | 1=>λj=>M 0 (j+n)
 | i+2=>M (i+1)
theorem HS.split{h:Heap}{q:Nat}{bx:List (Nat×List Cell)}{ts:List (List Cell×List D)}{c1 c2:List Cell}{d1 d2:List D}(H:HS h q bx ((c1++c2,d1++d2)::ts))(hl:c1.length=d1.length):HS h q bx ((c1,d1)::(c2,d2)::ts):=by
 obtain⟨b,M,t,o⟩:=H;obtain⟨t0,r0⟩:=t 0 _ _ rfl;have e0:(d1++d2).length=d1.length+d2.length:=List.length_append;have e1:=t0.len;rw [List.length_append,e0]at e1;have l1:∀ {α:Type} (a b:List α) (z:α) (j:Nat),j<a.length->(a++b).getD j z=a.getD j z:=λa b z j hj=>by simp [List.getD,List.getElem?_append_left hj]
 have l2:∀ {α:Type} (a b:List α) (z:α) (j:Nat),(a++b).getD (j+a.length) z=b.getD j z:=λa b z j=>by simp [List.getD,List.getElem?_append_right]
 have key:∀i c d,((c1,d1)::(c2,d2)::ts)[i]? =some (c,d)->∃i' c' d' off,((c1++c2,d1++d2)::ts)[i']? =some (c',d')/\(∀j,j<d.length->j+off<d'.length)/\spM M d1.length i=(λj=>M i' (j+off))/\bO h d.length c d (λj=>M i' (j+off))/\(i'=0/\(i=0/\off=0/\d=d1\/i=1/\off=d1.length)\/i'≠0/\i=i'+1/\off=0):=by
  intro i c d hi
  match i with
  | 0=>
   simp only [List.getElem?_cons_zero,Option.some.injEq,Prod.mk.injEq]at hi;obtain⟨rfl,rfl⟩:=hi;refine⟨0,_,_,0,rfl,λj hj=>by omega,rfl,⟨hl,λj hj=> ?_,λj j' x a b hx hx'=>t0.one j j' x ah ah hx hx'⟩,.inl ⟨rfl,.inl ⟨rfl,rfl,rfl⟩⟩⟩;have:=t0.cell j ah
   rwa [l1 _ _ _ _ ah,l1 _ _ _ _ ah]at this
  | 1=>
   simp only [List.getElem?_cons_succ,List.getElem?_cons_zero,Option.some.injEq,Prod.mk.injEq]at hi;obtain⟨rfl,rfl⟩:=hi;refine⟨0,_,_,d1.length,rfl,λj hj=>by omega,rfl,⟨ah,λj hj=> ?_,λj j' x a b hx hx'=>by have:=t0.one _ _ x ah ah hx hx';omega⟩,.inl ⟨rfl,.inr ⟨rfl,rfl⟩⟩⟩;have:=t0.cell (j+d1.length) ah;rw [l2]at this;rw [<-hl,l2]at this
   rwa [hl]at this
  | i+2=>
   have hi':((c1++c2,d1++d2)::ts)[i+1]? =some (c,d):=by simpa using hi
   exact⟨i+1,c,d,0,hi',λj hj=>hj,rfl,(t (i+1) c d hi').1,.inr ⟨ah,rfl,rfl⟩⟩
 refine⟨b,spM M d1.length,λi c d hi=> ?_,λi i' c d c' d' j j' l hi hi' ne hj hj' hx hx'=> ?_⟩
 .obtain⟨i',c',d',off,k1,k2,k3,k4,_⟩:=key i c d hi;rw [k3];exact⟨k4,λj l hj hx=>(t i' c' d' k1).2 (j+off) l (k2 j hj) hx⟩
 .obtain⟨a,ca,da,oa,a1,a2,a3,_,a5⟩:=key i c d hi;obtain⟨e,ce,de,oe,b1,b2,b3,_,b5⟩:=key i' c' d' hi';have hx2:M a (j+oa) l:=by have:=congrFun (congrFun a3 j) l;rw [<-this];exact hx
  have aiX:M e (j'+oe) l:=by have:=congrFun (congrFun b3 j') l;rw [<-this];exact hx'
  by_cases h1:a=e
  .subst h1;rw [a1]at b1;obtain⟨rfl,rfl⟩:=Prod.mk.inj (Option.some.inj b1);have:=(t a _ _ a1).1.one _ _ l (a2 j hj) (b2 j' hj') hx2 aiX;rcases a5 with⟨rfl,⟨rfl,rfl,rfl⟩ | ⟨rfl,rfl⟩⟩ | ⟨_,rfl,rfl⟩<;>rcases b5 with⟨_,⟨rfl,rfl,rfl⟩ | ⟨rfl,rfl⟩⟩ | ⟨_,rfl,rfl⟩<;>omega
  .exact o a e _ _ _ _ _ _ l a1 b1 h1 (a2 j hj) (b2 j' hj') hx2 aiX
theorem HS.give{h:Heap}{q:Nat}{bx:List (Nat×List Cell)}{ts:List (List Cell×List D)}(H:HS h q bx ts):∃N:Nat->Prop,(∀(i:Nat) (cs:List Cell) (d:List D),ts[i]? =some (cs,d)->F2 (Hq h N) cs (d.map (.d true)))/\HS (mP (λl=>¬N l) h) q bx []:=by
 obtain⟨b,M,t,o⟩:=H;refine⟨λl=>∃i cs d j,ts[i]? =some (cs,d)/\j<d.length/\M i j l,λi cs d hi=> ?_,⟨λi l cs hi=> ?_,λ_ _ _=>False,λi cs d h=>(by simp at h),λ_ _ _ _ _ _ _ _ _ h=>(by simp at h)⟩⟩
 .obtain⟨t0,_⟩:=t i cs d hi;refine F2.sZ (by simp [t0.len]) λj a e ha he=> ?_
  simp only [List.getElem?_map,Option.map_eq_some_iff]at he;obtain⟨d0,hd,rfl⟩:=he;have hj:j<d.length:=(List.getElem?_eq_some_iff.1 hd).1;have:=t0.cell j hj;rw [show cs.getD j default=a by simp [List.getD,ha],show d.getD j default=d0 by simp [List.getD,hd]]at this;exact .tree this λl hl=>⟨i,cs,d,j,hi,hj,hl⟩
 .refine⟨?_,(b i l cs hi).2⟩;rw [pJ.1 (λ⟨a,cs',d,j,ha,hj,hx⟩=>(t a cs' d ha).2 j l hj hx |>.2 i l cs hi rfl)];exact(b i l cs hi).1
theorem X7{ops r:List Oper}{o:Oper}{K:St->Prop}{t_:Slots}{h_:Heap}{n_ k_ m_:Nat}{i d:Nat}{T:TypeId}{cs:List Cell}{bx:List (Nat×List Cell)}{ts:List (List Cell×List D)}(H:HS h_ (nm n_ k_) bx ts)(e:eo (some d) (.box T (.tmp i)) o)(hd:d<m_)(hl:aA t_ i=some (.agg cs))(h0:cs.length≠0)
  (h:∀h',HS h' (nm n_ (k_+1)) ((nm n_ k_,cs)::bx) ts->aF E G ops r K ⟨(d,some (.c (.ptr (nm n_ k_) cs.length 0 0)))::t_,h',n_,k_+1,m_⟩):aF E G ops (o::r) K ⟨t_,h_,n_,k_,m_⟩:=by
 refine e.data rfl hd ?_;simp only [aX,aB,ev,hl,aI,St.put];exact⟨h0,h _ (H.box cs)⟩
theorem acF{ops r:List Oper}{o1 o2 o3 o4:Oper}{K:St->Prop}{t_:Slots}{h_:Heap}{n_ k_ m_:Nat}{i j d e:Nat}{T U:TypeId}{y z:TY}{cs ds:List Cell}{bx:List (Nat×List Cell)}{ts:List (List Cell×List D)}(H:HS h_ (nm n_ k_) bx ts)(e1:eo (some d) (.alloc T) o1)(e2:eo (some e) (.alloc U) o2)(e3:eo none (.store T (.tmp d) (.tmp i)) o3)(e4:eo none (.store U (.tmp e) (.tmp j)) o4)
  (hd:d<m_) (he:e<m_) (hl:aA t_ i=some (.agg cs)) (hr:aA t_ j=some (.agg ds)) (hi:d≠i/\e≠i/\d≠j/\e≠j/\e≠d)
  (hT:E.ty T=some y) (hU:E.ty U=some z) (h1:y.size=cs.length) (h2:y.zero.length=cs.length) (h3:z.size=ds.length) (h4:z.zero.length=ds.length) (h5:cs.length≠0) (h6:ds.length≠0)
  (h:∀h',HS h' (nm n_ (k_+1+1)) ((nm n_ (k_+1),ds)::(nm n_ k_,cs)::bx) ts->aF E G ops r K ⟨(e,some (.c (.ptr (nm n_ (k_+1)) ds.length 0 0)))::(d,some (.c (.ptr (nm n_ k_) cs.length 0 0)))::t_,h',n_,k_+1+1,m_⟩):aF E G ops (o1::o2::o3::o4::r) K ⟨t_,h_,n_,k_,m_⟩:=by
 have n1:nm n_ k_≠nm n_ (k_+1):=by unfold nm;omega
 have l1:∀ {l:List Cell},l.length≠0->l≠ []:=λh e=>h (by rw [e];rfl)
 refine e1.data rfl hd ?_;simp only [aX,aD,hT,St.put];refine⟨l1 (by rw [h2];exact h5),e2.data rfl he ?_⟩;simp only [aX,aD,hU,St.put];refine⟨l1 (by rw [h4];exact h6),e3.data rfl trivial ?_⟩;have sp:splice y.zero cs 0=cs:=by unfold splice;simp [h2]
 have sp2:splice z.zero ds 0=ds:=by unfold splice;simp [h4]
 have a1:∀a b,aA ((e,a)::(d,b)::t_) i=some (.agg cs):=λa b=>by rw [au hi.2.1,au hi.1,hl]
 have a2:∀a b,aA ((e,a)::(d,b)::t_) j=some (.agg ds):=λa b=>by rw [au hi.2.2.2.1,au hi.2.2.1,hr]
 have n2:look ((nm n_ (k_+1),.box z.zero)::(nm n_ k_,.box y.zero)::h_) (nm n_ k_)=some (.box y.zero):=by rw [aj _ _ (Ne.symm n1),ay]
 have n3:∀o,look ((nm n_ k_,o)::(nm n_ (k_+1),.box z.zero)::(nm n_ k_,.box y.zero)::h_) (nm n_ (k_+1))=some (.box z.zero):=λo=>by rw [aj _ _ n1,ay]
 simp only [aX,aD,aB,ev,au hi.2.2.2.2,aL,a1,hT,dO,aI,n2,bZ,h1,h2,true_and,St.put,Nat.zero_add,sp];refine⟨h5,Nat.le_refl _,e4.data rfl trivial ?_⟩;simp only [aX,aD,aB,ev,aL,a2,hU,dO,aI,n3,bZ,h3,h4,true_and,St.put,Nat.zero_add,sp2];exact⟨h6,Nat.le_refl _,h _ (H.new2 cs ds _ _)⟩
theorem Ub{f:Bool}{d:D}:∀j,j<1->Da ([Cell.d f d].getD j default) ([d].getD j default):=λj hj=>by
 have:j=0:=by omega
 subst this;exact .inl ⟨f,rfl⟩
theorem one_cell{cs:List Cell}(h:cs.length=1):∃y,cs=[y]:=by
 match cs,h with
 | [y],_=>exact⟨y,rfl⟩
theorem xA{ops r:List Oper}{K:St->Prop}{t_:Slots}{h_:Heap}{n_ k_ m_:Nat}{j d:Nat}{want f b:Bool}{dst:Option Nat}{op:Op}{ty:TypeId}{pos:String}{af:Array Edge}(hj:gslot ops j=some d)(hl:aA t_ d=some (.c (.d f (.bool b))))(hb:b=want)(hd:dOK m_ dst)
  (h:aF E G ops (⟨dst,op,ty,pos,af,none⟩::r) K ⟨t_,h_,n_,k_,m_⟩):aF E G ops (⟨dst,op,ty,pos,af,some (j,want)⟩::r) K ⟨t_,h_,n_,k_,m_⟩:=
 XE rfl hj hl hb hd h
theorem Aj{ops r:List Oper}{o:Oper}{K:St->Prop}{t_:Slots}{h_:Heap}{n_ k_ m_:Nat}{c j d:Nat}{f:Bool}{x:Operand}{v:PV}(e:eo (some d) (.pick (.tmp c) x (.tmp j)) o)(hd:d<m_)(hc:aA t_ c=some (.c (.d f (.bool false))))(hj:aA t_ j=some v)(h:aF E G ops r K ⟨(d,some v)::t_,h_,n_,k_,m_⟩):aF E G ops (o::r) K ⟨t_,h_,n_,k_,m_⟩:=by
 refine e.pure rfl hd ?_;simp only [aH,ev,hc,hj,aB,uU,xG];exact⟨λe=>(nomatch e),λ_=>h⟩
theorem Qj{n:Nat}{rs:List ResultVar}{K:PV->Heap->Nat->Prop}{Q:Exit->St->Prop}{t_:Slots}{h_:Heap}{n_ k_ m_:Nat}{r:Nat}{a:Array Oper}{x:Nat}(hs:sk a.toList=[(some x,.assign (.const (.bool true)),true)])(hm:x<m_)(hn:n_=n)(hrs:rs=[.tmp x])(hQ:∀s,pX E rs n K .ret s->Q .ret s)
  (hK:∀f h' j,K (.c (.d f (.bool true))) h' j):aw E G dr (.seq (.region r a false) .ret) Q ⟨t_,h_,n_,k_,m_⟩:=by
 subst hrs;refine aP ?_;generalize a.toList=L at hs;refine aM hs rfl hm λl hs=> ?_
 simp only [aH,ev,fD,aB];refine fH hs (lQ (hQ _ ?_));simp only [pX,oh,St.put,aL,aB,one];exact⟨hn,hK _ _ _⟩
theorem HS.Uc{h:Heap}{n k i:Nat}{bx:List (Nat×List Cell)}{ts:List (List Cell×List D)}(H:HS h (nm n k) bx ts){cs:List Cell}{d:List D}(hi:ts[i]? =some (cs,d)):∃M:Nat->Nat->Prop,bO h d.length cs d M/\(∀j x,j<d.length->M j x->x<nm n k)/\
  ∀(h':Heap) (j:Nat) (d':List D),d'.length=d.length->bO h' d.length cs d' M->(∀l,l<nm n k->(∀j,j<d.length->¬M j l)->look h' l=look h l)->HS h' (nm n (k+j)) bx (ts.set i (cs,d')):=by
 obtain⟨M,a,b,c⟩:=H.turn hi;exact⟨M,a,b,λh' j d' e t f=>c h' _ d' e (by unfold nm;omega) t f⟩
end Go.AE
namespace Go.AE
open Go
variable {E:Tab} {G:fO}
section
variable [aQ] {ops:List Oper} {i:Nat} {rs cs:List Nat} {r:List dK} {hs:List Held} {K:St->Prop} {t_:Slots} {h_:Heap} {n_ k_ m_:Nat} {o:Oper}
theorem oC{ty:TypeId}{a d l w q idx:Nat}{cells:List Cell}{y:TY}{bx:List (Nat×List Cell)}{ts:List (List Cell×List D)}(H:HS h_ q bx ts)(ho:ops[i]? =some o)(hk:kindOf o.op=0)(e:eo (some d) (.load ty (.tmp a)) o)(hd:d<m_)(hl:aA (cut t_ rs) a=some (.c (.ptr l w 0 0)))
  (hb:bx[idx]? =some (l,cells)) (hy:E.ty ty=some y) (hag:y.desc.agg=true) (hsz:y.size=cells.length) (h:aZ E G ops r ((i,o,cut t_ rs,some (.agg cells))::hs) K ⟨(d,some (.agg cells))::t_,h_,n_,k_,m_⟩):aZ E G ops ((i,rs,cs)::r) hs K ⟨t_,h_,n_,k_,m_⟩:=by
 obtain⟨e1,e2,e3⟩:=e;refine aY ho hk (by rw [e2];exact hd) e3 ?_;rw [e1,e2];simp only [aH,ev,hl,aB,fF,hy,aD,(H.b idx l cells hb).1,bZ,qG,mh,hag,if_true,true_and,hsz,List.drop_zero,List.take_length,Nat.zero_add];exact⟨Nat.le_refl _,h⟩
theorem NR{a d:Nat}{v:PV}(ho:ops[i]? =some o)(hk:kindOf o.op=0)(e:eo (some d) (.move (.tmp a)) o)(hd:d<m_)(hl:aA (cut t_ rs) a=some v)(h:aZ E G ops r ((i,o,cut t_ rs,some v)::hs) K ⟨(d,some v)::t_,h_,n_,k_,m_⟩):aZ E G ops ((i,rs,cs)::r) hs K ⟨t_,h_,n_,k_,m_⟩:=by
 obtain⟨e1,e2,e3⟩:=e;refine aY ho hk (by rw [e2];exact hd) e3 ?_;rw [e1,e2];simp only [aH,ev,hl,aB];exact h
theorem Ud{a d:Nat}{f b:Bool}{ty:TypeId}(ho:ops[i]? =some o)(hk:kindOf o.op=0)(e:eo (some d) (.unOp .not ty (.tmp a)) o)(hd:d<m_)(hl:aA (cut t_ rs) a=some (.c (.d f (.bool b))))(h:aZ E G ops r ((i,o,cut t_ rs,some (cb (!b)))::hs) K ⟨(d,some (cb (!b)))::t_,h_,n_,k_,m_⟩):aZ E G ops ((i,rs,cs)::r) hs K ⟨t_,h_,n_,k_,m_⟩:=by
 obtain⟨e1,e2,e3⟩:=e;refine aY ho hk (by rw [e2];exact hd) e3 ?_;rw [e1,e2];simp only [aH,ev,hl,aB,unA];exact h
theorem Ak{a d x:Nat}{vs:List PV}{v:PV}(ho:ops[i]? =some o)(hk:kindOf o.op=0)(e:eo (some d) (.extract (.tmp a) x) o)(hd:d<m_)(hl:aA (cut t_ rs) a=some (.tup vs))(hx:vs[x]? =some v)(h:aZ E G ops r ((i,o,cut t_ rs,some v)::hs) K ⟨(d,some v)::t_,h_,n_,k_,m_⟩):aZ E G ops ((i,rs,cs)::r) hs K ⟨t_,h_,n_,k_,m_⟩:=by
 obtain⟨e1,e2,e3⟩:=e;refine aY ho hk (by rw [e2];exact hd) e3 ?_;rw [e1,e2];simp only [aH,ev,hl,aB,kY,hx];exact h
theorem pO{f:FuncId}{R:Trans}{a d:Nat}{v:PV}{ct:Array TypeId}(ho:ops[i]? =some o)(hk:kindOf o.op=3)(e:eo (some d) (.call {callee:= .value (.func f),args:= #[.tmp a],argTypes:=ct}) o)(hd:d<m_)(hl:aA (cut t_ rs) a=some v)(hG:G f=some R)
  (h:R [v] h_ (nm n_ k_) λu h' j=>jS E ops h' hs cs/\aZ E G ops r hs K ⟨(d,some u)::t_,h',n_,k_+j,m_⟩):aZ E G ops ((i,rs,cs)::r) hs K ⟨t_,h_,n_,k_,m_⟩:=by
 obtain⟨e1,e2,e3⟩:=e;refine iq ho hk (by rw [e2];exact hd) e3 (iW (by rw [e1];rfl) ?_);rw [e1];simp only [dw,jy,fnA,iK,aB,jf,ev,hl,hG,List.map,List.append_nil,e2];exact h
theorem wV{f:FuncId}{R:Trans}{a b d:Nat}{v w:PV}{ct:Array TypeId}(ho:ops[i]? =some o)(hk:kindOf o.op=3)(e:eo (some d) (.call {callee:= .value (.func f),args:= #[.tmp a,.tmp b],argTypes:=ct}) o)(hd:d<m_)(hl:aA (cut t_ rs) a=some v)(hr:aA (cut t_ rs) b=some w)(hG:G f=some R)
  (h:R [v,w] h_ (nm n_ k_) λu h' j=>jS E ops h' hs cs/\aZ E G ops r hs K ⟨(d,some u)::t_,h',n_,k_+j,m_⟩):aZ E G ops ((i,rs,cs)::r) hs K ⟨t_,h_,n_,k_,m_⟩:=by
 obtain⟨e1,e2,e3⟩:=e;refine iq ho hk (by rw [e2];exact hd) e3 (iW (by rw [e1];rfl) ?_);rw [e1];simp only [dw,jy,fnA,iK,aB,jf,ev,hl,hr,hG,List.map,List.append_nil,e2];exact h
theorem rG{h:Heap}:jS E ops h hs []:=trivial
theorem DZ{h:Heap}{j:Nat}{t:Slots}{ty:TypeId}{a d l w q idx:Nat}{cells:List Cell}{y:TY}{bx:List (Nat×List Cell)}{ts:List (List Cell×List D)}{rest:List Nat}(H:HS h q bx ts)(hf:iF hs j=some (o,t,some (.agg cells)))(e:eo (some d) (.load ty (.tmp a)) o)(hl:aA t a=some (.c (.ptr l w 0 0)))
  (hb:bx[idx]? =some (l,cells)) (hy:E.ty ty=some y) (hag:y.desc.agg=true) (hsz:y.size=cells.length) (hr:jS E ops h hs rest):jS E ops h hs (j::rest):=by
 obtain⟨e1,e2,e3⟩:=e;simp only [jS,hf,eH,e3,e1,aH,ev,hl,aB,fF,hy,aD,(H.b idx l cells hb).1,bZ,qG,mh,hag,if_true,true_and,hsz,List.drop_zero,List.take_length,Nat.zero_add];exact⟨⟨Nat.le_refl _,trivial⟩,hr⟩
theorem NS{i1 i2 i3 i4:Nat}{r1 r2 r3 r4:List Nat}{o1 o2 o3 o4:Oper}{a b d e:Nat}{T U:TypeId}{y z:TY}{cs ds:List Cell}{bx:List (Nat×List Cell)}{ts:List (List Cell×List D)}(H:HS h_ (nm n_ k_) bx ts)
  (h1:ops[i1]? =some o1) (h2:ops[i2]? =some o2) (h3:ops[i3]? =some o3) (h4:ops[i4]? =some o4) (k1:kindOf o1.op=2) (k2:kindOf o2.op=2) (k3:kindOf o3.op=3) (k4:kindOf o4.op=3)
  (e1:eo (some d) (.alloc T) o1) (e2:eo (some e) (.alloc U) o2) (e3:eo none (.store T (.tmp d) (.tmp a)) o3) (e4:eo none (.store U (.tmp e) (.tmp b)) o4) (hd:d<m_) (he:e<m_) (r3e:r3=[d,a]) (r4e:r4=[e,b])
  (hl:aA t_ a=some (.agg cs)) (hr:aA t_ b=some (.agg ds)) (hi:d≠a/\e≠a/\d≠b/\e≠b/\e≠d) (hT:E.ty T=some y) (hU:E.ty U=some z) (g1:y.size=cs.length) (g2:y.zero.length=cs.length) (g3:z.size=ds.length) (g4:z.zero.length=ds.length) (g5:cs.length≠0) (g6:ds.length≠0)
  (h:∀h',HS h' (nm n_ (k_+1+1)) ((nm n_ (k_+1),ds)::(nm n_ k_,cs)::bx) ts->aZ E G ops r hs K ⟨(e,some (.c (.ptr (nm n_ (k_+1)) ds.length 0 0)))::(d,some (.c (.ptr (nm n_ k_) cs.length 0 0)))::t_,h',n_,k_+1+1,m_⟩):
  aZ E G ops ((i1,r1,[])::(i2,r2,[])::(i3,r3,[])::(i4,r4,[])::r) hs K ⟨t_,h_,n_,k_,m_⟩:=by
 subst r3e r4e;have n1:nm n_ k_≠nm n_ (k_+1):=by unfold nm;omega
 have l1:∀ {l:List Cell},l.length≠0->l≠ []:=λh e=>h (by rw [e];rfl)
 obtain⟨p1,p2,p3⟩:=e1;obtain⟨q1,q2,q3⟩:=e2;obtain⟨u1,u2,u3⟩:=e3;obtain⟨v1,v2,v3⟩:=e4;refine Fz h1 k1 (by rw [p2];exact hd) ?_;rw [p1,p2];simp only [aX,aD,hT,St.put];refine⟨l1 (by rw [g2];exact g5),Fz h2 k2 (by rw [q2];exact he) ?_⟩;rw [q1,q2];simp only [aX,aD,hU,St.put];refine⟨l1 (by rw [g4];exact g6),iq h3 k3 (by rw [u2];trivial) u3 (ou (by rw [u1];rfl) ?_)⟩;rw [u1,u2];have sp:splice y.zero cs 0=cs:=by unfold splice;simp [g2]
 have sp2:splice z.zero ds 0=ds:=by unfold splice;simp [g4]
 have a1:∀a' b',aA ((e,a')::(d,b')::t_) a=some (.agg cs):=λa' b'=>by rw [au hi.2.1,au hi.1,hl]
 have a2:∀a' b',aA ((e,a')::(d,b')::t_) b=some (.agg ds):=λa' b'=>by rw [au hi.2.2.2.1,au hi.2.2.1,hr]
 have n2:look ((nm n_ (k_+1),.box z.zero)::(nm n_ k_,.box y.zero)::h_) (nm n_ k_)=some (.box y.zero):=by rw [aj _ _ (Ne.symm n1),ay]
 have n3:∀o,look ((nm n_ k_,o)::(nm n_ (k_+1),.box z.zero)::(nm n_ k_,.box y.zero)::h_) (nm n_ (k_+1))=some (.box z.zero):=λo=>by rw [aj _ _ n1,ay]
 simp only [aX,aD,aB,ev,cut,aL,au hi.2.2.2.2,au hi.1,a1,hT,dO,aI,n2,bZ,g1,g2,true_and,St.put,Nat.zero_add,sp,jS];refine⟨g5,Nat.le_refl _,iq h4 k4 (by rw [v2];trivial) v3 (ou (by rw [v1];rfl) ?_)⟩;rw [v1,v2];simp only [aX,aD,aB,ev,cut,aL,au hi.2.2.2.1,au hi.2.2.1,hr,a2,hU,dO,aI,n3,bZ,g3,g4,true_and,St.put,Nat.zero_add,sp2,jS];exact⟨g6,Nat.le_refl _,h _ (H.new2 cs ds _ _)⟩
end
end Go.AE
namespace Go.AE
open Go
def shC(n:Nat):Cell->Cell | .os l sz lo m=> .os (n+l) sz lo m | x=>x
def shO(n:Nat):dx->dx | .grid sz cs=> .grid sz (cs.map λr=>r.map (shC n)) | o=>o
def shP(n:Nat):PV->PV | .c x=> .c (shC n x) | .agg cs=> .agg (cs.map (shC n)) | v=>v
def shV(n:Nat):PV->PV | .tup vs=> .tup (vs.map (shP n)) | v=>shP n v
def KQ{c c':Ctx}{w:World}{n:Nat}(hn:c'.n=n+c.n)(hν:∀l,l<c.n->c'.ν (n+l)=c.ν l){x:Cell}(k:kfC x){v:Value}(h:bB c w v x):bB c' w v (shC n x):=by
 have hμ:∀l,l<c.n->c'.μ (n+l)=c.μ l:=λl hl=>by simp [Ctx.μ,hν l hl]
 cases h with
 | d f v x h=>
  refine .d _ _ _ (h.bY _ ?_);cases x with
  | int=>rfl
  | bool=>rfl
  | _=>exact k.elim
 | nil=>exact .nil
 | os0 a l sz hl hm=>exact .os0 a (n+l) sz ah ((hμ l hl).trans hm)
 | osE a l sz lo b hl hm=>exact .osE a (n+l) sz lo b ah ((hμ l hl).trans hm)
 | os l sz lo m cap b o hl hm hc hr=>exact .os (n+l) sz lo m cap b o ah ((hν l hl).trans hm) hc hr
 | _=>exact k.elim
def KR{c c':Ctx}{w:World}{n:Nat}(hn:c'.n=n+c.n)(hν:∀l,l<c.n->c'.ν (n+l)=c.ν l){x:PV}(k:match x with | .c x=>kfC x | .agg cs=>∀x∈cs,kfC x | .tup _=>False){v:Value}(h:bg c w v x):bg c' w v (shP n x):=by
 cases h with
 | c v x h=>exact .c _ _ (KQ hn hν k h)
 | agg vs cs h=>
  refine .agg _ _ ?_;have key:∀ {vs:List Value} {cs:List Cell},F2 (bB c w) vs cs->(∀x∈cs,kfC x)->F2 (bB c' w) vs (cs.map (shC n)):=by
   intro vs cs h
   induction h with
   | nil=>intro _;exact .nil
   | cons a _ ih=>intro k;exact .cons (KQ hn hν (k _ (List.mem_cons_self ..)) a) (ih λx hx=>k x (List.mem_cons_of_mem _ hx))
  exact key h k
 | tup=>exact k.elim
def acG{c c':Ctx}{w:World}{n:Nat}(hn:c'.n=n+c.n)(hν:∀l,l<c.n->c'.ν (n+l)=c.ν l){x:PV}(k:kfV x){v:Value}(h:bg c w v x):bg c' w v (shV n x):=by
 cases x with
 | c x=>exact KR (x:= .c x) hn hν k h
 | agg cs=>exact KR (x:= .agg cs) hn hν k h
 | tup ps=>
  cases h with | tup vs _ hl hr=>
  refine .tup _ _ (by simpa using hl) λi hi=> ?_
  have hi':i<ps.length:=by simpa using hi
  have hr:=hr i hi';have e:ps.getD i default=ps[i]:=by simp [List.getD,hi']
  have e2:(ps.map (shP n)).getD i default=shP n ps[i]:=by simp [List.getD,hi']
  rw [e]at hr;rw [e2];exact KR hn hν (k _ (List.getElem_mem hi')) hr
def adI{n:Nat}{cs:List (List Cell)}{i j:Nat}(hi:i<cs.length)(hj:j< (cs.getD i []).length):gc (cs.map λr=>r.map (shC n)) i j=shC n (gc cs i j):=by
 have hg:cs.getD i []=cs[i]:=by simp [List.getD,hi]
 have hg2:(cs.map λr=>r.map (shC n)).getD i []=cs[i].map (shC n):=by simp [List.getD,hi]
 unfold gc;rw [hg]at hj ⊢;rw [hg2];simp [List.getD,hj]
def X8{n:Nat}{cs:List (List Cell)}{i:Nat}(hi:i<cs.length):((cs.map λr=>r.map (shC n)).getD i []).length=(cs.getD i []).length:=by simp [List.getD,hi]
def acH{c c':Ctx}{w:World}{n l:Nat}(hn:c'.n=n+c.n)(hν:∀l,l<c.n->c'.ν (n+l)=c.ν l)(hl:l<c.n){o:dx}(k:kfO o)(h:gq c w l o):gq c' w (n+l) (shO n o):=by
 cases o with
 | rows f sz es=>
  simp only [gq,shO]at h ⊢;rw [hν l hl];cases hm:c.ν l with
  | none=>simp_all
  | some p=>
   rw [hm]at h;obtain⟨cells,E,hx,hr⟩:=h;refine⟨cells,E,hx,λi hi=>⟨(hr i hi).1,λj hj=> ?_⟩⟩;obtain⟨v,hv,hd⟩:=(hr i hi).2 j hj;exact⟨v,hv,hd.bY _ (FD k hi (by rw [(hr i hi).1];exact hj))⟩
 | grid sz cs=>
  simp only [gq,shO]at h ⊢;rw [hν l hl];cases hm:c.ν l with
  | none=>simp_all
  | some p=>
   rw [hm]at h;obtain⟨cells,E,hx,hr⟩:=h;refine⟨cells,E,hx,λi hi=> ?_⟩;have hi':i<cs.length:=by simpa using hi
   refine⟨by rw [X8 hi'];exact(hr i hi').1,λj hj=> ?_⟩;obtain⟨v,hv,hd⟩:=(hr i hi').2 j hj;have hlen:=(hr i hi').1;refine⟨v,hv,?_⟩;rw [adI hi' ah];refine KQ hn hν ?_ hd;have hg:cs.getD i []=cs[i]:=by simp [List.getD,hi']
   unfold gc;rw [hg]at hlen ⊢;have h2:=k _ (List.getElem_mem hi') _ (List.getElem_mem (show j<cs[i].length by omega));simpa [List.getD,show j<cs[i].length by omega]using h2
 | _=>exact k.elim
def aN.shift{h h2:Heap}{n:Nat}{x:Cell}{d:D}{N:Nat->Prop}(t:aN h x d N)(hl:∀l,N l->look h2 (n+l)=(look h l).map (shO n)):aN h2 (shC n x) d (λy=>∃l,y=n+l/\N l):=by
 induction t with
 | int f k v=>exact aN.cast (.int f k v) λy=>⟨λh=>h.elim,λ⟨_,_,h⟩=>h⟩
 | bool f b=>exact aN.cast (.bool f b) λy=>⟨λh=>h.elim,λ⟨_,_,h⟩=>h⟩
 | nil sz=>exact aN.cast (.nil sz) λy=>⟨λh=>h.elim,λ⟨_,_,h⟩=>h⟩
 | flat l sz f es hk hs=>
  refine aN.cast (.flat (n+l) sz f es ?_ hs) λy=>⟨λh=>⟨l,h,rfl⟩,λ⟨l',e,h⟩=>by have h:l'=l:=h;subst h;exact e⟩
  rw [hl l rfl,hk];rfl
 | grid l sz cs es N hk hc h1 h1c hns h2' h3 h4 ih=>
  refine aN.cast (.grid (n+l) sz (cs.map λr=>r.map (shC n)) es (λi j y=>∃l,y=n+l/\N i j l) ?_ (by simpa using hc) h1 (λi hi=>by rw [X8 ah];exact h1c i hi) hns (λi j hi hj=> ?_) ?_ ?_) λy=> ?_
  .rw [hl l (.inl rfl),hk];rfl
  .rw [adI ah (by rw [h1c i hi];exact hj)];exact ih i j hi hj λl hl'=>hl l (.inr ⟨i,j,hi,hj,hl'⟩)
  .rintro i j y hi hj ⟨l',rfl,h⟩ e;exact h3 i j l' hi hj h ah
  .rintro i j i' j' y hi hj hi' hj' ⟨l1,e1,k1⟩ ⟨l2,e2,k2⟩;have:l1=l2:=by omega
   subst this;exact h4 i j i' j' l1 hi hj hi' hj' k1 k2
  .constructor
   .rintro(rfl | ⟨i,j,hi,hj,l',rfl,k⟩)
    .exact⟨l,rfl,.inl rfl⟩
    .exact⟨l',rfl,.inr ⟨i,j,hi,hj,k⟩⟩
   .rintro⟨l',rfl,rfl | ⟨i,j,hi,hj,k⟩⟩
    .exact .inl rfl
    .exact .inr ⟨i,j,hi,hj,l',rfl,k⟩
def bO.shift{h h2:Heap}{n sz:Nat}{cs:List Cell}{d:List D}{M:Nat->Nat->Prop}(t:bO h sz cs d M)(hl:∀j l,j<sz->M j l->look h2 (n+l)=(look h l).map (shO n)):bO h2 sz (cs.map (shC n)) d (λj y=>∃l,y=n+l/\M j l):=by
 refine⟨by simpa using t.len,λj hj=> ?_,?_⟩
 .have:=(t.cell j hj).shift (n:=n) (h2:=h2) (hl j · hj);have e:(cs.map (shC n)).getD j default=shC n (cs.getD j default):=by simp [List.getD,show j<cs.length by rw [t.len];exact hj]
  rw [e];exact this
 .rintro j j' x hj hj' ⟨l,e,h⟩ ⟨l',e',h'⟩;have:l=l':=by omega
  subst this;exact t.one j j' l hj hj' h h'
def Ue(R:Trans):Trans:=λargs h n K=>∃ds,F2 (Fx h) args ds/\R ds [] 0 (λr h' j=>∃N:Nat->Prop,(∀l,N l->∃o,look h' l=some o/\kfO o)/\kfV r/\
 ∀h2,(∀l,N l->look h2 (n+l)=(look h' l).map (shO n))->(∀l,l<n->look h2 l=look h l)->K (shV n r) h2 j)
def shH(n:Nat)(h:Heap):Heap:=h.map λp=>(n+p.1,shO n p.2)
def KS{n l:Nat}:∀ {h:Heap},look (shH n h) (n+l)=(look h l).map (shO n)
 | []=>rfl
 | (m,o)::h=>by
  show look ((n+m,shO n o)::shH n h) (n+l)=_;by_cases e:m=l
  .subst e;rw [ay,ay];rfl
  .rw [aj _ _ e,aj _ _ ah];exact KS
def Db{n l:Nat}(hl:l<n):∀ {h:Heap},look (shH n h) l=none
 | []=>rfl
 | (m,o)::h=>by
  show look ((n+m,shO n o)::shH n h) l=_;rw [aj _ _ ah];exact Db hl
theorem X9{E:Tab}{f:FuncId}{R:Trans}(hR:aK E f R):aK E f (Ue R) where
 enters:=hR.enters
 calls:=by
  rintro args h n K ⟨ds,hl,hk⟩ c w vs hn hv H G;subst hn;refine(hR.calls ds [] 0 _ hk (vY w) w vs rfl (F2.comp (R:=bg c w) (S:=Fx h) (T:=bg (vY w) w) (λa b d h1 h2=>h2.rel H h1) hv hl) (Fy w) (C9 H G)).mono ?_;rintro e w' he;cases e with
  | returned v=>
   obtain⟨c',r,h',j,g,H',hj,hr,N,hN,hkv,hK⟩:=he;have no:∀b,¬fU (vY w) [] b:=λb ⟨l,o,h,_⟩=>by cases h
   have hkeep:∀b,b<w.heap.size->w'.heap[b]? =w.heap[b]? :=λb hb=>g.kept b hb (no b)
   have hnew:∀b,fU c' h' b->w.heap.size<=b:=λb hb=>(g.oV b hb).resolve_left (no b)
   have hj:c'.n=j:=by rw [hj];unfold nm;omega
   let c2:Ctx:={K:=c.K,ν:=λl=>if l<c.n then c.ν l else c'.ν (l-c.n),n:=c.n+c'.n}
   have hc2:∀l,l<c'.n->c2.ν (c.n+l)=c'.ν l:=λl _=>by
    simp only [c2];rw [if_neg ah,show c.n+l-c.n=l by omega]
   have acI:c2.n=c.n+c'.n:=rfl;have le2:CLe c c2:=⟨λ_ _ h=>h,Nat.le_add_right _ _,λl hl=>if_pos hl⟩;have hhl:∀l o,look h l=some o->l<c.n:=λl o ho=>(H.obj l o ho).1
   have L1:∀l,N l->look (shH c.n (mP N h')++h) (c.n+l)=(look h' l).map (shO c.n):=λl hl=>by
    obtain⟨o,ho,_⟩:=hN l hl;rw [Ag,KS,pJ.1 hl,ho];rfl
   have L2:∀l,l<c.n->look (shH c.n (mP N h')++h) l=look h l:=λl hl=>by rw [Ag,Db hl]
   have mem:∀l o,look (shH c.n (mP N h')++h) l=some o->(∃l0 o0,l=c.n+l0/\N l0/\look h' l0=some o0/\kfO o0/\o=shO c.n o0)\/(l<c.n/\look h l=some o):=λl o ho=>by
    by_cases a:l<c.n
    .rw [L2 l a]at ho;exact .inr ⟨a,ho⟩
    .obtain⟨l0,rfl⟩:∃l0,l=c.n+l0:=⟨l-c.n,ah⟩;by_cases b:N l0
     .obtain⟨o',ho',hk'⟩:=hN l0 b;rw [L1 l0 b,ho']at ho;cases ho;exact .inl ⟨l0,o',rfl,b,ho',hk',rfl⟩
     .rw [Ag,KS,pJ.2 b]at ho;have:=hhl _ _ ho;omega
   have liv:∀o:dx,(shO c.n o).live->o.live:=λo h=>by cases o<;>first | exact h | trivial
   have VL:∀l0 o0 b,look h' l0=some o0->(shO c.n o0).live->c2.μ (c.n+l0)=some b->c'.μ l0=some b/\w.heap.size<=b:=λl0 o0 b h1 h2 h3=>by
    have q:=(H'.obj l0 o0 h1).1;have e:c'.μ l0=some b:=by rw [<-h3];simp only [Ctx.μ,hc2 l0 q]
    exact⟨e,hnew b ⟨l0,o0,h1,liv _ h2,e⟩⟩
   have VN:∀l o b,look h l=some o->o.live->c2.μ l=some b->c.μ l=some b/\b<w.heap.size:=λl o b h1 h2 h3=>by
    obtain⟨q1,q2⟩:=H.obj l o h1;have:c.μ l=some b:=by rw [<-h3];simp only [Ctx.μ,le2.ν l q1]
    exact⟨this,q2.lt h2 this⟩
   refine⟨c2,shV c.n r,shH c.n (mP N h')++h,j,⟨le2,g.size,g.stays,λb hb _=>hkeep b hb,λ_ _ hk=> .inl hk,?_,g.os,g.tape,g.output⟩,⟨?_,?_,?_,?_,H.sub⟩,by rw [acI,hj];rfl,acG acI hc2 hkv hr,hK _ L1 L2⟩
   .rintro b ⟨l,o,h1,h2,h3⟩;rcases mem l o h1 with⟨l0,o0,rfl,_,q,_,rfl⟩ | ⟨_,q⟩
    .exact .inr (VL l0 o0 b q h2 h3).2
    .exact .inl ⟨l,o,q,h2,(VN l o b q h2 h3).1⟩
   .intro l o h1;rcases mem l o h1 with⟨l0,o0,rfl,_,q,hk',rfl⟩ | ⟨_,q⟩
    .obtain⟨a1,a2⟩:=H'.obj l0 o0 q;exact⟨by rw [acI];omega,acH acI hc2 a1 hk' a2⟩
    .obtain⟨a1,a2⟩:=H.obj l o q;exact⟨Nat.lt_of_lt_of_le a1 le2.n,a2.mono le2 (λf b hb=>hkeep b (H.low f b hb)) g.stays a1 (λb hlv hm=>hkeep b (a2.lt hlv hm))⟩
   .intro l o l' o' b h1 h2 h3 h4 h5 h6;rcases mem l o h1 with⟨l0,o0,rfl,_,q,_,rfl⟩ | ⟨_,q⟩<;>rcases mem l' o' h3 with⟨l1,o1,rfl,_,q',_,rfl⟩ | ⟨_,q'⟩
    .have:=H'.inj l0 o0 l1 o1 b q (liv _ h2) q' (liv _ h4) (VL l0 o0 b q h2 h5).1 (VL l1 o1 b q' h4 h6).1;rw [this]
    .have:=(VL l0 o0 b q h2 h5).2;have:=(VN l' o' b q' h4 h6).2;omega
    .have:=(VN l o b q h2 h5).2;have:=(VL l1 o1 b q' h4 h6).2;omega
    .exact H.inj l o l' o' b q h2 q' h4 (VN l o b q h2 h5).1 (VN l' o' b q' h4 h6).1
   .rintro f b ⟨l,o,h1,h2,h3⟩ hK';rcases mem l o h1 with⟨l0,o0,rfl,_,q,_,rfl⟩ | ⟨_,q⟩
    .have:=(VL l0 o0 b q h2 h3).2;have:=H.low f b hK';omega
    .exact H.own f b ⟨l,o,q,h2,(VN l o b q h2 h3).1⟩ hK'
   .exact λf b hb=>Nat.lt_of_lt_of_le (H.low f b hb) g.size
  | panicked ch=>exact he.elim
  | outgrown=>exact he.elim
end Go.AE
