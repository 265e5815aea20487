/- Part 3 of a proof: what the last part needs. No condition. -/
import Derived.Test.YtpkmgiojecpceaaGreatZb
import Derived.Test.YtpkmgiojecpceaaGreatProg
import Derived.KernelRfl
set_option maxHeartbeats 1000000
set_option linter.all false
set_option linter.unusedSectionVars false
set_option linter.unusedVariables false
set_option linter.unusedSimpArgs false
namespace Go.TX
open Go Go.AE
variable [aF]
section
variable {n:Nat}
theorem Iq{X:XT}{E:Tab}(hX:XOK X E){s':St}{s:RSt (std n)}(S:SR s' s):∀ {rs:List ResultVar} {qs:List SVal},MK (std n) X s rs=some qs->∃ps,F2 (PVR (nmh s.h)) ps qs/\∀K,K ps->J3 E s' rs K
 | [],qs,h=>by simp only [MK,Option.some.injEq]at h;subst h;exact⟨[],.nil,λK hK=>hK⟩
 | .tmp t::r,qs,h=>by
  simp only [MK]at h;split at h
  .rename_i v hv;split at h
   .rename_i vs hvs;cases h;obtain⟨pv,p1,p2⟩:=S.val t _ hv;obtain⟨ps,q1,q2⟩:=Iq hX S hvs;exact⟨pv::ps,.cons p2 q1,λK hK=>by grind [J3,gY]⟩
   .cases h
  .cases h
 | .cell t ty::r,qs,h=>by
  simp only [MK]at h;split at h
  .rename_i p hp;split at h
   .rename_i v hv;split at h
    .rename_i vs hvs;cases h;obtain⟨pv,p1,p2⟩:=S.val t _ hp;obtain⟨pr,r1,r2⟩:=Ko hX S.heap p2 hv (λb hb=>by simp at hb);obtain⟨ps,q1,q2⟩:=Iq hX S hvs;exact⟨pr::ps,.cons r1 q1,λK hK=>by grind [J3,gY]⟩
    .cases h
   .cases h
  .cases h
theorem ahd{N:NM}:∀ {ps:List PV} {vs:List SVal},F2 (PVR N) ps vs->(∀v∈vs,nu v=false)->PVR N (one ps) (akZ (std n) vs)
 | [],_,h,_=>by cases h;exact .tup .nil
 | [p],_,.cons h1 h2,_=>by cases h2;exact h1
 | p::q::ps,_,.cons h1 (.cons h2 h3),ht=>by
  have up:∀ {p v},PVR N p v->nu v=false->PV0 N p v:=λh hv=>by
   cases h with
   | one h=>exact h
   | tup _=>simp [nu]at hv
  have all:∀ {ps:List PV} {vs:List SVal},F2 (PVR N) ps vs->(∀v∈vs,nu v=false)->F2 (PV0 N) ps vs:=by
   intro ps vs h
   induction h with
   | nil=>intro _;exact .nil
   | cons a _ ih=>intro ht;exact .cons (up a (ht _ (by simp))) (ih λv hv=>ht v (List.mem_cons_of_mem _ hv))
  exact .tup (all (.cons h1 (.cons h2 h3)) ht)
theorem ac1{c:Ctx}{w:World}{us:List Value}{ps:List PV}(h:F2 (bH c w) us ps):bH c w (if h:us.toArray.size=1 then us.toArray[0]else .tuple us.toArray) (one ps):=by
 cases h with
 | nil=>exact JZ _ _
 | cons q1 q2=>
  cases q2 with
  | nil=>simpa [one]using q1
  | cons q3 q4=>
   have hl:=(F2.cons q1 (F2.cons q3 q4)).length;rw [dif_neg (by simp)];refine .tup _ _ hl (λi hi=> ?_);have hx:∀(l:List PV),i<l.length->l[i]? =some (l.getD i default):=λl hl=>by simp_all
   obtain⟨u,hu,hr⟩:=(F2.cons q1 (F2.cons q3 q4)).get (hx _ hi);simp_all
theorem KM(h:List aM)(l:Nat):Gone [rV (std n) h l] 0:=by
 unfold rV;split
 .exact⟨_,_,rfl⟩
 .exact⟨_,_,rfl⟩
 .exact⟨_,_,rfl⟩
def y9(D:List Nat)(h:Heap):Heap:=D.map (λl=>(l,dZ.gone))++h
theorem Eb{D:List Nat}{h:Heap}{l:Nat}(hl:l∈D):AE.look (y9 D h) l=some .gone:=by
 induction D with
 | nil=>simp at hl
 | cons d D ih=>grind [AE.look,y9,aK,aC,absurd]
theorem oQ{D:List Nat}{h:Heap}{l:Nat}(hl:l∉D):AE.look (y9 D h) l=AE.look h l:=by
 induction D with
 | nil=>rfl
 | cons d D ih=>grind [AE.look,y9,aC,List.mem_cons_of_mem]
section
variable {X:XT} {E:Tab} (hE:aH E) (hX:XOK X E) {C:Calls aI} (hG:nM E (jF C)) (hm:E.P.follows .mixedOrders=true) {ord:Nat->List eD} {chk:Nat->Array Oper->Nat->Bool} (KL:∀id ops m,chk id ops m=true->Static E ord id ops m)
include hE hX hG hm KL
theorem alj{f:FuncId}{fn:Func}{code:Code}(hf:E.P.funcs[f]? =some fn)(hb:fn.body=some code)(hent:Enters E.P f){sg:Sig}{an:Ann}{ct:Ct aI sg}
  (hrun:∀x,ct.pre x=true->oK (std 0) X C ord chk an sg fn code x (λy=>y=ct.fn x)):kG E f (jE ct) where
 enters:=hent
 calls:=by
  rintro args h nn K ⟨m,qs,hs,hargs,HR,hlen,cr,hcall,alk,v,kT,hvk,hK⟩ c w vs hcn sF H Gl;subst hlen;unfold Am at hcall;split at hcall
  .rename_i e1 he1;split at hcall
   .rename_i e he;split at hcall
    .rename_i iQ;simp only [Bool.and_eq_true,List.isEmpty_iff]at iQ;obtain⟨iQ,htr⟩:=iQ;have iQ:=Ii iQ;split at hcall
     .rename_i x hx;simp only [Option.some.injEq]at hcall;subst hcall;have hck:∀b∈e.ck,b=true:=λb hb=>alk b (List.mem_append_left _ hb)
      have hpre:ct.pre x=true:=alk _ (List.mem_append_right _ (by simp));obtain⟨N,hrun⟩:∃N:Nat,oK (std N) X C ord chk an sg fn code x (λy=>y=ct.fn x):=⟨0,hrun x hpre⟩;simp only at hvk hK;obtain⟨new1,qs1,a1,a2,a3,a4⟩:=sj (λi=>i) he1;obtain⟨new2,os1,b1,b2,b3,b4,b5⟩:=oN (λi=>i) (λ_=>(.gone .i64 0:aM)) (λ_=>⟨.i64,0,rfl⟩) he;have hlv:e.lv.reverse=new1++new2:=by rw [b1,a1];simp [es0]
      have hun:=unpack_pack hx;rw [hlv]at hun;have hrl:e.ren.length=sg.objs.length:=by rw [b2.len,a2.len,Im]
      have hof:∀(j:Nat) (kk:SkO),sg.objs[j]? =some kk->∃o2,os1[j]? =some o2/\OF e hs (λi=>i) j kk (.gone .i64 0) o2:=λj kk hj=>by
       obtain⟨o2,q1,q2⟩:=b5 e (.refl _) j kk hj;exact⟨o2,q1,by simpa using q2⟩
      obtain⟨o1,m1,m2,m3,m4,_,_⟩:=xL (ks:=sg.objs) (nm:=λi=>i) (old:=λ_=>(.gone .i64 0:aM)) H HR hck iQ hrl b4 hof (cb:={K:=λ_ _=>False,ν:=νX e hs c,n:=0}) (hb':=[])
       (KJ w _ _ _ (λ_ _ h=>h.elim) (λ_ h=>h)) false (λh=>by cases h) (ν2:=νX e hs c) (n2:=sg.objs.length) (Nat.zero_le _) (λ_ _=>rfl) (λi hi=>hi) (λi j _ _ h=>h)
       (λi l hi=>by simp only [νX];rw [hi]) (λi hi=>by simp only [νX];rw [hi]) (h2:=os1) (λi _=>rfl)
       (λl o hl ho=>by
        have:sg.objs.length<=l:=by
         rcases Nat.lt_or_ge l sg.objs.length with h | h
         .exact absurd rfl (hl l h)
         .exact h
        rw [List.getElem?_eq_none ah]at ho;cases ho) (λ_ _=>rfl)
       (λb ⟨l,o,hl,_⟩ _=>by simp [AE.look]at hl) (λf b h _=>h) (λf b ⟨l,o,hl,_⟩ _=>by simp [AE.look]at hl)
      generalize hc1:({K:=λf b=>False\/KX e c false f b,ν:=νX e hs c,n:=sg.objs.length}:Ctx)=c1 at m1 m2 m3 m4;generalize hh1:qA (λi=>i) o1 (List.range sg.objs.length) []=h1' at m1 m2 m4;have c1n:c1.n=sg.objs.length:=by rw [<-hc1]
      have c1K:∀f b,c1.K f b->c.K f b\/∃l g,(l,g)∈e.fro/\c.μ l=some b/\(f=true->g=true):=λf b hb=>by
       rw [<-hc1]at hb;rcases hb with hb | hb | ⟨l,g,q1,q2,q3⟩
       .exact hb.elim
       .exact .inl (by simpa using hb)
       .exact .inr ⟨l,g,q1,q2,λh=>q3 (by simp [h])⟩
      have ahe:∀f b,c.K f b->c1.K f b:=λf b hb=>by rw [<-hc1];exact .inr (.inl (by simpa using hb))
      have alm:∀b,dP c1 h1' b->∃(i lq:Nat) (q:dZ),e.ren[i]? =some (some (some lq))/\AE.look h lq=some q/\q.live/\c.μ lq=some b:=λb hb=>by
       rcases m4 b hb with⟨l,o,hl,_⟩ | hb
       .simp [AE.look]at hl
       .exact hb
      have aln:F2 (WV c w (nmh hs)) vs qs:=by
       clear he1 a1 a2 a3 a4 hvk hrun
       induction sF generalizing qs with
       | nil=>cases hargs;exact .nil
       | cons q1 _ ih=>cases hargs with | cons q3 q4=>exact .cons ⟨_,q1,q3⟩ (ih _ q4)
      obtain⟨alo,p1,p2⟩:=Io (a4 H HR b2 hck m3 (λh=>by cases h) aln);unfold oK at hrun;split at hrun
      .exact hrun.elim
      rename_i hkk;have hkk:sg.objs.length<=sg.dQ.length:=by
       have:Nat.ble sg.objs.length sg.dQ.length=true:=by simpa using hkk
       exact Nat.le_of_ble_eq_true this
      rw [show unpack (std N).aA sg.inp x=new1++new2 from hun,a3]at hrun;simp only at hrun;have hb3:=b3 [];rw [List.append_nil]at hb3;rw [show rT (std N).aA (λi=>i) (λ_=>dL.gone Co.i64 ((std N).lit 0)) 0 sg.objs new2=some (os1,[])from hb3]at hrun;simp only at hrun;have hql:qs1.length=vs.length:=by rw [<-p2.length,<-p1.length]
      refine calls_of_wp hf hb ?_;have A1:iZ E {t:=(List.range qs1.length).zip (alo.map some),h:=h1',n:=sg.objs.length,k:=0,m:=qs1.length+(fn.ntmps-qs1.length)} c1 w {tmps:=vs.toArray++Array.replicate (fn.ntmps-vs.toArray.size) undef,defers:=[]}:=by
       refine⟨⟨λi u hu=>D8 p1 ?_ i u hu,m1,?_⟩,c1n,rfl,by simp [hql]⟩
       .refine F2.CG (by simp [hql]) λj i u hj hu=> ?_
        have:i=j:=by
         have h3:=(List.getElem?_eq_some_iff.1 hj).1;simp at h3;rw [List.getElem?_range h3]at hj;cases hj;rfl
        subst this;have hlt:i<vs.length:=(List.getElem?_eq_some_iff.1 hu).1;simp only;rw [Array.getElem?_append_left (by simpa using hlt)];simpa using hu
       .intro gg d hd;obtain⟨q1,u,q2,q3⟩:=Gl gg d hd;exact⟨ahe _ _ q1,u,q2,q3.mono' λb hb=>ahe _ _ hb⟩
      have S1:SR {t:=(List.range qs1.length).zip (alo.map some),h:=h1',n:=sg.objs.length,k:=0,m:=qs1.length+(fn.ntmps-qs1.length)}
        ({t:=(List.range qs1.length).zip (qs1.map λv=>⟨none,v⟩),gs:=[],h:=os1,m:=qs1.length+(fn.ntmps-qs1.length)}:RSt (std N)):=by
       refine⟨m2,by simp [nm,b4],rfl,λi sv hi=> ?_,λt e he=>by simp at he⟩;obtain⟨q1,q2⟩:=D7 p2 i sv hi;unfold yY;rw [q1];exact q2
      refine wp_mono (lg hE hX hG hm KL c1n code hrun A1 (.refl _ _ _) S1 (.refl _ os1) rfl) ?_
      have fin:∀ {c3:Ctx} {s3':St} {s3:RSt (std N)} {a3x:Act} {w3:World},Grow c1 w h1' c3 w3 s3'.h->iZ E s3' c3 w3 a3x->SR s3' s3->Keep sg.objs.length os1 s3.h->
        Un (std N) X sg fn s3 (λy=>y=ct.fn x)->
        a3x.defers=[]/\∃v,(results fn a3x.tmps).run E.P w3= .ok v w3/\
         Post (λv w'=>∃c' r h' j,Grow c w h c' w' h'/\bI c' w' h'/\c'.n=nm hs.length j/\bH c' w' v r/\K r h' j) (.returned v) w3:=by
       intro c3 s3' s3 arv w3 g3 A3 S3 K3 hfin;refine⟨A3.defers,?_⟩;generalize hM:Un (std N) X sg fn s3=M at hfin;unfold Un at hM;split at hM
       .rename_i rs hrs;split at hM
        .rename_i e2 he2;split at hM
         .rename_i e3 he3;split at hM
          .rename_i Ec;have Ec:=Ii Ec;split at hM
           .rename_i y hy;subst hM;obtain⟨alp,hfin⟩:=fF hfin;have hfin:y=ct.fn x:=hfin;subst hfin;obtain⟨ps,rp1,rp2⟩:=Iq (E:=E) hX S3 hrs;obtain⟨us,ps',u1,u2,u3⟩:=Af hE A3 _ (λq=>q=ps) (rp2 _ rfl);subst u3;refine⟨_,J4 u1,?_⟩;generalize hbr:(sg.fresh&&e.fro.all λp=> !p.2)=br at hvk hK;generalize Ux:(if br=true then hs else bB (std m) hs (e.fro.map (·.1)))=h1T at hvk;have Ed:h1T.length=hs.length:=by
             rw [<-Ux];split
             .rfl
             .exact mZ _ _ _
            have alq:nmh h1T=nmh hs:=by
             rw [<-Ux];split
             .rfl
             .exact rY _ _ _
            obtain⟨nms,ahf⟩:∃nms,newNames e.ren h1T.length sg.dQ.length=nms:=⟨_,rfl⟩;rw [ahf]at hvk;have alr:nms.length=sg.dQ.length:=by rw [<-ahf];exact gP _ _ _
            obtain⟨als,qs3,x1,x2,x3,x4⟩:=sj (λi=>nms.getD i 0) he2;obtain⟨ahg,os3,y1,y2,y3,y4,y5⟩:=oN (λi=>nms.getD i 0) (λi=>rV (std m) h1T (nms.getD i 0)) (λj=>KM h1T _) he3;have hlv3:e3.lv.reverse=als++ahg:=by rw [y1,x1];simp [es0]
            have alu:=unpack_pack hy;rw [hlv3]at alu;rw [show unpack (std m).aA sg.out (ct.fn x)=als++ahg from alu,x3]at hvk;simp only at hvk;have hy3:=y3 [];rw [List.append_nil]at hy3;rw [hy3]at hvk;simp only [Option.some.injEq,Prod.mk.injEq]at hvk;obtain⟨hv,hkT⟩:=hvk;have hrl3:e3.ren.length=sg.dQ.length:=by rw [y2.len,x2.len,Im]
            have Gj:∀(i l:Nat),e.ren[i]? =some (some (some l))->i<sg.objs.length:=λi l hi=>by rw [<-hrl];exact(List.getElem?_eq_some_iff.1 hi).1
            have passed:∀(i l:Nat),e.ren[i]? =some (some (some l))->∃o',AE.look h l=some o'/\o'.live:=λi l hi=>by
             have hik:=Gj i l hi;obtain⟨o2,q1,q2⟩:=hof i _ (List.getElem?_eq_getElem hik);obtain⟨_,_,_,_,q3⟩:=q2.rel H HR hck m3 (λh=>by cases h);exact q3 l (λhg=>iQ.gone hi (by rw [List.getElem?_eq_getElem hik,hg])) hi
            have hlh:∀l o',AE.look h l=some o'->l<hs.length:=λl o' hl=>by rw [<-hcn];exact(H.obj l o' hl).1
            have P:=MX (n:=m) os3 e.ren h1T (λi l hi _=>by rw [Ed];obtain⟨o',q,_⟩:=passed i l hi;exact hlh l o' q) (λi j l hi hj=>iQ.dist hi hj);rw [y4,ahf,hkT]at P;have ac2:∀i,i<sg.dQ.length->nms[i]? =some (nms.getD i 0):=λi hi=>by
             have:i<nms.length:=by rw [alr];exact hi
             simp [List.getD,List.getElem?_eq_getElem this]
            have nmP:∀i,i<sg.dQ.length->kT[nms.getD i 0]? =os3[i]? /\(e.ren[i]? =some (some (some (nms.getD i 0)))\/(hs.length<=nms.getD i 0/\∀q:Nat,e.ren[i]? ≠some (some (some q)))):=λi hi=>by
             obtain⟨l,q1,q2,q3⟩:=P.at_ i (by rw [y4];exact hi);rw [ac2 i hi]at q1;have q1:=Option.some.inj q1;subst q1;rw [Ed]at q3;exact⟨q2,q3⟩
            have Ws:∀i j,i<sg.dQ.length->j<sg.dQ.length->nms.getD i 0=nms.getD j 0->i=j:=λi j hi hj hij=>P.inj i j _ (ac2 i hi) (by rw [hij];exact ac2 j hj)
            have ap6:∀i,i<sg.dQ.length->nms.getD i 0<kT.length:=λi hi=>by
             have h3:=(nmP i hi).1;rw [List.getElem?_eq_getElem (show i<os3.length by rw [y4];exact hi)]at h3;exact(List.getElem?_eq_some_iff.1 h3).1
            have RY:∀(i l:Nat),e.ren[i]? =some (some (some l))->nms.getD i 0=l:=λi l hi=>by
             have hik:=Nat.lt_of_lt_of_le (Gj i l hi) hkk;rcases(nmP i hik).2 with q | ⟨_,q⟩
             .rw [hi]at q;cases q;rfl
             .exact absurd hi (q l)
            have hD:∀l,l∈bJ e.ren->∃i,i<sg.dQ.length/\nms.getD i 0=l/\e.ren[i]? =some (some (some l)):=λl hl=>by
             obtain⟨i,hi⟩:=uW hl;exact⟨i,Nat.lt_of_lt_of_le (Gj i l hi) hkk,RY i l hi,hi⟩
            obtain⟨D,aeo⟩:∃D,bJ e.ren++(if br=true then []else e.fro.map (·.1))=D:=⟨_,rfl⟩;rw [aeo]at hK;have KN:∀l,l∈D↔l∈bJ e.ren\/(br=false/\∃f,(l,f)∈e.fro):=λl=>by
             rw [<-aeo];cases br<;>simp
            have uY:∀l f,(l,f)∈e.fro->(∃g cc xs,hs[l]? =some (.rows g cc xs))/\∃o',AE.look h l=some o'/\o'.live:=λl f hl=>by
             obtain⟨_,g,cc,xs,q⟩:=iQ.fro l f hl;obtain⟨o',q1,q2⟩:=HR.old l _ q;cases q2 with | rows _=>exact⟨⟨g,cc,xs,q⟩,_,q1,trivial⟩
            have Gm:∀l o,AE.look (y9 D h) l=some o->o.live->l∉D/\AE.look h l=some o:=λl o hl hlv=>by
             by_cases hd:l∈D
             .rw [Eb hd]at hl;cases hl;exact hlv.elim
             .rw [oQ hd]at hl;exact⟨hd,hl⟩
            have Ir:∀l o b,l∉D->AE.look h l=some o->o.live->c.μ l=some b->¬dP c1 h1' b:=λl o b hd hl hlv hb ho=>by
             obtain⟨i,lq,q,q1,q2,q3,q4⟩:=alm b ho;have:=H.inj l o lq q b hl hlv q2 q3 hb q4;subst this;exact hd ((KN l).2 (.inl (oO q1)))
            have RZ:∀b,dP c1 h1' b->dP c h b:=λb hb=>by
             obtain⟨i,lq,q,_,q2,q3,q4⟩:=alm b hb;exact⟨lq,q,q2,q3,q4⟩
            have kept:∀f b,c.K f b->w3.heap[b]? =w.heap[b]? :=λf b hb=>g3.kept b (H.low f b hb) (λho=>H.own f b (RZ b ho) hb)
            have Hb:bI c w3 (y9 D h):=by
             refine⟨λl o hl=> ?_,λl o l' o' b q1 q2 q3 q4 q5 q6=> ?_,?_,λf b hb=>Nat.lt_of_lt_of_le (H.low f b hb) g3.size,H.sub⟩
             .by_cases hd:l∈D
              .rw [Eb hd]at hl;cases hl;refine⟨?_,trivial⟩;rcases(KN l).1 hd with h3 | ⟨_,f,h3⟩
               .obtain⟨i,hi⟩:=uW h3;obtain⟨o',q,_⟩:=passed i l hi;exact(H.obj l o' q).1
               .obtain⟨_,o',q,_⟩:=uY l f h3;exact(H.obj l o' q).1
              .rw [oQ hd]at hl;obtain⟨q1,q2⟩:=H.obj l o hl;exact⟨q1,q2.mono (.refl c) kept g3.stays q1 (λb hlv hb=>g3.kept b (q2.lt hlv hb) (Ir l o b hd hl hlv hb))⟩
             .obtain⟨_,r1⟩:=Gm l o q1 q2;obtain⟨_,r2⟩:=Gm l' o' q3 q4;exact H.inj l o l' o' b r1 q2 r2 q4 q5 q6
             .rintro f b ⟨l,o,hl,hlv,hb⟩ hk;obtain⟨_,r1⟩:=Gm l o hl hlv;exact H.own f b ⟨l,o,r1,hlv,hb⟩ hk
            have Wt:∀l o b,AE.look h l=some o->o.live->c.μ l=some b->b<w.heap.size:=λl o b hl hlv hb=>(H.obj l o hl).2.lt hlv hb
            have aep:∀l o b,l∉D->AE.look h l=some o->o.live->c.μ l=some b->¬dP c3 s3'.h b:=λl o b hd hl hlv hb ho=>by
             rcases g3.nK b ho with h3 | h3
             .exact Ir l o b hd hl hlv hb h3
             .have:=Wt l o b hl hlv hb;omega
            have R3:∀q g b,(q,g)∈e3.fro->c3.μ q=some b->dP c3 s3'.h b:=λq g b hq hb=>by
             obtain⟨_,g',cc,xs,hl⟩:=Ec.fro q g hq;obtain⟨o',q1,q2⟩:=S3.heap.old q _ hl;cases q2 with | rows _=>exact⟨q,_,q1,trivial,hb⟩
            have alv:br=true->∀l f,(l,f)∈e.fro->f=false:=λhb l f hl=>by
             rw [<-hbr]at hb;simp only [Bool.and_eq_true]at hb;have:=List.all_eq_true.1 hb.2 _ hl;simpa using this
            have ag7:∀f b,dP c (y9 D h) b->KX e3 c3 br f b->False:=by
             rintro f b ⟨l,o,hl,hlv,hb⟩ hk;obtain⟨hd,hl⟩:=Gm l o hl hlv;rcases hk with hk | ⟨q,g,q1,q2,_⟩
             .rcases g3.vF _ b hk with h3 | h3 | h3
              .rcases c1K _ b h3 with h3 | ⟨l2,g2,q1,q2,q3⟩
               .exact H.own _ b ⟨l,o,hl,hlv,hb⟩ h3
               .obtain⟨_,o2,r1,r2⟩:=uY l2 g2 q1;have:=H.inj l o l2 o2 b hl hlv r1 r2 hb q2;subst this;cases hbb:br with
                | false=>exact hd ((KN l).2 (.inr ⟨hbb,g2,q1⟩))
                | true=>
                 have h5:=q3 (by rw [hbb];simp);have h6:=alv hbb l g2 q1;rw [h5]at h6;cases h6
              .have:=Wt l o b hl hlv hb;omega
              .exact Ir l o b hd hl hlv hb h3
             .exact aep l o b hd hl hlv hb (R3 q g b q1 q2)
            have ap7:∃μ2:Nat->Option (Nat×Nat),(∀l,l<hs.length->μ2 l=c.ν l)/\(∀(i q:Nat),i<sg.dQ.length->hs.length<=nms.getD i 0->e3.ren[i]? =some (some (some q))->μ2 (nms.getD i 0)=DW (trK e3 s3.h i q) (c3.ν q))/\
              (∀i:Nat,i<sg.dQ.length->hs.length<=nms.getD i 0->e3.ren[i]? =some (some none)->μ2 (nms.getD i 0)=none):=by
             have hch:∀l,∃ob:Option (Nat×Nat),(l<hs.length->ob=c.ν l)/\(∀(i q:Nat),i<sg.dQ.length->hs.length<=l->nms.getD i 0=l->e3.ren[i]? =some (some (some q))->ob=DW (trK e3 s3.h i q) (c3.ν q))/\
               (∀i:Nat,i<sg.dQ.length->hs.length<=l->nms.getD i 0=l->e3.ren[i]? =some (some none)->ob=none):=by
              intro l;by_cases hl:l<hs.length
              .exact⟨c.ν l,λ_=>rfl,λi q _ h4=>by omega,λi _ h4=>by omega⟩
              .by_cases hx:∃i q:Nat,i<sg.dQ.length/\nms.getD i 0=l/\e3.ren[i]? =some (some (some q))
               .obtain⟨i,q,h4,h5,h6⟩:=hx;refine⟨DW (trK e3 s3.h i q) (c3.ν q),λh=>absurd h hl,λj q' h7 _ h9 h10=> ?_,λj h7 _ h9 h10=> ?_⟩
                .have:=Ws i j h4 h7 (h5.trans h9.symm);subst this;rw [h6]at h10;cases h10;rfl
                .have:=Ws i j h4 h7 (h5.trans h9.symm);subst this;rw [h6]at h10;cases h10
               .exact⟨none,λh=>absurd h hl,λj q' h7 _ h9 h10=>absurd ⟨j,q',h7,h9,h10⟩ hx,λ_ _ _ _ _=>rfl⟩
             obtain⟨μ2,ahh⟩:=Classical.axiomOfChoice hch;exact⟨μ2,λl hl=>(ahh l).1 hl,λi q h4 h5 h6=>(ahh _).2.1 i q h4 h5 rfl h6,λi h4 h5 h6=>(ahh _).2.2 i h4 h5 rfl h6⟩
            obtain⟨μ2,μa,μb,μc⟩:=ap7;have MZ:∀(i:Nat) (v:Option Nat),i<sg.objs.length->e3.ren[i]? =some (some v)->v=some i/\(es0 (std N) sg.objs.length sg.dQ).ren[i]? =some (some (some i)):=λi v hi hv=>by
             have hik:=Nat.lt_of_lt_of_le hi hkk;have h0:=Il (n:=N) hi hik;have hg:pJ sg.dQ[i]? =false:=by
              unfold pJ;split
              .rename_i hh;exact absurd hh (Ec.gone hv)
              .rfl
             rw [hg]at h0;have h0:(es0 (std N) sg.objs.length sg.dQ).ren[i]? =some (some (some i)):=by simpa using h0
             have:=y2.ren i _ (x2.ren i _ h0);rw [hv]at this;cases this;exact⟨rfl,h0⟩
            have hname:∀(i q:Nat),e3.ren[i]? =some (some (some q))->μ2 (nms.getD i 0)=DW (trK e3 s3.h i q) (c3.ν q):=λi q hi=>by
             have hik:i<sg.dQ.length:=by rw [<-hrl3];exact(List.getElem?_eq_some_iff.1 hi).1
             rcases(nmP i hik).2 with h4 | ⟨h4,_⟩
             .have hio:=Gj i _ h4;obtain⟨h5,h5'⟩:=MZ i _ hio hi;cases h5;obtain⟨o',h6,_⟩:=passed i _ h4;have ht3:iT (std N) e3 i=none:=by rw [y2.tr i _ (x2.ren i _ h5'),x2.tr i _ h5'];rfl
              have ht0:iT (std m) e i=none:=by simp [iT,htr]
              rw [μa _ (hlh _ o' h6),lU ht3,jr,g3.le.ν i (by rw [c1n];exact hio)];have:=(m3.name i _ h4).2;rw [lU ht0,jr]at this;exact this.symm
             .exact μb i q hik h4 hi
            have hnil:∀(i:Nat),e3.ren[i]? =some (some none)->μ2 (nms.getD i 0)=none:=λi hi=>by
             have hik:i<sg.dQ.length:=by rw [<-hrl3];exact(List.getElem?_eq_some_iff.1 hi).1
             rcases Nat.lt_or_ge i sg.objs.length with h4 | h4
             .obtain⟨h5,_⟩:=MZ i _ h4 hi;cases h5
             .rcases(nmP i hik).2 with h5 | ⟨h5,_⟩
              .have:=Gj i _ h5;omega
              .exact μc i hik h5 hi
            have hsame:Same hs kT:=λl z hz=>by
             have hll:l<hs.length:=by
              rcases Nat.lt_or_ge l hs.length with hl | hl
              .exact hl
              .simp [nmh,List.getElem?_eq_none hl]at hz
             by_cases hp:∃i:Nat,e.ren[i]? =some (some (some l))
             .obtain⟨i,hi⟩:=hp;have hio:=Gj i l hi;have hik:=Nat.lt_of_lt_of_le hio hkk;have hn:=RY i l hi;have hat:=(nmP i hik).1;rw [hn]at hat;obtain⟨k3,hk3⟩:∃k3,sg.dQ[i]? =some k3:=⟨_,List.getElem?_eq_getElem hik⟩;obtain⟨o3,r1,r2⟩:=y5 e3 (.refl _) i k3 hk3;rw [Nat.zero_add]at r2;have goal:nmh [o3] 0=some z->nmh kT l=some z:=λhh=>by
               simp only [nmh,hat,r1];simpa [nmh]using hh
              by_cases hg:k3= .gone
              .refine goal ?_;rw [r2.gone hg];show nmh [rV (std m) h1T (nms.getD i 0)] 0=some z;rw [hn];rw [<-alq]at hz;unfold rV;simp only [nmh]at hz ⊢;split at hz
               .rename_i hh;rw [hh];simpa using hz
               .rename_i hh;rw [hh];simpa using hz
               .cases hz
              .obtain⟨v3,hv3⟩:=r2.live hg;obtain⟨h5,h6⟩:=MZ i _ hio hv3;subst h5;obtain⟨o1',s1,s2⟩:=hof i _ (List.getElem?_eq_getElem hio);have ap8:sg.objs[i]≠ .gone:=λhh=>iQ.gone hi (by rw [List.getElem?_eq_getElem hio,hh])
               have t1:=s2.s1 l z.1 z.2 ap8 hi (by rw [hz]);have ap9:iT (std m) e i=none:=by simp [iT,htr]
               rw [ap9]at t1;have t2:nmh os1 i=some z:=by simp only [nmh,s1];simpa [nmh]using t1
               rcases(K3 i hio).2 z t2 with⟨cc,nn,hgo⟩ | t3
               .exfalso;obtain⟨v3',arw⟩:=r2.live hg;have:=Gi he3 (i:=i) hk3 hg (l:=i) (by rw [Nat.zero_add];exact hv3);obtain⟨o4,ho4,aqa⟩:=this;rw [hgo]at ho4;cases ho4;exact aqa ⟨_,_,rfl⟩
               .have aqb:iT (std N) e3 i=none:=by rw [y2.tr i _ (x2.ren i _ h6),x2.tr i _ h6];rfl
                have t4:=r2.s1 i z.1 z.2 hg hv3 (by rw [t3]);rw [aqb]at t4;exact goal t4
             .have hp':∀i:Nat,i<os3.length->e.ren[i]? ≠some (some (some l)):=λi _ hi=>hp ⟨i,hi⟩
              have:=P.old l (by rw [Ed];exact hll) hp';rw [<-alq]at hz;simp only [nmh,this];exact hz
            have aqc:∀(j:Nat) (kk:SkO),sg.dQ[j]? =some kk->∃o2,os3[j]? =some o2/\OF e3 s3.h (λi=>nms.getD i 0) j kk (rV (std m) h1T (nms.getD j 0)) o2:=λj kk hj=>by
             obtain⟨o2,q1,q2⟩:=y5 e3 (.refl _) j kk hj;exact⟨o2,q1,by simpa using q2⟩
            have aqd:br=true->sg.dQ.all SkO.fresh=true:=λhb=>by
             rw [<-hbr]at hb;simp only [Bool.and_eq_true,Sig.fresh]at hb;exact hb.1.2
            have aqe:br=true->sg.res.all SkV.fresh=true:=λhb=>by
             rw [<-hbr]at hb;simp only [Bool.and_eq_true,Sig.fresh]at hb;exact hb.1.1
            obtain⟨o3f,z1,z2,z3,z4,z5,z6⟩:=xL (ks:=sg.dQ) (nm:=λi=>nms.getD i 0) (old:=λi=>rV (std m) h1T (nms.getD i 0)) A3.abs.heap S3.heap alp Ec hrl3 y4 aqc (cb:=c) (hb':=y9 D h)
             Hb br aqd (ν2:=μ2) (n2:=kT.length) (by rw [hcn,<-Ed];exact P.len) (λl hl=>μa l (by rw [<-hcn];exact hl)) ap6 Ws hname hnil (h2:=kT) (λi hi=>(nmP i hi).1)
             (λl o hl ho=>by
              have hll:l<hs.length:=by
               rcases Nat.lt_or_ge l hs.length with h4 | h4
               .exact h4
               .obtain⟨i,q1,q2⟩:=P.new l (by rw [Ed];exact h4) (List.getElem?_eq_some_iff.1 ho).1;rw [y4]at q1;rw [ac2 i q1]at q2;exact absurd (Option.some.inj q2) (hl i q1)
              have hnp:l∉bJ e.ren:=λhp=>by
               obtain⟨i,q1,q2,_⟩:=hD l hp;exact hl i q1 q2
              have h5:=P.old l (by rw [Ed];exact hll) (λi hi hh=>hnp (oO hh));rw [h5]at ho;by_cases hd:l∈D
              .rcases(KN l).1 hd with h6 | ⟨hb0,f,h6⟩
               .exact absurd h6 hnp
               .rw [<-Ux,hb0]at ho;simp only [Bool.false_eq_true,if_false]at ho;obtain⟨⟨g,cc,xs,h7⟩,_⟩:=uY l f h6;have:Gone (bB (std m) hs (e.fro.map (·.1))) l:=y8 (List.mem_map.2 ⟨_,h6,rfl⟩) h7;obtain⟨c5,n5,h8⟩:=this;rw [h8]at ho;cases ho;exact⟨.gone,Eb hd,.gone⟩
              .have h7:hs[l]? =some o:=by
                rw [<-Ux]at ho;split at ho
                .exact ho
                .rename_i hb0;rw [jo m _ _ (λh8=>hd ((KN l).2 (.inr ⟨by simpa using hb0,by
                  obtain⟨p,hp,rfl⟩:=List.mem_map.1 h8;exact⟨p.2,hp⟩⟩)))]at ho
                 exact ho
               obtain⟨o',r1,r2⟩:=HR.old l _ h7;exact⟨o',by rw [oQ hd];exact r1,r2.mono hsame⟩)
             (λl hl=>by
              have hll:hs.length<=l:=by have:=P.len;rw [Ed]at this;omega
              have hnd:l∉D:=λhd=>by
               rcases(KN l).1 hd with h4 | ⟨_,f,h4⟩
               .obtain⟨i,hi⟩:=uW h4;obtain⟨o',q,_⟩:=passed i l hi;have:=hlh l o' q;omega
               .obtain⟨_,o',q,_⟩:=uY l f h4;have:=hlh l o' q;omega
              rw [oQ hnd];exact HR.new l hll)
             (λb ⟨l,o,hl,hlv,hb⟩ ho=>by
              obtain⟨hd,hl⟩:=Gm l o hl hlv;exact aep l o b hd hl hlv hb ho)
             (λf b hk ho=>A3.abs.heap.own f b ho (g3.le.K f b (ahe f b hk))) ag7
            have wvs:F2 (WV c3 w3 (nmh s3.h)) us rs:=by
             clear he2 x1 x2 x3 x4 hrs u1 rp2
             induction u2 generalizing rs with
             | nil=>cases rp1;exact .nil
             | cons q1 _ ih=>cases rp1 with | cons q3 q4=>exact .cons ⟨_,q1,q3⟩ (ih _ q4)
            obtain⟨aqf,w1,w2⟩:=Io (x4 A3.abs.heap S3.heap y2 alp z3 aqe wvs);have hv3:PVR (nmh kT) (one aqf) v:=by rw [<-hv];exact ahd w2 (Ea (x3 ahg))
            have hkl:kT.length=nm hs.length (kT.length-hs.length):=by have:=P.len;rw [Ed]at this;simp [nm];omega
            have aqg:∀b,dP c (y9 D h) b->dP c h b:=λb ⟨l,o,hl,hlv,hb⟩=>⟨l,o,(Gm l o hl hlv).2,hlv,hb⟩
            have aer:∀b,dP c3 s3'.h b->dP c h b\/w.heap.size<=b:=λb hb=>(g3.nK b hb).imp (RZ b) id
            refine⟨_,_,_,kT.length-hs.length,?_,z1,hkl,ac1 w1,hK _ _ _ hv3 z2 ?_ hkl⟩
            .refine⟨z5,g3.size,g3.stays,λb hb hno=>g3.kept b hb (λho=>hno (RZ b ho)),λf b hb=> ?_,λb hb=> ?_,g3.os,g3.tape,g3.output⟩
             .rcases hb with hb | hb | ⟨q,g,q1,q2,_⟩
              .exact .inl hb
              .rcases g3.vF _ b hb with h4 | h4 | h4
               .rcases c1K _ b h4 with h5 | ⟨l2,g2,q1,q2,q3⟩
                .left;cases f with
                 | true=>simpa using h5
                 | false=>cases br with
                  | true=>exact H.sub b (by simpa using h5)
                  | false=>simpa using h5
                .obtain⟨_,o2,r1,r2⟩:=uY l2 g2 q1;exact .inr (.inr ⟨l2,o2,r1,r2,q2⟩)
               .exact .inr (.inl h4)
               .exact .inr (.inr (RZ b h4))
              .rcases aer b (R3 q g b q1 q2)with h4 | h4
               .exact .inr (.inr h4)
               .exact .inr (.inl h4)
             .rcases z4 b hb with h4 | ⟨i,lq,q,_,q2,q3,q4⟩
              .exact .inl (aqg b h4)
              .exact aer b ⟨lq,q,q2,q3,q4⟩
            .refine⟨hsame,by have:=P.len;rw [Ed]at this;exact this,λl ⟨cc,nn,hgo⟩=> ?_,λl hl hnd=> ?_⟩
             .have hll:=(List.getElem?_eq_some_iff.1 hgo).1;have hnp:∀i:Nat,e.ren[i]? ≠some (some (some l)):=λi hi=>by
               obtain⟨o',q1,q2⟩:=passed i l hi;obtain⟨o2,q3,q4⟩:=HR.old l _ hgo;rw [q1]at q3;cases q3;cases q4;exact q2.elim
              have hnf:∀f,(l,f)∉e.fro:=λf hf=>by
               obtain⟨⟨g,c5,xs,h7⟩,_⟩:=uY l f hf;rw [hgo]at h7;cases h7
              refine⟨cc,nn,?_⟩;rw [P.old l (by rw [Ed];exact hll) (λi _=>hnp i),<-Ux];split
              .exact hgo
              .rw [jo m _ _ (λh8=>by
                obtain⟨p,hp,rfl⟩:=List.mem_map.1 h8;exact hnf p.2 hp)]
               exact hgo
             .have hnp:∀i:Nat,e.ren[i]? ≠some (some (some l)):=λi hi=>hnd ((KN l).2 (.inl (oO hi)))
              refine⟨?_,?_⟩
              .rw [P.old l (by rw [Ed];exact hl) (λi _=>hnp i),<-Ux];split
               .rfl
               .rename_i hb0;exact jo m _ _ (λh8=>hnd ((KN l).2 (.inr ⟨by simpa using hb0,by
                 obtain⟨p,hp,rfl⟩:=List.mem_map.1 h8;exact⟨p.2,hp⟩⟩)))
              .rw [z6 l (λi hi hh=>by
                rcases(nmP i hi).2 with h4 | ⟨h4,_⟩
                .rw [hh]at h4;exact hnp i h4
                .omega),oQ hnd]
           ·(subst hM;exact hfin.elim)
          ·(subst hM;exact hfin.elim)
         ·(subst hM;exact hfin.elim)
        ·(subst hM;exact hfin.elim)
       ·(subst hM;exact hfin.elim)
      intro ex a' w' he;cases ex with
      | outgrown=>exact he.elim
      | panic _=>exact he.elim
      | goto _=>exact he.elim
      | normal=>obtain⟨c3,s3',s3,g1,g2,g3,g4,_,g6⟩:=he;exact fin g1 g2 g3 g4 g6
      | ret=>obtain⟨c3,s3',s3,g1,g2,g3,g4,_,g6⟩:=he;exact fin g1 g2 g3 g4 g6
      | exit i=>obtain⟨c3,s3',s3,g1,g2,g3,g4,_,g6⟩:=he;exact g6.elim
     .cases hcall
    .cases hcall
   .cases hcall
  .cases hcall
end
end
end Go.TX
namespace Go.TX
open Go Go.AE
structure FM{ρ:Type}(m:(ρ->Prop)->Prop):Prop where
 mono:∀Q Q':ρ->Prop,(∀y,Q y->Q' y)->m Q->m Q'
 one:∀Q:ρ->Prop,m Q->∃y,Q y/\m (λz=>z=y)
 two:∀Q Q':ρ->Prop,m Q->m Q'->∃y,Q y/\Q' y
section
variable {n:Nat} {ρ:Type}
theorem FM.fail:FM (λ_:ρ->Prop=>False):=⟨λ_ _ _ h=>h,λ_ h=>h.elim,λ_ _ h=>h.elim⟩
theorem FM.ret(t:ρ):FM (λQ:ρ->Prop=>Q t):=⟨λ_ _ h hq=>h _ hq,λ_ hq=>⟨t,hq,rfl⟩,λ_ _ h g=>⟨t,h,g⟩⟩
theorem FM.bind{α:Type}{m:(α->Prop)->Prop}{k:α->(ρ->Prop)->Prop}(hm:FM m)(hk:∀t,FM (k t)):FM (λQ=>m λt=>k t Q):=
 ⟨λQ Q' h hq=>hm.mono _ _ (λt ht=>(hk t).mono _ _ h ht) hq,λQ hq=>by
  obtain⟨t,h1,h2⟩:=hm.one _ hq;obtain⟨y,h3,h4⟩:=(hk t).one _ h1;exact⟨y,h3,hm.mono _ _ (λt' e=>by subst e;exact h4) h2⟩,λQ Q' h g=>by
  obtain⟨t,h1,h2⟩:=hm.two _ _ h g;exact(hk t).two _ _ h1 h2⟩
theorem FM.rQ{α:Type}{m:(α ⊕ ρ->Prop)->Prop}{k:α->(ρ->Prop)->Prop}(hm:FM m)(hk:∀t,FM (k t)):FM (λQ=>m (Ci k Q)):=
 ⟨λQ Q' h hq=>hm.mono _ _ (λt ht=>by
  cases t with
  | inl x=>exact(hk x).mono _ _ h ht
  | inr r=>exact h _ ht) hq,λQ hq=>by
  obtain⟨t,h1,h2⟩:=hm.one _ hq;cases t with
  | inl x=>
   obtain⟨y,h3,h4⟩:=(hk x).one _ h1;exact⟨y,h3,hm.mono _ _ (λt' e=>by subst e;exact h4) h2⟩
  | inr r=>exact⟨r,h1,hm.mono _ _ (λt' e=>by subst e;rfl) h2⟩,λQ Q' h g=>by
  obtain⟨t,h1,h2⟩:=hm.two _ _ h g;cases t with
  | inl x=>exact(hk x).two _ _ h1 h2
  | inr r=>exact⟨r,h1,h2⟩⟩
theorem FM.itW{α:Type}{f:α->(α ⊕ ρ->Prop)->Prop}(hf:∀x,FM (f x)):∀(N:Nat) (x:α),FM (TX.itW N f x)
 | 0,x=>by simp_all [TX.itW,fail]
 | N+1,x=>by
  have e:TX.itW (N+1) f x=λQ=>f x (Ci (TX.itW N f) Q):=by funext Q;rw [TX.itW]
  rw [e];exact .rQ (hf x) (FM.itW hf N)
theorem Az{α:Type}{k k':α->(ρ->Prop)->Prop}{Q Q':ρ->Prop}(hk:∀x,k x Q->k' x Q')(hq:∀y,Q y->Q' y):∀s,Ci k Q s->Ci k' Q' s
 | .inl x=>hk x
 | .inr r=>hq r
theorem M0{α:Type}{f:α->(α ⊕ ρ->Prop)->Prop}(hf:∀x,FM (f x)){Q:ρ->Prop}:∀ {N M:Nat} {x:α},N<=M->TX.itW N f x Q->TX.itW M f x Q
 | 0,_,_,_,h=>by grind [TX.itW]
 | N+1,0,_,h,_=>absurd h ah
 | N+1,M+1,x,h,g=>by
  rw [TX.itW]at g ⊢;exact(hf x).mono _ _ (Az (λy k=>M0 hf ah k) (λ_ k=>k)) g
theorem Ee{α:Type}{f:α->(α ⊕ ρ->Prop)->Prop}(hf:∀x,FM (f x)){x:α}{Q:ρ->Prop}(h:RA f x Q):∃r,Q r/\∃N,TX.itW N f x (λz=>z=r):=by
 obtain⟨I,μ,h0,hs⟩:=h;have key:∀(n:Nat) (y:α),μ y<n->I y->∃r,Q r/\∃N,TX.itW N f y (λz=>z=r):=by
  intro n
  induction n with
  | zero=>intro y h;omega
  | succ n ih=>
   intro y hy hI;obtain⟨s,h1,h2⟩:=(hf y).one _ (hs y hI);cases s with
   | inl z=>
    obtain⟨r,q1,N,q2⟩:=ih z (by have:=h1.2;omega) h1.1;refine⟨r,q1,N+1,?_⟩;rw [TX.itW];exact(hf y).mono _ _ (λs e=>by subst e;exact q2) h2
   | inr r=>
    refine⟨r,h1,1,?_⟩;rw [TX.itW];exact(hf y).mono _ _ (λs e=>by subst e;rfl) h2
 exact key _ x (Nat.lt_succ_self _) h0
theorem FM.iter{α:Type}{f:α->(α ⊕ ρ->Prop)->Prop}(hf:∀x,FM (f x))(x:α):FM (λQ=>RA f x Q):=by
 refine⟨λQ Q' h ⟨I,μ,h0,hs⟩=>⟨I,μ,h0,λy hy=>(hf y).mono _ _ (Az (λ_ h=>h) h) (hs y hy)⟩,λQ h=> ?_,λQ Q' h g=> ?_⟩
 rotate_left
 .obtain⟨r,q1,N,q2⟩:=Ee hf h;obtain⟨t,g1,M,g2⟩:=Ee hf g;obtain⟨z,rfl,rfl⟩:=(FM.itW hf (max N M) x).two _ _ (M0 hf (Nat.le_max_left ..) q2) (M0 hf (Nat.le_max_right ..) g2);exact⟨_,q1,g1⟩
 obtain⟨r,q1,N,q2⟩:=Ee hf h;refine⟨r,q1,?_⟩;have least:∀y,(∃N,TX.itW N f y (λz=>z=r))->∃N,TX.itW N f y (λz=>z=r)/\∀M,M<N->¬TX.itW M f y (λz=>z=r):=by
  intro y ⟨N,hN⟩
  induction N using Nat.strongRecOn with
  | ind N ih=>grind
 have pick:∀y,∃N,(∃N,TX.itW N f y (λz=>z=r))->TX.itW N f y (λz=>z=r)/\∀M,M<N->¬TX.itW M f y (λz=>z=r):=λy=>by
  by_cases h:∃N,TX.itW N f y (λz=>z=r)
  .obtain⟨N,hN⟩:=least y h;grind
  simp_all
 obtain⟨ν,hν⟩:=Classical.axiomOfChoice pick;refine⟨λy=>∃N,TX.itW N f y (λz=>z=r),ν,⟨N,q2⟩,λy hy=> ?_⟩;obtain⟨h1,h2⟩:=hν y hy;cases hn:ν y with
 | zero=>grind [TX.itW]
 | succ k=>
  rw [hn]at h1;rw [TX.itW]at h1;refine(hf y).mono _ _ (Az (λz hz=> ?_) (λ_ h=>h)) h1
  grind
theorem FM.chk{b:Bool}{m:(ρ->Prop)->Prop}(h:FM m):FM (λQ=>b=true/\m Q):=
 ⟨λ_ _ hq ⟨a,c⟩=>⟨a,h.mono _ _ hq c⟩,λ_ ⟨a,c⟩=>let⟨y,q1,q2⟩:=h.one _ c;⟨y,q1,a,q2⟩,λ_ _ ⟨_,c⟩ ⟨_,d⟩=>h.two _ _ c d⟩
theorem FM.fV{m:(ρ->Prop)->Prop}(h:FM m):∀(ps:List Bool),FM (TX.fV (std n) ps m)
 | []=>h
 | _::ps=> .chk (FM.fV h ps)
theorem FM.cond{b:Bool}{x y:(ρ->Prop)->Prop}(hx:FM x)(hy:FM y):FM (λQ=>(b=true->x Q)/\(b=false->y Q)):=
 ⟨λ_ _ hq ⟨a,c⟩=>⟨λh=>hx.mono _ _ hq (a h),λh=>hy.mono _ _ hq (c h)⟩,λ_ ⟨a,c⟩=>by
  cases b with
  | true=>obtain⟨y,q1,q2⟩:=hx.one _ (a rfl);grind
  | false=>obtain⟨y,q1,q2⟩:=hy.one _ (c rfl);grind,λ_ _ ⟨a,c⟩ ⟨a',c'⟩=>by
  cases b with
  | true=>exact hx.two _ _ (a rfl) (a' rfl)
  | false=>exact hy.two _ _ (c rfl) (c' rfl)⟩
theorem FM.bind'{ts:List LTy}{m:(gN ts->Prop)->Prop}{k:gN ts->(ρ->Prop)->Prop}(hm:FM m)(hk:∀t,FM (k t)):FM ((std n).bind ts m k):=by simp_all [FM.bind]
theorem FM.ahi{ts:List LTy}{m:(gN ts ⊕ ρ->Prop)->Prop}{k:gN ts->(ρ->Prop)->Prop}(hm:FM m)(hk:∀t,FM (k t)):FM ((std n).rQ ts m k):=by simp_all [FM.rQ]
theorem FM.inl'{ts:List LTy}(t:gN ts):FM ((std n).inl (ρ:=ρ) ts t):=FM.ret _
theorem FM.inr'{ts:List LTy}{m:(ρ->Prop)->Prop}(h:FM m):FM ((std n).inr (ρ:=ρ) ts m):=by simp_all [FM.bind,gN,FM.ret]
theorem FM.iter'{ts:List LTy}{f:gN ts->(gN ts ⊕ ρ->Prop)->Prop}(hf:∀x,FM (f x))(x:gN ts):FM ((std n).iter ts f x):=FM.iter hf x
theorem FM.ret'{ts:List LTy}(t:gN ts):FM ((std n).ret ts t):=FM.ret t
theorem FM.use{cr:CR (std n)}{K:SVal->List aM->(ρ->Prop)->Prop}(h:∀v k,FM (K v k)):FM (qw (std n) cr K):=by
 obtain⟨ck,ts,y,k,td,p⟩:=cr;unfold qw;cases ts with
 | nil=>grind [fail]
 | cons a b=>grind [fail]
end
theorem BI:∀(ts:List LTy),Nonempty (gN ts)
 | []=>⟨()⟩
 | t::r=>by
  obtain⟨y⟩:=BI r;have x:Nonempty (LT aI t):=by
   cases t with
   | i=>exact⟨(0:Int)⟩
   | b=>exact⟨false⟩
   | s=>exact⟨(default:ByteArray)⟩
   | l c=>exact⟨([]:List c.den)⟩
   | x c=>exact⟨(default:c.den)⟩
  obtain⟨x⟩:=x;exact⟨(x,y)⟩
noncomputable def cn {s:Sig} (F:gN s.inp->(gN s.out->Prop)->Prop):Ct aI s:=
 {pre:=λx=> @decide (∃y,F x λz=>z=y) (Classical.propDecidable _)
  fn:=λx=> @Classical.epsilon _ (BI _) λy=>F x λz=>z=y}
structure Fn(E:Tab)(f:FuncId){s:Sig}(F:gN s.inp->(gN s.out->Prop)->Prop)(c:Ct aI s):Prop where
 e:c=cn F
 fm:∀x,FM (F x)
 ok:kG E f (jE c)
theorem Fn.cs{E:Tab}{f:FuncId}{s:Sig}{F:gN s.inp->(gN s.out->Prop)->Prop}{c:Ct aI s}(h:Fn E f F c){x:gN s.inp}{Q:gN s.out->Prop}(g:F x Q):c.pre x=true/\Q (c.fn x):=by
 rw [h.e];obtain⟨y,h1,h2⟩:=(h.fm x).one _ g;have e:∃y,F x λz=>z=y:=⟨y,h2⟩
 refine⟨by grind [cn,decide_eq_true,Classical.propDecidable],?_⟩;obtain⟨z,k1,k2⟩:=(h.fm x).two _ _ g (@Classical.epsilon_spec _ (λy=>F x λz=>z=y) e)
 grind [cn]
variable [aF]
section
variable {n:Nat} {ρ:Type}
theorem FM.region{X:XT}{C:Calls aI}{ops:List Oper}{K:RSt (std n)->(ρ->Prop)->Prop}(hK:∀s,FM (K s)):∀(rest:List Oper) (s:RSt (std n)),FM (dW (std n) X C ops rest K s)
 | [],s=>by unfold dW;exact hK s
 | o::rest,s=>by
  have ih:=FM.region (X:=X) (C:=C) (ops:=ops) hK rest;unfold dW;split
  .split
   .split
    .split
     .refine FM.fV ?_ _;rw [Cw];exact ih _
     .exact .fail
    .split
     .exact FM.fV (FM.use λv k=>ih _) _
     .exact .fail
   .split
    .split
     .exact ih _
     .split
      .split
       .exact FM.fV (ih _) _
       .exact .fail
      .split
       .split
        .exact FM.fV (FM.use λv k=>ih _) _
        .exact .cond (FM.fV (FM.use λv k=>ih _) _) (ih _)
       .exact .fail
     .exact .fail
    .exact .fail
  .exact .fail
theorem FM.draw{X:XT}{C:Calls aI}{ops:List Oper}{K:RSt (std n)->(ρ->Prop)->Prop}(hK:∀s,FM (K s)):∀(rest:List eD) (hs:List (Nat×List Nat)) (s:RSt (std n)),FM (iC (std n) X C ops rest hs K s)
 | [],hs,s=>by unfold iC;exact hK s
 | (i,rs,cs)::rest,hs,s=>by
  have ih:=FM.draw (X:=X) (C:=C) (ops:=ops) hK rest;unfold iC;split
  .exact .fail
  .split
   .simp only;split
    .split
     .exact .fail
     .split
      .split
       .refine FM.fV ?_ _;rw [Cw];exact ih _ _
       .exact .fail
      .split
       .split
        .exact ih _ _
        .split
         .exact FM.fV (ih _ _) _
         .exact .fail
        .exact .fail
       .exact .fail
    .split
     .exact FM.fV (ih _ _) _
     .exact ih _ _
     .exact .fail
    .split
     .exact FM.fV (ih _ _) _
     .exact .fail
    .split
     .split
      .split
       .exact FM.fV (FM.use λv k=>ih _ _) _
       .exact .fail
      .exact .fail
     .split
      .split
       .exact ih _ _
       .split
        .split
         .split
          .exact FM.fV (FM.use λv k=>ih _ _) _
          .exact .cond (FM.fV (FM.use λv k=>ih _ _) _) (ih _ _)
         .exact .fail
        .exact .fail
       .exact .fail
      .exact .fail
   .exact .fail
theorem FM.cut{k:Nat}{sk:iD}{pl:Bool}{s:RSt (std n)}{K:Exit->RSt (std n)->(ρ->Prop)->Prop}(hK:∀e s,FM (K e s)){W: {σ:Type}->(Exit->RSt (std n)->(σ->Prop)->Prop)->(σ->Prop)->Prop}
  (hW:∀ {σ:Type} {K':Exit->RSt (std n)->(σ->Prop)->Prop},(∀e s,FM (K' e s))->FM (W K')):FM (MI (std n) k sk pl s K W):=by
 unfold MI;split
 .refine FM.bind' (hW λe s=> ?_) (λt=>hK _ _);split
  .split
   .exact FM.fV (FM.ret' _) _
   .exact .fail
  .exact .fail
 .refine FM.ahi (hW λe s=> ?_) (λt=>hK _ _);split
  .split
   .exact FM.fV (FM.inl' _) _
   .exact .fail
  .exact FM.inr' (hK _ _)
theorem FM.reg{X:XT}{C:Calls aI}{ord:Nat->List eD}{chk:Nat->Array Oper->Nat->Bool}{id:Nat}{ops:Array Oper}{draw:Bool}{s:RSt (std n)}{K:Exit->RSt (std n)->(ρ->Prop)->Prop}(hK:∀e s,FM (K e s)):
 FM ((if draw then(if chk id ops s.m then iC (std n) X C ops.toList (ord id) [] (λs=>K .normal s) s else(std n).fail)else dW (std n) X C ops.toList ops.toList (λs=>K .normal s) s:(std n).M ρ)):=by grind [FM.draw,fail,FM.region]
end
theorem FM.exec{n:Nat}{X:XT}{C:Calls aI}{ord:Nat->List eD}{chk:Nat->Array Oper->Nat->Bool}{k:Nat}:∀(code:Code) {ρ:Type} (an:Ann) (s:RSt (std n)) (K:Exit->RSt (std n)->(ρ->Prop)->Prop),(∀e s,FM (K e s))->FM (bM (std n) X C ord chk k an code s K)
  | .skip,ρ,an,s,K,hK=>by cases an<;>exact hK _ _
  | .region id ops draw,ρ,an,s,K,hK=>by
    simp only [bM];split
    · exact FM.cut hK λhK'=>FM.reg hK'
    · exact FM.reg hK
  | .seq x y,ρ,an,s,K,hK=>by
    have main:∀a1 a2 (K1:Exit->RSt (std n)->(ρ->Prop)->Prop),(∀s',K1 .normal s'=bM (std n) X C ord chk k a2 y s' K)->(∀e s',e≠ .normal->K1 e s'=K e s')->FM (bM (std n) X C ord chk k a1 x s K1):=by
      intro a1 a2 K1 h1 h2;refine FM.exec x a1 s K1 λe s'=> ?_
      by_cases he:e= .normal
      · subst he;rw [h1];exact FM.exec y a2 s' K hK
      · rw [h2 e s' he];exact hK _ _
    cases an with
    | seq a1 a2=>rw [bM];exact main a1 a2 _ (λ_=>rfl) (λe s' he=>by cases e<;>first | rfl | exact absurd rfl he)
    | u=>rw [bM];exact main .u .u _ (λ_=>rfl) (λe s' he=>by cases e<;>first | rfl | exact absurd rfl he)
    | _=>simp only [bM];exact .fail
  | .cond cd x y,ρ,an,s,K,hK=>by
    simp only [bM];split
    · split
      · exact .cond (FM.exec x _ s K hK) (FM.exec y _ s K hK)
      · exact .cond (FM.exec x _ s K hK) (FM.exec y _ s K hK)
      · exact FM.cut hK λhK'=> .cond (FM.exec x _ s _ hK') (FM.exec y _ s _ hK')
      · exact .fail
    · exact .fail
  | .block id b,ρ,an,s,K,hK=>by
    have main:∀ {σ:Type} {K':Exit->RSt (std n)->(σ->Prop)->Prop},(∀e s,FM (K' e s))->∀a1 (K1:Exit->RSt (std n)->(σ->Prop)->Prop),(∀e s',K1 e s'=K' e s'\/K1 e s'=K' .normal s')->FM (bM (std n) X C ord chk k a1 b s K1):=by
      intro σ K' hK' a1 K1 h1;refine FM.exec b a1 s K1 λe s'=> ?_
      rcases h1 e s' with h | h<;>rw [h]<;>exact hK' _ _
    have alt:∀ {σ:Type} {K':Exit->RSt (std n)->(σ->Prop)->Prop} (e:Exit) (s':RSt (std n)),(match e with | .exit i=>if i==id then K' .normal s' else K' (.exit i) s' | e=>K' e s':(std n).M σ)=K' e s'\/(match e with | .exit i=>if i==id then K' .normal s' else K' (.exit i) s' | e=>K' e s':(std n).M σ)=K' .normal s':=by
      intro σ K' e s';cases e with
      | exit i => simp only; split
                  · exact .inr rfl
                  · exact .inl rfl
      | _=>exact .inl rfl
    simp only [bM];split
    · exact main hK _ _ alt
    · exact main hK _ _ alt
    · exact FM.cut hK λhK'=>main hK' _ _ alt
    · exact .fail
  | .loop b,ρ,an,s,K,hK=>by
    cases an with
    | loop sk a1=>
      rw [bM];split
      · refine FM.fV (FM.iter' (λx=>FM.exec b a1 _ _ λe s'=> ?_) _) _;split
        · split
          · exact FM.fV (FM.inl' _) _
          · exact .fail
        · exact FM.inr' (hK _ _)
      · exact .fail
    | _=>simp only [bM];exact .fail
  | .exit i,ρ,an,s,K,hK=>by cases an<;>exact hK _ _
  | .ret,ρ,an,s,K,hK=>by cases an<;>exact hK _ _
  | .rangeFunc ..,ρ,an,s,K,hK=>by grind [bM,fail]
  | .scope _,ρ,an,s,K,hK=>by grind [bM,fail]
  | .label _,ρ,an,s,K,hK=>by grind [bM,fail]
  | .goto _,ρ,an,s,K,hK=>by grind [bM,fail]
  | .refuse _,ρ,an,s,K,hK=>by grind [bM,fail]
theorem FM.run{n:Nat}{X:XT}{C:Calls aI}{ord:Nat->List eD}{chk:Nat->Array Oper->Nat->Bool}{an:Ann}{sg:Sig}{fn:Func}{code:Code}(x:gN sg.inp):FM (oK (std n) X C ord chk an sg fn code x):=by
 unfold oK;split
 .exact .fail
 .split
  .split
   .refine FM.exec code an _ _ λe s=> ?_
    have he:FM (Un (std n) X sg fn s):=by
     unfold Un;split
     .split
      .split
       .split
        .split
         .exact FM.fV (FM.ret' _) _
         .exact .fail
        .exact .fail
       .exact .fail
      .exact .fail
     .exact .fail
    grind [fail]
   .exact .fail
  .exact .fail
def ofL(C:Car)(l:List (FuncId×Sigma (Ct C))):Calls C:=λf=>(l.filter λp=>p.1==f).map (·.2)
def Uy(l:List (Nat×List eD))(i:Nat):List eD:=match l.find? λp=>p.1==i with | some p=>p.2 | none=> []
def ac3(E:Tab)(l:List (Nat×List eD))(id:Nat)(ops:Array Oper)(m:Nat):Bool:=Ht ops.toList (Uy l id)&&yK E m ops.toList&&Hw E.P ops.toList
theorem ac4{E:Tab}{l:List (Nat×List eD)}:∀id ops m,ac3 E l id ops m=true->Static E (Uy l) id ops m:=λ_ _ _ h=>h
theorem ahj{E:Tab}{l:List (FuncId×Sigma (Ct aI))}(h:∀p∈l,kG E p.1 (jE p.2.2)):nM E (jF (ofL aI l)):=by
 intro f R hR;unfold jF at hR;split at hR
 .cases hR
 .cases hR;rename_i hne;have hall:∀ct∈ofL aI l f,kG E f (jE ct.2):=λct hct=>by
   obtain⟨p,hp,rfl⟩:=List.mem_map.1 hct
   grind
  obtain⟨ct,hct⟩:=List.exists_mem_of_ne_nil _ hne;exact⟨(hall ct hct).enters,λargs h n K ⟨ct,hct,hk⟩=>(hall ct hct).calls args h n K hk⟩
def Ru(X:XT)(E:Tab)(A:Alg)(ord:List (Nat×List eD))(an:Ann)(s:Sig)(fn:Func)(l:List (FuncId×Sigma (Ct A.aA)))(F:Tup A.aA s.inp->A.M (Tup A.aA s.out)):Prop:=
 ∀x,oK A X (ofL A.aA l) (Uy ord) (ac3 E ord) an s fn (fn.body.getD .skip) x=F x
section
variable {X:XT} {E:Tab} (hE:aH E) (hX:XOK X E) (hm:E.P.follows .mixedOrders=true)
include hE hX hm
theorem aqh{f:FuncId}{fn:Func}(hf:E.P.funcs[f]? =some fn)(hb:fn.body.isSome=true)(hent:∀c,fn.body=some c->Enters E.P f){l:List (FuncId×Sigma (Ct aI))}(hl:∀p∈l,kG E p.1 (jE p.2.2)){ord:List (Nat×List eD)}{sg:Sig}{an:Ann}
  {F:gN sg.inp->(gN sg.out->Prop)->Prop} (hrun:Ru X E (std 0) ord an sg fn l F):Fn E f F (cn F):=by
 obtain⟨code,hb⟩:=Option.isSome_iff_exists.1 hb;have hr:∀x,oK (std 0) X (ofL aI l) (Uy ord) (ac3 E ord) an sg fn code x=F x:=λx=>by have:=hrun x;simp_all
 have hFM:∀x,FM (F x):=λx=>by rw [<-hr x];exact FM.run x
 refine⟨rfl,hFM,alj hE hX (ahj hl) hm (ord:=Uy ord) (chk:=ac3 E ord) ac4 hf hb (hent _ hb) (an:=an) (λx hx=> ?_)⟩;rw [hr x];simp only [cn]at hx;exact @Classical.epsilon_spec _ (λy=>F x λz=>z=y) (@of_decide_eq_true _ (Classical.propDecidable _) hx)
end
abbrev aF.z : aF := ⟨[], []⟩
abbrev Tup.q{C : Car}{a b c d : LTy}{ts : List LTy}(x : Tup C (a :: b :: c :: d :: ts)) : Tup C ts := x.2.2.2.2
abbrev Tup.o{C : Car}{a b c d e f g h : LTy}{ts : List LTy}(x : Tup C (a :: b :: c :: d :: e :: f :: g :: h :: ts)) : Tup C ts := x.2.2.2.2.2.2.2.2
abbrev Pt(A : Alg)(s : Sig) : Type := Tup A.aA s.inp -> A.B
abbrev Ft(A : Alg)(s : Sig) : Type := Tup A.aA s.inp -> Tup A.aA s.out
abbrev Ot(A : Alg)(s : Sig) : Type := A.M (Tup A.aA s.out)
structure Al(A:Alg) where
 n:Int->A.I
 z:A.I
 u:A.I
 T:A.B
 F:A.B
 e:A.I->A.I->A.B
 d:A.I->A.I->A.B
 l:A.I->A.I->A.B
 m:A.I->A.I->A.B
 g:A.I->A.I->A.B
 h:A.I->A.I->A.B
 p:A.I->A.I->A.I
 q:A.I->A.I->A.I
 t:A.I->A.I->A.I
 i: {ρ:Type}->A.I->(Tup A.aA [.i]->A.M ρ)->A.M ρ
 b: {ρ:Type}->A.B->(Tup A.aA [.b]->A.M ρ)->A.M ρ
 s: {ρ:Type}->(t:LTy)->LT A.aA t->(Tup A.aA [t]->A.M ρ)->A.M ρ
 j: {ρ:Type}->{i o:List LTy}->(Tup A.aA i->A.B)->(Tup A.aA i->Tup A.aA o)->Tup A.aA i->(Tup A.aA o->A.M ρ)->A.M ρ
 k: {ρ:Type}->{i o:List LTy}->A.B->(Tup A.aA i->A.B)->(Tup A.aA i->Tup A.aA o)->Tup A.aA i->(Tup A.aA o->A.M ρ)->A.M ρ
 v:A.B->A.M (Tup A.aA [.b])
 w: {ρ:Type}->(c:Co)->A.L c->A.I->A.M ρ->A.M ρ
 c: {ρ:Type}->A.B->A.M ρ->A.M ρ->A.M ρ
 C: {ρ:Type}->A.B->A.M ρ->A.M ρ
 r: {ts:List LTy}->Tup A.aA ts->A.M (Tup A.aA ts)
 L: {ρ:Type}->{ts:List LTy}->Tup A.aA ts->A.M (Sum (Tup A.aA ts) ρ)
 R: {ρ:Type}->{ts:List LTy}->A.M ρ->A.M (Sum (Tup A.aA ts) ρ)
 I: {ρ:Type}->(ts:List LTy)->(Tup A.aA ts->A.M (Sum (Tup A.aA ts) ρ))->Tup A.aA ts->A.M ρ
 f:(c:Co)->Nat->A.X c->A.I
 D:(c:Co)->Nat->(c':Co)->A.X c->A.L c'
 x:(c:Co)->Tup A.aA c.oI->A.X c
 y:(c:Co)->A.L c->A.I
 o:(c:Co)->A.L c->A.I->A.X c
 a:A.B->A.B->A.B->A.B
 N:A.B->A.B
 O:A.B->A.B->A.B
abbrev Alg.al(A : Alg) : Al A where
 n:=A.lit
 z:=A.lit 0
 u:=A.lit 1
 T:=A.bl true
 F:=A.bl false
 e:=A.cmp .eql
 d:=A.cmp .neq
 l:=A.cmp .lss
 m:=A.cmp .leq
 g:=A.cmp .gtr
 h:=A.cmp .geq
 p:=A.arith .add .i64
 q:=A.arith .sub .i64
 t:=A.arith .mul .i64
 i:=λv k=>A.qW [.i] (v,()) k
 b:=λv k=>A.qW [.b] (v,()) k
 s:=λt v k=>A.qW [t] (v,()) k
 j:=λp f a k=>A.chk (p a) (A.qW _ (f a) k)
 k:=λb p f a k=>A.chk (A.orB (A.xH b) (p a)) (A.qW _ (f a) k)
 v:=λv=>A.qW [.b] (v,()) λx=>A.ret [.b] (x.1,())
 w:=λc l i m=>A.chk (A.cmp .leq (A.lit 0) i) (A.chk (A.cmp .lss i (A.len c l)) m)
 c:=A.cond
 C:=A.chk
 r:=A.ret _
 L:=A.inl _
 R:=A.inr _
 I:=A.iter
 f:=A.fI
 D:=A.fL
 x:=A.mkX
 y:=A.len
 o:=A.get
 a:=A.Hz
 N:=A.xH
 O:=A.orB
abbrev SkC.i : SkC := .int .i64
abbrev SkV.i : SkV := .c (.int .i64)
abbrev SkV.b : SkV := .c .bool
abbrev SkV.p(l s : Nat) : SkV := .c (.pb l s 0)
abbrev SkV.o(l : Nat) : SkV := .c (.own l)
abbrev SkV.r(f : Bool)(c : Co) : SkV := .c (.rows f c)
abbrev SkO.g(l : List SkC) : SkO := .box (.agg l)
abbrev SkO.s(f : Bool)(c : Co) : SkO := .box (.sv f c)
abbrev Ann.v(a : Ann) : Ann := .seq .u a
end Go.TX
namespace Go.TX
open Go Go.AE
section
variable [aF]
def tmps(l:List Operand):List Nat:=l.filterMap λ| .tmp t=>some t | _=>none
def opT(ops:List Oper)(o:Oper):List Nat:=
 (match o.op with
 | .build _ ps | .buildSlice _ _ ps=>tmps (ps.toList.map (·.2))
 | .slice _ x a b c=>tmps (x::(a.toList++b.toList++c.toList))
 | .makeFunc _ a b=>tmps (a.toList++b.toList)
 | .call c=>tmps c.operands.toList
 | .lookup _ a v _=>tmps [a,v]++(jT ops).map (·.2)
 | op=>tmps op.operands.toList)++(match o.guard with | some (j,_)=>(gslot ops j).toList | none=> [])
def Wu(ops:List Oper)(m:List Nat)(k2:Nat):Nat->Nat->List eD->List eD
 | 0,_,out=>out
 | k+1,dn,out=>
  let dm (i:Nat):Nat:=match ops[i]? with | some o=>Vx [] o.after.toList | none=>0
  let rdy (i q:Nat):Bool:= !dn.testBit i&& (dm i&&&q)==dm i
  let rs (i:Nat):List Nat:=match ops[i]? with | some o=>opT ops o | none=> []
  let n:=List.range ops.length
  match n.find? λi=>Nat.ble (bC ops i) 1&&rdy i (n.foldl (λd j=>if k2.testBit j&& !(match gslot ops j with | some x=>(rs i).contains x | none=>false)then d ||| 2^j else d) dn)with
  | some i=>Wu ops m k2 k (dn ||| 2^i) (out++ [(i,rs i,[])])
  | none=>match n.find? λi=>bC ops i==3&&rdy i (dn ||| k2)with
   | some i=>
    let a:=n.filter λj=>bC ops j==2&& !dn.testBit j&& (m.getD i 0).testBit j
    Wu ops m k2 k (a.foldl (λd j=>d ||| 2^j) dn ||| 2^i) (out++a.map (λj=>(j,[],[]))++ [(i,rs i,(out.filter λp=>loadAt ops p.1&& !jw m i p.1).map (·.1))])
   | none=>out++(n.filter λj=> !dn.testBit j).map (λj=>(j,[],[]))
def alx(ops:List Oper):List eD:=Wu ops (masks ops) ((List.range ops.length).foldl (λd i=>if bC ops i==2 then d ||| 2^i else d) 0) (ops.length+1) 0 []
def ac5:Code->List (Nat×List eD)
 | .region id ops true=> [(id,alx ops.toList)]
 | .seq a b | .cond _ a b=>ac5 a++ac5 b
 | .block _ b | .loop b=>ac5 b
 | _=> []
def ahk(f:Func):List (Nat×List eD):=ac5 (f.body.getD .skip)
end
inductive Ex where
 | v (n j:Nat) | ln (n:Nat) | lz (n:Nat) | bl (b:Bool) | st (s:ByteArray)
 | ar (op:BinOp) (k:IntKind) (x y:Ex) | cm (op:BinOp) (x y:Ex) | addN (x y:Ex) | Ke (x y:Ex) | neg (k:IntKind) (x:Ex) | conv (k:IntKind) (x:Ex) | Mk (x y:Ex) | iV (x y:Ex)
 | xH (x:Ex) | Kg (x y:Ex) | orB (x y:Ex) | eqB (x y:Ex) | eqS (x y:Ex) | Ml (x:Ex)
 | Mq (b x y:Ex) | Hz (b x y:Ex) | Mr (b:Ex) (c:Co) (x y:Ex) | Ul (b:Ex) (c:Co) (x y:Ex)
 | len (c:Co) (x:Ex) | Dw (c:Co) | get (c:Co) (x i:Ex) | set (c:Co) (x i y:Ex) | app (c:Co) (x y:Ex) | sub (c:Co) (x i j:Ex) | rep (c:Co) (n x:Ex) | lst (c:Co) (xs:List Ex) | glob (n:Nat) (c:Co)
 | fI (c:Co) (j:Nat) (x:Ex) | fB (c:Co) (j:Nat) (x:Ex) | fS (c:Co) (j:Nat) (x:Ex) | fL (c:Co) (j:Nat) (c':Co) (x:Ex) | mkX (c:Co) (ts:List LTy) (t:List Ex) | eqX (c:Co) (x y:Ex)
 | cp (i:Nat) (ts:List LTy) (t:List Ex) | cf (i:Nat) (ts:List LTy) (t:List Ex) (j:Nat)
inductive Pg where
 | ret (ts:List LTy) (t:List Ex) | qW (ts:List LTy) (t:List Ex) (k:Pg) | aly (i:Nat) (ts:List LTy) (t:List Ex) (k:Pg) | fail | chk (b:Ex) (m:Pg) | cond (b:Ex) (x y:Pg) | bind (ts:List LTy) (m k:Pg) | rQ (ts:List LTy) (m k:Pg)
 | inl (ts:List LTy) (t:List Ex) | inr (ts:List LTy) (m:Pg) | iter (ts:List LTy) (b:Pg) (t:List Ex)
abbrev Iu:Car:={I:=Ex,B:=Ex,S:=Ex,L:=λ_=>Ex,X:=λ_=>Ex}
def lvE:LV Iu->Ex | .i x=>x | .b x=>x | .s x=>x | .l _ x=>x | .x _ x=>x
def tE(ts:List LTy)(t:Tup Iu ts):List Ex:=(unpack Iu ts t).map lvE
def eT(f:Nat->Ex):(ts:List LTy)->Nat->Tup Iu ts
 | [],_=>()
 | t::r,j=>(match t with | .i=>f j | .b=>f j | .s=>f j | .l _=>f j | .x _=>f j,eT f r (j+1))
def vT(ts:List LTy)(n:Nat):Tup Iu ts:=eT (.v n) ts 0
def alz(i:Nat):Nat->List Ex->Bool
 | _,[]=>true
 | j,.cf i' _ _ j'::r=>Nat.beq i i'&&Nat.beq j j'&&alz i (j+1) r
 | _,_=>false
structure MS where
 run:Nat->Pg
def aqi:Alg:={
 aA:=Iu
 M:=λ_=>MS
 lit:=λn=>(match n with | .ofNat k=> .ln k | .negSucc k=> .lz (k+1)),bl:= .bl,st:= .st,arith:= .ar,cmp:= .cm,addN:= .addN,Ke:= .Ke,neg:= .neg,conv:= .conv,Mk:= .Mk,iV:= .iV
 xH:= .xH,Kg:= .Kg,orB:= .orB,eqB:= .eqB,eqS:= .eqS,Ml:= .Ml,Mq:= .Mq,Hz:= .Hz,Mr:= .Mr,Ul:= .Ul
 len:= .len,Dw:= .Dw,get:= .get,set:= .set,app:= .app,sub:= .sub,rep:= .rep,lst:= .lst,glob:= .glob
 fI:= .fI,fB:= .fB,fS:= .fS,fL:= .fL,mkX:=λc t=> .mkX c c.oI (tE c.oI t),eqX:= .eqX
 ret:=λts t=>⟨λ_=> .ret ts (tE ts t)⟩
 qW:=λts t k=>⟨λn=>match tE ts t with | .cf i q e 0::r=>if alz i 1 r then .aly i q e ((k (vT ts n)).run (n+1))else .qW ts (.cf i q e 0::r) ((k (vT ts n)).run (n+1)) | e=> .qW ts e ((k (vT ts n)).run (n+1))⟩
 fail:=⟨λ_=> .fail⟩
 chk:=λb m=>⟨λn=> .chk b (m.run n)⟩
 cond:=λb x y=>⟨λn=> .cond b (x.run n) (y.run n)⟩
 bind:=λts m k=>⟨λn=> .bind ts (m.run n) ((k (vT ts n)).run (n+1))⟩
 rQ:=λts m k=>⟨λn=> .rQ ts (m.run n) ((k (vT ts n)).run (n+1))⟩
 inl:=λts t=>⟨λ_=> .inl ts (tE ts t)⟩
 inr:=λts m=>⟨λn=> .inr ts (m.run n)⟩
 iter:=λts b t=>⟨λn=> .iter ts ((b (vT ts n)).run (n+1)) (tE ts t)⟩}
def sCt(i:Nat)(s:Sig):Ct Iu s:={pre:=λt=> .cp i s.inp (tE s.inp t),fn:=λt=>eT (.cf i s.inp (tE s.inp t)) s.out 0}
def scs:List (Nat×Sig)->Nat->List (FuncId×Sigma (Ct Iu))
 | [],_=> []
 | p::r,i=>(p.1,⟨p.2,sCt i p.2⟩)::scs r (i+1)
def aqj(k:aF)(X:XT)(a:Ann)(s:Sig)(f:Func)(l:List (Nat×Sig)):Pg:=
 (oK aqi X (ofL Iu (scs l 0)) (Uy (ahk f)) (λ_ _ _=>true) a s f (f.body.getD .skip) (vT s.inp 0)).run 1
abbrev Cs(A:Alg):List (Nat×Sig)->Type
 | []=>Unit
 | p::r=>Pt A p.2×Ft A p.2×Cs A r
abbrev csl(A:Alg):(l:List (Nat×Sig))->Cs A l->List (FuncId×Sigma (Ct A.aA))
 | [],_=> []
 | p::r,c=>(p.1,⟨p.2,⟨c.1,c.2.1⟩⟩)::csl A r c.2.2
abbrev Vs(A:Alg):=List ((ts:List LTy)×Tup A.aA ts)
section
variable (A:Alg) (L Z:Nat->A.I) (W:ByteArray->A.S) (P:∀ {α β:Type},α×β->α) (Q:∀ {α β:Type},α×β->β) (U:Unit) (l:List (Nat×Sig)) (C:Cs A l) (N:Nat) (V:Vs A)
def dfl:(t:LTy)->LT A.aA t
 | .i=>L 0 | .b=>A.bl true | .s=>W default | .l c=>A.Dw c | .x c=>A.get c (A.Dw c) (L 0)
def ahl:(ts:List LTy)->Tup A.aA ts | []=>() | t::r=>(dfl A L W t,ahl r)
def cst(t' t:LTy)(x:LT A.aA t'):LT A.aA t:=if h:t'=t then h▸x else dfl A L W t
def Uz(ts' ts:List LTy)(x:Tup A.aA ts'):Tup A.aA ts:=if h:ts'=ts then h▸x else ahl A L W ts
def vrT:(ts:List LTy)->Tup A.aA ts->Nat->(t:LTy)->LT A.aA t
 | [],_,_,t=>dfl A L W t
 | t'::_,x,0,t=>cst A L W t' t (P x)
 | _::r,x,j+1,t=>vrT r (Q x) j t
def vr(n j:Nat)(t:LTy):LT A.aA t:=match V[N-1-n]? with | some p=>vrT A L W P Q p.1 p.2 j t | none=>dfl A L W t
def cP:(l:List (Nat×Sig))->Cs A l->Nat->((s:Sig)->Tup A.aA s.inp)->A.B
 | [],_,_,_=>A.bl true
 | p::_,c,0,g=>c.1 (g p.2)
 | _::r,c,i+1,g=>cP r c.2.2 i g
def cF{R:Type}(d:R):(l:List (Nat×Sig))->Cs A l->Nat->((s:Sig)->Ft A s->R)->R
 | [],_,_,_=>d
 | p::_,c,0,g=>g p.2 c.2.1
 | _::r,c,i+1,g=>cF d r c.2.2 i g
mutual
def ev:Ex->(t:LTy)->LT A.aA t
 | .v n j,t=>vr A L W P Q N V n j t
 | .ln n,.i=>L n
 | .lz n,.i=>Z n
 | .bl b,.b=>A.bl b
 | .st s,.s=>W s
 | .ar op k x y,.i=>A.arith op k (ev x .i) (ev y .i)
 | .cm op x y,.b=>A.cmp op (ev x .i) (ev y .i)
 | .addN x y,.i=>A.addN (ev x .i) (ev y .i)
 | .Ke x y,.i=>A.Ke (ev x .i) (ev y .i)
 | .neg k x,.i=>A.neg k (ev x .i)
 | .conv k x,.i=>A.conv k (ev x .i)
 | .Mk x y,.i=>A.Mk (ev x .i) (ev y .i)
 | .iV x y,.i=>A.iV (ev x .i) (ev y .i)
 | .xH x,.b=>A.xH (ev x .b)
 | .Kg x y,.b=>A.Kg (ev x .b) (ev y .b)
 | .orB x y,.b=>A.orB (ev x .b) (ev y .b)
 | .eqB x y,.b=>A.eqB (ev x .b) (ev y .b)
 | .eqS x y,.b=>A.eqS (ev x .s) (ev y .s)
 | .Ml x,.s=>A.Ml (ev x (.l .u8))
 | .Mq b x y,.i=>A.Mq (ev b .b) (ev x .i) (ev y .i)
 | .Hz b x y,.b=>A.Hz (ev b .b) (ev x .b) (ev y .b)
 | .Mr b _ x y,.l c=>A.Mr (ev b .b) c (ev x (.l c)) (ev y (.l c))
 | .Ul b _ x y,.x c=>A.Ul (ev b .b) c (ev x (.x c)) (ev y (.x c))
 | .len c x,.i=>A.len c (ev x (.l c))
 | .Dw _,.l c=>A.Dw c
 | .get _ x i,.x c=>A.get c (ev x (.l c)) (ev i .i)
 | .set _ x i y,.l c=>A.set c (ev x (.l c)) (ev i .i) (ev y (.x c))
 | .app _ x y,.l c=>A.app c (ev x (.l c)) (ev y (.l c))
 | .sub _ x i j,.l c=>A.sub c (ev x (.l c)) (ev i .i) (ev j .i)
 | .rep _ n x,.l c=>A.rep c (ev n .i) (ev x (.x c))
 | .lst _ xs,.l c=>A.lst c (evs c xs)
 | .glob n _,.l c=>A.glob n c
 | .fI c j x,.i=>A.fI c j (ev x (.x c))
 | .fB c j x,.b=>A.fB c j (ev x (.x c))
 | .fS c j x,.s=>A.fS c j (ev x (.x c))
 | .fL c j _ x,.l c'=>A.fL c j c' (ev x (.x c))
 | .mkX _ ts t,.x c=>A.mkX c (Uz A L W ts c.oI (tp t ts))
 | .eqX c x y,.b=>A.eqX c (ev x (.x c)) (ev y (.x c))
 | .cp i ts t,.b=>cP A l C i λs=>Uz A L W ts s.inp (tp t ts)
 | .cf i ts t j,ty=>cF A (dfl A L W ty) l C i λs f=>vrT A L W P Q s.out (f (Uz A L W ts s.inp (tp t ts))) j ty
 | _,t=>dfl A L W t
termination_by structural e=>e
def tp:List Ex->(ts:List LTy)->Tup A.aA ts
 | _,[]=>U
 | e::r,t::ts=>(ev e t,tp r ts)
 | [],t::ts=>ahl A L W (t::ts)
termination_by structural e=>e
def evs(c:Co):List Ex->List (A.X c)
 | []=> []
 | e::r=>ev e (.x c)::evs c r
termination_by structural e=>e
end
end
inductive RT where
 | t (ts:List LTy) | s (ts:List LTy) (r:RT)
abbrev RT.den(A:Alg):RT->Type
 | .t ts=>Tup A.aA ts
 | .s ts r=>Sum (Tup A.aA ts) (r.den A)
def den(A:Alg)(L Z:Nat->A.I)(W:ByteArray->A.S)(P:∀ {α β:Type},α×β->α)(Q:∀ {α β:Type},α×β->β)(U:Unit)(l:List (Nat×Sig))(C:Cs A l):Pg->(r:RT)->Nat->Vs A->A.M (r.den A)
 | .ret q t,.t ts,N,V=>A.ret ts (Uz A L W q ts (tp A L Z W P Q U l C N V t q))
 | .qW ts t k,r,N,V=>A.qW ts (tp A L Z W P Q U l C N V t ts) λy=>den A L Z W P Q U l C k r (N+1) (⟨ts,y⟩::V)
 | .aly i q t k,r,N,V=>cF A A.fail l C i λs f=>A.qW s.out (f (Uz A L W q s.inp (tp A L Z W P Q U l C N V t q))) λy=>den A L Z W P Q U l C k r (N+1) (⟨s.out,y⟩::V)
 | .chk b m,r,N,V=>A.chk (ev A L Z W P Q U l C N V b .b) (den A L Z W P Q U l C m r N V)
 | .cond b x y,r,N,V=>A.cond (ev A L Z W P Q U l C N V b .b) (den A L Z W P Q U l C x r N V) (den A L Z W P Q U l C y r N V)
 | .bind ts m k,r,N,V=>A.bind ts (den A L Z W P Q U l C m (.t ts) N V) λy=>den A L Z W P Q U l C k r (N+1) (⟨ts,y⟩::V)
 | .rQ ts m k,r,N,V=>A.rQ ts (den A L Z W P Q U l C m (.s ts r) N V) λy=>den A L Z W P Q U l C k r (N+1) (⟨ts,y⟩::V)
 | .inl q t,.s ts _,N,V=>A.inl ts (Uz A L W q ts (tp A L Z W P Q U l C N V t q))
 | .inr _ m,.s ts r,N,V=>A.inr ts (den A L Z W P Q U l C m r N V)
 | .iter ts b t,r,N,V=>A.iter ts (λy=>den A L Z W P Q U l C b (.s ts r) (N+1) (⟨ts,y⟩::V)) (tp A L Z W P Q U l C N V t ts)
 | _,_,_,_=>A.fail
inductive Hx {α:Type}:α->α->Prop | r (a:α):Hx a a
theorem nz(n:Nat):(Nat.cast (no_index (@OfNat.ofNat Nat n (instOfNatNat n))):Int)=OfNat.ofNat n:=rfl
structure Gt(k:aF)(X:XT)(E:Tab)(a:Ann)(s:Sig)(f:Func)(l:List (Nat×Sig)) where
 F:Cs (std 0) l->gN s.inp->(gN s.out->Prop)->Prop
 h:∀C,Ru X E (std 0) (ahk f) a s f (csl (std 0) l C) (F C)
def gm{k:aF}{X:XT}{E:Tab}{a:Ann}{s:Sig}{f:Func}{l:List (Nat×Sig)}{F:(A:Alg)->Cs A l->Tup A.aA s.inp->Ot A s}
 (_g:∀A (P:∀ {α β:Type},α×β->α) (Q:∀ {α β:Type},α×β->β) (U:Unit), @P= @Prod.fst-> @Q= @Prod.snd->U=()->∀C x,Hx (den A (λn=>A.lit (Nat.cast n)) (λn=>A.lit (-(Nat.cast n))) A.st P Q U l C (aqj k X a s f l) (.t s.out) 1 [⟨s.inp,x⟩]) (F A C x):=by
  intro A P Q U hP hQ hU C x;generalize hL:(λn:Nat=>A.lit (Nat.cast n))=L;generalize hZ:(λn:Nat=>A.lit (-(Nat.cast n)))=Z
  conv=>arg 1;arg 10;reduce
  conv=>arg 1;reduce
  subst hL hZ hP hQ hU
  try dsimp only [nz]
  exact .r _)
 (h:∀A C,Ru X E A (ahk f) a s f (csl A l C) (F A C):=by intro _ _ _;kernel_rfl):Gt k X E a s f l:=⟨F (std 0),h (std 0)⟩
end Go.TX
namespace Go.TX.Seat
open Go Go.AE Go.TX Go.Proofs
set_option maxRecDepth 100000
def ty:TypeId->Option TY
 | 2=>some ⟨(.int .i64),1,8,[.d true (.int .i64 0)]⟩
 | 3=>some ⟨(.int .i64),1,8,[.d true (.int .i64 0)]⟩
 | 4=>some ⟨.bool,1,1,[.d true (.bool false)]⟩
 | 5=>some ⟨(.int .u8),1,1,[.d true (.int .u8 0)]⟩
 | 6=>some ⟨(.int .u8),1,1,[.d true (.int .u8 0)]⟩
 | 7=>some ⟨(.struct [(0,2),(1,3),(2,4),(3,6)]),4,24,[.d true (.int .i64 0),.d true (.int .i64 0),.d true (.bool false),.d true (.int .u8 0)]⟩
 | 8=>some ⟨(.struct [(0,2),(1,3),(2,4),(3,6)]),4,24,[.d true (.int .i64 0),.d true (.int .i64 0),.d true (.bool false),.d true (.int .u8 0)]⟩
 | 9=>some ⟨.str,1,16,[.d true (.str ⟨#[]⟩)]⟩
 | 10=>some ⟨.str,1,16,[.d true (.str ⟨#[]⟩)]⟩
 | 11=>some ⟨.str,1,16,[.d true (.str ⟨#[]⟩)]⟩
 | 12=>some ⟨(.int .u64),1,8,[.d true (.int .u64 0)]⟩
 | 13=>some ⟨(.struct [(0,9),(1,12)]),2,24,[.d true (.str ⟨#[]⟩),.d true (.int .u64 0)]⟩
 | 14=>some ⟨(.struct [(0,9),(1,12)]),2,24,[.d true (.str ⟨#[]⟩),.d true (.int .u64 0)]⟩
 | 15=>some ⟨.scalar,1,8,[.np]⟩
 | 16=>some ⟨.scalar,1,8,[.np]⟩
 | 17=>some ⟨.scalar,1,8,[.np]⟩
 | 18=>some ⟨(.struct [(0,17)]),1,8,[.np]⟩
 | 19=>some ⟨(.struct [(0,17)]),1,8,[.np]⟩
 | 21=>some ⟨(.int .i32),1,4,[.d true (.int .i32 0)]⟩
 | 22=>some ⟨(.slice 5),1,24,[.nil]⟩
 | 23=>some ⟨(.slice 32),1,24,[.nil]⟩
 | 27=>some ⟨(.slice 85),1,24,[.nil]⟩
 | 28=>some ⟨(.struct [(0,3),(1,3),(2,27),(3,3),(4,3),(5,3),(6,3)]),7,72,[.d true (.int .i64 0),.d true (.int .i64 0),.nil,.d true (.int .i64 0),.d true (.int .i64 0),.d true (.int .i64 0),.d true (.int .i64 0)]⟩
 | 29=>some ⟨(.struct [(0,3),(1,3),(2,27),(3,3),(4,3),(5,3),(6,3)]),7,72,[.d true (.int .i64 0),.d true (.int .i64 0),.nil,.d true (.int .i64 0),.d true (.int .i64 0),.d true (.int .i64 0),.d true (.int .i64 0)]⟩
 | 30=>some ⟨(.slice 3),1,24,[.nil]⟩
 | 31=>some ⟨(.struct [(0,30),(1,29)]),8,96,[.nil,.d true (.int .i64 0),.d true (.int .i64 0),.nil,.d true (.int .i64 0),.d true (.int .i64 0),.d true (.int .i64 0),.d true (.int .i64 0)]⟩
 | 32=>some ⟨(.struct [(0,30),(1,29)]),8,96,[.nil,.d true (.int .i64 0),.d true (.int .i64 0),.nil,.d true (.int .i64 0),.d true (.int .i64 0),.d true (.int .i64 0),.d true (.int .i64 0)]⟩
 | 43=>some ⟨(.struct [(0,30),(1,3),(2,30),(3,3),(4,4),(5,4),(6,3),(7,30),(8,30),(9,3)]),10,136,[.nil,.d true (.int .i64 0),.nil,.d true (.int .i64 0),.d true (.bool false),.d true (.bool false),.d true (.int .i64 0),.nil,.nil,.d true (.int .i64 0)]⟩
 | 44=>some ⟨(.struct [(0,30),(1,3),(2,30),(3,3),(4,4),(5,4),(6,3),(7,30),(8,30),(9,3)]),10,136,[.nil,.d true (.int .i64 0),.nil,.d true (.int .i64 0),.d true (.bool false),.d true (.bool false),.d true (.int .i64 0),.nil,.nil,.d true (.int .i64 0)]⟩
 | 45=>some ⟨(.slice 91),1,24,[.nil]⟩
 | 46=>some ⟨(.struct [(0,44),(10,23),(11,45)]),12,184,[.nil,.d true (.int .i64 0),.nil,.d true (.int .i64 0),.d true (.bool false),.d true (.bool false),.d true (.int .i64 0),.nil,.nil,.d true (.int .i64 0),.nil,.nil]⟩
 | 47=>some ⟨(.struct [(0,44),(10,23),(11,45)]),12,184,[.nil,.d true (.int .i64 0),.nil,.d true (.int .i64 0),.d true (.bool false),.d true (.bool false),.d true (.int .i64 0),.nil,.nil,.d true (.int .i64 0),.nil,.nil]⟩
 | 50=>some ⟨.scalar,1,8,[.np]⟩
 | 57=>some ⟨(.slice 78),1,24,[.nil]⟩
 | 73=>some ⟨(.struct [(0,22),(1,3)]),2,32,[.nil,.d true (.int .i64 0)]⟩
 | 74=>some ⟨(.struct [(0,22),(1,3)]),2,32,[.nil,.d true (.int .i64 0)]⟩
 | 77=>some ⟨(.struct [(0,3),(1,3),(2,3),(3,3)]),4,32,[.d true (.int .i64 0),.d true (.int .i64 0),.d true (.int .i64 0),.d true (.int .i64 0)]⟩
 | 78=>some ⟨(.struct [(0,3),(1,3),(2,3),(3,3)]),4,32,[.d true (.int .i64 0),.d true (.int .i64 0),.d true (.int .i64 0),.d true (.int .i64 0)]⟩
 | 84=>some ⟨(.struct [(0,3),(1,3),(2,3),(3,3),(4,3)]),5,40,[.d true (.int .i64 0),.d true (.int .i64 0),.d true (.int .i64 0),.d true (.int .i64 0),.d true (.int .i64 0)]⟩
 | 85=>some ⟨(.struct [(0,3),(1,3),(2,3),(3,3),(4,3)]),5,40,[.d true (.int .i64 0),.d true (.int .i64 0),.d true (.int .i64 0),.d true (.int .i64 0),.d true (.int .i64 0)]⟩
 | 90=>some ⟨(.struct [(0,29),(7,29)]),14,144,[.d true (.int .i64 0),.d true (.int .i64 0),.nil,.d true (.int .i64 0),.d true (.int .i64 0),.d true (.int .i64 0),.d true (.int .i64 0),.d true (.int .i64 0),.d true (.int .i64 0),.nil,.d true (.int .i64 0),.d true (.int .i64 0),.d true (.int .i64 0),.d true (.int .i64 0)]⟩
 | 91=>some ⟨(.struct [(0,29),(7,29)]),14,144,[.d true (.int .i64 0),.d true (.int .i64 0),.nil,.d true (.int .i64 0),.d true (.int .i64 0),.d true (.int .i64 0),.d true (.int .i64 0),.d true (.int .i64 0),.d true (.int .i64 0),.nil,.d true (.int .i64 0),.d true (.int .i64 0),.d true (.int .i64 0),.d true (.int .i64 0)]⟩
 | 98=>some ⟨(.struct [(0,4),(1,22)]),2,32,[.d true (.bool false),.nil]⟩
 | 99=>some ⟨(.struct [(0,4),(1,22)]),2,32,[.d true (.bool false),.nil]⟩
 | 113=>some ⟨(.slice 147),1,24,[.nil]⟩
 | 114=>some ⟨(.struct [(0,113)]),1,24,[.nil]⟩
 | 115=>some ⟨(.struct [(0,113)]),1,24,[.nil]⟩
 | 116=>some ⟨(.slice 122),1,24,[.nil]⟩
 | 119=>some ⟨(.slice 158),1,24,[.nil]⟩
 | 120=>some ⟨(.slice 185),1,24,[.nil]⟩
 | 121=>some ⟨(.struct [(0,120)]),1,24,[.nil]⟩
 | 122=>some ⟨(.struct [(0,120)]),1,24,[.nil]⟩
 | 123=>some ⟨(.struct [(0,119),(1,116),(2,3),(3,122),(4,122),(5,3)]),6,112,[.nil,.nil,.d true (.int .i64 0),.nil,.nil,.d true (.int .i64 0)]⟩
 | 124=>some ⟨(.struct [(0,119),(1,116),(2,3),(3,122),(4,122),(5,3)]),6,112,[.nil,.nil,.d true (.int .i64 0),.nil,.nil,.d true (.int .i64 0)]⟩
 | 146=>some ⟨(.struct [(0,3),(1,3),(2,122),(3,122)]),4,64,[.d true (.int .i64 0),.d true (.int .i64 0),.nil,.nil]⟩
 | 147=>some ⟨(.struct [(0,3),(1,3),(2,122),(3,122)]),4,64,[.d true (.int .i64 0),.d true (.int .i64 0),.nil,.nil]⟩
 | 157=>some ⟨(.struct [(0,3),(1,3),(2,122),(3,122),(4,116)]),5,88,[.d true (.int .i64 0),.d true (.int .i64 0),.nil,.nil,.nil]⟩
 | 158=>some ⟨(.struct [(0,3),(1,3),(2,122),(3,122),(4,116)]),5,88,[.d true (.int .i64 0),.d true (.int .i64 0),.nil,.nil,.nil]⟩
 | 178=>some ⟨(.slice 4),1,24,[.nil]⟩
 | 184=>some ⟨(.struct [(0,3),(1,30)]),2,32,[.d true (.int .i64 0),.nil]⟩
 | 185=>some ⟨(.struct [(0,3),(1,30)]),2,32,[.d true (.int .i64 0),.nil]⟩
 | 218=>some ⟨(.struct [(0,17),(1,17),(2,17),(3,9)]),4,40,[.np,.np,.np,.d true (.str ⟨#[]⟩)]⟩
 | 219=>some ⟨(.struct [(0,17),(1,17),(2,17),(3,9)]),4,40,[.np,.np,.np,.d true (.str ⟨#[]⟩)]⟩
 | 224=>some ⟨(.int .u32),1,4,[.d true (.int .u32 0)]⟩
 | 225=>some ⟨(.int .u8),1,1,[.d true (.int .u8 0)]⟩
 | 226=>some ⟨(.int .u8),1,1,[.d true (.int .u8 0)]⟩
 | 228=>some ⟨.scalar,1,8,[.np]⟩
 | 229=>some ⟨(.int .i32),1,4,[.d true (.int .i32 0)]⟩
 | 230=>some ⟨(.int .i32),1,4,[.d true (.int .i32 0)]⟩
 | _=>none
def yA{P:Program}{t:TypeId}{y:TY}(i:TypeInfo)(d:G5 P t y.desc)(h:P.info? t=some i:=by kernel_rfl)(s:i.size=y.size:=by rfl)(b:i.bytes=y.bytes:=by rfl)
 (z:∃z,i.zero=some z/\zcs z.cells.toList=some y.zero:=by exact⟨_,rfl,rfl⟩) (l:y.zero.length=y.size:=by rfl):Vd P t y:=⟨⟨i,h,s,b,z.elim λx h=>⟨x,h.1,λ_ _=>Rk h.2⟩⟩,d,l⟩
def yS{P:Program}{t:TypeId}{y:TY}{F:Array Field}(i:TypeInfo)(u:P.underlying t=some (.struct F))(e:y.desc= .struct (F.toList.map λf=>(f.offset,f.type)):=by rfl)(h:P.info? t=some i:=by kernel_rfl)(s:i.size=y.size:=by rfl)(b:i.bytes=y.bytes:=by rfl)
 (z:∃z,i.zero=some z/\zcs z.cells.toList=some y.zero:=by exact⟨_,rfl,rfl⟩) (l:y.zero.length=y.size:=by rfl):Vd P t y:=yA i (by rw [e];exact⟨F,u,rfl⟩) h s b z l
def yP{P:Program}{t:TypeId}{y:TY}{e:TypeId}(i:TypeInfo)(u:P.underlying t=some (.pointer e))(e:y.desc= .scalar:=by rfl)(h:P.info? t=some i:=by kernel_rfl)(s:i.size=y.size:=by rfl)(b:i.bytes=y.bytes:=by rfl)
 (z:∃z,i.zero=some z/\zcs z.cells.toList=some y.zero:=by exact⟨_,rfl,rfl⟩) (l:y.zero.length=y.size:=by rfl):Vd P t y:=yA i (by rw [e];exact⟨_,u,(λ_ h=>by cases h),(λ_ _ h=>by cases h)⟩) h s b z l
def aqk:∀t y,ty t=some y->Vd Tryz.prog t y:=by
 intro t y h;unfold ty at h;split at h<;>first | (cases h;done) | skip
 .cases h;exact yA Tryz.t2 Tryz.underlying2
 .cases h;exact yA Tryz.t3 Tryz.underlying3
 .cases h;exact yA Tryz.t4 Tryz.underlying4
 .cases h;exact yA Tryz.t5 Tryz.underlying5
 .cases h;exact yA Tryz.t6 Tryz.underlying6
 .cases h;exact yS Tryz.t7 Tryz.underlying7
 .cases h;exact yS Tryz.t8 Tryz.underlying8
 .cases h;exact yA Tryz.t9 Tryz.underlying9
 .cases h;exact yA Tryz.t10 Tryz.underlying10
 .cases h;exact yA Tryz.t11 Tryz.underlying11
 .cases h;exact yA Tryz.t12 Tryz.underlying12
 .cases h;exact yS Tryz.t13 Tryz.underlying13
 .cases h;exact yS Tryz.t14 Tryz.underlying14
 .cases h;exact yP Tryz.t15 Tryz.underlying15
 .cases h;exact yP Tryz.t16 Tryz.underlying16
 .cases h;exact yP Tryz.t17 Tryz.underlying17
 .cases h;exact yS Tryz.t18 Tryz.underlying18
 .cases h;exact yS Tryz.t19 Tryz.underlying19
 .cases h;exact yA Tryz.t21 Tryz.underlying21
 .cases h;exact yA Tryz.t22 Tryz.underlying22
 .cases h;exact yA Tryz.t23 Tryz.underlying23
 .cases h;exact yA Tryz.t27 Tryz.underlying27
 .cases h;exact yS Tryz.t28 Tryz.underlying28
 .cases h;exact yS Tryz.t29 Tryz.underlying29
 .cases h;exact yA Tryz.t30 Tryz.underlying30
 .cases h;exact yS Tryz.t31 Tryz.underlying31
 .cases h;exact yS Tryz.t32 Tryz.underlying32
 .cases h;exact yS Tryz.t43 Tryz.underlying43
 .cases h;exact yS Tryz.t44 Tryz.underlying44
 .cases h;exact yA Tryz.t45 Tryz.underlying45
 .cases h;exact yS Tryz.t46 Tryz.underlying46
 .cases h;exact yS Tryz.t47 Tryz.underlying47
 .cases h;exact yP Tryz.t50 Tryz.underlying50
 .cases h;exact yA Tryz.t57 Tryz.underlying57
 .cases h;exact yS Tryz.t73 Tryz.underlying73
 .cases h;exact yS Tryz.t74 Tryz.underlying74
 .cases h;exact yS Tryz.t77 Tryz.underlying77
 .cases h;exact yS Tryz.t78 Tryz.underlying78
 .cases h;exact yS Tryz.t84 Tryz.underlying84
 .cases h;exact yS Tryz.t85 Tryz.underlying85
 .cases h;exact yS Tryz.t90 Tryz.underlying90
 .cases h;exact yS Tryz.t91 Tryz.underlying91
 .cases h;exact yS Tryz.t98 Tryz.underlying98
 .cases h;exact yS Tryz.t99 Tryz.underlying99
 .cases h;exact yA Tryz.t113 Tryz.underlying113
 .cases h;exact yS Tryz.t114 Tryz.underlying114
 .cases h;exact yS Tryz.t115 Tryz.underlying115
 .cases h;exact yA Tryz.t116 Tryz.underlying116
 .cases h;exact yA Tryz.t119 Tryz.underlying119
 .cases h;exact yA Tryz.t120 Tryz.underlying120
 .cases h;exact yS Tryz.t121 Tryz.underlying121
 .cases h;exact yS Tryz.t122 Tryz.underlying122
 .cases h;exact yS Tryz.t123 Tryz.underlying123
 .cases h;exact yS Tryz.t124 Tryz.underlying124
 .cases h;exact yS Tryz.t146 Tryz.underlying146
 .cases h;exact yS Tryz.t147 Tryz.underlying147
 .cases h;exact yS Tryz.t157 Tryz.underlying157
 .cases h;exact yS Tryz.t158 Tryz.underlying158
 .cases h;exact yA Tryz.t178 Tryz.underlying178
 .cases h;exact yS Tryz.t184 Tryz.underlying184
 .cases h;exact yS Tryz.t185 Tryz.underlying185
 .cases h;exact yS Tryz.t218 Tryz.underlying218
 .cases h;exact yS Tryz.t219 Tryz.underlying219
 .cases h;exact yA Tryz.t224 Tryz.underlying224
 .cases h;exact yA Tryz.t225 Tryz.underlying225
 .cases h;exact yA Tryz.t226 Tryz.underlying226
 .cases h;exact yP Tryz.t228 Tryz.underlying228
 .cases h;exact yA Tryz.t229 Tryz.underlying229
 .cases h;exact yA Tryz.t230 Tryz.underlying230
def co:TypeId->Option Co
 | 3=>some .i64
 | 4=>some .bool
 | 5=>some .u8
 | 9=>some .str
 | 29=>some .blk
 | 30=>some .ints
 | 32=>some .cac
 | 44=>some .au
 | 47=>some .eng
 | 78=>some .ins
 | 85=>some .iop
 | 91=>some .cer
 | 99=>some .ask
 | 115=>some .tab
 | 120=>some .poly
 | 122=>some .poly
 | 124=>some .sym
 | 147=>some .atom
 | 158=>some .ev
 | 185=>some .mono
 | _=>none
def ieq:TypeId->Option Co
 | 78=>some .ins
 | 85=>some .iop
 | _=>none
def X:XT:={ty:=ty,co:=co,glob:=λg=>none,ieq:=ieq}
noncomputable def E:Tab:={P:=Tryz.prog,ty:=ty,glob:=λg=>none,ieq:=λt=>(ieq t).map λc=>c.size}
end Go.TX.Seat
namespace Go.TX.F
open Go Go.AE Go.TX
set_option maxRecDepth 100000
abbrev M4 : Sig := ⟨[.r true .u8], [], [.p 0 2], [.g [.rows true .u8, .i]]⟩
abbrev gB : Sig := ⟨[.p 0 2, .i], [.g [.rows true .u8, .i]], [.i], [.g [.rows true .u8, .i]]⟩
abbrev kS : Sig := ⟨[.i], [], [.b], []⟩
abbrev M5 : Sig := ⟨[.r false .i64], [], [.b], []⟩
abbrev iU : Sig := ⟨[.i, .i, .i], [], [.b], []⟩
abbrev Ef : Sig := ⟨[.sv false .au], [], [.b], []⟩
abbrev AA : Sig := ⟨[.sv false .au], [], [.agg [.own 0, .i, .own 1, .i, .bool, .bool, .i, .own 2, .own 3, .i]], [.rows true .i64, .rows true .i64, .rows true .i64, .rows true .i64]⟩
abbrev aes : Sig := ⟨[.sv false .au], [], [.agg [.rows true .i64, .i, .own 1, .i, .bool, .bool, .i, .rows true .i64, .rows true .i64, .i, .own 2, .own 0]], [.rows true .cer, .rows true .i64, .rows true .cac]⟩
abbrev Wv : Sig := ⟨[.r false .i64, .r false .i64], [], [.agg [.own 0, .i, .own 1, .i, .bool, .bool, .i, .own 2, .nil, .i]], [.rows true .i64, .rows true .i64, .rows true .i64]⟩
abbrev AB : Sig := ⟨[.p 0 2, .i], [.g [.rows true .u8, .i]], [.b], [.g [.rows true .u8, .i]]⟩
abbrev nS : Sig := ⟨[.sv false .ins], [], [.b], []⟩
abbrev Ww : Sig := ⟨[.sv false .ins], [], [.i], []⟩
abbrev R4 : Sig := ⟨[.r false .ins], [], [.o 0], [.rows true .i64]⟩
abbrev Iw : Sig := ⟨[.p 0 2], [.g [.rows true .u8, .i]], [.i], [.g [.rows true .u8, .i]]⟩
abbrev xP : Sig := ⟨[.p 0 2], [.g [.rows true .u8, .i]], [.agg [.i, .i, .i, .i]], [.g [.rows true .u8, .i]]⟩
abbrev Iy : Sig := ⟨[.p 0 2, .i], [.g [.rows true .u8, .i]], [.o 1], [.g [.rows true .u8, .i], .rows true .ins]⟩
abbrev AJ : Sig := ⟨[.p 0 2], [.g [.rows true .u8, .i]], [.o 1], [.g [.rows true .u8, .i], .rows true .i64]⟩
abbrev M6 : Sig := ⟨[.p 0 2, .i], [.g [.rows true .u8, .i]], [.o 1], [.g [.rows true .u8, .i], .rows true .i64]⟩
abbrev gF : Sig := ⟨[.sv false .blk], [], [.agg [.i, .i, .own 0, .i, .i, .i, .i]], [.rows true .iop]⟩
abbrev Gn : Sig := ⟨[.sv false .cac], [], [.agg [.own 0, .i, .i, .own 1, .i, .i, .i, .i]], [.rows true .i64, .rows true .iop]⟩
abbrev Wx : Sig := ⟨[.r false .i64, .r false .i64, .i], [], [.b], []⟩
abbrev Wy : Sig := ⟨[.r false .cac, .r false .i64], [], [.o 0], [.rows true .cac]⟩
abbrev Wz : Sig := ⟨[.i, .r false .ins], [], [.b], []⟩
abbrev AL : Sig := ⟨[.agg [.i, .i, .own 0, .i, .i, .i, .i], .sv false .iop], [.rows true .iop], [.agg [.i, .i, .own 1, .i, .i, .i, .i], .i], [.gone, .rows true .iop]⟩
abbrev M7 : Sig := ⟨[.agg [.i, .i, .own 0, .i, .i, .i, .i], .i, .i], [.rows true .iop], [.agg [.i, .i, .own 1, .i, .i, .i, .i]], [.gone, .rows true .iop]⟩
abbrev Eh : Sig := ⟨[.agg [.i, .i, .own 0, .i, .i, .i, .i], .i], [.rows true .iop], [.agg [.i, .i, .own 1, .i, .i, .i, .i], .i], [.gone, .rows true .iop]⟩
abbrev M8 : Sig := ⟨[.agg [.i, .i, .own 0, .i, .i, .i, .i], .i, .i, .sv false .iop], [.rows true .iop], [.agg [.i, .i, .own 1, .i, .i, .i, .i], .i], [.gone, .rows true .iop]⟩
abbrev nU : Sig := ⟨[.i], [], [.i], []⟩
abbrev Iz : Sig := ⟨[.agg [.i, .i, .own 0, .i, .i, .i, .i], .sv false .ins, .i], [.rows true .iop], [.agg [.i, .i, .own 1, .i, .i, .i, .i]], [.gone, .rows true .iop]⟩
abbrev WA : Sig := ⟨[.agg [.i, .i, .own 0, .i, .i, .i, .i], .sv false .ins], [.rows true .iop], [.agg [.i, .i, .own 1, .i, .i, .i, .i]], [.gone, .rows true .iop]⟩
abbrev Ei : Sig := ⟨[.i, .r false .ins], [], [.agg [.i, .i, .own 0, .i, .i, .i, .i]], [.rows true .iop]⟩
abbrev Ej : Sig := ⟨[.r false .iop, .i, .i], [], [.b], []⟩
abbrev jY : Sig := ⟨[.sv false .blk], [], [.b], []⟩
abbrev za : Sig := ⟨[.sv false .blk, .sv false .blk], [], [.b], []⟩
abbrev BJ : Sig := ⟨[.i], [], [.agg [.own 0]], [.rows true .mono]⟩
abbrev WB : Sig := ⟨[], [], [.agg [.own 0], .o 1], [.rows true .atom, .rows true .poly]⟩
abbrev IB : Sig := ⟨[.r false .i64, .r false .i64], [], [.i], []⟩
abbrev WE : Sig := ⟨[.sv false .mono], [], [.b], []⟩
abbrev Em : Sig := ⟨[.sv false .poly], [], [.b], []⟩
abbrev WG : Sig := ⟨[.sv false .atom], [], [.b], []⟩
abbrev aeu : Sig := ⟨[.sv false .poly, .i], [], [.b], []⟩
abbrev M9 : Sig := ⟨[.sv false .atom, .i], [], [.b], []⟩
abbrev BK : Sig := ⟨[.sv false .poly, .sv false .poly], [], [.i], []⟩
abbrev Na : Sig := ⟨[.sv false .atom, .sv false .atom], [], [.b], []⟩
abbrev aev : Sig := ⟨[.sv false .tab], [], [.b], []⟩
abbrev nW : Sig := ⟨[.r false .mono], [], [.agg [.own 0]], [.rows true .mono]⟩
abbrev Nb : Sig := ⟨[.sv false .atom], [], [.agg [.i, .i, .own 0, .own 1]], [.rows true .mono, .rows true .mono]⟩
abbrev WH : Sig := ⟨[.sv false .tab], [], [.agg [.own 0]], [.rows true .atom]⟩
abbrev IC : Sig := ⟨[.agg [.own 0], .sv false .atom], [.rows true .atom], [.agg [.own 1], .i], [.gone, .rows true .atom]⟩
abbrev WI : Sig := ⟨[.o 0, .i], [.rows false .poly], [.sv false .poly], [.rows false .poly]⟩
abbrev Nc : Sig := ⟨[.r false .mono, .sv false .mono], [], [.o 0], [.rows false .mono]⟩
abbrev Ng : Sig := ⟨[.r false .mono], [], [.agg [.own 0], .b], [.rows true .mono]⟩
abbrev R5 : Sig := ⟨[.sv false .poly, .sv false .poly], [], [.agg [.own 0], .b], [.rows true .mono]⟩
abbrev aew : Sig := ⟨[.sv false .poly, .i], [], [.agg [.own 0]], [.rows true .mono]⟩
abbrev WJ : Sig := ⟨[.r false .i64, .r false .i64], [], [.o 0], [.rows true .i64]⟩
abbrev IE : Sig := ⟨[.i, .sv false .poly, .sv false .poly], [], [.agg [.own 0], .b], [.rows true .mono]⟩
abbrev KO : Sig := ⟨[.i, .i, .i], [], [.i], []⟩
abbrev R6 : Sig := ⟨[.sv false .poly], [], [.i, .b], []⟩
abbrev WK : Sig := ⟨[.i, .i, .sv false .poly], [], [.agg [.own 0], .b], [.rows true .mono]⟩
abbrev WL : Sig := ⟨[.agg [.own 0], .i, .sv false .poly, .sv false .poly], [.rows true .atom], [.agg [.own 1], .agg [.own 2]], [.gone, .rows true .atom, .rows true .mono]⟩
abbrev WM : Sig := ⟨[.r false .ev, .i], [], [.i], []⟩
abbrev WO : Sig := ⟨[.agg [.own 0], .r false .ev, .i], [.rows true .atom], [.agg [.own 1], .agg [.own 2]], [.gone, .rows true .atom, .rows true .mono]⟩
abbrev IG : Sig := ⟨[.r false .poly], [], [.o 0], [.rows true .poly]⟩
abbrev WQ : Sig := ⟨[.sv false .iop, .sv false .poly, .sv false .poly, .r false .poly], [], [.agg [.i, .i, .own 0, .own 1, .own 2]], [.rows true .mono, .rows true .mono, .rows true .poly]⟩
abbrev II : Sig := ⟨[.sv false .blk], [], [.i], []⟩
abbrev Nh : Sig := ⟨[.sv false .sym, .i], [], [.agg [.rows false .ev, .rows false .poly, .i, .nil, .nil, .i]], []⟩
abbrev IJ : Sig := ⟨[.sv false .sym, .i], [], [.sv false .sym], []⟩
abbrev aex : Sig := ⟨[.sv false .tab, .sv false .blk], [], [.sv false .tab, .sv false .sym], []⟩
abbrev Ni : Sig := ⟨[.r false .poly, .r false .poly], [], [.b], []⟩
abbrev WR : Sig := ⟨[.sv false .ev, .sv false .ev], [], [.b], []⟩
abbrev aey : Sig := ⟨[.sv false .sym, .sv false .sym], [], [.b], []⟩
abbrev R7 : Sig := ⟨[.i], [], [.agg [.i, .i, .i, .i], .b], []⟩
abbrev aez : Sig := ⟨[.r false .i64], [], [.o 0], [.rows true .ins]⟩
abbrev aeA : Sig := ⟨[.sv false .cac], [], [.b], []⟩
abbrev aeB : Sig := ⟨[.r false .cac, .r false .i64], [], [.b], []⟩
abbrev aeC : Sig := ⟨[.r false .cer], [], [.b], []⟩
abbrev WS : Sig := ⟨[.sv false .eng], [], [.b], []⟩
abbrev WT : Sig := ⟨[.sv false .cer], [], [.agg [.i, .i, .own 0, .i, .i, .i, .i, .i, .i, .own 1, .i, .i, .i, .i]], [.rows true .iop, .rows true .iop]⟩
abbrev aeD : Sig := ⟨[.sv false .eng], [], [.agg [.rows true .i64, .i, .own 1, .i, .bool, .bool, .i, .rows true .i64, .rows true .i64, .i, .own 2, .own 0]], [.rows true .cer, .rows true .i64, .rows true .cac]⟩
abbrev En : Sig := ⟨[.r false .i64, .i], [], [.b], []⟩
abbrev WU : Sig := ⟨[.agg [.own 0, .i, .own 1, .i, .bool, .bool, .i, .rows true .i64, .own 2, .i], .b], [.rows true .i64, .rows true .i64, .rows true .i64], [.agg [.own 0, .i, .own 1, .i, .bool, .bool, .i, .rows true .i64, .own 2, .i]], [.rows true .i64, .rows true .i64, .rows true .i64]⟩
abbrev kQ : Sig := ⟨[.agg [.own 0, .i, .own 1, .i, .bool, .bool, .i, .rows true .i64, .own 2, .i], .i], [.rows true .i64, .rows true .i64, .rows true .i64], [.agg [.own 0, .i, .own 1, .i, .bool, .bool, .i, .rows true .i64, .own 2, .i]], [.rows true .i64, .rows true .i64, .rows true .i64]⟩
abbrev IK : Sig := ⟨[.agg [.own 0, .i, .own 1, .i, .bool, .bool, .i, .rows true .i64, .own 2, .i], .i, .i], [.rows true .i64, .rows true .i64, .rows true .i64], [.agg [.own 0, .i, .own 1, .i, .bool, .bool, .i, .rows true .i64, .own 2, .i]], [.rows true .i64, .rows true .i64, .rows true .i64]⟩
abbrev WW : Sig := ⟨[.i, .i], [], [.i], []⟩
abbrev WX : Sig := ⟨[.agg [.own 0, .i, .own 1, .i, .bool, .bool, .i, .rows true .i64, .own 2, .i], .sv false .ins], [.rows true .i64, .rows true .i64, .rows true .i64], [.agg [.own 0, .i, .own 1, .i, .bool, .bool, .i, .rows true .i64, .own 2, .i]], [.rows true .i64, .rows true .i64, .rows true .i64]⟩
abbrev IL : Sig := ⟨[.agg [.own 0, .i, .own 1, .i, .bool, .bool, .i, .rows true .i64, .own 2, .i], .sv false .ins], [.rows true .i64, .rows true .i64, .rows true .i64], [.agg [.own 0, .i, .own 1, .i, .bool, .bool, .i, .rows true .i64, .own 3, .i]], [.rows true .i64, .rows true .i64, .gone, .rows true .i64]⟩
abbrev WY : Sig := ⟨[.sv false .au, .b], [], [.agg [.own 0, .i, .own 1, .i, .bool, .bool, .i, .rows true .i64, .own 2, .i]], [.rows true .i64, .rows true .i64, .rows true .i64]⟩
abbrev WZ : Sig := ⟨[.agg [.rows true .i64, .i, .rows true .i64, .i, .bool, .bool, .i, .rows true .i64, .rows true .i64, .i, .rows true .cac, .own 0], .r false .i64], [.rows true .cer], [.agg [.rows true .i64, .i, .own 1, .i, .bool, .bool, .i, .rows true .i64, .rows true .i64, .i, .own 2, .own 0]], [.rows true .cer, .rows true .i64, .rows true .cac]⟩
abbrev aeE : Sig := ⟨[.r false .cac, .i], [], [.i], []⟩
abbrev aeF : Sig := ⟨[.r false .cac, .sv false .cac], [], [.r true .cac], []⟩
abbrev Xa : Sig := ⟨[.sv false .au], [], [.o 0], [.rows true .ins]⟩
abbrev Xb : Sig := ⟨[.sv false .iop, .r false .i64], [], [.sv true .iop], []⟩
abbrev Xc : Sig := ⟨[.sv false .blk, .r false .bool], [], [.agg [.i, .i, .own 0, .i, .i, .i, .i]], [.rows true .iop]⟩
abbrev aeG : Sig := ⟨[.sv false .blk], [], [.o 0], [.rows true .bool]⟩
abbrev aeH : Sig := ⟨[.r false .iop, .i], [], [.b], []⟩
abbrev Xd : Sig := ⟨[.r false .iop, .i], [], [.i, .b], []⟩
abbrev aeI : Sig := ⟨[.sv false .blk, .i], [], [.agg [.i, .i, .rows false .iop, .i, .i, .i, .i]], []⟩
abbrev R8 : Sig := ⟨[.sv false .blk], [], [.sv false .blk], []⟩
abbrev aeJ : Sig := ⟨[.r false .u8, .i], [], [.i], []⟩
abbrev aeK : Sig := ⟨[.r false .u8], [], [.agg [.i, .i, .own 0, .i, .i, .i, .i], .b], [.rows true .iop]⟩
abbrev aeL : Sig := ⟨[.sv false .blk, .sv false .ask], [], [.sv true .blk, .b], []⟩
abbrev aeM : Sig := ⟨[.r false .cer, .sv false .blk, .sv false .blk], [], [.b], []⟩
abbrev aeN : Sig := ⟨[.r false .cer, .sv false .cer], [], [.o 0], [.rows true .cer]⟩
abbrev aeO : Sig := ⟨[.agg [.rows true .i64, .i, .rows true .i64, .i, .bool, .bool, .i, .rows true .i64, .rows true .i64, .i, .rows true .cac, .own 0], .sv true .blk, .sv false .ask], [.rows true .cer], [.agg [.rows true .i64, .i, .rows true .i64, .i, .bool, .bool, .i, .rows true .i64, .rows true .i64, .i, .rows true .cac, .own 1], .sv true .blk], [.gone, .rows true .cer]⟩
abbrev aeP : Sig := ⟨[.agg [.rows true .i64, .i, .rows true .i64, .i, .bool, .bool, .i, .rows true .i64, .rows true .i64, .i, .rows true .cac, .own 0], .sv false .ask], [.rows true .cer], [.agg [.rows true .i64, .i, .rows true .i64, .i, .bool, .bool, .i, .rows true .i64, .rows true .i64, .i, .rows true .cac, .own 1], .i, .b], [.gone, .rows true .cer]⟩
abbrev Xe : Sig := ⟨[.sv false .au, .r false .i64, .i, .i], [], [.b], []⟩
abbrev Xf : Sig := ⟨[.agg [.own 0, .i, .own 1, .i, .bool, .bool, .i, .rows true .i64, .own 2, .i], .sv false .blk, .i, .i], [.rows true .i64, .rows true .i64, .rows true .i64], [.agg [.own 0, .i, .own 1, .i, .bool, .bool, .i, .rows true .i64, .own 2, .i]], [.rows true .i64, .rows true .i64, .rows true .i64]⟩
abbrev Xg : Sig := ⟨[.sv false .blk, .i, .i], [], [.b], []⟩
abbrev Xh : Sig := ⟨[.agg [.own 0, .i, .own 1, .i, .bool, .bool, .i, .rows true .i64, .own 2, .i], .sv false .blk, .sv false .iop, .i, .i], [.rows true .i64, .rows true .i64, .rows true .i64], [.agg [.own 0, .i, .own 1, .i, .bool, .bool, .i, .rows true .i64, .own 3, .i], .i, .b], [.rows true .i64, .rows true .i64, .gone, .rows true .i64]⟩
abbrev Xi : Sig := ⟨[.r false .i64, .i], [], [.i], []⟩
abbrev Xj : Sig := ⟨[.sv false .au, .sv false .iop, .i, .i], [], [.i], []⟩
abbrev Xk : Sig := ⟨[.sv false .blk, .r false .i64], [], [.i], []⟩
abbrev aeQ : Sig := ⟨[.sv false .blk, .sv false .au], [], [.agg [.own 0, .i, .own 1, .i, .bool, .bool, .i, .rows true .i64, .own 2, .i], .b], [.rows true .i64, .rows true .i64, .rows true .i64]⟩
abbrev aeR : Sig := ⟨[.sv false .eng, .r false .i64, .i, .sv false .ask], [], [.agg [.rows true .i64, .i, .own 1, .i, .bool, .bool, .i, .rows true .i64, .rows true .i64, .i, .own 2, .own 0], .b], [.rows true .cer, .rows true .i64, .rows true .cac]⟩
abbrev Ep : Sig := ⟨[.p 0 2, .sv false .blk], [.g [.rows true .u8, .i]], [.agg [.i, .i, .own 1, .i, .i, .i, .i]], [.g [.rows true .u8, .i], .rows true .iop]⟩
abbrev Nj : Sig := ⟨[.p 0 2], [.g [.rows true .u8, .i]], [.o 1], [.g [.rows true .u8, .i], .rows true .ins]⟩
abbrev Nk : Sig := ⟨[.p 0 2], [.g [.rows true .u8, .i]], [.agg [.i, .i, .own 1, .i, .i, .i, .i]], [.g [.rows true .u8, .i], .rows true .iop]⟩
abbrev aeS : Sig := ⟨[.o 0, .i], [.rows true .u8], [.o 1], [.gone, .rows true .u8]⟩
abbrev aeT : Sig := ⟨[.sv false .blk], [], [.o 0], [.rows true .u8]⟩
abbrev Xl : Sig := ⟨[.p 0 2, .r true .u8], [.g [.rows true .u8, .i]], [.o 1], [.g [.rows true .u8, .i], .rows true .u8]⟩
abbrev Xm : Sig := ⟨[.p 0 2, .sv false .au], [.g [.rows true .u8, .i]], [.agg [.bool, .own 1]], [.g [.rows true .u8, .i], .rows true .u8]⟩
abbrev Nl : Sig := ⟨[.p 0 2], [.g [.rows true .u8, .i]], [.agg [.rows true .i64, .i, .own 2, .i, .bool, .bool, .i, .rows true .i64, .rows true .i64, .i, .own 3, .own 1]], [.g [.rows true .u8, .i], .rows true .cer, .rows true .i64, .rows true .cac]⟩
abbrev Xo : Sig := ⟨[.p 0 2], [.g [.rows true .u8, .i]], [.o 1, .r true .i64], [.g [.rows true .u8, .i], .rows true .cac]⟩
abbrev ahm : Sig := ⟨[.sv false .cac, .p 0 8], [.s true .cac], [.b], [.s true .cac]⟩
abbrev R9 : Sig := ⟨[.r false .i64, .r false .i64], [], [.b], []⟩
abbrev alA : Sig := ⟨[.sv false .cac, .r false .i64], [], [.b], []⟩
abbrev ahn : Sig := ⟨[.sv false .cac, .p 0 1], [.box (.r true .i64)], [.b], [.box (.r true .i64)]⟩
abbrev aeU : Sig := ⟨[.r false .cac, .c (.fn 33 [(0, 8)])], [.s true .cac], [.i], [.s true .cac]⟩
abbrev aeV : Sig := ⟨[.r false .cac, .c (.fn 38 [(0, 1)])], [.box (.r true .i64)], [.i], [.box (.r true .i64)]⟩
abbrev aeW : Sig := ⟨[], [], [.b], []⟩
abbrev alB : Sig := ⟨[.r true .u8], [], [.b], []⟩
abbrev aeX : Sig := ⟨[.r true .u8], [], [.r true .cac, .sv true .cac], []⟩
abbrev aeY : Sig := ⟨[.o 0, .c (.fn 33 [(1, 8)])], [.rows true .cac, .s true .cac], [.o 2], [.gone, .s true .cac, .rows true .cac]⟩
abbrev aeZ : Sig := ⟨[.o 0, .c (.fn 38 [(1, 1)])], [.rows true .cac, .box (.r true .i64)], [.o 2], [.gone, .box (.r true .i64), .rows true .cac]⟩
abbrev ae0 : Sig := ⟨[.r false .i64], [], [.o 0], [.rows true .i64]⟩
abbrev Xp : Sig := ⟨[.r false .cac], [], [.o 0], [.rows true .cac]⟩
abbrev ae1 : Sig := ⟨[.r false .cac, .i], [], [.r false .cac], []⟩
abbrev alC : Sig := ⟨[.r false .cac, .sv true .cac], [], [.o 0], [.rows true .cac]⟩
abbrev ae2 : Sig := ⟨[.r false .cac, .r false .cac], [], [.b], []⟩
abbrev alD : Sig := ⟨[.r false .cac, .r true .i64], [], [.o 0], [.rows true .cac]⟩
abbrev ae3 : Sig := ⟨[.sv false .au, .r false .i64, .i], [], [.agg [.own 0, .i, .own 1, .i, .bool, .bool, .i, .rows true .i64, .own 2, .i]], [.rows true .i64, .rows true .i64, .rows true .i64]⟩
abbrev Xq : Sig := ⟨[.p 0 2], [.g [.rows true .u8, .i]], [.agg [.own 1, .i, .own 2, .i, .bool, .bool, .i, .rows true .i64, .own 3, .i]], [.g [.rows true .u8, .i], .rows true .i64, .rows true .i64, .rows true .i64]⟩
abbrev Xr : Sig := ⟨[.p 0 2, .i], [.g [.rows true .u8, .i]], [.agg [.own 1, .i, .rows true .i64, .i, .bool, .bool, .i, .rows true .i64, .own 2, .i]], [.g [.rows true .u8, .i], .rows true .i64, .rows true .i64]⟩
abbrev Xt : Sig := ⟨[.p 0 2, .i], [.g [.rows true .u8, .i]], [.sv true .eng], [.g [.rows true .u8, .i]]⟩
abbrev ae4 : Sig := ⟨[.r true .u8], [], [.sv true .eng], []⟩
abbrev qq8 : List SkC := [.rows true .u8, .i]
abbrev UA : List SkC := [.nil, .i, .nil, .i, .bool, .bool, .i, .nil, .nil, .i, .nil, .nil]
abbrev qq0 : iD := ⟨[(4, .p 1 12), (5, .p 2 12)], [.g qq8, .g UA, .g [.rows true .i64, .i, .own 3, .i, .bool, .bool, .i, .rows true .i64, .rows true .i64, .i, .own 4, .own 5], .rows true .i64, .rows true .cac, .rows true .cer]⟩
abbrev qq3 : List SkC := [.nil, .i, .nil, .i, .bool, .bool, .i, .nil, .nil, .i]
abbrev qq1 : List SkO := [.g qq8, .g qq3, .g [.own 3, .i, .own 4, .i, .bool, .bool, .i, .rows true .i64, .own 5, .i], .rows true .i64, .rows true .i64, .rows true .i64]
abbrev qq5 : List SkC := [.i, .i, .nil, .i, .i, .i, .i]
abbrev qq2 : iD := ⟨[(4, .p 1 7), (5, .p 2 7)], [.g qq8, .g qq5, .g [.i, .i, .own 3, .i, .i, .i, .i], .rows true .iop]⟩
abbrev qq4 : Ann := (.cond .u .u)
abbrev qq6 : iD := ⟨[(4, .p 1 10), (5, .p 2 10)], [.g qq8, .g qq3, .g [.own 3, .i, .rows true .i64, .i, .bool, .bool, .i, .rows true .i64, .own 4, .i], .rows true .i64, .rows true .i64]⟩
abbrev qq7 : iD := ⟨[(2, .p 0 7), (4, .p 1 10), (6, .p 2 10), (7, .o 3), (8, .i), (9, .p 4 5), (82, .b)], [.s false .blk, .g qq3, .g [.own 5, .i, .own 6, .i, .bool, .bool, .i, .rows true .i64, .own 7, .i], .rows true .i64, .s false .iop, .rows true .i64, .rows true .i64, .rows true .i64]⟩
abbrev qq9 : List SkO := [.rows true .i64, .rows true .i64, .rows true .i64, .g [.own 0, .i, .own 1, .i, .bool, .bool, .i, .rows true .i64, .own 2, .i], .g qq3]
abbrev Er : List SkC := [.nil, .nil, .i, .nil, .nil, .i]
abbrev alE : List SkO := [.s false .blk, .g qq3, .g [.own 4, .i, .own 5, .i, .bool, .bool, .i, .rows true .i64, .own 6, .i], .rows true .i64, .rows true .i64, .rows true .i64, .rows true .i64]
abbrev alF : iD := ⟨[(3, .p 0 7), (4, .p 1 1), (5, .p 2 6), (6, .p 3 1), (7, .p 4 6), (9, .o 5), (13, .o 6), (14, .i), (18, .p 7 1)], [.s false .blk, .g [.nil], .g Er, .g [.own 8], .g [.own 9, .nil, .i, .nil, .nil, .i], .rows false .poly, .rows false .poly, .g [.own 10], .rows true .atom, .rows true .ev, .rows true .mono]⟩
abbrev aho : List SkO := [.rows true .i64, .rows true .i64, .rows true .i64, .g [.own 0, .i, .own 1, .i, .bool, .bool, .i, .rows true .i64, .own 2, .i], .s false .ins, .g qq3]
abbrev alG : iD := ⟨[(3, .p 0 7), (4, .p 1 1), (5, .p 2 6), (6, .p 3 1), (7, .p 4 6), (9, .o 5), (13, .o 6), (14, .i), (18, .p 7 1)], [.s false .blk, .g [.nil], .g Er, .g [.own 8], .g [.own 9, .nil, .i, .nil, .nil, .i], .rows false .poly, .rows false .poly, .s false .poly, .rows true .atom, .rows true .ev]⟩
abbrev UC : List SkO := [.g qq5, .g [.i, .i, .own 2, .i, .i, .i, .i], .rows true .iop]
abbrev ahp : iD := ⟨[(0, .r false .mono), (3, .p 0 2), (5, .o 1), (6, .b), (7, .i)], [.s false .mono, .rows false .mono]⟩
abbrev alH : iD := ⟨[(4, .p 1 12), (5, .p 2 12)], [.g qq8, .g UA, .g [.rows true .i64, .i, .rows true .i64, .i, .bool, .bool, .i, .rows true .i64, .rows true .i64, .i, .own 3, .own 4], .rows true .cac, .rows true .cer]⟩
abbrev alI : Ann := (.v (.cut ⟨[(2, .p 0 7), (3, .p 1 7), (4, .o 2), (5, .o 3), (6, .i), (7, .p 4 5), (8, .i)], [.g qq5, .g [.i, .i, .own 5, .i, .i, .i, .i], .rows true .i64, .rows true .i64, .s true .iop, .rows true .iop]⟩ qq4))
abbrev ac6 : iD := ⟨[(0, .p 0 2), (3, .o 1), (4, .i)], [.g qq8, .rows true .ins]⟩
abbrev alJ : List SkO := [.g qq8, .g qq5, .g [.i, .i, .own 4, .i, .i, .i, .i], .s true .iop, .rows true .iop]
abbrev ac7 : iD := ⟨[(1, .p 0 4), (4, .i), (30, .b)], [.s false .ins]⟩
abbrev ac8 : List SkO := [.s false .blk, .rows true .bool]
abbrev alK : List SkO := [.rows true .iop, .g [.i, .i, .own 0, .i, .i, .i, .i], .s false .ins, .g qq5]
abbrev alL : iD := ⟨[(1, .r false .bool), (2, .p 0 7), (4, .p 1 7), (5, .o 2), (6, .o 3), (7, .i)], [.s false .blk, .g qq5, .rows true .iop, .rows true .i64]⟩
abbrev alM : iD := ⟨[(2, .p 0 1), (3, .p 1 1), (4, .p 2 1), (6, .o 3), (7, .i), (8, .i)], [.s false .poly, .s false .poly, .g [.nil], .rows false .mono]⟩
abbrev ahq : Ann := (.v (.cut ⟨[(0, .p 0 2), (2, .p 1 10), (3, .p 2 10)], qq1⟩ qq4))
abbrev alN : List SkO := [.g qq3, .g [.own 2, .i, .own 3, .i, .bool, .bool, .i, .own 4, .nil, .i], .rows true .i64, .rows true .i64, .rows true .i64]
abbrev alO : List SkO := [.g Er, .g [.own 2, .own 3, .i, .own 4, .own 5, .i], .rows true .ev, .rows true .poly, .rows true .mono, .rows true .mono]
abbrev alP : iD := ⟨[(0, .p 0 2), (4, .p 1 7), (5, .p 2 7), (6, .i)], [.g qq8, .g qq5, .g [.i, .i, .own 3, .i, .i, .i, .i], .rows true .iop]⟩
abbrev alQ : Ann := (.v (.v (.seq (.v (.block (.loop ⟨[(2, .p 0 7), (3, .p 1 7), (5, .i)], [.s false .blk, .s false .blk]⟩ .u))) .u)))
abbrev alR : iD := ⟨[(1, .i), (2, .p 0 1), (4, .p 1 1), (5, .o 2), (6, .i)], [.s false .poly, .g [.nil], .rows false .mono]⟩
abbrev alS : Ann := (.v (.v (.seq (.v (.block (.loop ⟨[(0, .r false .i64), (1, .r false .i64), (5, .i)], []⟩ .u))) .u)))
abbrev ac9 : iD := ⟨[(4, .p 1 10), (5, .p 2 10)], qq1⟩
abbrev alT : iD := ⟨[(0, .o 0), (1, .c (.fn 38 [(1, 1)])), (5, .i), (6, .i)], [.rows true .cac, .box (.r true .i64)]⟩
abbrev alU : iD := ⟨[(0, .p 0 2), (2, .p 1 4), (3, .i), (4, .i), (10, .i), (30, .b)], [.g qq8, .g [.i, .i, .i, .i]]⟩
abbrev alV : List SkO := [.g qq5, .g [.i, .i, .own 4, .i, .i, .i, .i], .rows true .i64, .rows true .i64, .rows true .iop]
abbrev alW : iD := ⟨[(0, .r false .i64), (1, .r false .i64), (5, .o 0), (6, .i), (7, .i)], [.rows true .i64]⟩
abbrev alX : iD := ⟨[(0, .o 0), (1, .c (.fn 33 [(1, 8)])), (5, .i), (6, .i)], [.rows true .cac, .s true .cac]⟩
abbrev alY : iD := ⟨[(0, .r false .cac), (3, .p 0 8), (5, .o 1), (6, .i)], [.s false .cac, .rows true .cac]⟩
abbrev alZ : iD := ⟨[(0, .r false .cac), (1, .r false .i64), (5, .o 0), (6, .i)], [.rows true .cac]⟩
abbrev Xu : List SkO := [.g qq8, .rows true .i64]
abbrev ahr : iD := ⟨[(1, .p 0 7), (3, .o 1), (5, .i)], ac8⟩
abbrev al0 : iD := ⟨[(2, .p 0 7), (4, .p 1 10), (6, .p 2 10), (7, .o 3), (8, .i), (10, .i)], alE⟩
abbrev al1 : Ann := (.cut ⟨[(0, .p 0 2), (4, .p 1 7), (5, .p 2 7), (6, .i), (7, .p 3 5)], alJ⟩ qq4)
abbrev ahs : iD := ⟨[(2, .p 3 10), (4, .p 4 10)], qq9⟩
abbrev al2 : List SkO := [.g [.nil, .i, .i, .nil, .i, .i, .i, .i], .g qq8, .rows true .cac]
abbrev al3 : iD := ⟨[(3, .p 1 7), (4, .p 2 4), (6, .p 3 7), (109, .b)], alK⟩
abbrev al4 : iD := ⟨[(0, .r false .ev), (1, .i), (5, .i), (6, .i)], []⟩
end Go.TX.F
noncomputable section
namespace Go.TX.F
open Go Go.AE Go.TX Go.TX.Seat Go.Proofs
set_option maxRecDepth 100000
set_option maxHeartbeats 4000000
def Nn:Gt aF.z X E (.v (.seq (.v (.cut ⟨[(0,.r true .u8)],[]⟩ qq4)) .u)) M4 Tryz.f21 []:=gm
def Np:Gt aF.z X E .u gB Tryz.f23 []:=gm
def Xv:Gt aF.z X E .u kS Tryz.f58 []:=gm
def Nq:Gt aF.z X E (.v (.seq (.v (.block (.loop ⟨[(0,.r false .i64),(3,.i)],[]⟩ .u))) .u)) M5 Tryz.f57 [(58,kS)]:=gm
def Nr:Gt aF.z X E .u iU Tryz.f59 []:=gm
def Xw:Gt aF.z X E .u Ef Tryz.f42 [(58,kS),(59,iU),(57,M5)]:=gm
def Nt:Gt aF.z X E .u AA Tryz.f91 []:=gm
def Xx:Gt aF.z X E .u aes Tryz.f62 [(42,Ef),(91,AA)]:=gm
def Xy:Gt aF.z X E (.v (.v (.v (.seq (.v (.block (.loop ⟨[(0,.r false .i64),(4,.p 0 10),(5,.p 1 10),(6,.i)],alN⟩ (.v (.seq (.block (.v (.seq (.v (.cut ⟨[(0,.r false .i64),(4,.p 0 10),(5,.p 1 10),(6,.i),(7,.i)],alN⟩ qq4)) .u))) .u))))) .u)))) Wv Tryz.f63 [(57,M5)]:=gm
def Nu:Gt aF.z X E .u AB Tryz.f27 [(23,gB)]:=gm
def Nv:Gt aF.z X E (.v (.seq (.v (.block (.v (.cond .u (.v (.cond .u (.v (.cond .u (.seq (.v (.cut ac7 (.cond .u (.v (.cut ac7 (.cond .u (.v (.cut ac7 (.cond .u (.v (.cut ac7 qq4))))))))))) (.cond .u (.v (.cond .u (.v (.cond .u (.seq (.v (.cut ⟨[(1,.p 0 4),(54,.b)],[.s false .ins]⟩ qq4)) .u))))))))))))))) .u)) nS Tryz.f104 []:=gm
def Xz:Gt aF.z X E .u nS Tryz.f71 [(59,iU),(104,nS)]:=gm
def XA:Gt aF.z X E .u Ww Tryz.f48 [(71,nS)]:=gm
def XB:Gt aF.z X E (.v (.v (.seq (.v (.block (.loop ⟨[(0,.r false .ins),(3,.o 0),(4,.i)],[.rows true .i64]⟩ .u))) .u))) R4 Tryz.f29 [(48,Ww)]:=gm
def Nw:Gt aF.z X E .u Iw Tryz.f37 [(23,gB)]:=gm
def Ny:Gt aF.z X E (.v (.v (.v (.seq (.v (.block (.seq (.v (.cut ⟨[(0,.p 0 2),(2,.p 1 4),(3,.i),(4,.i),(10,.i),(11,.b)],[.g qq8,.g [.i,.i,.i,.i]]⟩ qq4)) (.cond .u (.v (.cond .u (.seq (.v (.cut alU (.cond .u (.v (.cut alU qq4))))) (.cond .u (.v (.cond .u (.seq (.v (.cut ⟨[(0,.p 0 2),(2,.p 1 4),(3,.i),(4,.i),(10,.i),(54,.b)],[.g qq8,.g [.i,.i,.i,.i]]⟩ qq4)) .u))))))))))) .u)))) xP Tryz.f69 [(23,gB)]:=gm
def XC:Gt aF.z X E .u kS Tryz.f72 []:=gm
def Nz:Gt aF.z X E .u nS Tryz.f70 [(72,kS),(71,nS)]:=gm
def NA:Gt aF.z X E .u xP Tryz.f47 [(69,xP),(23,gB),(70,nS)]:=gm
def NC:Gt aF.z X E (.v (.v (.v (.seq (.v (.block (.loop ⟨[(0,.p 0 2),(1,.i),(6,.o 1),(7,.i)],[.g qq8,.rows true .ins]⟩ (.v (.seq (.block (.v (.seq (.v (.cut ⟨[(0,.p 0 2),(1,.i),(6,.o 1),(7,.i),(8,.p 2 4)],[.g qq8,.rows true .ins,.g [.i,.i,.i,.i]]⟩ qq4)) .u))) .u))))) .u)))) Iy Tryz.f92 [(47,xP),(23,gB)]:=gm
def ND:Gt aF.z X E .u Iy Tryz.f93 [(23,gB)]:=gm
def NG:Gt aF.z X E (.v (.v (.seq (.v (.cut ⟨[(0,.p 0 2),(3,.o 1)],[.g qq8,.rows true .ins]⟩ qq4)) (.seq (.v (.block (.loop ac6 (.v (.seq (.block (.v (.block (.v (.cut ac6 (.cond .u (.v (.cut ac6 (.cond .u (.v (.block (.loop ⟨[(0,.p 0 2),(3,.o 1),(4,.i),(5,.i)],[.g qq8,.rows true .ins]⟩ .u)))))))))))) .u))))) (.v (.v (.seq (.block (.loop ⟨[(0,.p 0 2),(6,.o 1)],Xu⟩ .u)) (.v (.seq (.v (.block (.loop ⟨[(0,.p 0 2),(6,.o 1),(7,.i)],Xu⟩ .u))) (.v (.seq (.v (.cut ⟨[(6,.o 1)],Xu⟩ qq4)) .u))))))))))) AJ Tryz.f64 [(29,R4),(48,Ww),(92,Iy),(47,xP),(69,xP),(93,Iy),(27,AB),(23,gB),(37,Iw)]:=gm
def NH:Gt aF.z X E (.v (.v (.seq (.v (.block (.loop ⟨[(0,.p 0 2),(1,.i),(5,.o 1),(6,.i)],Xu⟩ .u))) .u))) M6 Tryz.f65 [(37,Iw)]:=gm
def NI:Gt aF.z X E (.v (.v (.seq (.v (.block (.loop ⟨[(0,.p 0 2),(3,.o 1),(4,.i)],Xu⟩ .u))) .u))) AJ Tryz.f66 [(23,gB)]:=gm
def NJ:Gt aF.z X E .u gF Tryz.f52 []:=gm
def XD:Gt aF.z X E .u Gn Tryz.f36 [(52,gF)]:=gm
def XE:Gt aF.z X E (.v (.seq (.v (.block (.loop ⟨[(0,.r false .i64),(1,.r false .i64),(2,.i),(7,.i)],[]⟩ .u))) .u)) Wx Tryz.f40 []:=gm
def XF:Gt aF.z X E (.v (.v (.seq (.v (.block (.loop alZ (.v (.seq (.block (.v (.cut alZ qq4))) .u))))) .u))) Wy Tryz.f17 [(36,Gn),(40,Wx)]:=gm
def XG:Gt aF.z X E (.v (.v (.seq (.v (.block (.loop ⟨[(1,.r false .ins),(5,.i)],[]⟩ .u))) .u))) Wz Tryz.f49 [(72,kS),(71,nS),(59,iU),(70,nS)]:=gm
def NK:Gt aF.z X E .u AL Tryz.f73 []:=gm
def NP:Gt aF.z X E .u M7 Tryz.f74 [(73,AL)]:=gm
def NQ:Gt aF.z X E .u Eh Tryz.f75 [(73,AL)]:=gm
def NR:Gt aF.z X E .u M8 Tryz.f76 [(75,Eh),(73,AL)]:=gm
def NS:Gt aF.z X E (.v (.v (.seq (.v (.block (.loop ⟨[(0,.i),(3,.i),(4,.i)],[]⟩ .u))) .u))) nU Tryz.f77 []:=gm
def NT:Gt aF.z X E .u Iz Tryz.f78 [(75,Eh),(73,AL),(76,M8),(74,M7)]:=gm
end Go.TX.F
end
noncomputable section
namespace Go.TX.F
open Go Go.AE Go.TX Go.TX.Seat Go.Proofs
set_option maxRecDepth 100000
set_option maxHeartbeats 4000000
def NU:Gt aF.z X E (.v (.v (.v (.v (.v (.seq (.v (.cut ⟨[(3,.p 1 4),(4,.p 2 7),(8,.i),(9,.p 3 7),(10,.i)],[.gone,.s false .ins,.g qq5,.g [.i,.i,.own 4,.i,.i,.i,.i],.rows true .iop]⟩ qq4)) .u)))))) WA Tryz.f79 [(75,Eh)]:=gm
def NV:Gt aF.z X E (.v (.seq (.v (.block (.v (.cond .u (.v (.cond .u (.v (.cond .u (.seq (.v (.cut ⟨[(2,.i),(3,.p 1 7),(4,.p 2 4),(6,.p 3 7),(22,.i),(70,.b)],alK⟩ qq4)) (.cond .u (.v (.cond .u (.v (.cond .u (.seq (.v (.cut al3 (.cond .u (.v (.cut al3 qq4))))) .u))))))))))))))) .u)) Iz Tryz.f50 [(75,Eh),(79,WA),(73,AL),(78,Iz),(76,M8),(74,M7),(77,nU)]:=gm
def XH:Gt aF.z X E (.v (.v (.v (.seq (.v (.block (.loop ⟨[(1,.r false .ins),(4,.p 0 7),(5,.p 1 7),(6,.i)],UC⟩ .u))) .u)))) Ei Tryz.f30 [(49,Wz),(50,Iz)]:=gm
def NW:Gt aF.z X E .u kS Tryz.f166 [(59,iU)]:=gm
def NY:Gt aF.z X E .u Ej Tryz.f144 [(166,kS)]:=gm
def NZ:Gt aF.z X E (.v (.v (.seq (.v (.block (.v (.cond .u (.v (.cond .u (.v (.cond .u (.seq (.v (.cut ⟨[(0,.r false .iop),(1,.i),(2,.i),(7,.p 0 5),(13,.i),(78,.b)],[.s false .iop]⟩ qq4)) .u))))))))) .u))) Ej Tryz.f111 [(58,kS),(59,iU),(144,Ej)]:=gm
def N7:Gt aF.z X E (.v (.v (.seq (.v (.block (.v (.cond .u (.v (.cond .u (.seq (.v (.cut ⟨[(1,.p 0 7),(3,.i),(42,.b)],[.s false .blk]⟩ qq4)) .u))))))) .u))) jY Tryz.f112 [(58,kS),(144,Ej)]:=gm
def XI:Gt aF.z X E (.v (.v (.seq (.v (.block (.loop ⟨[(1,.p 0 7),(3,.i)],[.s false .blk]⟩ .u))) .u))) jY Tryz.f86 [(59,iU),(112,jY),(111,Ej)]:=gm
def XJ:Gt aF.z X E alQ za Tryz.f87 []:=gm
def XK:Gt aF.z X E .u BJ Tryz.f113 [(59,iU)]:=gm
def XL:Gt aF.z X E (.v (.v (.v (.seq (.v (.block (.loop ⟨[(0,.p 0 1),(2,.p 1 1),(3,.o 2),(4,.i)],[.g [.nil],.g [.own 3],.rows true .poly,.rows true .atom]⟩ .u))) .u)))) WB Tryz.f88 [(113,BJ)]:=gm
def N8:Gt aF.z X E alS IB Tryz.f155 []:=gm
def N9:Gt aF.z X E (.v (.v (.seq (.v (.block (.loop ⟨[(1,.p 0 2),(3,.i)],[.s false .mono]⟩ .u))) .u))) WE Tryz.f173 [(59,iU)]:=gm
def XM:Gt aF.z X E (.v (.v (.seq (.v (.block (.loop ⟨[(1,.p 0 1),(3,.i)],[.s false .poly]⟩ .u))) .u))) Em Tryz.f151 [(173,WE),(155,IB)]:=gm
def Oa:Gt aF.z X E .u WG Tryz.f167 []:=gm
def XO:Gt aF.z X E (.v (.seq (.v (.block (.loop ⟨[(1,.i),(2,.p 0 1),(5,.i)],[.s false .poly]⟩ (.v (.seq (.block (.v (.block (.loop ⟨[(1,.i),(2,.p 0 1),(5,.i),(6,.i)],[.s false .poly]⟩ .u)))) .u))))) .u)) aeu Tryz.f168 []:=gm
def Ob:Gt aF.z X E (.v (.seq (.v (.block (.v (.cond .u (.seq (.v (.cut ⟨[(1,.i),(2,.p 0 4),(6,.i),(16,.b)],[.s false .atom]⟩ qq4)) .u))))) .u)) M9 Tryz.f145 [(59,iU),(151,Em),(168,aeu),(167,WG)]:=gm
def XP:Gt aF.z X E (.v (.v (.seq (.v (.block (.loop ⟨[(2,.p 0 1),(3,.p 1 1),(5,.i)],[.s false .poly,.s false .poly]⟩ .u))) .u))) BK Tryz.f128 [(155,IB)]:=gm
def Oc:Gt aF.z X E .u Na Tryz.f146 [(128,BK)]:=gm
def XQ:Gt aF.z X E (.v (.v (.seq (.v (.block (.loop ⟨[(1,.p 0 1),(3,.i)],[.s false .tab]⟩ (.v (.seq (.block (.v (.v (.block (.loop ⟨[(1,.p 0 1),(3,.i),(4,.i)],[.s false .tab]⟩ .u))))) .u))))) .u))) aev Tryz.f114 [(145,M9),(146,Na)]:=gm
def Od:Gt ⟨[26],[]⟩ X E (.v (.v (.seq (.v (.block (.loop ⟨[(0,.r false .mono),(2,.p 0 1),(3,.p 1 1),(4,.i)],[.g [.nil],.g [.own 2],.rows true .mono]⟩ .u))) .u))) nW Tryz.f123 []:=gm
def Oe:Gt aF.z X E .u Nb Tryz.f147 [(123,nW)]:=gm
def Og:Gt ⟨[20],[]⟩ X E (.v (.v (.seq (.v (.block (.loop ⟨[(1,.p 0 1),(2,.p 1 1),(3,.p 2 1),(4,.i)],[.s false .tab,.g [.nil],.g [.own 3],.rows true .atom]⟩ .u))) .u))) WH Tryz.f115 [(147,Nb)]:=gm
def Oh:Gt ⟨[38],[]⟩ X E (.v (.v (.seq (.v (.block (.loop ⟨[(2,.p 1 1),(3,.p 2 4),(4,.p 3 1),(6,.i)],[.rows true .atom,.g [.own 0],.s false .atom,.g [.nil]]⟩ .u))) .u))) IC Tryz.f116 [(145,M9),(146,Na),(147,Nb)]:=gm
def Oi:Gt aF.z X E .u WI Tryz.f117 []:=gm
def XR:Gt aF.z X E .u BJ Tryz.f118 [(59,iU)]:=gm
def XU:Gt aF.z X E (.v (.v (.seq (.v (.cut ⟨[(3,.i)],[]⟩ qq4)) .u))) nU Tryz.f164 []:=gm
def Oj:Gt aF.z X E (.v (.v (.v (.seq (.v (.block (.loop ahp (.v (.seq (.block (.v (.seq (.v (.cut ⟨[(0,.r false .mono),(3,.p 0 2),(5,.o 1),(6,.b),(7,.i),(8,.i)],[.s false .mono,.rows false .mono]⟩ qq4)) (.v (.cut ahp (.cond (.v (.v (.v (.cut ahp qq4)))) .u)))))) .u))))) (.seq (.v (.cut ⟨[(5,.o 0)],[.rows false .mono]⟩ qq4)) .u))))) Nc Tryz.f181 [(155,IB),(164,nU)]:=gm
def Ol:Gt aF.z X E (.v (.v (.seq (.v (.block (.loop ⟨[(0,.r false .mono),(2,.p 0 1),(4,.i)],[.g [.nil]]⟩ .u))) .u))) Ng Tryz.f182 [(123,nW)]:=gm
def XV:Gt aF.z X E (.v (.v (.v (.seq (.v (.block (.loop ⟨[(3,.p 0 1),(4,.p 1 1),(6,.r false .mono),(7,.i)],[.s false .poly,.g [.nil]]⟩ .u))) .u)))) R5 Tryz.f169 [(151,Em),(181,Nc),(182,Ng)]:=gm
def XW:Gt aF.z X E (.v (.v (.v (.seq (.v (.block (.loop alR (.v (.seq (.block (.v (.v (.cut alR qq4)))) .u))))) .u)))) aew Tryz.f170 [(151,Em),(164,nU),(123,nW),(58,kS)]:=gm
end Go.TX.F
end
noncomputable section
namespace Go.TX.F
open Go Go.AE Go.TX Go.TX.Seat Go.Proofs
set_option maxRecDepth 100000
set_option maxHeartbeats 4000000
def Om:Gt aF.z X E (.v (.v (.v (.seq (.v (.block (.loop alW (.v (.seq (.block (.seq (.block (.loop alW .u)) .u)) .u))))) .u)))) WJ Tryz.f183 []:=gm
def XY:Gt aF.z X E (.v (.v (.v (.seq (.v (.block (.loop ⟨[(2,.p 0 1),(3,.p 1 1),(4,.p 2 1),(6,.o 3),(7,.i)],[.s false .poly,.s false .poly,.g [.nil],.rows false .mono]⟩ (.v (.seq (.block (.v (.block (.loop alM (.v (.seq (.block (.v (.v (.cut alM qq4)))) .u)))))) .u))))) .u)))) R5 Tryz.f171 [(151,Em),(164,nU),(181,Nc),(183,WJ),(182,Ng)]:=gm
def Oo:Gt aF.z X E .u IE Tryz.f148 [(171,R5),(169,R5),(170,aew)]:=gm
def XZ:Gt aF.z X E .u KO Tryz.f142 [(164,nU),(58,kS)]:=gm
def X3:Gt aF.z X E .u R6 Tryz.f152 [(151,Em)]:=gm
def Oq:Gt aF.z X E .u WK Tryz.f172 [(123,nW)]:=gm
def Ou:Gt aF.z X E .u IE Tryz.f149 [(128,BK),(123,nW),(142,KO),(118,BJ),(152,R6),(172,WK)]:=gm
def Ov:Gt aF.z X E (.v (.v (.seq (.v (.cut ⟨[(1,.i),(4,.p 1 1),(6,.p 2 1),(7,.p 3 1),(8,.p 4 1),(9,.p 5 1),(10,.p 6 1),(11,.b)],[.rows true .atom,.g [.own 0],.s false .poly,.s false .poly,.g [.nil],.g [.nil],.g [.own 7],.rows true .mono]⟩ qq4)) (.v (.v (.seq (.v (.cut ⟨[(4,.p 1 1),(8,.p 2 1),(9,.p 3 1),(12,.p 4 4)],[.rows true .atom,.g [.own 0],.g [.nil],.g [.nil],.g [.i,.i,.rows false .mono,.rows false .mono]]⟩ qq4)) .u)))))) WL Tryz.f119 [(113,BJ),(128,BK),(148,IE),(149,IE),(116,IC)]:=gm
def Ow:Gt aF.z X E (.v (.v (.seq (.v (.block (.loop al4 (.v (.seq (.block (.v (.cut al4 qq4))) .u))))) .u))) WM Tryz.f150 []:=gm
def Ox:Gt aF.z X E (.v (.v (.seq (.v (.cut ⟨[(3,.p 1 1),(6,.p 2 1),(7,.p 3 1),(8,.p 4 4)],[.rows true .atom,.g [.own 0],.g [.nil],.g [.nil],.g [.i,.i,.nil,.nil]]⟩ qq4)) .u))) WO Tryz.f120 [(113,BJ),(116,IC),(150,WM)]:=gm
def Oy:Gt aF.z X E (.v (.v (.seq (.v (.block (.loop ⟨[(0,.r false .poly),(3,.o 0),(4,.i)],[.rows true .poly]⟩ .u))) .u))) IG Tryz.f122 [(123,nW)]:=gm
def Oz:Gt aF.z X E (.v (.v (.seq (.v (.cut ⟨[(3,.r false .poly),(4,.p 0 5),(6,.p 1 1),(8,.p 2 5),(9,.p 3 5)],[.s false .iop,.s false .poly,.g [.i,.i,.nil,.nil,.nil],.g [.i,.i,.own 4,.nil,.nil],.rows true .mono]⟩ qq4)) (.seq (.v (.cut ⟨[(3,.r false .poly),(4,.p 0 5),(8,.p 1 5),(9,.p 2 5)],[.s false .iop,.g [.i,.i,.nil,.nil,.nil],.g [.i,.i,.own 3,.own 4,.nil],.rows true .mono,.rows true .mono]⟩ qq4)) (.seq (.v (.cut ⟨[(8,.p 0 5),(9,.p 1 5)],[.g [.i,.i,.nil,.nil,.nil],.g [.i,.i,.own 2,.own 3,.own 4],.rows true .mono,.rows true .mono,.rows true .poly]⟩ qq4)) .u))))) WQ Tryz.f121 [(123,nW),(122,IG)]:=gm
def OA:Gt aF.z X E .u II Tryz.f124 []:=gm
def OB:Gt aF.z X E .u II Tryz.f125 []:=gm
def OC:Gt aF.z X E .u Nh Tryz.f153 []:=gm
def OD:Gt aF.z X E (.v (.v (.v (.v (.seq (.block (.seq (.v (.cut ⟨[(1,.i),(2,.p 0 6),(4,.p 1 6),(6,.b),(8,.b),(9,.b),(29,.b)],[.s false .sym,.g Er]⟩ qq4)) (.cond .u (.seq (.v (.cut ⟨[(1,.i),(2,.p 0 6),(4,.p 1 6),(54,.b)],[.s false .sym,.g Er]⟩ qq4)) .u)))) (.seq (.v (.cut ⟨[(2,.p 0 6),(4,.p 1 6)],[.s false .sym,.g Er]⟩ qq4)) .u)))))) IJ Tryz.f154 [(152,R6),(128,BK),(153,Nh)]:=gm
def X4:Gt ⟨[53],[]⟩ X E (.v (.v (.v (.v (.seq (.v (.block (.loop ⟨[(1,.i),(2,.p 0 6),(4,.p 1 6),(5,.p 2 6),(6,.i)],[.s false .sym,.g Er,.g [.own 3,.rows false .poly,.i,.rows false .mono,.rows false .mono,.i],.rows true .ev]⟩ .u))) (.v (.v (.v (.seq (.v (.block (.v (.cut ⟨[(4,.p 0 6),(5,.p 1 6)],alO⟩ (.cond .u (.seq (.v (.cut ⟨[(1,.i),(4,.p 0 6),(5,.p 1 6),(85,.b)],alO⟩ qq4)) .u)))))) .u))))))))) IJ Tryz.f126 [(152,R6),(151,Em),(123,nW),(153,Nh),(154,IJ),(122,IG)]:=gm
def X5:Gt ⟨[116],[]⟩ X E (.v (.v (.v (.v (.v (.seq (.v (.block (.loop ⟨[(3,.p 0 7),(4,.p 1 1),(5,.p 2 6),(6,.p 3 1),(7,.p 4 6),(9,.o 5),(10,.i)],[.s false .blk,.g [.nil],.g Er,.g [.own 6],.g Er,.rows true .poly,.rows true .atom]⟩ .u))) (.v (.seq (.v (.block (.loop ⟨[(3,.p 0 7),(4,.p 1 1),(5,.p 2 6),(6,.p 3 1),(7,.p 4 6),(9,.o 5),(13,.o 6),(14,.i)],[.s false .blk,.g [.nil],.g Er,.g [.own 7],.g [.own 8,.nil,.i,.nil,.nil,.i],.rows false .poly,.rows false .poly,.rows true .atom,.rows true .ev]⟩ (.v (.seq (.block (.v (.v (.v (.v (.seq (.v (.block (.v (.cut alG (.cond .u (.v (.cut alG (.cond .u (.v (.cut alF (.cond .u (.v (.cut alF (.cond .u (.seq (.v (.cut ⟨[(3,.p 0 7),(4,.p 1 1),(5,.p 2 6),(6,.p 3 1),(7,.p 4 6),(9,.o 5),(13,.o 6),(14,.i),(15,.p 7 5),(16,.p 8 1),(17,.p 9 1),(18,.p 10 1)],[.s false .blk,.g [.nil],.g Er,.g [.own 11],.g [.own 12,.nil,.i,.nil,.nil,.i],.rows false .poly,.rows false .poly,.s false .iop,.s false .poly,.s false .poly,.g [.own 13],.rows true .atom,.rows true .ev,.rows true .mono]⟩ qq4)) .u))))))))))))))) .u)))))) .u))))) .u)))))))) aex Tryz.f89 [(86,jY),(113,BJ),(118,BJ),(126,IJ),(88,WB),(114,aev),(123,nW),(115,WH),(119,WL),(116,IC),(120,WO),(121,WQ),(117,WI),(122,IG),(124,II),(125,II)]:=gm
def OE:Gt aF.z X E (.v (.v (.seq (.v (.block (.loop ⟨[(0,.r false .poly),(1,.r false .poly),(5,.i)],[]⟩ .u))) .u))) Ni Tryz.f127 [(128,BK)]:=gm
def OG:Gt aF.z X E .u WR Tryz.f129 [(128,BK),(127,Ni)]:=gm
def X6:Gt aF.z X E (.v (.v (.seq (.v (.block (.loop ⟨[(2,.p 0 6),(3,.p 1 6),(5,.i)],[.s false .sym,.s false .sym]⟩ .u))) .u))) aey Tryz.f90 [(128,BK),(129,WR),(127,Ni)]:=gm
def X7:Gt aF.z X E .u za Tryz.f61 [(86,jY),(87,za),(88,WB),(89,aex),(90,aey)]:=gm
def X8:Gt aF.z X E .u R7 Tryz.f110 [(71,nS),(58,kS)]:=gm
def X9:Gt aF.z X E (.v (.v (.seq (.v (.block (.loop ⟨[(0,.r false .i64),(3,.o 0),(4,.i)],[.rows true .ins]⟩ .u))) .u))) aez Tryz.f85 [(110,R7)]:=gm
def Ya:Gt aF.z X E (.v (.v (.seq (.cut ⟨[(2,.b)],[]⟩ .u) .u))) aeA Tryz.f60 [(30,Ei),(49,Wz),(85,aez),(61,za)]:=gm
def Yb:Gt aF.z X E (.v (.v (.seq (.v (.block (.loop ⟨[(0,.r false .cac),(1,.r false .i64),(5,.i)],[]⟩ (.v (.seq (.block (.v (.v (.block (.loop ⟨[(0,.r false .cac),(1,.r false .i64),(5,.i),(6,.i)],[]⟩ .u))))) .u))))) .u))) aeB Tryz.f43 [(60,aeA),(40,Wx)]:=gm
def Yc:Gt aF.z X E (.v (.v (.seq (.v (.block (.loop ⟨[(0,.r false .cer),(3,.i)],[]⟩ .u))) .u))) aeC Tryz.f44 [(61,za)]:=gm
def Yd:Gt aF.z X E .u WS Tryz.f20 [(43,aeB),(44,aeC),(42,Ef)]:=gm
def Ye:Gt aF.z X E .u WT Tryz.f130 [(52,gF)]:=gm
def Yf:Gt ⟨[24,42],[]⟩ X E (.v (.v (.seq (.v (.block (.loop ⟨[(1,.p 0 12),(2,.p 1 12),(3,.p 2 12),(4,.i)],[.s false .eng,.g UA,.g [.own 3,.i,.own 4,.i,.bool,.bool,.i,.own 5,.own 6,.i,.own 7,.nil],.rows true .i64,.rows true .i64,.rows true .i64,.rows true .i64,.rows true .cac]⟩ .u))) (.seq (.v (.block (.loop ⟨[(1,.p 0 12),(2,.p 1 12),(3,.p 2 12),(5,.i)],[.s false .eng,.g UA,.g [.own 3,.i,.own 4,.i,.bool,.bool,.i,.own 5,.own 6,.i,.own 7,.own 8],.rows true .i64,.rows true .i64,.rows true .i64,.rows true .i64,.rows true .cac,.rows true .cer]⟩ .u))) .u)))) aeD Tryz.f94 [(36,Gn),(130,WT),(91,AA)]:=gm
end Go.TX.F
end
noncomputable section
namespace Go.TX.F
open Go Go.AE Go.TX Go.TX.Seat Go.Proofs
set_option maxRecDepth 100000
set_option maxHeartbeats 4000000
def OH:Gt aF.z X E (.v (.seq (.v (.block (.loop ⟨[(0,.r false .i64),(1,.i),(5,.i)],[]⟩ .u))) .u)) En Tryz.f95 []:=gm
def OI:Gt aF.z X E (.v (.v (.seq (.v (.cut ahs qq4)) .u))) WU Tryz.f156 []:=gm
def OJ:Gt aF.z X E .u kQ Tryz.f157 []:=gm
def OL:Gt aF.z X E .u kQ Tryz.f178 [(164,nU)]:=gm
def OM:Gt aF.z X E (.v (.seq (.v (.block (.v (.cond .u (.v (.cut ahs (.cond .u (.v (.cut ahs qq4))))))))) .u)) kQ Tryz.f174 [(157,kQ),(178,kQ)]:=gm
def OO:Gt aF.z X E .u IK Tryz.f175 [(178,kQ)]:=gm
def OQ:Gt aF.z X E (.v (.v (.seq (.v (.block (.loop ⟨[(1,.i),(5,.i),(6,.i)],[]⟩ .u))) .u))) WW Tryz.f176 [(164,nU)]:=gm
def OT:Gt aF.z X E .u WX Tryz.f177 [(164,nU),(157,kQ),(178,kQ),(175,IK)]:=gm
def OU:Gt aF.z X E (.v (.v (.v (.seq (.v (.cut ⟨[(2,.p 3 10),(3,.p 4 4),(4,.p 5 10),(5,.i)],aho⟩ qq4)) .u)))) IL Tryz.f179 [(178,kQ),(175,IK)]:=gm
def OV:Gt aF.z X E (.v (.v (.seq (.v (.block (.v (.cond .u (.v (.cond .u (.v (.cond .u (.v (.cond .u (.seq (.v (.cut ⟨[(2,.p 3 10),(3,.p 4 4),(4,.p 5 10),(5,.i),(13,.i),(45,.b)],aho⟩ qq4)) (.cond .u (.v (.cond .u (.v (.cond .u (.v (.cond .u (.seq (.v (.cut ⟨[(2,.p 3 10),(3,.p 4 4),(4,.p 5 10),(5,.i),(94,.b)],aho⟩ qq4)) .u))))))))))))))))))) .u))) IL Tryz.f158 [(142,KO),(178,kQ),(179,IL),(177,WX),(175,IK),(176,WW),(174,kQ)]:=gm
def Yg:Gt aF.z X E .u WY Tryz.f131 [(110,R7),(42,Ef),(91,AA),(158,IL),(157,kQ),(156,WU)]:=gm
def OW:Gt aF.z X E .u WZ Tryz.f96 [(17,Wy),(131,WY),(95,En)]:=gm
def Yh:Gt aF.z X E (.v (.seq (.v (.block (.loop ⟨[(0,.r false .cac),(1,.i),(5,.i)],[]⟩ .u))) .u)) aeE Tryz.f9 []:=gm
def Yi:Gt aF.z X E (.v (.v (.seq (.v (.block (.loop alY (.v (.seq (.block (.v (.cut alY qq4))) .u))))) .u))) aeF Tryz.f14 [(36,Gn)]:=gm
def Yj:Gt aF.z X E (.v (.v (.v (.seq (.v (.block (.loop ⟨[(1,.p 0 10),(3,.o 1),(4,.i)],[.s false .au,.rows true .ins]⟩ .u))) .u)))) Xa Tryz.f100 [(72,kS),(110,R7),(42,Ef)]:=gm
def Yk:Gt aF.z X E (.v (.v (.seq (.v (.cut ⟨[(1,.r false .i64),(2,.p 0 5),(4,.p 1 5),(5,.p 2 5)],[.s false .iop,.g [.i,.i,.i,.i,.i],.s true .iop]⟩ qq4)) (.seq (.v (.cut ⟨[(4,.p 0 5),(5,.p 1 5)],[.g [.i,.i,.i,.i,.i],.s true .iop]⟩ qq4)) .u)))) Xb Tryz.f109 [(59,iU)]:=gm
def Yl:Gt aF.z X E (.v (.v (.v (.v (.v (.seq (.v (.block (.loop ⟨[(2,.p 0 7),(3,.p 1 7),(4,.o 2),(5,.o 3),(6,.i)],alV⟩ (.v (.seq (.block (.v (.v (.v (.seq alI (.seq alI (.seq (.v (.cut ⟨[(2,.p 0 7),(3,.p 1 7),(4,.o 2),(5,.o 3),(6,.i),(8,.i)],alV⟩ qq4)) .u))))))) .u))))) (.seq (.v (.cut ⟨[(2,.p 0 7),(3,.p 1 7),(4,.o 2)],[.g qq5,.g [.i,.i,.own 3,.i,.i,.i,.i],.rows true .i64,.rows true .iop]⟩ qq4)) (.seq (.v (.cut ⟨[(2,.p 0 7),(3,.p 1 7)],UC⟩ qq4)) .u)))))))) gF Tryz.f84 [(86,jY),(109,Xb),(52,gF)]:=gm
def Ym:Gt aF.z X E (.v (.v (.v (.seq (.v (.block (.loop alL (.v (.seq (.block (.v (.v (.cut alL qq4)))) .u))))) (.v (.v (.seq (.v (.cut ⟨[(2,.p 0 7),(4,.p 1 7),(6,.o 2),(8,.p 3 7)],[.s false .blk,.g qq5,.rows true .i64,.g [.i,.i,.own 4,.i,.i,.i,.i],.rows true .iop]⟩ qq4)) (.seq (.v (.cut ⟨[(4,.p 0 7),(8,.p 1 7)],UC⟩ qq4)) .u)))))))) Xc Tryz.f138 [(109,Xb)]:=gm
end Go.TX.F
end
noncomputable section
namespace Go.TX.F
open Go Go.AE Go.TX Go.TX.Seat Go.Proofs
set_option maxRecDepth 100000
set_option maxHeartbeats 4000000
def Yn:Gt aF.z X E (.v (.v (.v (.seq (.v (.block (.loop ⟨[(1,.p 0 7),(3,.o 1),(4,.i)],ac8⟩ .u))) (.seq (.v (.cut ⟨[(1,.p 0 7),(3,.o 1)],ac8⟩ qq4)) (.seq (.v (.cut ⟨[(1,.p 0 7),(3,.o 1)],ac8⟩ qq4)) (.seq (.v (.block (.loop ahr (.v (.seq (.cut ahr (.block (.v (.v (.seq (.v (.cut ⟨[(1,.p 0 7),(3,.o 1),(5,.i),(6,.p 2 5)],[.s false .blk,.rows true .bool,.s false .iop]⟩ qq4)) (.v (.cut ahr qq4))))))) .u))))) .u))))))) aeG Tryz.f139 [(86,jY),(59,iU)]:=gm
def Yo:Gt aF.z X E .u gF Tryz.f106 [(86,jY),(139,aeG),(138,Xc)]:=gm
def Yp:Gt aF.z X E (.v (.seq (.v (.block (.loop ⟨[(0,.r false .iop),(1,.i),(5,.i)],[]⟩ .u))) .u)) aeH Tryz.f140 []:=gm
def Yq:Gt aF.z X E (.v (.v (.v (.seq (.v (.block (.loop ⟨[(1,.p 0 7),(2,.p 1 7),(3,.o 2),(4,.i)],[.s false .blk,.g qq5,.rows true .bool]⟩ .u))) .u)))) gF Tryz.f107 [(86,jY),(138,Xc),(140,aeH)]:=gm
def Yr:Gt aF.z X E .u Xd Tryz.f141 []:=gm
def Yt:Gt aF.z X E .u aeI Tryz.f165 []:=gm
def Yu:Gt aF.z X E (.v (.v (.v (.seq (.block (.v (.cond .u (.seq (.v (.cut ⟨[(1,.p 0 7),(2,.p 1 7),(4,.b),(6,.b),(33,.b)],[.s false .blk,.g qq5]⟩ qq4)) .u)))) .u)))) R8 Tryz.f143 [(165,aeI),(141,Xd)]:=gm
def Yv:Gt aF.z X E (.v (.v (.v (.seq (.v (.block (.loop ⟨[(2,.p 0 7),(3,.p 1 7),(4,.i)],UC⟩ (.v (.seq (.block (.v (.v (.v (.v (.cut ⟨[(2,.p 0 7),(3,.p 1 7),(4,.i)],UC⟩ qq4)))))) .u))))) .u)))) R8 Tryz.f108 [(86,jY),(142,KO),(143,R8),(141,Xd),(52,gF)]:=gm
def Yw:Gt aF.z X E .u gF Tryz.f83 [(108,R8),(84,gF),(106,gF),(107,gF)]:=gm
def Yx:Gt aF.z X E .u aeJ Tryz.f184 []:=gm
def Yy:Gt aF.z X E (.v (.v (.v (.seq (.v (.block (.loop ⟨[(0,.r false .u8),(2,.p 0 7),(4,.p 1 7),(5,.i)],UC⟩ .u))) .u)))) aeK Tryz.f180 [(86,jY),(184,aeJ)]:=gm
def Yz:Gt aF.z X E .u aeL Tryz.f159 [(180,aeK),(83,gF)]:=gm
def YA:Gt aF.z X E (.v (.seq (.v (.block (.loop ⟨[(0,.r false .cer),(4,.p 0 7),(5,.p 1 7),(7,.i)],[.s false .blk,.s false .blk]⟩ .u))) .u)) aeM Tryz.f160 [(87,za)]:=gm
def YB:Gt aF.z X E (.v (.v (.seq (.v (.block (.loop ⟨[(0,.r false .cer),(3,.p 0 14),(5,.o 1),(6,.i)],[.s false .cer,.rows true .cer]⟩ .u))) .u))) aeN Tryz.f161 [(130,WT)]:=gm
def YC:Gt aF.z X E .u aeO Tryz.f132 [(160,aeM),(161,aeN),(61,za),(159,aeL)]:=gm
def YD:Gt aF.z X E .u aeP Tryz.f97 [(100,Xa),(30,Ei),(29,R4),(9,aeE),(14,aeF),(132,aeO)]:=gm
def OX:Gt aF.z X E (.v (.v (.seq (.v (.block (.loop ⟨[(1,.r false .i64),(3,.i),(4,.p 0 10),(9,.i)],[.s false .au]⟩ .u))) .u))) Xe Tryz.f98 [(95,En)]:=gm
def OY:Gt aF.z X E .u Xf Tryz.f162 []:=gm
def OZ:Gt aF.z X E .u Xg Tryz.f163 []:=gm
def O5:Gt aF.z X E (.v (.seq (.v (.block (.v (.cond .u (.v (.cond (.v (.seq (.v (.cut ⟨[(5,.p 3 10),(10,.p 4 10),(13,.i)],qq9⟩ qq4)) .u)) .u)))))) .u)) Xh Tryz.f133 [(162,Xf),(163,Xg)]:=gm
def O6:Gt aF.z X E .u Xi Tryz.f134 []:=gm
def O7:Gt aF.z X E .u Xj Tryz.f135 [(142,KO)]:=gm
def O8:Gt aF.z X E (.v (.seq (.v (.block (.v (.cond .u (.v (.cond .u (.v (.cut ⟨[(2,.p 0 7)],[.s false .blk]⟩ (.cond .u (.v (.cut ⟨[(2,.p 0 7)],[.s false .blk]⟩ qq4))))))))))) .u)) Xk Tryz.f136 []:=gm
def YE:Gt aF.z X E (.v (.v (.v (.v (.v (.seq (.v (.block (.loop ⟨[(2,.p 0 7),(4,.p 1 10),(6,.p 2 10),(7,.o 3),(8,.i)],alE⟩ (.v (.seq (.block (.v (.v (.seq (.v (.block (.v (.cut al0 (.cond .u (.seq (.v (.cut qq7 (.cond .u (.v (.cut qq7 (.cond .u (.v (.cut qq7 qq4)))))))) (.cut al0 qq4))))))) .u)))) .u))))) .u)))))) aeQ Tryz.f99 [(86,jY),(42,Ef),(91,AA),(134,Xi),(133,Xh),(136,Xk),(135,Xj)]:=gm
end Go.TX.F
end
noncomputable section
namespace Go.TX.F
open Go Go.AE Go.TX Go.TX.Seat Go.Proofs
set_option maxRecDepth 100000
set_option maxHeartbeats 4000000
def YF:Gt aF.z X E (.v (.v (.v (.v (.v (.seq (.cut ⟨[(1,.r false .i64),(2,.i),(7,.p 0 2),(8,.p 1 12),(10,.p 2 12),(11,.p 3 10),(12,.b)],[.s false .ask,.g UA,.g [.rows true .i64,.i,.rows true .i64,.i,.bool,.bool,.i,.rows true .i64,.rows true .i64,.i,.own 4,.own 5],.g [.rows true .i64,.i,.rows true .i64,.i,.bool,.bool,.i,.rows true .i64,.rows true .i64,.i],.rows true .cac,.rows true .cer]⟩ .u) .u)))))) aeR Tryz.f67 [(17,Wy),(20,WS),(99,aeQ),(94,aeD),(97,aeP),(96,WZ),(98,Xe),(95,En)]:=gm
def IQ:Gt aF.z X E (.v (.v (.v (.v (.seq (.v (.block (.v (.cut qq2 (.cond .u (.v (.cut qq2 (.cond .u (.v (.cut qq2 (.cond .u (.v (.cut qq2 (.cond .u (.v (.cut qq2 (.cond .u (.v (.cut qq2 (.cond .u (.v (.cut qq2 (.cond (.v (.cut qq2 qq4)) (.v (.cut qq2 qq4))))))))))))))))))))))))) .u))))) Ep Tryz.f55 [(23,gB),(52,gF)]:=gm
def O9:Gt aF.z X E (.v (.v (.seq (.v (.block (.loop ac6 .u))) .u))) Nj Tryz.f28 [(47,xP),(23,gB)]:=gm
def Pb:Gt aF.z X E .u Nk Tryz.f56 [(30,Ei),(83,gF),(84,gF),(23,gB),(28,Nj)]:=gm
def YG:Gt aF.z X E .u aeS Tryz.f137 []:=gm
def YH:Gt aF.z X E (.v (.v (.v (.v (.seq (.v (.block (.loop ⟨[(1,.p 0 7),(3,.o 1),(4,.i)],[.s false .blk,.rows true .u8]⟩ .u))) .u))))) aeT Tryz.f101 [(86,jY),(137,aeS)]:=gm
def Pf:Gt aF.z X E (.v (.v (.seq (.v (.block (.loop alP (.v (.seq (.block (.v (.seq (.seq (.cut ⟨[(0,.p 0 2),(4,.p 1 7),(5,.p 2 7),(6,.i),(7,.p 3 5),(34,.b)],alJ⟩ .u) al1) (.seq (.v al1) (.v (.cut alP qq4)))))) .u))))) .u))) Ep Tryz.f102 [(23,gB),(52,gF)]:=gm
def Ph:Gt aF.z X E .u Xl Tryz.f103 [(23,gB)]:=gm
def IU:Gt aF.z X E .u Xm Tryz.f68 [(100,Xa),(30,Ei),(101,aeT),(83,gF),(23,gB),(55,Ep),(56,Nk),(102,Ep),(103,Xl)]:=gm
end Go.TX.F
end
noncomputable section
namespace Go.TX.F
open Go Go.AE Go.TX Go.TX.Seat Go.Proofs
set_option maxRecDepth 100000
set_option maxHeartbeats 4000000
def Pj:Gt aF.z X E (.v (.v (.v (.seq (.v (.block (.loop ⟨[(0,.p 0 2),(2,.p 1 12),(3,.p 2 12),(4,.o 3),(5,.i)],[.g qq8,.g UA,.g [.rows true .i64,.i,.own 4,.i,.bool,.bool,.i,.rows true .i64,.rows true .i64,.i,.own 5,.own 6],.rows true .i64,.rows true .i64,.rows true .cac,.rows true .cer]⟩ .u))) .u)))) Nl Tryz.f45 [(62,aes),(67,aeR),(63,Wv),(64,AJ),(66,AJ),(23,gB),(65,M6),(68,Xm)]:=gm
def Pm:Gt aF.z X E .u Xo Tryz.f22 [(45,Nl)]:=gm
def aht:Gt aF.z X E .u ahm Tryz.f33 []:=gm
def YI:Gt aF.z X E .u iU Tryz.f46 []:=gm
def YJ:Gt aF.z X E (.v (.v (.seq (.v (.block (.loop ⟨[(0,.r false .i64),(1,.r false .i64),(12,.i),(13,.i)],[]⟩ .u))) .u))) R9 Tryz.f53 []:=gm
def ahu:Gt aF.z X E .u alA Tryz.f39 [(46,iU),(53,R9)]:=gm
def ahv:Gt aF.z X E .u ahn Tryz.f38 [(39,alA)]:=gm
def YK:Gt aF.z X E (.v (.seq (.v (.block (.loop ⟨[(0,.r false .cac),(1,.c (.fn 33 [(0,8)])),(7,.i),(8,.i)],[.s true .cac]⟩ .u))) .u)) aeU Tryz.f24 [(33,ahm)]:=gm
def YL:Gt aF.z X E (.v (.seq (.v (.block (.loop ⟨[(0,.r false .cac),(1,.c (.fn 38 [(0,1)])),(7,.i),(8,.i)],[.box (.r true .i64)]⟩ .u))) .u)) aeV Tryz.f24 [(38,ahn)]:=gm
def ahw:Gt aF.z X E .u kS Tryz.f26 [(46,iU)]:=gm
def YM:Gt aF.z X E .u aeW Tryz.f10 [(26,kS)]:=gm
def YN:Gt aF.z X E (.v (.v (.v (.seq (.v (.cut ⟨[(3,.p 0 8),(4,.p 1 2),(5,.o 2)],al2⟩ (.cond (.v (.block (.loop ⟨[(3,.p 0 8),(4,.p 1 2),(5,.o 2),(7,.i)],al2⟩ .u))) .u))) (.v (.v (.seq (.seq (.cut ⟨[(3,.p 0 8),(4,.p 1 2),(5,.o 2),(9,.p 3 8),(48,.b)],[.g [.nil,.i,.i,.nil,.i,.i,.i,.i],.g qq8,.rows true .cac,.g [.own 4,.i,.i,.own 5,.i,.i,.i,.i],.rows true .i64,.rows true .iop]⟩ .u) .u) .u))))))) aeX Tryz.f11 [(30,Ei),(29,R4),(21,M4),(27,AB),(23,gB),(22,Xo),(28,Nj)]:=gm
def YO:Gt aF.z X E (.v (.v (.v (.seq (.v (.block (.loop alX (.v (.seq (.block (.v (.v (.cut alX qq4)))) .u))))) .u)))) aeY Tryz.f31 [(33,ahm),(24,aeU)]:=gm
def YP:Gt aF.z X E (.v (.v (.v (.seq (.v (.block (.loop alT (.v (.seq (.block (.v (.v (.cut alT qq4)))) .u))))) .u)))) aeZ Tryz.f31 [(38,ahn),(24,aeV)]:=gm
def YQ:Gt aF.z X E .u ae0 Tryz.f80 []:=gm
def ahx:Gt aF.z X E .u gF Tryz.f81 []:=gm
def ahy:Gt aF.z X E .u Gn Tryz.f51 [(81,gF),(80,ae0)]:=gm
def YR:Gt aF.z X E (.v (.v (.seq (.v (.block (.loop ⟨[(3,.o 0),(6,.r false .cac),(7,.i),(8,.i)],[.rows true .cac]⟩ .u))) .u))) Xp Tryz.f32 [(51,Gn)]:=gm
def YS:Gt aF.z X E .u ae1 Tryz.f34 []:=gm
def ahz:Gt aF.z X E .u alC Tryz.f12 [(32,Xp),(34,ae1),(31,aeY)]:=gm
def YT:Gt aF.z X E alS R9 Tryz.f18 []:=gm
def YU:Gt aF.z X E alQ za Tryz.f35 []:=gm
def YV:Gt aF.z X E (.v (.v (.seq (.v (.block (.loop ⟨[(0,.r false .cac),(1,.r false .cac),(5,.i)],[]⟩ .u))) .u))) ae2 Tryz.f13 [(35,za),(18,R9)]:=gm
def ahA:Gt aF.z X E .u alD Tryz.f16 [(32,Xp),(31,aeZ)]:=gm
def YW:Gt aF.z X E (.v (.v (.v (.seq (.v (.block (.loop ⟨[(1,.r false .i64),(2,.i),(6,.p 0 10),(7,.p 1 10),(8,.i)],[.g qq3,.g [.own 2,.i,.own 3,.i,.bool,.bool,.i,.rows true .i64,.own 4,.i],.rows true .i64,.rows true .i64,.rows true .i64]⟩ .u))) .u)))) ae3 Tryz.f105 [(42,Ef),(131,WY),(91,AA),(95,En)]:=gm
def Pn:Gt aF.z X E (.v (.v (.v (.seq ahq (.seq ahq (.seq ahq (.seq (.v (.cut ⟨[(2,.p 1 10),(3,.p 2 10)],qq1⟩ qq4)) .u))))))) Xq Tryz.f82 [(63,Wv),(105,ae3),(64,AJ),(66,AJ),(27,AB),(23,gB),(65,M6)]:=gm
end Go.TX.F
end
noncomputable section
namespace Go.TX.F
open Go Go.AE Go.TX Go.TX.Seat Go.Proofs
set_option maxRecDepth 100000
set_option maxHeartbeats 4000000
def Po:Gt aF.z X E (.v (.v (.seq (.v (.cut qq6 (.cond (.v (.block (.v (.cut qq6 (.cond .u (.v (.cut qq6 (.cond .u (.v (.cut qq6 (.cond .u (.v (.cut ac9 (.cond .u (.v (.cut ac9 (.cond .u (.v (.cut ac9 (.cond .u (.v (.cut ac9 qq4)))))))))))))))))))))) .u))) .u))) Xr Tryz.f54 [(82,Xq),(27,AB),(23,gB)]:=gm
def Pp:Gt ⟨[36,39,68,22],[]⟩ X E (.v (.v (.seq (.v (.cut alH (.cond (.v (.block (.v (.cut alH (.cond .u (.v (.cut qq0 (.cond .u (.v (.cut qq0 (.cond (.v (.cut qq0 qq4)) (.v (.cut qq0 (.cond .u (.v (.cut qq0 (.cond (.v (.cut qq0 qq4)) (.v (.cut qq0 qq4))))))))))))))))))) .u))) .u))) Xt Tryz.f41 [(30,Ei),(54,Xr),(27,AB),(23,gB),(37,Iw),(55,Ep),(56,Nk),(45,Nl)]:=gm
def YX:Gt aF.z X E .u ae4 Tryz.f19 [(21,M4),(41,Xt)]:=gm
def YZ:Gt aF.z X E (.v (.v (.v (.v (.v (.v (.seq (.cut ⟨[(2,.b)],[]⟩ .u) .u))))))) alB Tryz.f6 [(16,alD),(12,alC),(13,ae2),(10,aeW),(11,aeX),(19,ae4),(20,WS)]:=gm
end Go.TX.F
end

namespace Go.TX
open Go Go.AE
theorem ahB(x y:Int):bS .lss x y=decide (x<y):=rfl
theorem ahC(x y:Int):bS .leq x y=decide (x<=y):=rfl
theorem ahD(x y:Int):bS .gtr x y=decide (y<x):=rfl
theorem ahE(x y:Int):bS .geq x y=decide (y<=x):=rfl
theorem Za(x y:Int):bS .eql x y=decide (x=y):=rfl
theorem ahF(x y:Int):bS .neq x y= !decide (x=y):=rfl
theorem ahG(k:IntKind)(x y:Int):jV .add k x y=k.wrap (x+y):=rfl
theorem Zb(k:IntKind)(x y:Int):jV .sub k x y=k.wrap (x-y):=rfl
theorem ahH(k:IntKind)(x y:Int):jV .mul k x y=k.wrap (x*y):=rfl
theorem ahI(k:IntKind)(x y:Int):jV .quo k x y=k.wrap (x.tdiv y):=rfl
theorem Zc(k:IntKind)(x y:Int):jV .rem k x y=x.tmod y:=rfl
def w64{x:Int}(h1: -9223372036854775808<=x)(h2:x<=9223372036854775807):IntKind.i64.wrap x=x:=IntWalk.i64_in _ ah
theorem ada(m:aj):dB .mono 0 m=m.bD:=rfl
theorem adb(m:aj):iE .mono 1 .i64 m=m.atoms:=rfl
theorem ahJ(p:List aj):iE .poly 0 .mono p=p:=rfl
theorem al5(p:List Atom):iE .tab 0 .atom p=p:=rfl
theorem ahK(p:List Int):iE .ints 0 .i64 p=p:=rfl
theorem ade(m:Atom):dB .atom 0 m=m.kind:=rfl
theorem adf(m:Atom):dB .atom 1 m=m.k:=rfl
theorem adg(m:Atom):iE .atom 2 .mono m=m.x:=rfl
theorem adh(m:Atom):iE .atom 3 .mono m=m.y:=rfl
theorem al6(n:Int):dB .i64 0 n=n:=rfl
theorem aql(n:Int):dB .u8 0 n=n:=rfl
theorem adi(x):Co.mk .mono x=⟨x.1,x.2.1⟩:=rfl
theorem adj(x):Co.mk .poly x=x.1:=rfl
theorem ahL(x):Co.mk .tab x=x.1:=rfl
theorem adk(x):Co.mk .ints x=x.1:=rfl
theorem nX(x):Co.mk .i64 x=x.1:=rfl
theorem adl(x):Co.mk .atom x=⟨x.1,x.2.1,x.2.2.1,x.2.2.2.1⟩:=rfl
def aB{α ρ:Type}{f:α->(α ⊕ ρ->Prop)->Prop}{x:α}{Q:ρ->Prop}(I:α->Prop)(μ:α->Nat)(h0:I x)(hs:∀y,I y->f y (Ci (λz _=>I z/\μ z<μ y) Q)):RA f x Q:=⟨I,μ,h0,hs⟩
theorem Zd{α ρ:Type}(k:α->(ρ->Prop)->Prop)(Q:ρ->Prop)(x:α):Ci k Q (.inl x)=k x Q:=rfl
theorem Ze{α ρ:Type}(k:α->(ρ->Prop)->Prop)(Q:ρ->Prop)(r:ρ):Ci k Q (.inr r)=Q r:=rfl
def getD_lt{α:Type}{xs:List α}{d:α}{i:Nat}(h:i<xs.length):xs.getD i d=xs[i]:=by simp [List.getD,h]
def dD{α:Type}{xs:List α}{d:α}{i:Int}(h0:0<=i)(h:i<xs.length):xs.getD i.toNat d∈xs:=by
 rw [getD_lt ah];exact List.getElem_mem _
def RR:(∀(x y:Int),bS BinOp.lss x y=decide (x<y))/\(∀(x y:Int),bS BinOp.leq x y=decide (x<=y))/\(∀(x y:Int),bS BinOp.gtr x y=decide (y<x))/\(∀(x y:Int),bS BinOp.geq x y=decide (y<=x))/\(∀(x y:Int),bS BinOp.eql x y=decide (x=y))/\(∀(x y:Int),bS BinOp.neq x y= !decide (x=y))/\(∀(k:IntKind) (x y:Int),jV BinOp.add k x y=k.wrap (x+y))/\(∀(k:IntKind) (x y:Int),jV BinOp.sub k x y=k.wrap (x-y))/\(∀(k:IntKind) (x y:Int),jV BinOp.mul k x y=k.wrap (x*y))/\(∀(k:IntKind) (x y:Int),jV BinOp.quo k x y=k.wrap (x.tdiv y))/\(∀(k:IntKind) (x y:Int),jV BinOp.rem k x y=x.tmod y)/\(∀ {x:Int}, -9223372036854775808<=x->x<=9223372036854775807->IntKind.i64.wrap x=x)/\(∀(m:aj),dB Co.mono 0 m=m.bD)/\(∀(m:aj),iE Co.mono 1 Co.i64 m=m.atoms)/\(∀(p:List aj),iE Co.poly 0 Co.mono p=p)/\(∀(p:List Atom),iE Co.tab 0 Co.atom p=p)/\(∀(p:List Int),iE Co.ints 0 Co.i64 p=p)/\(∀(m:Atom),dB Co.atom 0 m=m.kind)/\(∀(m:Atom),dB Co.atom 1 m=m.k)/\(∀(m:Atom),iE Co.atom 2 Co.mono m=m.x)/\(∀(m:Atom),iE Co.atom 3 Co.mono m=m.y)/\(∀(n:Int),dB Co.i64 0 n=n)/\(∀(n:Int),dB Co.u8 0 n=n)/\(∀(x:gN Co.mono.oI),Co.mono.mk x=aj.mk x.fst x.snd.fst)/\(∀(x:gN Co.poly.oI),Co.poly.mk x=x.fst)/\(∀(x:gN Co.tab.oI),Co.tab.mk x=x.fst)/\(∀(x:gN Co.ints.oI),Co.ints.mk x=x.fst)/\(∀(x:gN Co.i64.oI),Co.i64.mk x=x.fst)/\(∀(x:gN Co.atom.oI),Co.atom.mk x=Atom.mk x.fst x.snd.fst x.snd.snd.fst x.snd.snd.snd.fst)/\(∀ {α ρ:Type} (k:α->(ρ->Prop)->Prop) (Q:ρ->Prop) (x:α),Ci k Q (Sum.inl x)=k x Q)/\(∀ {α ρ:Type} (k:α->(ρ->Prop)->Prop) (Q:ρ->Prop) (r:ρ),Ci k Q (Sum.inr r)=Q r)/\(∀(c f:Bool),(bif c then true else f)=(c || f))/\(∀(c t:Bool),(bif c then t else false)=(c&&t))/\(∀(c f:Bool),(bif c then false else f)=(!c&&f))/\(∀(c t:Bool),(bif c then t else true)=(!c || t))/\(∀(a b:Bool),((a || b)=true)=(a=true\/b=true))/\(∀ {x y:Bool},(x || y)=false↔x=false/\y=false)/\(∀(a b:Bool),((a&&b)=true)=(a=true/\b=true))/\(∀ {p:Prop} [inst:Decidable p],(decide p=true)=p)/\(∀ {p:Prop} {x:Decidable p},decide p=false↔¬p)/\(∀(b:Bool),((!b)=true)=(b=false))/\(∀(b:Bool),((!b)=false)=(b=true))/\(∀(b:Bool),(!!b)=b)/\(∀(p:Prop),(True/\p)=p)/\(∀(p:Prop),(p/\True)=p)/\(∀ {α:Type} [inst:LE α] {x y:α},x>=y↔y<=x)/\(¬True)=False/\(¬False)=True/\(false=true)=False/\(true=false)=False/\(∀(p:Prop),(False->p)=True)/\(∀(p:Prop),(True->p)=p)/\(∀(α:Prop),(α->True)=True)/\(∀(α:Type),(∀(a:α),True)=True)/\(∀(p:Prop),(False\/p)=p)/\(∀(p:Prop),(p\/False)=p)/\(∀(p:Prop),(True\/p)=True)/\(∀(p:Prop),(p\/True)=True)/\(∀ {α:Type} {x:Decidable True} (t e:α),(if True then t else e)=t)/\∀ {α:Type} {x:Decidable False} (t e:α),(if False then t else e)=e:=And.intro (@ahB)<| And.intro (@ahC)<| And.intro (@ahD)<| And.intro (@ahE)<| And.intro (@Za)<| And.intro (@ahF)<| And.intro (@ahG)<| And.intro (@Zb)<| And.intro (@ahH)<| And.intro (@ahI)<| And.intro (@Zc)<| And.intro (@w64)<| And.intro (@ada)<| And.intro (@adb)<| And.intro (@ahJ)<| And.intro (@al5)<| And.intro (@ahK)<| And.intro (@ade)<| And.intro (@adf)<| And.intro (@adg)<| And.intro (@adh)<| And.intro (@al6)<| And.intro (@aql)<| And.intro (@adi)<| And.intro (@adj)<| And.intro (@ahL)<| And.intro (@adk)<| And.intro (@nX)<| And.intro (@adl)<| And.intro (@Zd)<| And.intro (@Ze)<| And.intro (@Bool.cond_true_left)<| And.intro (@Bool.cond_false_right)<| And.intro (@Bool.cond_false_left)<| And.intro (@Bool.cond_true_right)<| And.intro (@Bool.or_eq_true)<| And.intro (@Bool.or_eq_false_iff)<| And.intro (@Bool.and_eq_true)<| And.intro (@decide_eq_true_eq)<| And.intro (@decide_eq_false_iff_not)<| And.intro (@Bool.not_eq_true')<| And.intro (@Bool.not_eq_false')<| And.intro (@Bool.not_not)<| And.intro (@true_and)<| And.intro (@and_true)<| And.intro (@ge_iff_le.{0})<| And.intro (@not_true_eq_false)<| And.intro (@not_false_eq_true)<| And.intro (@Bool.false_eq_true)<| And.intro (@Bool.true_eq_false)<| And.intro (@false_implies)<| And.intro (@true_implies)<| And.intro (@implies_true.{0})<| And.intro (@implies_true.{1})<| And.intro (@false_or)<| And.intro (@or_false)<| And.intro (@true_or)<| And.intro (@or_true)<| And.intro (@if_true.{1})<| @if_false.{1}
end Go.TX
namespace Go.TX.F
open Go Go.AE Go.TX
def inB(a lo hi:Int):Bool:=decide (lo<=a)&&decide (a<=hi)
def ae5(a b c:Int):YI.F () (a,b,c,()) (λy=>y=(inB a b c,())):=by
 dsimp only [YI,gm];simp (disch:=omega) only [RR];rfl
structure Y1(pp:Int×Int×Int×Unit->Bool)(ff:Int×Int×Int×Unit->Bool×Unit):Prop where
 hp:∀a b c,pp (a,b,c,())=true
 hf:∀a b c,ff (a,b,c,())=(inB a b c,())
def aqm{p f}(U:Y1 p f)(a:Int):ahw.F (p,f,()) (a,()) (λy=>y=(inB a 0 65535,())):=by
 dsimp only [ahw,gm];simp (disch:=omega) only [RR,U.hp,U.hf]
def iA(a b:Int):Int:=if a<b then-1 else if b<a then 1 else 0
structure Y2(pp:Int×Unit->Bool)(ff:Int×Unit->Bool×Unit):Prop where
 hp:∀a,pp (a,())=true
 hf:∀a,ff (a,())=(false,())
def or2(a b:Int):Int:=if a≠0 then a else b
def lW:List Int->List Int->Int
 | [],[]=>0
 | [],_::_=> -1
 | _::_,[]=>1
 | a::az,b::bs=>if iA a b≠0 then iA a b else lW az bs
def UD(a b:List Int)(i:Nat):(h1:i<a.length)->(h2:i<b.length)->lW (a.drop i) (b.drop i)=if iA a[i] b[i]≠0 then iA a[i] b[i]else lW (a.drop (i+1)) (b.drop (i+1)):=by
 intro h1 h2;rw [List.drop_eq_getElem_cons h1,List.drop_eq_getElem_cons h2];rfl
structure Y3(pp:Int×Int×Unit->Bool)(ff:Int×Int×Unit->Int×Unit):Prop where
 hp:∀a b,pp (a,b,())=true
 hf:∀a b,ff (a,b,())=(iA a b,())
def eO(a b:List Int):Int:=or2 (iA a.length b.length) (lW a b)
structure Y4(pp:List Int×Unit->Bool)(ff:List Int×Unit->Int×Unit):Prop where
 hp:∀a b,pp ([a,b],())=true
 hf:∀a b,ff ([a,b],())=(or2 a b,())
noncomputable def bp (P:Prop):Bool:= @decide P (Classical.propDecidable P)
def aP{P:Prop}(h:P):bp P=true:=by simp [bp,h]
def bL{P:Prop}(h:¬P):bp P=false:=by simp [bp,h]
def aU{P:Prop}:bp P=true↔P:=by simp [bp]
def kU{P:Prop}:bp P=false↔¬P:=by simp [bp]
def pV{P Q:Prop}:bp (P/\Q)=(bp P&&bp Q):=by by_cases h1:P<;>by_cases h2:Q<;>simp [bp,h1,h2]
def xQ{P Q:Prop}(h:P↔Q):bp P=bp Q:=by simp [bp,h]
def All(n:Int)(G:Int->Prop):Prop:=∀j,0<=j->j<n->G j
def All.zero{G:Int->Prop}:All 0 G:=λj h1 h2=>absurd h2 ah
def All.snoc{n:Int}{G:Int->Prop}(h:All n G)(hi:G n):All (n+1) G:=λj h1 h2=>by
 by_cases hj:j=n
 .exact hj▸hi
 .exact h j h1 ah
def All.le{n m:Int}{G:Int->Prop}(h:All n G)(hi:m<=n):All m G:=λj h1 h2=>h j h1 ah
def Idx(n:Int)(G:Int->Prop)(r:Int):Prop:=(r= -1/\All n (λj=>¬G j))\/(0<=r/\r<n/\G r/\All r (λj=>¬G j))
def Idx.ge{n:Int}{G:Int->Prop}{r:Int}(h:Idx n G r):(0<=r)↔¬All n (λj=>¬G j):=by
 rcases h with⟨rfl,h⟩ | ⟨h1,h2,h3,h4⟩
 .simp [h]
 .simp only [h1,true_iff];exact λh=>h r h1 h2 h3
def Srt(l:List Int):Prop:=All (l.length-1) (λi=>l.getD i.toNat default<=l.getD (i+1).toNat default)
structure Y5(pp:Int×Int×Unit->Bool)(ff:Int×Int×Unit->Bool×Unit):Prop where
 hp:∀a b,pp (a,b,())=true
 hf:∀a b,ff (a,b,())=(decide (a<b),())
def Pq(n:Int)(m:aj):Prop:=All m.atoms.length (λi=>¬n<=m.atoms.getD i.toNat default)
def bq(p:List aj)(n:Int):Prop:=All p.length (λi=>Pq n (p.getD i.toNat default))
def Sh(p:List aj):Prop:=p.length<1000000000/\∀m∈p,m.atoms.length<1000000000
def Sh.at{p:List aj}(h:Sh p)(n:Nat):(p.getD n default).atoms.length<1000000000:=by
 by_cases h1:n<p.length
 .rw [getD_lt h1];exact h.2 _ (List.getElem_mem _)
 .simp only [List.getD,List.getElem?_eq_none (by omega:p.length<=n)];decide
def mOk(m:aj):Prop:=(1<=m.bD/\m.bD<=65535)/\m.atoms.length<=4/\Srt m.atoms
def aN(p:List aj):Prop:=All p.length (λi=>mOk (p.getD i.toNat default)/\(0<i->eO (p.getD (i-1).toNat default).atoms (p.getD i.toNat default).atoms<0))/\p.length<=12/\bq p 200
 /\All p.length (λi=>¬(0< (p.getD i.toNat default).atoms.length/\(p.getD i.toNat default).atoms.getD 0 default<0))
structure Y6(pp:List aj×Int×Unit->Bool)(ff:List aj×Int×Unit->Bool×Unit):Prop where
 hp:∀a n,Sh a->pp (a,n,())=true
 hf:∀a n,Sh a->ff (a,n,())=(bp (bq a n),())
structure Y7(pp:List Int×List Int×Unit->Bool)(ff:List Int×List Int×Unit->Int×Unit):Prop where
 hp:∀a b,a.length<1000000000->pp (a,b,())=true
 hf:∀a b,a.length<1000000000->ff (a,b,())=(eO a b,())
def FK(a b:aj):Int:=or2 (eO a.atoms b.atoms) (iA a.bD b.bD)
def AO:List aj->List aj->Int
 | a::az,b::bs=>if FK a b≠0 then FK a b else AO az bs
 | _,_=>0
def fJ(a b:List aj):Int:=if iA a.length b.length≠0 then iA a.length b.length else AO a b
def UE(a b:List aj)(i:Nat):(h1:i<a.length)->(h2:i<b.length)->AO (a.drop i) (b.drop i)=if FK a[i] b[i]≠0 then FK a[i] b[i]else AO (a.drop (i+1)) (b.drop (i+1)):=by
 intro h1 h2;rw [List.drop_eq_getElem_cons h1,List.drop_eq_getElem_cons h2];rfl
structure Y8(pp:List aj×List aj×Unit->Bool)(ff:List aj×List aj×Unit->Int×Unit):Prop where
 hp:∀a b,Sh a->pp (a,b,())=true
 hf:∀a b,Sh a->ff (a,b,())=(fJ a b,())
theorem ahM(k:IntKind)(x y:Int):jV .and k x y=kJ .and k x y:=rfl
theorem Zf(k:IntKind)(x y:Int):jV .xor k x y=kJ .xor k x y:=rfl
def adn{a b:Int}(ha:0<=a)(ha':a<=65535)(hb:0<=b)(hb':b<=65535):(0<=kJ .and .i64 a b/\kJ .and .i64 a b<=65535)/\(0<=kJ .xor .i64 a b/\kJ .xor .i64 a b<=65535):=by
 have h2:((2^IntKind.i64.bits:Nat):Int)=18446744073709551616:=by decide
 have e1:kJ .and .i64 a b=((a.toNat&&&b.toNat:Nat):Int):=by
  unfold kJ;dsimp only;rw [BitVec.toNat_and,BitVec.toNat_ofInt,BitVec.toNat_ofInt,h2,show a%18446744073709551616=a by omega,show b%18446744073709551616=b by omega];have:=Nat.and_lt_two_pow (a.toNat) (show b.toNat<2^16 by omega);rw [w64 ah ah]
 have e2:kJ .xor .i64 a b=((a.toNat^^^b.toNat:Nat):Int):=by
  unfold kJ;dsimp only;rw [BitVec.toNat_xor,BitVec.toNat_ofInt,BitVec.toNat_ofInt,h2,show a%18446744073709551616=a by omega,show b%18446744073709551616=b by omega];have:=Nat.xor_lt_two_pow (show a.toNat<2^16 by omega) (show b.toNat<2^16 by omega);rw [w64 ah ah]
 rw [e1,e2];have:=Nat.and_lt_two_pow (a.toNat) (show b.toNat<2^16 by omega);have:=Nat.xor_lt_two_pow (show a.toNat<2^16 by omega) (show b.toNat<2^16 by omega);omega
def wdo(op a b:Int):Int:=if(0<=a/\a<=65535)/\(0<=b/\b<=65535)then
 (if op=1 then(a+b)%65536 else if op=2 then(a-b)%65536 else if op=3 then(a*b)%65536 else if op=4 then kJ .and .i64 a b else if op=5 then kJ .xor .i64 a b else 0)else 0
def Cy(op a b:Int):0<=wdo op a b/\wdo op a b<=65535:=by
 unfold wdo;split
 .rename_i h;have:=adn h.1.1 h.1.2 h.2.1 h.2.2
  repeat' split
  all_goals omega
 .omega
def dF{a b c:Int}:inB a b c=true↔(b<=a/\a<=c):=by simp [inB]
def qB{a b c:Int}:inB a b c=false↔¬(b<=a/\a<=c):=by rw [<-dF,Bool.not_eq_true]
structure Y9(pp:Int×Unit->Bool)(ff:Int×Unit->Bool×Unit):Prop where
 hp:∀a,pp (a,())=true
 hf:∀a,ff (a,())=(inB a 0 65535,())
structure Y10(pp:Int×Unit->Bool)(ff:Int×Unit->Int×Unit):Prop where
 hp:∀a,pp (a,())=true
 hf:∀a,ff (a,())=(a%65536,())
def aR(n:Int):List aj:=if 1<=n/\n<=65535 then [⟨n,[]⟩]else []
def dS(n:Int):List aj:=if 0<=n/\n<=199 then [⟨1,[n]⟩]else []
noncomputable def dG (p:List aj):Int×Bool:=if bp (aN p)then(if p.length=0 then(0,true)else if p.length=1/\(p.getD 0 default).atoms.length=0 then((p.getD 0 default).bD,true)else(0,false))else(0,false)
structure Y11(pp:List aj×Unit->Bool)(ff:List aj×Unit->Bool×Unit):Prop where
 hp:∀a,Sh a->pp (a,())=true
 hf:∀a,Sh a->ff (a,())=(bp (aN a),())
def ae6(a:List Int)(ha:a.length<=1073741824):YQ.F () (a,()) (λy=>y=(a,())):=by
 dsimp only [YQ,gm];simp (disch:=omega) only [RR];omega
def cZ{α:Type}{l:List α}{i:Int}{d x:α}(h0:0<=i)(h:i<l.length)(e:x=l.getD i.toNat d):l.take i.toNat++ [x]=l.take (i+1).toNat:=by
 rw [e,getD_lt ah,show(i+1).toNat=i.toNat+1 by omega,List.take_succ_eq_append_getElem ah]
structure Y12(pp:List Int×Unit->Bool)(ff:List Int×Unit->List Int×Unit):Prop where
 hp:∀a,a.length<=1073741824->pp (a,())=true
 hf:∀a,a.length<=1073741824->ff (a,())=(a,())
def ShA(a:Atom):Prop:=Sh a.x/\Sh a.y
def ShT(t:List Atom):Prop:=t.length<1000000000/\∀a∈t,ShA a
def ShT.at{p:List Atom}(h:ShT p)(n:Nat):ShA (p.getD n default):=by
 by_cases h1:n<p.length
 .rw [getD_lt h1];exact h.2 _ (List.getElem_mem _)
 .simp only [List.getD,List.getElem?_eq_none (by omega:p.length<=n)];refine⟨⟨by decide,λm hm=> ?_⟩,⟨by decide,λm hm=> ?_⟩⟩<;>exact absurd hm (by simp [default,instInhabitedAtom.default])
structure Y13(pp:List aj×Unit->Bool)(ff:List aj×Unit->List aj×Unit):Prop where
 hp:∀a,Sh a->pp (a,())=true
 hf:∀a,Sh a->ff (a,())=(a,())
def Gp(a b:Atom):Bool:=decide (a.kind=b.kind)&&decide (a.k=b.k)&&decide (fJ a.x b.x=0)&&decide (fJ a.y b.y=0)
structure Y14(pp:List aj×List aj×Unit->Bool)(ff:List aj×List aj×Unit->Bool×Unit):Prop where
 hp:∀a b,Sh a->pp (a,b,())=true
 hf:∀a b,Sh a->ff (a,b,())=(decide (fJ a b=0),())
structure Y15(pp:Atom×Atom×Unit->Bool)(ff:Atom×Atom×Unit->Bool×Unit):Prop where
 hp:∀a b,ShA a->pp (a,b,())=true
 hf:∀a b,ShA a->ff (a,b,())=(Gp a b,())
noncomputable def idxOf (n:Int) (G:Int->Prop):Int:= @dite _ (∃r,Idx n G r) (Classical.propDecidable _) (λh=>Classical.choose h) (λ_=> -1)
def Idx.uniq{n:Int}{G:Int->Prop}{r s:Int}(h:Idx n G r)(h':Idx n G s):r=s:=by
 rcases h with⟨h1,h2⟩ | ⟨h1,h2,h3,h4⟩<;>rcases h' with⟨g1,g2⟩ | ⟨g1,g2,g3,g4⟩
 .omega
 .exact absurd g3 (h2 s g1 g2)
 .exact absurd h3 (g2 r h1 h2)
 .by_cases h5:r<s
  .exact absurd h3 (g4 r h1 h5)
  .by_cases h6:s<r
   .exact absurd g3 (h4 s g1 h6)
   .omega
def Idx.eq{n:Int}{G:Int->Prop}{r:Int}(h:Idx n G r):r=idxOf n G:=by
 unfold idxOf;have he:∃r,Idx n G r:=⟨r,h⟩;rw [dif_pos he];exact h.uniq (Classical.choose_spec he)
noncomputable def qC (t:List Atom) (a:Atom):Int:=idxOf t.length (λi=>Gp a (t.getD i.toNat default)=true)
def fU(a:Atom)(n:Int):Prop:=if a.kind=4 then(1<=a.k/\a.k<=5)/\aN a.x/\aN a.y/\bq a.x n/\bq a.y n else
 (a.x=[]/\a.y=[])/\((a.kind=1/\0<=a.k/\a.k<=3)\/(a.kind=2\/a.kind=3)/\0<=a.k/\a.k<=199)
structure Y16(pp:Int×Unit->Bool)(ff:Int×Unit->Bool×Unit):Prop where
 hp:∀a,pp (a,())=true
 hf:∀a,ff (a,())=(inB a 1 5,())
structure Y17(pp:Int×Unit->Bool)(ff:Int×Unit->Bool×Unit):Prop where
 hp:∀a,pp (a,())=true
 hf:∀a,ff (a,())=(inB a 0 3,())
def aH(t:List Atom):Prop:=All t.length (λi=>fU (t.getD i.toNat default) i/\qC t (t.getD i.toNat default)=i)/\t.length<=200
structure Y18(pp:Atom×Int×Unit->Bool)(ff:Atom×Int×Unit->Bool×Unit):Prop where
 hp:∀a n,ShA a->pp (a,n,())=true
 hf:∀a n,ShA a->ff (a,n,())=(bp (fU a n),())
structure Y19(pp:List Atom×Atom×Unit->Bool)(ff:List Atom×Atom×Unit->Int×Unit):Prop where
 hp:∀a b,a.length<1000000000->ShA b->pp (a,b,())=true
 hf:∀a b,a.length<1000000000->ShA b->ff (a,b,())=(qC a b,())
noncomputable def bA (t:List Atom) (a:Atom):List Atom×Int:=if 0<=qC t a then(t,qC t a)else @ite _ (¬fU a t.length\/t.length=200) (Classical.propDecidable _) (t, -1) (t++ [a],(t.length:Int))
def uZ(a b:Int):iA b a= -iA a b:=by unfold iA;repeat' split<;>omega
def iL{a b:Int}:iA a b=0↔a=b:=by unfold iA;constructor<;>intro h<;>(repeat' split at*)<;>omega
def Gq:∀a b:List Int,lW b a= -lW a b
 | [],[]=>rfl | [],_::_=>rfl | _::_,[]=>rfl
 | a::az,b::bs=>by
  simp only [lW,uZ a b,Gq az bs];split<;>split<;>omega
def Gr:∀ {a b:List Int},lW a b=0->a=b
 | [],[],_=>rfl | [],_::_,h=>by simp [lW]at h
 | _::_,[],h=>by simp [lW]at h
 | a::az,b::bs,h=>by
  simp only [lW]at h;split at h
  .exact absurd h (by assumption)
  .rename_i h1;rw [iL.1 (Classical.not_not.1 h1),Gr h]
def Gs:∀a:List Int,lW a a=0
 | []=>rfl
 | a::az=>by simp only [lW,show iA a a=0 from iL.2 rfl];simp [Gs az]
def Es:∀ {a b c:List Int},lW a b<=0->lW b c<=0->lW a c<=0
 | [],_,[],_,_=>by simp [lW]
 | [],_,_::_,_,_=>by simp [lW]
 | _::_,[],_,h,_=>by simp [lW]at h
 | _::_,_::_,[],_,h=>by simp [lW]at h
 | a::az,b::bs,c::cs,h1,h2=>by
  have ih:= @Es az bs cs;simp only [lW]at h1 h2 ⊢;unfold iA at h1 h2 ⊢
  repeat' split at h1
  all_goals (repeat' split at h2)
  all_goals (repeat' split)
  all_goals omega
def lG(a b:List Int):eO b a= -eO a b:=by
 unfold eO or2;rw [uZ,Gq];repeat' split<;>omega
def iM{a b:List Int}:eO a b=0↔a=b:=by
 constructor
 .intro h;unfold eO or2 at h;split at h
  .exact absurd h (by assumption)
  .exact Gr h
 .rintro rfl;unfold eO or2;rw [show iA (a.length:Int) a.length=0 from iL.2 rfl,Gs];rfl
def Eu{a b c:List Int}(h1:eO a b<=0)(h2:eO b c<=0):eO a c<=0:=by
 have ih:= @Es a b c;unfold eO or2 iA at*
 repeat' split at h1
 all_goals (repeat' split at h2)
 all_goals (repeat' split)
 all_goals omega
def le(x y:aj):Prop:=eO x.atoms y.atoms<=0
def le.trans{x y z:aj}(h1:le x y)(h2:le y z):le x z:=Eu h1 h2
def le_of_lt{x y:aj}(h:eO x.atoms y.atoms<0):le x y:=by unfold le;omega
def le_refl(x:aj):le x x:=by unfold le;rw [iM.2 rfl];omega
def sG{x y z:aj}(h1:le x y)(h2:eO y.atoms z.atoms<0):eO x.atoms z.atoms<0:=by
 have h3:=Eu h1 (le_of_lt h2);by_cases h:eO x.atoms z.atoms=0
 .have e:=iM.1 h;unfold le at h1;rw [e,lG]at h1;omega
 .omega
structure Sm(d d':List aj):Prop where
 len:d'.length=d.length
 sum:∀g:aj->Int,(d'.map g).sum=(d.map g).sum
def Sm.refl(d:List aj):Sm d d:=⟨rfl,λ_=>rfl⟩
def Sm.trans{a b c:List aj}(h1:Sm a b)(h2:Sm b c):Sm a c:=⟨h2.1.trans h1.1,λg=>(h2.2 g).trans (h1.2 g)⟩
def Sm.symm{a b:List aj}(h1:Sm a b):Sm b a:=⟨h1.1.symm,λg=>(h1.2 g).symm⟩
def IV(x:aj):∀d:List aj,0<=(d.map (λy=>if y=x then(1:Int)else 0)).sum/\(0< (d.map (λy=>if y=x then(1:Int)else 0)).sum↔x∈d)
 | []=>by simp
 | a::d=>by
  have:=IV x d;simp only [List.map_cons,List.sum_cons,List.mem_cons];by_cases h:a=x
  .rw [if_pos h];refine⟨ah,⟨λ_=>Or.inl h.symm,λ_=>by omega⟩⟩
  .rw [if_neg h];refine⟨ah,⟨λh2=>Or.inr (this.2.1 ah),λh2=> ?_⟩⟩;rcases h2 with h2 | h2
   .exact absurd h2.symm h
   .have:=this.2.2 h2;omega
def Sm.mem{a b:List aj}(h:Sm a b){x:aj}(hx:x∈b):x∈a:=by
 rw [<-(IV x a).2,<-h.2];exact(IV x b).2.2 hx
def Sm.sh{a b:List aj}(h:Sm a b)(hs:Sh a):Sh b:=⟨by have:=hs.1;have:=h.1;omega,λm hm=>hs.2 m (h.mem hm)⟩
def ahN(d:List aj)(a b:Int):Prop:=∀p q,a<=p->p<=q->q<b->le ((d).getD (p).toNat default) ((d).getD (q).toNat default)
def Out(d d':List aj)(a b:Int):Prop:=∀k,0<=k->(k<a\/b<=k)->((d').getD (k).toNat default)=((d).getD (k).toNat default)
structure Y20(pp:aj×aj×Unit->Bool)(ff:aj×aj×Unit->Int×Unit):Prop where
 hp:∀x y,x.atoms.length<1000000000->pp (x,y,())=true
 hf:∀x y,x.atoms.length<1000000000->ff (x,y,())=(eO x.atoms y.atoms,())
structure Mrg(d d':List aj)(a b:Int):Prop where
 sm:Sm d d'
 out:Out d d' a b
 ins:∀k,a<=k->k<b->∃j,a<=j/\j<b/\((d').getD (k).toNat default)=((d).getD (j).toNat default)
 srt:ahN d' a b
structure arx(a m b:Int)(d:List aj):Prop where
 sh:Sh d
 h1:0<=a
 h2:a<m
 h3:m<b
 h4:b<=d.length
 s1:ahN d a m
 s2:ahN d m b
def cf(l:List aj)(k:List Int):Int:=(l.map λm=>if m.atoms=k then m.bD else 0).sum
theorem gG(k:List Int):cf [] k=0:=rfl
def aX(m:aj)(l:List aj)(k:List Int):cf (m::l) k=(if m.atoms=k then m.bD else 0)+cf l k:=by simp [cf]
def dh(a b:List aj)(k:List Int):cf (a++b) k=cf a k+cf b k:=by simp [cf]
def gQ{k:List Int}:∀ {l:List aj},(∀m∈l,m.atoms≠k)->cf l k=0
 | [],_=>rfl
 | m::l,h=>by rw [aX,if_neg (h m (by simp)),gQ (λm hm=>h m (by simp [hm]))];rfl
def Sm.cf{a b:List aj}(h:Sm a b)(k:List Int):cf b k=cf a k:=h.sum _
def lt(a b:aj):Prop:=eO a.atoms b.atoms<0
def lt.ne{a b:aj}(h:lt a b):a.atoms≠b.atoms:=λe=>by unfold lt at h;rw [e,iM.2 rfl]at h;omega
structure Nf(o:List aj):Prop where
 ss:o.Pairwise lt
 co:∀m∈o,1<=m.bD/\m.bD<=65535
def Sb:∀ {o1 o2:List aj},Nf o1->Nf o2->(∀k,cf o1 k=cf o2 k)->o1=o2
 | [],[],_,_,_=>rfl
 | [],m::o,_,h2,h=>by
  have:=h m.atoms;rw [aX,if_pos rfl,gQ (λm' hm'=>((List.rel_of_pairwise_cons h2.ss hm').ne).symm),gG]at this;have:=(h2.co m (by simp));omega
 | m::o,[],h1,_,h=>by
  have:=h m.atoms;rw [aX,if_pos rfl,gQ (λm' hm'=>((List.rel_of_pairwise_cons h1.ss hm').ne).symm),gG]at this;have:=(h1.co m (by simp));omega
 | m1::o1,m2::o2,h1,h2,h=>by
  have c1:=h1.co m1 (by simp);have c2:=h2.co m2 (by simp);have z1:cf o1 m1.atoms=0:=gQ λm' hm'=>((List.rel_of_pairwise_cons h1.ss hm').ne).symm
  have z2:cf o2 m2.atoms=0:=gQ λm' hm'=>((List.rel_of_pairwise_cons h2.ss hm').ne).symm
  have tr:∀ {a b c:aj},lt a b->lt b c->lt a c:=λg1 g2=>sG (le_of_lt g1) g2
  have e:m1.atoms=m2.atoms:=by
   by_cases g1:lt m1 m2
   .have:=h m1.atoms;rw [aX,if_pos rfl,z1,aX,if_neg (λe=>g1.ne e.symm),gQ (λm' hm'=>((tr g1 (List.rel_of_pairwise_cons h2.ss hm')).ne).symm)]at this;omega
   .by_cases g2:lt m2 m1
    .have:=h m2.atoms;rw [aX,if_neg (λe=>g2.ne e.symm),gQ (λm' hm'=>((tr g2 (List.rel_of_pairwise_cons h1.ss hm')).ne).symm),aX,if_pos rfl,z2]at this;omega
    .unfold lt at g1 g2;rw [lG]at g2;exact iM.1 ah
  have ec:m1.bD=m2.bD:=by
   have:=h m1.atoms;rw [aX,if_pos rfl,z1,aX,if_pos e.symm,e,z2]at this;omega
  have em:m1=m2:=by cases m1;cases m2;simp_all
  subst em;refine congrArg _ (Sb ⟨h1.ss.tail,λm hm=>h1.co m (by simp [hm])⟩ ⟨h2.ss.tail,λm hm=>h2.co m (by simp [hm])⟩ (λk=>by
   have:=h k;rw [aX,aX]at this;omega))
noncomputable def nf (l:List aj):List aj:= @dite _ (∃o,Nf o/\∀k,cf o k=cf l k%65536) (Classical.propDecidable _) (λh=>Classical.choose h) (λ_=> [])
def Gu{l o:List aj}(h:Nf o)(h2:∀k,cf o k=cf l k%65536):nf l=o:=by
 have he:∃o,Nf o/\∀k,cf o k=cf l k%65536:=⟨o,h,h2⟩;unfold nf;rw [dif_pos he];have:=Classical.choose_spec he;exact Sb this.1 h (λk=>(this.2 k).trans (h2 k).symm)
def KQ{l l':List aj}(h:∀k,cf l k%65536=cf l' k%65536):nf l=nf l':=by
 unfold nf;have:(λo=>Nf o/\∀k,cf o k=cf l k%65536)=(λo=>Nf o/\∀k,cf o k=cf l' k%65536):=by funext o;simp only [h]
 have e:(∃o,Nf o/\∀k,cf o k=cf l k%65536)=(∃o,Nf o/\∀k,cf o k=cf l' k%65536):=congrArg Exists this;by_cases h1:∃o,Nf o/\∀k,cf o k=cf l k%65536
 .rw [dif_pos h1,dif_pos (e▸h1)];congr 1
 .rw [dif_neg h1,dif_neg (e▸h1)]
noncomputable def jZ (l:List aj):Bool×List aj:=(bp (aN (nf l)),if bp (aN (nf l))then nf l else [])
def Cb(l:List aj):Prop:=∀m∈l,0<=m.bD/\m.bD<=65535
def mOk.le{m:aj}(h:mOk m):m.atoms.length<=4:=h.2.1
def aN.at{p:List aj}(h:aN p){m:aj}(hm:m∈p):mOk m:=by
 obtain⟨i,hi,rfl⟩:=List.getElem_of_mem hm;have:=(h.1 i ah ah).1;rw [show(i:Int).toNat=i from rfl,getD_lt hi]at this;exact this
def aN.len{p:List aj}(h:aN p):p.length<=12:=h.2.1
noncomputable def kN (a b:List aj):Bool×List aj:=if bp (aN a)&&bp (aN b)then jZ (a++b)else(false,[])
structure Y21(pp:List aj×Unit->Bool)(ff:List aj×Unit->Bool×List aj×List aj×Unit):Prop where
 hp:∀a,Sh a->Cb a->pp (a,())=true
 hf:∀a,Sh a->Cb a->(ff (a,())).1=(jZ a).1/\(ff (a,())).2.2.1=(jZ a).2
def dA(l:List Int):List Int:=l.mergeSort λx y=>decide (x<=y)
def u7(l:List Int):(dA l).length=l.length:=List.length_mergeSort l
def mulM(m n:aj):aj:=⟨m.bD*n.bD%65536,dA (m.atoms++n.atoms)⟩
def prods(a b:List aj):List aj:=a.flatMap λm=>b.map (mulM m)
def Pv(a b:List aj)(m:aj):prods (a++ [m]) b=prods a b++b.map (mulM m):=by simp [prods]
noncomputable def j6 (a b:List aj):Bool×List aj:=if bp (aN a)&&bp (aN b)then jZ (prods a b)else(false,[])
def IW{a b:Int}(h1:0<=a)(h2:a<=65535)(h3:0<=b)(h4:b<=65535):0<=a*b/\a*b<=65535*65535:=⟨Int.mul_nonneg h1 h3,Int.mul_le_mul h2 h4 h3 ah⟩
noncomputable def gT (a:List aj) (n:Int):List aj:=if bp (aN a)&&inB n 0 65535 then(j6 a (aR n)).2 else []
structure Y22(pp:Int×Unit->Bool)(ff:Int×Unit->List aj×Unit):Prop where
 hp:∀n,pp (n,())=true
 hf:∀n,ff (n,())=(aR n,())
structure Y23(pp:List aj×List aj×Unit->Bool)(ff:List aj×List aj×Unit->Bool×List aj×Unit):Prop where
 hp:∀a b,Sh a->Sh b->pp (a,b,())=true
 hf:∀a b,Sh a->Sh b->ff (a,b,())=((j6 a b).1,(j6 a b).2,())
noncomputable def vH (op:Int) (x y:List aj):List aj×Bool:=
 if(dG x).2&& (dG y).2 then(aR (wdo op (dG x).1 (dG y).1),true)
 else if fJ x y=0/\op=4 then(x,true)
 else if fJ x y=0 then([],true)
 else if(dG x).2 then
  (if op=4/\(dG x).1=0 then([],true)else if(op=4/\(dG x).1=65535)\/(op=5/\(dG x).1=0)then(y,true)else([],false))
 else if(dG y).2 then
  (if op=4/\(dG y).1=0 then([],true)else if(op=4/\(dG y).1=65535)\/(op=5/\(dG y).1=0)then(x,true)else([],false))
 else([],false)
noncomputable def fA (op:Int) (x y:List aj):List aj×Bool:=
 if op=1 then((kN x y).2,(kN x y).1)else if op=2 then((kN x (gT y 65535)).2,(kN x (gT y 65535)).1)else if op=3 then((j6 x y).2,(j6 x y).1)else vH op x y
def aN.sh{l:List aj}:aN l->Sh l:=λh=>⟨by have:=h.len;omega,λm hm=>by have:=(h.at hm).le;omega⟩
def ado(l:List aj):Sh (jZ l).2:=by
 unfold jZ;by_cases h:aN (nf l)
 .rw [aP h];exact h.sh
 .rw [bL h];exact⟨by simp,λm hm=>absurd hm (by simp)⟩
def pW:Sh []:=⟨by simp,λm hm=>absurd hm (by simp)⟩
def adp(a b:List aj):Sh (j6 a b).2:=by unfold j6;split;exact ado _;exact pW
def Gw(a:List aj)(n:Int):Sh (gT a n):=by unfold gT;split;exact adp _ _;exact pW
structure Y24(pp:Int×Int×Int×Unit->Bool)(ff:Int×Int×Int×Unit->Int×Unit):Prop where
 hp:∀op a b,pp (op,a,b,())=true
 hf:∀op a b,ff (op,a,b,())=(wdo op a b,())
structure Y25(pp:List aj×List aj×Unit->Bool)(ff:List aj×List aj×Unit->Bool×List aj×Unit):Prop where
 hp:∀a b,Sh a->Sh b->pp (a,b,())=true
 hf:∀a b,Sh a->Sh b->ff (a,b,())=((kN a b).1,(kN a b).2,())
structure Y26(pp:List aj×Int×Unit->Bool)(ff:List aj×Int×Unit->List aj×Unit):Prop where
 hp:∀a n,Sh a->pp (a,n,())=true
 hf:∀a n,Sh a->ff (a,n,())=(gT a n,())
structure Y27(pp:List aj×Unit->Bool)(ff:List aj×Unit->Int×Bool×Unit):Prop where
 hp:∀a,Sh a->pp (a,())=true
 hf:∀a,Sh a->ff (a,())=((dG a).1,(dG a).2,())
noncomputable def tDo (t:List Atom) (op:Int) (x y:List aj):List Atom×List aj:=
 if(fA op x y).2 then(t,(fA op x y).1)else
 if op≠2/\0<fJ x y then(if(bA t ⟨4,op,y,x⟩).2<0 then([],[])else((bA t ⟨4,op,y,x⟩).1,dS (bA t ⟨4,op,y,x⟩).2))
 else(if(bA t ⟨4,op,x,y⟩).2<0 then([],[])else((bA t ⟨4,op,x,y⟩).1,dS (bA t ⟨4,op,x,y⟩).2))
noncomputable def tOk (t:List Atom) (op:Int) (x y:List aj):Bool:=(fA op x y).2 || !decide ((if op≠2/\0<fJ x y then(bA t ⟨4,op,y,x⟩).2 else(bA t ⟨4,op,x,y⟩).2)<0)
structure Y28(pp:Int×Unit->Bool)(ff:Int×Unit->List aj×Unit):Prop where
 hp:∀n,pp (n,())=true
 hf:∀n,ff (n,())=(dS n,())
noncomputable def ae7 (t:List Atom) (op:Int) (x y:List aj):List Atom×List aj:=
 @ite _ (aH t/\(1<=op/\op<=5)/\aN x/\aN y/\bq x t.length/\bq y t.length) (Classical.propDecidable _) (tDo t op x y) ([],[])
def adq:ShT []:=⟨by simp,λm hm=>absurd hm (by simp)⟩
structure Y29(pp:List Atom×Unit->Bool)(ff:List Atom×Unit->Bool×Unit):Prop where
 hp:∀a,ShT a->pp (a,())=true
 hf:∀a,ShT a->ff (a,())=(bp (aH a),())
structure Y30(pp:List Atom×Int×List aj×List aj×Unit->Bool)(ff:List Atom×Int×List aj×List aj×Unit->List Atom×List aj×Bool×Unit):Prop where
 hp:∀(t:List Atom) op x y,t.length<1000000000->Sh x->Sh y->pp (t,op,x,y,())=true
 hf:∀(t:List Atom) op x y,t.length<1000000000->Sh x->Sh y->(ff (t,op,x,y,())).1=(tDo t op x y).1/\(ff (t,op,x,y,())).2.1=(tDo t op x y).2/\(ff (t,op,x,y,())).2.2.1=tOk t op x y
structure Y31(pp:List Atom×Unit->Bool)(ff:List Atom×Unit->List Atom×Unit):Prop where
 hp:∀a,ShT a->pp (a,())=true
 hf:∀a,ShT a->ff (a,())=(a,())
def al7{p1 f1}(U1:Y9 p1 f1):YM.F (p1,f1,()) () (λz=>z=(true,())):=by
 dsimp only [YM,gm];simp (disch:=omega) only [RR,U1.hp,U1.hf];rfl
def lu{α:Type}{d:α}{a b:List α}(h:a.length=b.length)(h2:All a.length (λi=>a.getD i.toNat d=b.getD i.toNat d)):a=b:=by
 refine List.ext_getElem h λi h3 h4=> ?_
 have:=h2 i ah ah;dsimp only at this;rw [show(i:Int).toNat=i from rfl,getD_lt h3,getD_lt h4]at this;exact this
def ae8(a b:List Int)(ha:a.length<1000000000):YT.F () (a,b,()) (λz=>z=(bp (a=b),())):=by
 dsimp only [YT,gm];simp (disch:=omega) only [RR];refine⟨λh=> ?_,λh=> ?_⟩
 .rw [bL (λe=>h (by rw [e]))]
 have hl:a.length=b.length:=by omega
 refine aB (λ(y:List Int×List Int×Int×Unit)=>y.1=a/\y.2.1=b/\0<=y.2.2.1/\y.2.2.1<=a.length/\All y.2.2.1 (λi=>a.getD i.toNat default=b.getD i.toNat default)) (λy=>(a.length-y.2.2.1).toNat) ⟨rfl,rfl,by simp,by simp,All.zero⟩ ?_;rintro⟨(l1:List Int),(l2:List Int),(i:Int),⟨⟩⟩ hI;dsimp only at hI ⊢;obtain⟨rfl,rfl,h1,h2,h3⟩:=hI;simp (disch:=omega) only [RR];refine⟨λh4=>⟨ah,ah,ah,ah,λh5=> ?_,λh5=>⟨⟨ah,ah,h3.snoc h5⟩,ah⟩⟩,λh4=> ?_⟩
 .rw [bL (λe=>h5 (by rw [e]))]
 .rw [aP (lu hl (h3.le ah))]
structure Y32(pp:List Int×List Int×Unit->Bool)(ff:List Int×List Int×Unit->Bool×Unit):Prop where
 hp:∀a b,a.length<1000000000->pp (a,b,())=true
 hf:∀a b,a.length<1000000000->ff (a,b,())=(bp (a=b),())
structure Y33(pp:List aj×List aj×Unit->Bool)(ff:List aj×List aj×Unit->Bool×Unit):Prop where
 hp:∀a b,Sh a->pp (a,b,())=true
 hf:∀a b,Sh a->ff (a,b,())=(bp (a=b),())
def Zg{a b:Int}:or2 a b=0↔a=0/\b=0:=by unfold or2;split<;>omega
def Gx{a b:aj}:FK a b=0↔a=b:=by
 unfold FK;rw [Zg,iM,iL];constructor
 .rintro⟨h1,h2⟩;cases a;cases b;simp_all
 .rintro rfl;exact⟨rfl,rfl⟩
def UF(a b:aj):FK b a= -FK a b:=by
 unfold FK or2;rw [lG,uZ];repeat' split<;>omega
def Gy:∀a b:List aj,AO b a= -AO a b
 | [],[]=>rfl | [],_::_=>rfl | _::_,[]=>rfl
 | a::az,b::bs=>by
  simp only [AO,UF a b,Gy az bs];split<;>split<;>omega
def Gz:∀ {a b:List aj},a.length=b.length->AO a b=0->a=b
 | [],[],_,_=>rfl | [],_::_,h,_=>by simp at h
 | _::_,[],h,_=>by simp at h
 | a::az,b::bs,hl,h=>by
  simp only [AO]at h;split at h
  .exact absurd h (by assumption)
  .rename_i h1;rw [Gx.1 (Classical.not_not.1 h1),Gz (by simpa using hl) h]
def GA:∀a:List aj,AO a a=0
 | []=>rfl
 | a::az=>by simp only [AO,Gx.2 rfl];simp [GA az]
def AP(a b:List aj):fJ b a= -fJ a b:=by
 unfold fJ;rw [uZ,Gy];repeat' split<;>omega
def ig{a b:List aj}:fJ a b=0↔a=b:=by
 unfold fJ;constructor
 .intro h;split at h
  .exact absurd h (by assumption)
  .rename_i h1;have:=iL.1 (Classical.not_not.1 h1);exact Gz ah h
 .rintro rfl;rw [if_neg (by rw [iL.2 rfl];simp),GA]
def lH{a b:Atom}:Gp a b=true↔a=b:=by
 unfold Gp;rw [Bool.and_eq_true,Bool.and_eq_true,Bool.and_eq_true,decide_eq_true_eq,decide_eq_true_eq,decide_eq_true_eq,decide_eq_true_eq,ig,ig];constructor
 .rintro⟨⟨⟨h1,h2⟩,h3⟩,h4⟩;cases a;cases b;simp_all
 .rintro rfl;exact⟨⟨⟨rfl,rfl⟩,rfl⟩,rfl⟩
def nC{α:Type}{d:α}{l:List α}{G:α->Prop}:All l.length (λi=>G (l.getD i.toNat d))↔∀m∈l,G m:=by
 constructor
 .intro h m hm;obtain⟨i,hi,rfl⟩:=List.getElem_of_mem hm;have:=h i ah ah;dsimp only at this;rw [show(i:Int).toNat=i from rfl,getD_lt hi]at this;exact this
 .intro h i h1 h2;exact h _ (dD h1 h2)
def bP{p:List aj}{n:Int}:bq p n↔∀m∈p,∀k∈m.atoms,k<n:=by
 unfold bq Pq;rw [nC (d:=default) (G:=λm:aj=>All m.atoms.length (λi=>¬n<=m.atoms.getD i.toNat default))];refine forall_congr' λm=>forall_congr' λ_=> ?_
 rw [nC (d:=default) (G:=λk:Int=>¬n<=k)];exact forall_congr' λk=>forall_congr' λ_=>by omega
def dH{α:Type}{d:α}{R:α->α->Prop}(tr:∀ {a b c},R a b->R b c->R a c){l:List α}:l.Pairwise R↔∀i:Int,0<i->i<l.length->R (l.getD (i-1).toNat d) (l.getD i.toNat d):=by
 rw [List.pairwise_iff_getElem];constructor
 .intro h i h1 h2;rw [getD_lt ah,getD_lt ah];exact h _ _ ah ah ah
 .intro h i j hi hj hij;obtain⟨n,rfl⟩:∃n,j=i+1+n:=⟨j-i-1,ah⟩
  clear hij
  induction n with
  | zero=>
   have:=h (i+1:Nat) ah ah;rw [show(((i+1:Nat):Int)-1).toNat=i by omega,show(((i+1:Nat):Int)).toNat=i+1 by omega,getD_lt hi,getD_lt ah]at this;exact this
  | succ n ih=>
   have h1:=ih ah;have:=h (i+1+n+1:Nat) ah ah;rw [show(((i+1+n+1:Nat):Int)-1).toNat=i+1+n by omega,show(((i+1+n+1:Nat):Int)).toNat=i+1+n+1 by omega,getD_lt ah,getD_lt ah]at this;exact tr h1 this
def IX{l:List Int}:Srt l↔l.Pairwise (· <= ·):=by
 rw [dH (d:=default) (R:=λa b:Int=>a<=b) (λh1 h2=>Int.le_trans h1 h2)];unfold Srt;constructor
 .intro h i h1 h2;have:=h (i-1) ah ah;dsimp only at this;rw [show i-1+1=i by omega]at this;exact this
 .intro h i h1 h2;have:=h (i+1) ah ah;rw [show i+1-1=i by omega]at this;exact this
def dN{a b c:aj}(h1:lt a b)(h2:lt b c):lt a c:=sG (le_of_lt h1) h2
def aok(l:List Int):Prop:=l.Pairwise (· <= ·)/\∀k∈l,0<=k/\k<=199
def dO{p:List aj}:aN p↔Nf p/\p.length<=12/\∀m∈p,m.atoms.length<=4/\aok m.atoms:=by
 constructor
 .rintro⟨h1,h2,h3,h4⟩;have h1':∀m∈p,mOk m:=nC (d:=default) (G:=mOk).1 (λi g1 g2=>(h1 i g1 g2).1);have h4':∀m∈p,¬(0<m.atoms.length/\m.atoms.getD 0 default<0):=nC (d:=default) (G:=λm:aj=>¬(0<m.atoms.length/\m.atoms.getD 0 default<0)).1 h4;refine⟨⟨(dH (d:=default) (R:=lt) dN).2 λi g1 g2=>(h1 i ah g2).2 g1,λm hm=>(h1' m hm).1⟩,h2,λm hm=>⟨(h1' m hm).2.1,IX.1 (h1' m hm).2.2,λk hk=>⟨?_,by have:=bP.1 h3 m hm k hk;omega⟩⟩⟩;have hs:=IX.1 (h1' m hm).2.2;have hn:=h4' m hm;cases ha:m.atoms with
  | nil=>rw [ha]at hk;exact absurd hk (by simp)
  | cons b l=>
   rw [ha]at hk hs hn;simp at hn;rcases List.mem_cons.1 hk with rfl | hk
   .exact hn
   .have:=List.rel_of_pairwise_cons hs hk;omega
 .rintro⟨h1,h2,h3⟩;refine⟨λi g1 g2=>⟨⟨h1.co _ (dD g1 g2),(h3 _ (dD g1 g2)).1,IX.2 (h3 _ (dD g1 g2)).2.1⟩,λg3=>(dH (d:=default) (R:=lt) dN).1 h1.ss i g3 g2⟩,h2,bP.2 λm hm k hk=>by have:=((h3 m hm).2.2 k hk);omega,?_⟩;refine nC (d:=default) (G:=λm:aj=>¬(0<m.atoms.length/\m.atoms.getD 0 default<0)).2 λm hm=> ?_
  rintro⟨g1,g2⟩;have:=(h3 m hm).2.2 _ (dD (i:=0) (d:=default) (xs:=m.atoms) ah ah);rw [show Int.toNat 0=0 from rfl]at this;omega
def Zh{l:List aj}{k:List Int}(h:cf l k≠0):∃m∈l,m.atoms=k:=Classical.byContradiction λh2=>h (gQ λm hm e=>h2 ⟨m,hm,e⟩)
def Nf.cf{o:List aj}(h:Nf o){m:aj}(hm:m∈o):cf o m.atoms=m.bD:=by
 induction o with
 | nil=>exact absurd hm (by simp)
 | cons a o ih=>
  rw [aX];rcases List.mem_cons.1 hm with rfl | hm
  .rw [if_pos rfl,gQ (λm' hm'=>((List.rel_of_pairwise_cons h.ss hm').ne).symm)];omega
  .rw [if_neg (List.rel_of_pairwise_cons h.ss hm).ne,ih ⟨h.ss.tail,λm hm=>h.co m (by simp [hm])⟩ hm];omega
def Nf.from{o l:List aj}(h:Nf o)(h2:∀k,F.cf o k=F.cf l k%65536){m:aj}(hm:m∈o):∃m'∈l,m'.atoms=m.atoms:=by
 refine Zh λe=> ?_
 have:=h2 m.atoms;rw [h.cf hm,e]at this;have:=h.co m hm;omega
def Nf.bnd{o:List aj}(h:Nf o)(k:List Int):0<=F.cf o k/\F.cf o k<=65535:=by
 by_cases e:F.cf o k=0
 .omega
 .obtain⟨m,hm,rfl⟩:=Zh e;rw [h.cf hm];have:=h.co m hm;omega
def vg{o:List aj}(h:Nf o):nf o=o:=Gu h λk=>by have:=h.bnd k;omega
def ads{l o:List aj}(h:Nf o)(h2:∀k,F.cf o k=F.cf l k%65536)(h3:∀m∈l,aok m.atoms):
  jZ l=(decide (o.length<=12/\∀m∈o,m.atoms.length<=4),if o.length<=12/\∀m∈o,m.atoms.length<=4 then o else []):=by
 unfold jZ;rw [Gu h h2];by_cases c:o.length<=12/\∀m∈o,m.atoms.length<=4
 .have:aN o:=dO.2 ⟨h,c.1,λm hm=>⟨c.2 m hm,by obtain⟨m',g1,g2⟩:=h.from h2 hm;rw [<-g2];exact h3 m' g1⟩⟩;rw [aP this,decide_eq_true c,if_pos rfl,if_pos c]
 .have:¬aN o:=λg=>c ⟨(dO.1 g).2.1,λm hm=>((dO.1 g).2.2 m hm).1⟩
  rw [bL this,decide_eq_false c,if_neg (by simp),if_neg c]
def Zi(a b c:Int):Nr.F () (a,b,c,()) (λy=>y=(inB a b c,())):=by
 dsimp only [Nr,gm];simp (disch:=omega) only [RR];rfl
def ae9(a:Int):Xv.F () (a,()) (λy=>y=(inB a 0 65535,())):=by
 dsimp only [Xv,gm];simp (disch:=omega) only [RR];refine congrArg (λb=>(b,())) ?_;rw [Bool.eq_iff_iff,dF,Bool.and_eq_true,decide_eq_true_eq,decide_eq_true_eq];omega
def al8{p1 f1}(U1:Y1 p1 f1)(a:Int):
  XR.F (p1,f1,()) (a,()) (λy=>y=(aR a,())):=by
 dsimp only [XR,gm];simp (disch:=omega) only [RR,U1.hp,U1.hf,dF,qB];unfold aR;exact⟨λh=>by rw [if_neg ah],λh=>by rw [if_pos ah]⟩
def al9{p1 f1}(U1:Y1 p1 f1)(a:Int):
  XK.F (p1,f1,()) (a,()) (λy=>y=(dS a,())):=by
 dsimp only [XK,gm];simp (disch:=omega) only [RR,U1.hp,U1.hf,dF,qB];unfold dS;exact⟨λh=>by rw [if_neg ah],λh=>by rw [if_pos ah]⟩
def Zj(a:Int):a.tmod 65536=if 0<=a then a%65536 else- (-a%65536):=by
 split
 .rw [Int.tmod_eq_emod_of_nonneg ah]
 .have:=Int.neg_tmod (-a) 65536;rw [Int.neg_neg]at this;rw [this,Int.tmod_eq_emod_of_nonneg ah]
def afa(a:Int):XU.F () (a,()) (λy=>y=(a%65536,())):=by
 dsimp only [XU,gm];simp only [Zc];by_cases h:0<=a
 .rw [show a.tmod 65536=a%65536 by rw [Zj,if_pos h]];simp (disch:=omega) only [RR];refine⟨ah,λh2=> ?_⟩;exfalso;omega
 .rw [show a.tmod 65536= - (-a%65536) by rw [Zj,if_neg h]];simp (disch:=omega) only [RR];refine⟨ah,λh2=> ?_,λh2=> ?_⟩
  .rw [show-(-a%65536)+65536=a%65536 by omega]
  .rw [show-(-a%65536)=a%65536 by omega]
def Zk(a b:List Int)(ha:a.length<1000000000):N8.F () (a,b,()) (λy=>y=(eO a b,())):=by
 dsimp only [N8,gm];simp (disch:=omega) only [RR];refine⟨λh=>⟨λh1=> ?_,λh1=> ?_⟩,λh=> ?_⟩
 .rw [show eO a b= -1 by(have e:iA a.length b.length= -1:=by unfold iA;rw [if_pos h1]);unfold eO or2;rw [e];rfl]
 .rw [show eO a b=1 by(have e:iA a.length b.length=1:=by unfold iA;rw [if_neg h1,if_pos ah]);unfold eO or2;rw [e];rfl]
 have hl:a.length=b.length:=by omega
 have e0:eO a b=lW a b:=by unfold eO or2;rw [iL.2 ah,if_neg (by simp)]
 refine aB (λ(y:List Int×List Int×Int×Unit)=>y.1=a/\y.2.1=b/\0<=y.2.2.1/\y.2.2.1<=a.length/\eO a b=lW (a.drop y.2.2.1.toNat) (b.drop y.2.2.1.toNat)) (λy=>(a.length-y.2.2.1).toNat) ⟨rfl,rfl,by simp,by simp,by simpa using e0⟩ ?_;rintro⟨(l1:List Int),(l2:List Int),(i:Int),⟨⟩⟩ hI;dsimp only at hI ⊢;obtain⟨rfl,rfl,h1,h2,h3⟩:=hI;simp (disch:=omega) only [RR];refine⟨λh4=> ?_,λh4=> ?_⟩
 .have e:=UD l1 l2 i.toNat ah ah;rw [getD_lt ah,getD_lt ah];refine⟨ah,ah,ah,ah,λh5=> ?_,λh5=>⟨ah,ah,ah,ah,λh6=> ?_,λh6=>⟨⟨ah,ah,?_⟩,ah⟩⟩⟩
  .rw [h3,e,show iA l1[i.toNat] l2[i.toNat]= -1 by unfold iA;rw [if_pos h5]];rfl
  .rw [h3,e,show iA l1[i.toNat] l2[i.toNat]=1 by unfold iA;rw [if_neg h5,if_pos h6]];rfl
  .rw [h3,e,show iA l1[i.toNat] l2[i.toNat]=0 by unfold iA;rw [if_neg h5,if_neg h6],show(i+1).toNat=i.toNat+1 by omega];rfl
 .rw [h3,List.drop_eq_nil_of_le ah,List.drop_eq_nil_of_le ah];rfl
def ahO{p1 f1}(U1:Y1 p1 f1)(m:aj)(hm:m.atoms.length<1000000000):
  N9.F (p1,f1,()) (m,()) (λy=>y=(bp ((1<=m.bD/\m.bD<=65535)/\m.atoms.length<=4/\aok m.atoms),())):=by
 dsimp only [N9,gm];simp (disch:=omega) only [RR,U1.hp,U1.hf,dF,qB];refine⟨λh=> ?_,λ⟨h1,h2⟩=> ?_⟩
 .rw [bL];rintro⟨g1,g2,g3⟩;omega
 refine aB (λ(y:Int×aj×Unit)=>y.2.1=m/\0<=y.1/\y.1<=m.atoms.length/\All y.1 (λi=>(0<=m.atoms.getD i.toNat default/\m.atoms.getD i.toNat default<=199)/\(0<i->m.atoms.getD (i-1).toNat default<=m.atoms.getD i.toNat default))) (λy=>(m.atoms.length-y.1).toNat) ⟨rfl,by simp,by simp,All.zero⟩ ?_;rintro⟨(i:Int),(m':aj),⟨⟩⟩ hI;dsimp only at hI ⊢;obtain⟨rfl,h3,h4,h5⟩:=hI;simp (disch:=omega) only [RR,U1.hp,U1.hf,dF,qB];refine⟨λh6=>⟨ah,ah,by by_cases c:0<i;(· right;omega);(· left;simp [c]),by by_cases c:0<i;(· right;omega);(· left;simp [c]),ah,ah,λh7=> ?_,λh7=>⟨⟨ah,ah,h5.snoc ⟨h7.1,λc=> ?_⟩⟩,ah⟩⟩,λh6=> ?_⟩
 .rw [bL];rintro⟨g1,g2,g3,g4⟩;rcases h7 with h7 | ⟨h7,h8⟩
  .exact h7 (g4 _ (dD h3 h6))
  .have:=(dH (d:=default) (R:=λa b:Int=>a<=b) (λh1 h2=>Int.le_trans h1 h2)).1 g3 i h7 h6;omega
 .have:=h7.2;rw [decide_eq_true c,Bool.true_and,decide_eq_false_iff_not]at this;omega
 .have h8:=h5.le (by omega:(m'.atoms.length:Int)<=i);rw [aP];refine⟨ah,ah,(dH (d:=default) (R:=λa b:Int=>a<=b) (λh1 h2=>Int.le_trans h1 h2)).2 λj j1 j2=>(h8 j ah j2).2 j1,nC (d:=default) (G:=λk:Int=>0<=k/\k<=199).1 λj j1 j2=>(h8 j j1 j2).1⟩
def ama{p4 f4}{p1:aj×Unit->Bool}{f1:aj×Unit->Bool×Unit}(hp1:∀m:aj,m.atoms.length<1000000000->p1 (m,())=true)(hf1:∀m:aj,m.atoms.length<1000000000->f1 (m,())=(bp ((1<=m.bD/\m.bD<=65535)/\m.atoms.length<=4/\aok m.atoms),()))(U4:Y7 p4 f4)(a:List aj)(ha:Sh a):XM.F (p1,f1,p4,f4,()) (a,()) (λy=>y=(bp (aN a),())):=by
 have hlen:=ha.1;dsimp only [XM,gm];simp (disch:=omega) only [RR];refine⟨λh=> ?_,λh=> ?_⟩
 .rw [bL (λh2=>by have:=h2.len;omega)]
 refine aB (λ(y:Int×List aj×Unit)=>y.2.1=a/\0<=y.1/\y.1<=a.length/\All y.1 (λi=>((1<=((a).getD (i).toNat default).bD/\((a).getD (i).toNat default).bD<=65535)/\((a).getD (i).toNat default).atoms.length<=4/\aok ((a).getD (i).toNat default).atoms)/\(0<i->lt ((a).getD (i-1).toNat default) ((a).getD (i).toNat default)))) (λy=>(a.length-y.1).toNat) ⟨rfl,by simp,by simp,All.zero⟩ ?_;rintro⟨(i:Int),(l':List aj),⟨⟩⟩ hI;dsimp only at hI ⊢;obtain⟨rfl,h1,h2,h3⟩:=hI;simp (disch:=omega) only [RR,hp1 _ (ha.at _),hf1 _ (ha.at _),U4.hp _ _ (ha.at _),U4.hf _ _ (ha.at _),aU,kU];refine⟨λh4=>⟨ah,ah,by by_cases c:0<i;(· right;omega);(· left;simp [c]),by by_cases c:0<i;(· right;omega);(· left;simp [c]),ah,ah,λh5=> ?_,λh5=>⟨⟨ah,ah,h3.snoc ⟨h5.1,λc=> ?_⟩⟩,ah⟩⟩,λh4=> ?_⟩
 .rw [bL (λh=> ?_)];obtain⟨g1,g2,g3⟩:=dO.1 h;rcases h5 with h5 | ⟨h5,h6⟩
  .exact h5 ⟨g1.co _ (dD h1 h4),g3 _ (dD h1 h4)⟩
  .have:=(dH (d:=default) (R:=lt) dN).1 g1.ss i h5 h4;unfold lt at this;omega
 .have:=h5.2;rw [decide_eq_true c,Bool.true_and,decide_eq_false_iff_not]at this;unfold lt;omega
 .have h8:=h3.le (by omega:(l'.length:Int)<=i);rw [aP];have h9:=nC (d:=default) (G:=λm:aj=>(1<=m.bD/\m.bD<=65535)/\m.atoms.length<=4/\aok m.atoms).1 λj j1 j2=>(h8 j j1 j2).1
  exact dO.2 ⟨⟨(dH (d:=default) (R:=lt) dN).2 λj j1 j2=>(h8 j ah j2).2 j1,λm hm=>(h9 m hm).1⟩,ah,λm hm=>(h9 m hm).2⟩
def afb(a:List aj)(n:Int)(ha:Sh a):XO.F () (a,n,()) (λy=>y=(bp (bq a n),())):=by
 have hlen:=ha.1;dsimp only [XO,gm];simp (disch:=omega) only [RR];refine aB (λ(y:Int×Int×List aj×Unit)=>y.1=n/\y.2.2.1=a/\0<=y.2.1/\y.2.1<=a.length/\All y.2.1 (λi=>Pq n ((a).getD (i).toNat default))) (λy=>(a.length-y.2.1).toNat) ⟨rfl,rfl,by simp,by simp,All.zero⟩ ?_;rintro⟨(n':Int),(i:Int),(l:List aj),⟨⟩⟩ hI;dsimp only at hI ⊢;obtain⟨rfl,rfl,h1,h2,h3⟩:=hI;simp (disch:=omega) only [RR];refine⟨λh4=> ?_,λh4=> ?_⟩
 .have h5:=ha.at i.toNat;refine aB (λ(y:Int×Int×Int×List aj×Unit)=>y.1=n'/\y.2.1=i/\y.2.2.2.1=l/\0<=y.2.2.1/\y.2.2.1<=((l).getD (i).toNat default).atoms.length/\All y.2.2.1 (λj=>¬n'<=((l).getD (i).toNat default).atoms.getD j.toNat default)) (λy=>(((l).getD (i).toNat default).atoms.length-y.2.2.1).toNat) ⟨rfl,rfl,rfl,by simp,by simp,All.zero⟩ ?_;rintro⟨(n'':Int),(i':Int),(j:Int),(l':List aj),⟨⟩⟩ hI;dsimp only at hI ⊢;obtain⟨rfl,rfl,rfl,g1,g2,g3⟩:=hI;simp (disch:=omega) only [RR];refine⟨ah,ah,λg4=>⟨ah,ah,ah,ah,λg5=> ?_,λg5=>⟨⟨ah,ah,g3.snoc g5⟩,ah⟩⟩,λg4=>⟨⟨ah,ah,h3.snoc (g3.le ah)⟩,ah⟩⟩;rw [bL (λh=>h i' h1 h4 j g1 g4 g5)]
 .rw [aP (show bq l n' from h3.le ah)]
theorem amb{p4 f4}(U4:Y7 p4 f4)(a b:List aj)(ha:Sh a):XP.F (p4,f4,()) (a,b,()) (λy=>y=(fJ a b,())):=by
 have hlen:=ha.1;dsimp only [XP,gm];simp (disch:=omega) only [RR];refine⟨λh=>⟨λh1=> ?_,λh1=> ?_⟩,λh=> ?_⟩
 .rw [show fJ a b= -1 by(have e:iA a.length b.length= -1:=by unfold iA;rw [if_pos h1]);unfold fJ;rw [e];rfl]
 .rw [show fJ a b=1 by(have e:iA a.length b.length=1:=by unfold iA;rw [if_neg h1,if_pos ah]);unfold fJ;rw [e];rfl]
 have hl:a.length=b.length:=by omega
 have e0:fJ a b=AO a b:=by unfold fJ;rw [iL.2 ah,if_neg (by simp)]
 refine aB (λ(y:Int×List aj×List aj×Unit)=>y.2.1=a/\y.2.2.1=b/\0<=y.1/\y.1<=a.length/\fJ a b=AO (a.drop y.1.toNat) (b.drop y.1.toNat)) (λy=>(a.length-y.1).toNat) ⟨rfl,rfl,by simp,by simp,by simpa using e0⟩ ?_;rintro⟨(i:Int),(l:List aj),(l':List aj),⟨⟩⟩ hI;dsimp only at hI ⊢;obtain⟨rfl,rfl,h1,h2,h3⟩:=hI;simp (disch:=omega) only [RR,U4.hp _ _ (ha.at _),U4.hf _ _ (ha.at _)];refine⟨λh4=> ?_,λh4=> ?_⟩
 .have e:=UE l l' i.toNat ah ah;rw [getD_lt ah,getD_lt ah];generalize hu:l[i.toNat]=u at e ⊢;generalize hv:l'[i.toNat]=v at e ⊢;have em:FK u v=if eO u.atoms v.atoms≠0 then eO u.atoms v.atoms else iA u.bD v.bD:=rfl
  refine⟨ah,ah,ah,ah,λh5=> ?_,λh5=>⟨ah,ah,ah,ah,λh6=>⟨ah,ah,ah,ah,λh7=> ?_,λh7=> ?_⟩,λh6=>⟨⟨ah,ah,?_⟩,ah⟩⟩⟩
  .rw [if_pos h5]at em;rw [h3,e,em,if_pos h5]
  .rw [if_neg (by simpa using h5),show iA u.bD v.bD= -1 by unfold iA;rw [if_pos h7]]at em;rw [h3,e,em];rfl
  .rw [if_neg (by simpa using h5),show iA u.bD v.bD=1 by unfold iA;rw [if_neg h7,if_pos ah]]at em;rw [h3,e,em];rfl
  .rw [if_neg (by simpa using h5),iL.2 h6]at em;rw [h3,e,em,show(i+1).toNat=i.toNat+1 by omega];rfl
 .rw [h3,List.drop_eq_nil_of_le ah];rfl
def Zl(a:Atom):Oa.F () (a,()) (λy=>y=(bp (a.x=[]/\a.y=[]),())):=by
 dsimp only [Oa,gm];simp (disch:=omega) only [RR];refine congrArg (λb=>(b,())) ?_;rw [Bool.eq_iff_iff,aU,Bool.and_eq_true,decide_eq_true_eq,decide_eq_true_eq];constructor
 .rintro⟨h1,h2⟩;exact⟨List.eq_nil_of_length_eq_zero ah,List.eq_nil_of_length_eq_zero ah⟩
 .rintro⟨h1,h2⟩;rw [h1,h2];exact⟨rfl,rfl⟩
def ahP{p1 f1 p4 f4 p3 f3}(U1:Y1 p1 f1)(U4:Y11 p4 f4)(U3:Y6 p3 f3){p5:Atom×Unit->Bool}{f5:Atom×Unit->Bool×Unit}(hp5:∀a,p5 (a,())=true)(hf5:∀a,f5 (a,())=(bp (a.x=[]/\a.y=[]),()))(a:Atom)(n:Int)(ha:ShA a):
  Ob.F (p1,f1,p4,f4,p3,f3,p5,f5,()) (a,n,()) (λy=>y=(bp (fU a n),())):=by
 obtain⟨hx,hy⟩:=ha;dsimp only [Ob,gm];simp (disch:=omega) only [RR,U1.hp,U1.hf,hp5,hf5,U3.hp a.x n hx,U3.hf a.x n hx,U3.hp a.y n hy,U3.hf a.y n hy,U4.hp a.x hx,U4.hf a.x hx,U4.hp a.y hy,U4.hf a.y hy];unfold fU;have E:∀(b:Bool) (P:Prop),(b=true↔P)->(b,())=(bp P,()):=λb P h=>by
  rw [show b=bp P from Bool.eq_iff_iff.2 (h.trans aU.symm)]
 have T:∀ {P:Prop},¬P->(false,())=(bp P,()):=λh=>by rw [bL h]
 refine⟨λh=>E _ _ ?_,λh=>⟨λh1=>⟨λ_=>E _ _ ?_,λh'=>absurd h1 h'⟩,λh1=>⟨λh2=>E _ _ ?_,λh2=>⟨λh3=>E _ _ ?_,λh3=>T ?_⟩⟩⟩⟩
 .rw [if_neg ah,Bool.and_eq_true,dF,aU];constructor
  .rintro⟨g1,g2⟩;exact⟨g2,Or.inl ⟨h,g1⟩⟩
  .rintro⟨g2,⟨_,g1⟩ | ⟨g3,g1⟩⟩
   .exact⟨g1,g2⟩
   .omega
 .rw [if_neg ah,Bool.and_eq_true,dF,aU];constructor
  .rintro⟨g1,g2⟩;exact⟨g2,Or.inr ⟨Or.inl h1,g1⟩⟩
  .rintro⟨g2,⟨_,g1⟩ | ⟨g3,g1⟩⟩
   .omega
   .exact⟨g1,g2⟩
 .rw [if_neg ah,Bool.and_eq_true,dF,aU];constructor
  .rintro⟨g1,g2⟩;exact⟨g2,Or.inr ⟨Or.inr h2,g1⟩⟩
  .rintro⟨g2,⟨_,g1⟩ | ⟨g3,g1⟩⟩
   .omega
   .exact⟨g1,g2⟩
 .rw [if_pos h3];simp only [Bool.and_eq_true,dF,aU,and_assoc]
 .rw [if_neg h3];rintro⟨_,⟨g,_⟩ | ⟨g,_⟩⟩<;>omega
def ahQ{p1 f1}(U1:Y8 p1 f1)(a b:Atom)(ha:ShA a):
  Oc.F (p1,f1,()) (a,b,()) (λy=>y=(Gp a b,())):=by
 dsimp only [Oc,gm];simp (disch:=omega) only [RR,U1.hp a.x b.x ha.1,U1.hf a.x b.x ha.1,U1.hp a.y b.y ha.2,U1.hf a.y b.y ha.2];rfl
def Zm(G:Int->Prop):∀n:Nat,∃r,Idx n G r
 | 0=>⟨-1,Or.inl ⟨rfl,All.zero⟩⟩
 | n+1=>by
  obtain⟨r,h⟩:=Zm G n;rcases h with⟨h1,h2⟩ | ⟨h1,h2,h3,h4⟩
  .by_cases g:G n
   .exact⟨n,Or.inr ⟨ah,ah,g,h2⟩⟩
   .exact⟨-1,Or.inl ⟨rfl,by have:=h2.snoc g;exact this.le ah⟩⟩
  .exact⟨r,Or.inr ⟨h1,ah,h3,h4⟩⟩
def Pw(G:Int->Prop)(n:Nat):Idx n G (idxOf n G):=by
 obtain⟨r,h⟩:=Zm G n;rw [<-h.eq];exact h
def iH(t:List Atom)(a:Atom):Idx t.length (λi=>a=t.getD i.toNat default) (qC t a):=by
 have:=Pw (λi=>Gp a (t.getD i.toNat default)=true) t.length;simp only [lH]at this;unfold qC;simp only [lH];exact this
def iq{t:List Atom}:aH t↔All t.length (λi=>fU (t.getD i.toNat default) i/\All i (λj=>¬t.getD i.toNat default=t.getD j.toNat default))/\t.length<=200:=by
 unfold aH;refine and_congr ⟨λh i h1 h2=>⟨(h i h1 h2).1,?_⟩,λh i h1 h2=>⟨(h i h1 h2).1,?_⟩⟩ Iff.rfl
 .have:=iH t (t.getD i.toNat default);rw [(h i h1 h2).2]at this;rcases this with⟨g1,_⟩ | ⟨_,_,_,g⟩
  .omega
  .exact g
 .exact((iH t (t.getD i.toNat default)).uniq (Or.inr ⟨h1,h2,rfl,(h i h1 h2).2⟩))
def amc{p1 f1 p2 f2}(U1:Y18 p1 f1)(U2:Y15 p2 f2)(a:List Atom)(ha:ShT a):
  XQ.F (p1,f1,p2,f2,()) (a,()) (λy=>y=(bp (aH a),())):=by
 have hlen:=ha.1;dsimp only [XQ,gm];simp (disch:=omega) only [RR];refine⟨λh=> ?_,λh=> ?_⟩
 .rw [bL (λh2=>by have:=h2.2;omega)]
 refine aB (λ(y:Int×List Atom×Unit)=>y.2.1=a/\0<=y.1/\y.1<=a.length/\All y.1 (λi=>fU ((a).getD (i).toNat default) i/\All i (λj=>¬((a).getD (i).toNat default)=((a).getD (j).toNat default)))) (λy=>(a.length-y.1).toNat) ⟨rfl,by simp,by simp,All.zero⟩ ?_;rintro⟨(i:Int),(l:List Atom),⟨⟩⟩ hI;dsimp only at hI ⊢;obtain⟨rfl,h1,h2,h3⟩:=hI;simp (disch:=omega) only [RR,U1.hp _ _ (ha.at _),U1.hf _ _ (ha.at _),aU,kU];refine⟨λh4=>⟨ah,ah,λh5=> ?_,λh5=> ?_⟩,λh4=> ?_⟩
 .rw [bL (λh=>h5 (h.1 i h1 h4).1)]
 .refine aB (λ(y:Int×Int×List Atom×Unit)=>y.1=i/\y.2.2.1=l/\0<=y.2.1/\y.2.1<=i/\All y.2.1 (λj=>¬((l).getD (i).toNat default)=((l).getD (j).toNat default))) (λy=>(i-y.2.1).toNat) ⟨rfl,rfl,by simp,by simp;omega,All.zero⟩ ?_;rintro⟨(i':Int),(j:Int),(l':List Atom),⟨⟩⟩ hI;dsimp only at hI ⊢;obtain⟨rfl,rfl,g1,g2,g3⟩:=hI;simp (disch:=omega) only [RR,U2.hp _ _ (ha.at _),U2.hf _ _ (ha.at _)];refine⟨λg4=>⟨ah,ah,ah,ah,λg5=> ?_,λg5=>⟨⟨ah,ah,g3.snoc ?_⟩,ah⟩⟩,λg4=>⟨⟨ah,ah,h3.snoc ⟨h5,g3.le ah⟩⟩,ah⟩⟩
  .rw [bL (λh=>((iq.1 h).1 i' h1 h4).2 j g1 g4 (lH.1 g5).symm)]
  .intro e;rw [lH.2 e.symm]at g5;cases g5
 .rw [aP (iq.2 ⟨h3.le ah,ah⟩)]
def amd{p1 f1 p2 f2}(U1:Y9 p1 f1)(U2:Y10 p2 f2)(op a b:Int):
  XZ.F (p2,f2,p1,f1,()) (op,a,b,()) (λy=>y=(wdo op a b,())):=by
 dsimp only [XZ,gm];simp (disch:=omega) only [RR,U1.hp,U1.hf,U2.hp,U2.hf,ahM,Zf,dF,qB];by_cases ha:(0<=a/\a<=65535)/\(0<=b/\b<=65535)
 .have hm:0<=a*b/\a*b<=65535*65535:=⟨Int.mul_nonneg ha.1.1 ha.2.1,Int.mul_le_mul ha.1.2 ha.2.2 ha.2.1 ah⟩;rw [w64 (x:=a+b) ah ah,w64 (x:=a-b) ah ah,w64 (x:=a*b) ah ah];unfold wdo;rw [if_pos ha];refine⟨λh=>absurd h ah,λ_=>⟨λh=> ?_,λh=>⟨λh1=> ?_,λh1=>⟨λh2=> ?_,λh2=>⟨λh3=> ?_,λh3=>⟨λh4=> ?_,λh4=> ?_⟩⟩⟩⟩⟩⟩<;>(subst_vars;first | rfl | simp only [if_true,if_false, *])
 .refine⟨λh=> ?_,λh=>absurd h ?_⟩
  .unfold wdo;rw [if_neg ha]
  .exact ha
theorem ame{p1 f1}(U1:Y11 p1 f1)(a:List aj)(ha:Sh a):
  X3.F (p1,f1,()) (a,()) (λy=>y=((dG a).1,(dG a).2,())):=by
 dsimp only [X3,gm];simp (disch:=omega) only [RR,U1.hp a ha,U1.hf a ha];unfold dG;have z:Int.toNat 0=0:=rfl;rw [z];refine⟨λh=> ?_,λh=>⟨λh1=> ?_,λh1=>⟨ah,ah,λh2=> ?_,λh2=>⟨ah,ah,?_⟩⟩⟩⟩
 .rw [if_neg (by simpa using h)]
 .rw [if_pos h,if_pos ah]
 .rw [if_pos h,if_neg ah,if_neg ah]
 .rw [if_pos h,if_neg ah,if_pos ah]
def Zn(a:List aj)(ha:Sh a):Od.F () (a,()) (λy=>y=(a,())):=by
 have hlen:=ha.1;dsimp only [Od,gm];simp (disch:=omega) only [RR];refine aB (λ(y:List aj×Int×List aj×Unit)=>y.1=a/\y.2.2.1=a.take y.2.1.toNat/\0<=y.2.1/\y.2.1<=a.length) (λy=>(a.length-y.2.1).toNat) ⟨rfl,by simp,by simp,by simp⟩ ?_;rintro⟨(l:List aj),(i:Int),(o:List aj),⟨⟩⟩ hI;dsimp only at hI ⊢;obtain⟨rfl,rfl,h1,h2⟩:=hI;have h3:=ha.at i.toNat;have h4:=List.length_take_le' i.toNat l;simp (disch:=omega) only [RR];simp only [List.length_nil,List.nil_append,List.length_cons];refine⟨λh4=>⟨ah,ah,ah,ah,Or.inr ah,ah,ah,⟨cZ h1 h4 rfl,ah,ah⟩,ah⟩,λh4=>by rw [List.take_of_length_le ah]⟩
def IY(l:List aj):Prop:=l.length<=12/\∀m∈l,m.atoms.length<=4
def ahR{p1 f1}(U1:Y13 p1 f1)(a:List aj)(ha:Sh a):
  Ol.F (p1,f1,()) (a,()) (λy=>y=(bp (IY a),if bp (IY a)then a else [],())):=by
 have hlen:=ha.1;dsimp only [Ol,gm];simp (disch:=omega) only [RR];refine⟨λh=> ?_,λh=> ?_⟩
 .rw [bL (λh2=>by have:=h2.1;omega)];rfl
 refine aB (λ(y:List aj×Int×Unit)=>y.1=a/\0<=y.2.1/\y.2.1<=a.length/\All y.2.1 (λi=>((a).getD (i).toNat default).atoms.length<=4)) (λy=>(a.length-y.2.1).toNat) ⟨rfl,by simp,by simp,All.zero⟩ ?_;rintro⟨(l:List aj),(i:Int),⟨⟩⟩ hI;dsimp only at hI ⊢;obtain⟨rfl,h1,h2,h3⟩:=hI;simp (disch:=omega) only [RR,U1.hp l ha,U1.hf l ha];refine⟨λh4=>⟨ah,ah,λh5=> ?_,λh5=>⟨⟨ah,ah,h3.snoc ah⟩,ah⟩⟩,λh4=> ?_⟩
 .rw [bL (λh=>by have:=h.2 _ (dD (d:=default) h1 h4);omega)];rfl
 .rw [aP (show IY l from⟨ah,nC (d:=default) (G:=λm:aj=>m.atoms.length<=4).1 (h3.le ah)⟩)];rfl
def ahS{p1 f1}(U1:Y13 p1 f1)(a:Atom)(ha:ShA a):
  Oe.F (p1,f1,()) (a,()) (λy=>y=(a.kind,a.k,a.x,a.y,())):=by
 dsimp only [Oe,gm];simp (disch:=omega) only [RR,U1.hp a.x ha.1,U1.hf a.x ha.1,U1.hp a.y ha.2,U1.hf a.y ha.2]
structure Y34(pp:Atom×Unit->Bool)(ff:Atom×Unit->Int×Int×List aj×List aj×Unit):Prop where
 hp:∀a,ShA a->pp (a,())=true
 hf:∀a,ShA a->ff (a,())=(a.kind,a.k,a.x,a.y,())
def ahT{p1 f1}(U1:Y34 p1 f1)(a:List Atom)(ha:ShT a):
  Og.F (p1,f1,()) (a,()) (λy=>y=(a,())):=by
 have hlen:=ha.1;dsimp only [Og,gm];simp (disch:=omega) only [RR];refine aB (λ(y:Int×List Atom×List Atom×Unit)=>y.2.1=a/\y.2.2.1=a.take y.1.toNat/\0<=y.1/\y.1<=a.length) (λy=>(a.length-y.1).toNat) ⟨rfl,by simp,by simp,by simp⟩ ?_;rintro⟨(i:Int),(l:List Atom),(o:List Atom),⟨⟩⟩ hI;dsimp only at hI ⊢;obtain⟨rfl,rfl,h1,h2⟩:=hI;simp (disch:=omega) only [RR,U1.hp _ (ha.at _),U1.hf _ (ha.at _)];have h5:=List.length_take_le' i.toNat l;refine⟨λh4=>⟨ah,ah,?_,⟨cZ h1 h4 rfl,ah,ah⟩,ah⟩,λh4=>by rw [List.take_of_length_le ah]⟩;simp only [List.length_cons,List.length_nil];omega
def vk{p:List aj}{n m:Int}(h:bq p n)(h2:n<=m):bq p m:=bP.2 λa ha k hk=>by have:=bP.1 h a ha k hk;omega
def Zo{a:Atom}{n m:Int}(h:fU a n)(h2:n<=m):fU a m:=by
 unfold fU at h ⊢;split
 .rename_i h3;rw [if_pos h3]at h;exact⟨h.1,h.2.1,h.2.2.1,vk h.2.2.2.1 h2,vk h.2.2.2.2 h2⟩
 .rename_i h3;rw [if_neg h3]at h;exact h
def ahU{p1 f1 p2 f2 p3 f3}(U1:Y18 p1 f1)(U2:Y15 p2 f2)(U3:Y34 p3 f3)(a:Atom)(t:List Atom)(ha:ShA a)(ht:ShT t)(hok:aH t):Oh.F (p1,f1,p2,f2,p3,f3,()) (a,t,()) (λy=>y=((bA t a).2,(bA t a).1,())):=by
 have hlen:=ht.1;dsimp only [Oh,gm];simp (disch:=omega) only [RR,U1.hp _ _ ha,U1.hf _ _ ha,aU,kU];have hsp:=iH t a;refine⟨λh=> ?_,λh=> ?_⟩
 .have:qC t a= -1:=by
   rcases hsp with⟨g,_⟩ | ⟨g1,g2,g3,_⟩
   .exact g
   .exfalso;apply h;have:=(hok.1 _ g1 g2).1;rw [<-g3]at this;exact Zo this ah
  unfold bA;rw [this,if_neg ah,if_pos (Or.inl h)]
 refine aB (λ(y:Int×List Atom×Atom×Unit)=>y.2.1=t/\y.2.2.1=a/\0<=y.1/\y.1<=t.length/\All y.1 (λi=>¬a=t.getD i.toNat default)) (λy=>(t.length-y.1).toNat) ⟨rfl,rfl,by simp,by simp,All.zero⟩ ?_;rintro⟨(i:Int),(l:List Atom),(a':Atom),⟨⟩⟩ hI;dsimp only at hI ⊢;obtain⟨rfl,rfl,h1,h2,h3⟩:=hI;simp (disch:=omega) only [RR,U2.hp _ _ (ht.at _),U2.hf _ _ (ht.at _),U3.hp _ ha,U3.hf _ ha];refine⟨λh4=>⟨ah,ah,ah,ah,λh5=> ?_,λh5=>⟨⟨ah,ah,h3.snoc ?_⟩,ah⟩⟩,λh4=> ?_⟩
 .have e:=(lH.1 h5).symm;have:qC l a'=i:=hsp.uniq (Or.inr ⟨h1,h4,e,h3⟩);unfold bA;rw [this,if_pos h1]
 .intro e;rw [lH.2 e.symm]at h5;cases h5
 .have:qC l a'= -1:=hsp.uniq (Or.inl ⟨rfl,h3.le ah⟩);unfold bA;rw [this,if_neg ah];refine⟨λh5=> ?_,λh5=>⟨?_,?_⟩⟩
  .rw [if_pos (Or.inr ah)]
  .simp only [List.length_cons,List.length_nil];omega
  .rw [if_neg (by rintro(g | g);exact g h;omega),List.length_append];rw [w64 (by simp only [List.length_cons,List.length_nil];omega) (by simp only [List.length_cons,List.length_nil];omega)];simp only [List.length_cons,List.length_nil];rw [show(((l.length+(0+1):Nat):Int)-1)=l.length by omega]
def BL(op n:Int)(y:List aj):List aj×Bool:=if op=4/\n=0 then([],true)else if(op=4/\n=65535)\/(op=5/\n=0)then(y,true)else([],false)
def ahV{p1 f1}(U1:Y13 p1 f1)(op n:Int)(y:List aj)(hy:Sh y):
  Oq.F (p1,f1,()) (op,n,y,()) (λz=>z=((BL op n y).2,(BL op n y).1,())):=by
 dsimp only [Oq,gm];simp (disch:=omega) only [RR,U1.hp y hy,U1.hf y hy];unfold BL;by_cases c1:op=4<;>by_cases c2:n=0<;>by_cases c3:n=65535<;>by_cases c4:op=5<;>simp [c1,c2,c3,c4]<;>omega
def Sc(op:Int)(x y:List aj):vH op x y=if(dG x).2&& (dG y).2 then(aR (wdo op (dG x).1 (dG y).1),true)
  else if fJ x y=0 then(if op=4 then(x,true)else([],true))else if(dG x).2 then BL op (dG x).1 y else if(dG y).2 then BL op (dG y).1 x else([],false):=by
 unfold vH BL;by_cases c1:fJ x y=0<;>by_cases c2:op=4<;>simp [c1,c2]
def ahW{p1 f1 p2 f2 p3 f3 p4 f4 p7 f7}(U1:Y8 p1 f1)(U2:Y13 p2 f2)(U3:Y24 p3 f3)(U4:Y22 p4 f4)(U7:Y27 p7 f7){p8:Int×Int×List aj×Unit->Bool}{f8:Int×Int×List aj×Unit->Bool×List aj×Unit}(hp8:∀op n y,Sh y->p8 (op,n,y,())=true)(hf8:∀op n y,Sh y->f8 (op,n,y,())=((BL op n y).2,(BL op n y).1,()))(op:Int)(x y:List aj)(hx:Sh x)(hy:Sh y):Ou.F (p1,f1,p2,f2,p3,f3,p4,f4,p7,f7,p8,f8,()) (op,x,y,()) (λz=>z=((vH op x y).2,(vH op x y).1,())):=by
 dsimp only [Ou,gm];simp (disch:=omega) only [RR,U1.hp x y hx,U1.hf x y hx,U2.hp x hx,U2.hf x hx,U3.hp,U3.hf,U4.hp,U4.hf,U7.hp x hx,U7.hf x hx,U7.hp y hy,U7.hf y hy,hp8 op _ y hy,hf8 op _ y hy,hp8 op _ x hx,hf8 op _ x hx];rw [Sc];generalize dG x=nx;generalize dG y=ny;obtain⟨n,bn⟩:=nx;obtain⟨m,bm⟩:=ny;dsimp only;by_cases e:fJ x y=0<;>by_cases o4:op=4<;>cases bn<;>cases bm<;>simp [e,o4]
noncomputable def Ew (op:Int) (x y:List aj):List aj×Bool:=
 if op=1 then((kN x y).2,(kN x y).1)else if op=2 then((kN x (gT y 65535)).2,(kN x (gT y 65535)).1)else if op=3 then((j6 x y).2,(j6 x y).1)else([],false)
def ahX{p5 f5 p4 f4 p6 f6}(U5:Y23 p5 f5)(U4:Y25 p4 f4)(U6:Y26 p6 f6)(op:Int)(x y:List aj)(hx:Sh x)(hy:Sh y):Oo.F (p5,f5,p4,f4,p6,f6,()) (op,x,y,()) (λz=>z=((Ew op x y).2,(Ew op x y).1,())):=by
 dsimp only [Oo,gm];simp (disch:=omega) only [RR,U4.hp x y hx hy,U4.hf x y hx hy,U4.hp x _ hx (Gw y 65535),U4.hf x _ hx (Gw y 65535),U5.hp x y hx hy,U5.hf x y hx hy,U6.hp y _ hy,U6.hf y _ hy];unfold Ew;refine⟨λh=>by rw [if_pos h],λh=>⟨λh1=>by rw [if_neg h,if_pos h1],λh1=>⟨λh2=>by rw [if_neg h,if_neg h1,if_pos h2],λh2=>by rw [if_neg h,if_neg h1,if_neg h2]⟩⟩⟩
structure Y35(pp:Atom×List Atom×Unit->Bool)(ff:Atom×List Atom×Unit->Int×List Atom×Unit):Prop where
 hp:∀a t,ShA a->ShT t->aH t->pp (a,t,())=true
 hf:∀a t,ShA a->ShT t->aH t->ff (a,t,())=((bA t a).2,(bA t a).1,())
def ahY{p1 f1 p2 f2 p5 f5}(U1:Y28 p1 f1)(U2:Y8 p2 f2){p3:Int×List aj×List aj×Unit->Bool}{f3:Int×List aj×List aj×Unit->Bool×List aj×Unit}(hp3:∀op x y,Sh x->Sh y->p3 (op,x,y,())=true)(hf3:∀op x y,Sh x->Sh y->f3 (op,x,y,())=((Ew op x y).2,(Ew op x y).1,())){p4:Int×List aj×List aj×Unit->Bool}{f4:Int×List aj×List aj×Unit->Bool×List aj×Unit}(hp4:∀op x y,Sh x->Sh y->p4 (op,x,y,())=true)(hf4:∀op x y,Sh x->Sh y->f4 (op,x,y,())=((vH op x y).2,(vH op x y).1,()))(U5:Y35 p5 f5)(op:Int)(x y:List aj)(t:List Atom)(hop:1<=op/\op<=5)(hx:Sh x)(hy:Sh y)(ht:ShT t)(hok:aH t):Ov.F (p1,f1,p2,f2,p3,f3,p4,f4,p5,f5,()) (op,x,y,t,()) (λz=>z=((tDo t op x y).1,(tDo t op x y).2,())):=by
 have s1:ShA ⟨4,op,x,y⟩:=⟨hx,hy⟩;have s2:ShA ⟨4,op,y,x⟩:=⟨hy,hx⟩;dsimp only [Ov,gm];simp (disch:=omega) only [RR,U1.hp,U1.hf,U2.hp x y hx,U2.hf x y hx,hp3 op x y hx hy,hf3 op x y hx hy,hp4 op x y hx hy,hf4 op x y hx hy,U5.hp _ _ s1 ht hok,U5.hf _ _ s1 ht hok,U5.hp _ _ s2 ht hok,U5.hf _ _ s2 ht hok];have e1:(op=4\/op=5)->vH op x y=fA op x y:=λh=>by unfold fA;rw [if_neg ah,if_neg ah,if_neg ah]
 have e2:¬(op=4\/op=5)->Ew op x y=fA op x y:=λh=>by
  unfold fA Ew;by_cases c1:op=1
  .rw [if_pos c1,if_pos c1]
  .rw [if_neg c1,if_neg c1];by_cases c2:op=2
   .rw [if_pos c2,if_pos c2]
   .rw [if_neg c2,if_neg c2,if_pos ah,if_pos ah]
 unfold tDo;by_cases c:op=4\/op=5
 .rw [e1 c];generalize bA t ⟨4,op,y,x⟩=r1;generalize bA t ⟨4,op,x,y⟩=r2;generalize fJ x y=o;generalize fA op x y=s;obtain⟨p,b⟩:=s;have c':¬op=2:=by omega
  cases b<;>by_cases c2:0<o<;>by_cases c3:r1.2<0<;>by_cases c4:r2.2<0<;>simp [c,c',c2,c3,c4]<;>omega
 .rw [e2 c];generalize bA t ⟨4,op,y,x⟩=r1;generalize bA t ⟨4,op,x,y⟩=r2;generalize fJ x y=o;generalize fA op x y=s;obtain⟨p,b⟩:=s;obtain⟨n4,n5⟩:=not_or.1 c;cases b<;>by_cases c1:op=2<;>by_cases c2:0<o<;>by_cases c3:r1.2<0<;>by_cases c4:r2.2<0<;>simp [n4,n5,c1,c2,c3,c4]
structure Plus(l:List aj)(m:aj)(o:List aj):Prop where
 nf:Nf o
 cf:∀k,cf o k=F.cf (l++ [m]) k%65536
 len:o.length<=l.length+1
def ahZ{p1 f1 p2 f2}(U1:Y7 p1 f1)(U2:Y10 p2 f2)(l:List aj)(m:aj)(hl:l.length<1000000000)(hn:Nf l)(hm:1<=m.bD/\m.bD<=65535)(hma:m.atoms.length<1000000000):Oj.F (p1,f1,p2,f2,()) (l,m,()) (λy=>Plus l m y.1):=by
  dsimp only [Oj,gm]
  refine aB (λ(y:List aj×Bool×Int×aj×List aj×Unit)=>y.1=l/\y.2.2.2.1=m/\0<=y.2.2.1/\y.2.2.1<=l.length/\
      ((y.2.1=false/\y.2.2.2.2.1=l.take y.2.2.1.toNat/\∀x∈l.take y.2.2.1.toNat,lt x m)\/
       (y.2.1=true/\Nf y.2.2.2.2.1/\(∀k,cf y.2.2.2.2.1 k=cf (l.take y.2.2.1.toNat++ [m]) k%65536)/\(y.2.2.2.2.1.length:Int)<=y.2.2.1+1/\(y.2.2.1<l.length->lt m ((l).getD (y.2.2.1).toNat default)/\∀x∈y.2.2.2.2.1,lt x ((l).getD (y.2.2.1).toNat default))))) (λy=>(l.length-y.2.2.1).toNat)
    ⟨rfl,rfl,by simp,by simp,Or.inl ⟨rfl,by simp,by simp⟩⟩ ?_
  rintro⟨(l':List aj),(dn:Bool),(i:Int),(m':aj),(o:List aj),⟨⟩⟩ hI;dsimp only at hI ⊢;obtain⟨rfl,rfl,h1,h2,h3⟩:=hI;simp (disch:=omega) only [RR,U1.hp _ _ hma,U1.hf _ _ hma,U2.hp,U2.hf];have hss:=hn.ss;have nx:i+1<l'.length->lt ((l').getD (i).toNat default) ((l').getD (i+1).toNat default):=λh=>by
    have:=(dH (d:=default) (R:=lt) dN).1 hss (i+1) ah h;rw [show i+1-1=i by omega]at this;exact this
  have tk:i<l'.length->l'.take (i+1).toNat=l'.take i.toNat++ [((l').getD (i).toNat default)]:=λh=>(cZ h1 h rfl).symm
  have bf:i<l'.length->∀x∈l'.take i.toNat,lt x ((l').getD (i).toNat default):=λh x hx=>by
    have:=hss;rw [<-List.take_append_drop i.toNat l',List.pairwise_append]at this;refine this.2.2 x hx _ ?_;rw [getD_lt ah,List.drop_eq_getElem_cons (show i.toNat<l'.length by omega)];exact List.mem_cons_self
  have lt0:=List.length_take_le' i.toNat l';have lt1:=List.length_take_le i.toNat l';have co:i<l'.length->1<=((l').getD (i).toNat default).bD/\((l').getD (i).toNat default).bD<=65535:=λh=>hn.co _ (dD h1 h)
  have ntk:Nf (l'.take i.toNat):=⟨List.Pairwise.sublist (List.take_sublist _ _) hss,λx hx=>hn.co x (List.mem_of_mem_take hx)⟩;have Zp:∀ {a:List aj} {x:aj},Nf a->(∀y∈a,lt y x)->1<=x.bD/\x.bD<=65535->Nf (a++ [x]):=λ{a x} g1 g2 g3=>⟨by
    rw [List.pairwise_append];exact⟨g1.ss,List.pairwise_singleton _ _,λy hy z hz=>by rw [List.mem_singleton]at hz;subst hz;exact g2 y hy⟩,λy hy=>by
    rw [List.mem_append,List.mem_singleton]at hy;rcases hy with hy | rfl
    · exact g1.co y hy
    · exact g3⟩
  have l1:∀(x:List aj) (y:aj),(x++ [y]).length=x.length+1:=λx y=>by rw [List.length_append];rfl
  have fin:∀o,i=l'.length->Nf o->(∀k,cf o k=cf (l'.take i.toNat++ [m']) k%65536)->(o.length:Int)<=i+1->Plus l' m' o:=λo e g1 g2 g3=>⟨g1,λk=>by rw [g2 k,List.take_of_length_le ah],ah⟩
  by_cases hi:i<l'.length
  · have nx:=nx;have tk:=tk hi;have bf:=bf hi;have co:=co hi;rw [tk];have hv:∀ {P:Prop},P->(∀x,x=((l').getD (i).toNat default)->P)->P:=λh _=>h
    generalize ((l').getD (i).toNat default)=v at nx tk bf co h3 ⊢;have cfs:∀k,cf (l'.take i.toNat++ [v]++ [m']) k=cf (l'.take i.toNat) k+(if v.atoms=k then v.bD else 0)+(if m'.atoms=k then m'.bD else 0):=λk=>by
      rw [dh,dh,aX,aX,gG];simp only [Int.add_zero]
    have cfm:∀k,cf (l'.take i.toNat++ [m']) k=cf (l'.take i.toNat) k+(if m'.atoms=k then m'.bD else 0):=λk=>by
      rw [dh,aX,gG,Int.add_zero]
    rcases h3 with⟨rfl,rfl,h4⟩ | ⟨rfl,h4,h5,h6,h7⟩
    ·
      simp (disch:=omega) only [RR,decide_true,Bool.not_false,Bool.true_and,decide_eq_true_eq,hi];by_cases c1:eO m'.atoms v.atoms<0
      · have c2:¬eO m'.atoms v.atoms=0:=by omega
        simp (disch:=omega) only [RR,c1,c2];have n1:=Zp ntk h4 hm;have b2:∀x∈l'.take i.toNat++ [m'],lt x v:=λx hx=>by
          rw [List.mem_append,List.mem_singleton]at hx;rcases hx with hx | rfl
          · exact bf x hx
          · exact c1
        have n2:=Zp n1 b2 co;refine⟨ah,by rw [show([m']:List aj).length=1 from rfl];omega,ah,by rw [l1,show([v]:List aj).length=1 from rfl];omega,⟨ah,ah,Or.inr ⟨n2,λk=> ?_,by rw [l1,l1];omega,λh=>⟨dN c1 (nx h),λx hx=> ?_⟩⟩⟩,ah⟩
        · have e1:=cfs k;have e2:=n2.bnd k;have e3:cf (l'.take i.toNat++ [m']++ [v]) k=cf (l'.take i.toNat++ [v]++ [m']) k:=by rw [e1,dh,cfm,aX,gG];omega
          rw [<-e3];omega
        · rw [List.mem_append,List.mem_singleton]at hx;rcases hx with hx | rfl
          · exact dN (b2 x hx) (nx h)
          · exact nx h
      · by_cases c2:eO m'.atoms v.atoms=0
        · have ev:=iM.1 c2;simp (disch:=omega) only [RR,c1,c2,List.append_nil];have zz:cf (l'.take i.toNat) v.atoms=0:=gQ λx hx=>(bf x hx).ne
          refine⟨ah,λh=>absurd h ah,λ_=>⟨ah,λc3=> ?_,λc3=> ?_⟩⟩
          · have n2:=Zp (x:=⟨(v.bD+m'.bD)%65536,v.atoms⟩) ntk bf ⟨by dsimp only;omega,by dsimp only;omega⟩;refine⟨ah,by simp only [List.length_cons,List.length_nil];omega,⟨ah,ah,Or.inr ⟨n2,λk=> ?_,by rw [l1];omega,λh=>⟨?_,λx hx=> ?_⟩⟩⟩,ah⟩
            · have e1:=cfs k;have e2:=n2.bnd k;rw [e1];rw [dh,aX,gG]at e2 ⊢;dsimp only at e2 ⊢;by_cases ek:v.atoms=k
              · rw [if_pos ek]at e2 ⊢;rw [if_pos ek,if_pos (ev.trans ek)];rw [<-ek,zz]at e2 ⊢;omega
              · rw [if_neg ek]at e2 ⊢;rw [if_neg ek,if_neg (λe=>ek (ev.symm.trans e))];omega
            · have:=nx h;unfold lt at this ⊢;rw [ev];exact this
            · rw [List.mem_append,List.mem_singleton]at hx;rcases hx with hx | rfl
              · exact dN (bf x hx) (nx h)
              · exact nx h
          · refine⟨⟨ah,ah,Or.inr ⟨ntk,λk=> ?_,ah,λh=>⟨?_,λx hx=>dN (bf x hx) (nx h)⟩⟩⟩,ah⟩
            · have e1:=cfs k;have e2:=ntk.bnd k;rw [e1];by_cases ek:v.atoms=k
              · rw [if_pos ek,if_pos (ev.trans ek),<-ek,zz];omega
              · rw [if_neg ek,if_neg (λe=>ek (ev.symm.trans e))];omega
            · have:=nx h;unfold lt at this ⊢;rw [ev];exact this
        · simp (disch:=omega) only [RR,c1,c2];refine⟨ah,ah,by simp only [List.length_cons,List.length_nil];omega,⟨ah,ah,Or.inl (λx hx=> ?_)⟩,ah⟩;rw [List.mem_append,List.mem_singleton]at hx;rcases hx with hx | rfl
          · exact h4 x hx
          · unfold lt;rw [lG];omega
    · have c3:=(h7 hi).1;have b2:=(h7 hi).2;have c1:eO m'.atoms v.atoms<0:=c3;have c2:¬eO m'.atoms v.atoms=0:=by omega
      simp (disch:=omega) only [RR,decide_true,Bool.not_true,Bool.false_and,decide_eq_true_eq,hi,c2];have n2:=Zp h4 b2 co;refine⟨ah,λh=>h.1.elim,ah,by simp only [List.length_cons,List.length_nil];omega,⟨ah,ah,Or.inr ⟨n2,λk=> ?_,by rw [l1];omega,λh=>⟨dN c3 (nx h),λx hx=> ?_⟩⟩⟩,ah⟩
      · have e1:=cfs k;have e2:=n2.bnd k;have e3:=h5 k;rw [cfm]at e3;rw [dh,aX,gG]at e2 ⊢;rw [e1];by_cases ek:v.atoms=k
        · rw [if_pos ek]at e2 ⊢;omega
        · rw [if_neg ek]at e2 ⊢;omega
      · rw [List.mem_append,List.mem_singleton]at hx;rcases hx with hx | rfl
        · exact dN (b2 x hx) (nx h)
        · exact nx h
  · have ei:i=l'.length:=by omega
    rcases h3 with⟨rfl,rfl,h4⟩ | ⟨rfl,h4,h5,h6,h7⟩
    · simp (disch:=omega) only [RR,decide_true,Bool.not_false,Bool.true_and,decide_eq_true_eq,hi];have n1:=Zp ntk h4 hm;refine⟨by simp only [List.length_cons,List.length_nil];omega,fin _ ei n1 (λk=> ?_) (by rw [l1];omega)⟩;have e2:=n1.bnd k;omega
    · simp (disch:=omega) only [RR,decide_true,Bool.not_true,Bool.false_and,decide_eq_true_eq,hi];exact fin _ ei h4 h5 h6
def pX{a o:List Int}(h:o.Pairwise (· <= ·))(hp:o.Perm a):o=dA a:=by
 refine List.Perm.eq_of_pairwise (le:=λx y:Int=>x<=y) (λa b _ _ h1 h2=>Int.le_antisymm h1 h2) h ?_ (hp.trans (List.mergeSort_perm a _).symm);have:=List.pairwise_mergeSort (le:=λx y:Int=>decide (x<=y)) (λa b c h1 h2=>by simp at*;omega) (λa b=>by simp;omega) a;exact this.imp (λh=>by simpa using h)
def Zq(a b:List Int)(ha:a.length<100000000)(hb:b.length<100000000)(sa:a.Pairwise (· <= ·))(sb:b.Pairwise (· <= ·)):
  Om.F () (a,b,()) (λy=>y=(dA (a++b),())):=by
 dsimp only [Om,gm];have sa':=(dH (d:=default) (R:=λa b:Int=>a<=b) (λh1 h2=>Int.le_trans h1 h2)).1 sa;have sb':=(dH (d:=default) (R:=λa b:Int=>a<=b) (λh1 h2=>Int.le_trans h1 h2)).1 sb
 let I:List Int->Int->Int->Prop:=λo i k=>0<=i/\i<=a.length/\0<=k/\k<=b.length/\o.Pairwise (· <= ·)/\o.Perm (a.take i.toNat++b.take k.toNat)/\(i<a.length->∀x∈o,x<=((a).getD (i).toNat default))/\(k<b.length->∀x∈o,x<=((b).getD (k).toNat default))
 have sn:∀ {o:List Int} {y:Int},o.Pairwise (· <= ·)->(∀x∈o,x<=y)->(o++ [y]).Pairwise (· <= ·):=λ{o y} g1 g2=>by
  rw [List.pairwise_append];exact⟨g1,List.pairwise_singleton _ _,λx hx z hz=>by rw [List.mem_singleton]at hz;subst hz;exact g2 x hx⟩
 have il:∀o i k,I o i k->(o.length:Int)=i+k:=λo i k ⟨h1,h2,h3,h4,_,h5,_⟩=>by
  have:=h5.length_eq;rw [List.length_append,List.length_take,List.length_take]at this;omega
 have stA:∀o i k,I o i k->i<a.length->(k<b.length->((a).getD (i).toNat default)<=((b).getD (k).toNat default))->I (o++ [((a).getD (i).toNat default)]) (i+1) k:=by
  rintro o i k ⟨h1,h2,h3,h4,h5,h6,h7,h8⟩ hi hk;refine⟨ah,ah,h3,h4,sn h5 (h7 hi),?_,λg x hx=> ?_,λg x hx=> ?_⟩
  .rw [<-cZ (d:=default) h1 hi rfl];refine(h6.append_right _).trans ?_;rw [List.append_assoc,List.append_assoc];exact(List.perm_append_comm).append_left _
  .have:=sa' (i+1) ah g;rw [show i+1-1=i by omega]at this;rw [List.mem_append,List.mem_singleton]at hx;rcases hx with hx | rfl
   .exact Int.le_trans (h7 hi x hx) this
   .exact this
  .rw [List.mem_append,List.mem_singleton]at hx;rcases hx with hx | rfl
   .exact h8 g x hx
   .exact hk g
 have stB:∀o i k,I o i k->k<b.length->(i<a.length->((b).getD (k).toNat default)<=((a).getD (i).toNat default))->I (o++ [((b).getD (k).toNat default)]) i (k+1):=by
  rintro o i k ⟨h1,h2,h3,h4,h5,h6,h7,h8⟩ hk hi;refine⟨h1,h2,ah,ah,sn h5 (h8 hk),?_,λg x hx=> ?_,λg x hx=> ?_⟩
  .rw [<-cZ (d:=default) h3 hk rfl,<-List.append_assoc];exact h6.append_right _
  .rw [List.mem_append,List.mem_singleton]at hx;rcases hx with hx | rfl
   .exact h7 g x hx
   .exact hi g
  .have:=sb' (k+1) ah g;rw [show k+1-1=k by omega]at this;rw [List.mem_append,List.mem_singleton]at hx;rcases hx with hx | rfl
   .exact Int.le_trans (h8 hk x hx) this
   .exact this
 refine aB (λ(y:List Int×List Int×Int×Int×List Int×Unit)=>y.1=a/\y.2.1=b/\I y.2.2.2.2.1 y.2.2.1 y.2.2.2.1) (λy=>(b.length-y.2.2.2.1).toNat)
  ⟨rfl,rfl,by simp,by simp,by simp,by simp,List.Pairwise.nil,by simp,λ_ x hx=>absurd hx (by simp),λ_ x hx=>absurd hx (by simp)⟩ ?_
 rintro⟨(a':List Int),(b':List Int),(i:Int),(k:Int),(o:List Int),⟨⟩⟩ hI;dsimp only at hI ⊢;obtain⟨rfl,rfl,hI⟩:=hI;have hb1:=hI.1;have hb2:=hI.2.1;have hb3:=hI.2.2.1;have hb4:=hI.2.2.2.1;have hol:=il _ _ _ hI;simp (disch:=omega) only [RR];refine⟨λh9=> ?_,λh9=> ?_⟩
 .refine aB (λ(y:List Int×List Int×Int×Int×List Int×Unit)=>y.1=a'/\y.2.1=b'/\y.2.2.2.1=k/\I y.2.2.2.2.1 y.2.2.1 k) (λy=>(a'.length-y.2.2.1).toNat) ⟨rfl,rfl,rfl,hI⟩ ?_;rintro⟨(a2:List Int),(b2:List Int),(i2:Int),(k2:Int),(o2:List Int),⟨⟩⟩ hI2;dsimp only at hI2 ⊢;obtain⟨rfl,rfl,rfl,hI2⟩:=hI2;have hc1:=hI2.1;have hc2:=hI2.2.1;have hol:=il _ _ _ hI2;simp (disch:=omega) only [RR];refine⟨ah,ah,ah,ah,λ⟨g1,g2⟩=>⟨ah,g1,by simp only [List.length_cons,List.length_nil];omega,stA _ _ _ hI2 g1 (λ_=>g2),ah⟩,λg=>⟨ah,h9,by simp only [List.length_cons,List.length_nil];omega,stB _ _ _ hI2 h9 (λg1=> ?_),ah⟩⟩;rw [decide_eq_true g1,Bool.true_and,decide_eq_false_iff_not]at g;omega
 .have e1:List.drop i.toNat (List.take ((a'.length:Int)).toNat a')=a'.drop i.toNat:=by rw [List.take_of_length_le ah]
  rw [e1];refine⟨ah,ah,ah,by rw [List.length_drop];omega,?_⟩;obtain⟨h1,h2,h3,h4,h5,h6,h7,h8⟩:=hI;rw [pX (a:=a'++b') (o:=o++a'.drop i.toNat)]
  .rw [List.pairwise_append];refine⟨h5,List.Pairwise.sublist (List.drop_sublist _ _) sa,λx hx y hy=> ?_⟩;by_cases hi:i<a'.length
   .refine Int.le_trans (h7 hi x hx) ?_;rw [List.drop_eq_getElem_cons (show i.toNat<a'.length by omega)]at hy;have hd:=List.Pairwise.sublist (List.drop_sublist i.toNat _) sa;rw [List.drop_eq_getElem_cons (show i.toNat<a'.length by omega)]at hd;rw [getD_lt (show i.toNat<a'.length by omega)];rcases List.mem_cons.1 hy with rfl | hy
    .exact Int.le_refl _
    .exact List.rel_of_pairwise_cons hd hy
   .rw [List.drop_eq_nil_of_le ah]at hy;exact absurd hy (by simp)
  .rw [List.take_of_length_le (show b'.length<=k.toNat by omega)]at h6;refine(h6.append_right _).trans ?_;rw [List.append_assoc];refine((List.perm_append_comm).append_left _).trans ?_;rw [<-List.append_assoc,List.take_append_drop]
def aN.nf{p:List aj}(h:aN p):Nf p:=(dO.1 h).1
def aN.aok{p:List aj}(h:aN p){m:aj}(hm:m∈p):m.atoms.length<=4/\F.aok m.atoms:=(dO.1 h).2.2 m hm
def IZ{l o:List aj}(h:Nf o)(h2:∀k,cf o k=cf l k%65536)(h3:∀m∈l,aok m.atoms):(bp (IY o),if bp (IY o)then o else [])=((jZ l).1,(jZ l).2):=by
 rw [ads h h2 h3];by_cases c:IY o
 .rw [aP c,if_pos rfl];dsimp only;rw [decide_eq_true (show o.length<=12/\∀m∈o,m.atoms.length<=4 from c),if_pos (show o.length<=12/\∀m∈o,m.atoms.length<=4 from c)]
 .rw [bL c,if_neg (by simp)];dsimp only;rw [decide_eq_false (show¬(o.length<=12/\∀m∈o,m.atoms.length<=4)from c),if_neg (show¬(o.length<=12/\∀m∈o,m.atoms.length<=4)from c)]
def Zr{o l:List aj}(h:Nf o)(h2:∀k,cf o k=cf l k%65536)(h3:∀m∈l,m.atoms.length<1000000000)(h4:o.length<1000000000):Sh o:=⟨h4,λm hm=>by
 obtain⟨m',g1,g2⟩:=h.from h2 hm;rw [<-g2];exact h3 m' g1⟩
structure Y36(pp:List aj×aj×Unit->Bool)(ff:List aj×aj×Unit->List aj×Unit):Prop where
 hp:∀(l:List aj) m,l.length<1000000000->Nf l->1<=m.bD/\m.bD<=65535->m.atoms.length<1000000000->pp (l,m,())=true
 hf:∀(l:List aj) m,l.length<1000000000->Nf l->1<=m.bD/\m.bD<=65535->m.atoms.length<1000000000->Plus l m (ff (l,m,())).1
structure Y37(pp:List aj×Unit->Bool)(ff:List aj×Unit->Bool×List aj×Unit):Prop where
 hp:∀a,Sh a->pp (a,())=true
 hf:∀a,Sh a->ff (a,())=(bp (IY a),if bp (IY a)then a else [],())
def amf{p1 f1 p2 f2 p3 f3}(U1:Y11 p1 f1)(U2:Y36 p2 f2)(U3:Y37 p3 f3)(a b:List aj)(ha:Sh a)(hb:Sh b):XV.F (p1,f1,p2,f2,p3,f3,()) (a,b,()) (λy=>y=((kN a b).1,(kN a b).2,())):=by
 dsimp only [XV,gm];simp (disch:=omega) only [RR,U1.hp a ha,U1.hf a ha,U1.hp b hb,U1.hf b hb,aU,kU];unfold kN;refine⟨λh=> ?_,λ⟨h1,h2⟩=> ?_⟩
 .rw [if_neg];rw [Bool.and_eq_true,aU,aU];rintro⟨g1,g2⟩;rcases h with h | h
  .exact h g1
  .exact h g2
 rw [if_pos (by rw [aP h1,aP h2];rfl)];have l1:=h1.len;have l2:=h2.len;have hl:∀m∈a++b,F.aok m.atoms/\m.atoms.length<1000000000:=λm hm=>by
  rw [List.mem_append]at hm;rcases hm with hm | hm
  .exact⟨(h1.aok hm).2,ha.2 m hm⟩
  .exact⟨(h2.aok hm).2,hb.2 m hm⟩
 refine aB (λ(y:List aj×Int×List aj×Unit)=>y.2.2.1=b/\0<=y.2.1/\y.2.1<=b.length/\Nf y.1/\(∀k,cf y.1 k=cf (a++b.take y.2.1.toNat) k%65536)/\(y.1.length:Int)<=12+y.2.1) (λy=>(b.length-y.2.1).toNat)
  ⟨rfl,by simp,by simp,h1.nf,λk=>by have:=h1.nf.bnd k;simp only [Int.toNat_zero,List.take_zero,List.append_nil];omega,by simp only;omega⟩ ?_
 rintro⟨(o:List aj),(i:Int),(b':List aj),⟨⟩⟩ hI;dsimp only at hI ⊢;obtain⟨rfl,h3,h4,h5,h6,h7⟩:=hI;have so:Sh o:=Zr h5 h6 (λm hm=>(hl m (by rw [List.mem_append]at hm ⊢;exact hm.imp id List.mem_of_mem_take)).2) ah;simp (disch:=omega) only [RR,U3.hp o so,U3.hf o so];refine⟨λh9=> ?_,λh9=> ?_⟩
 .have hm:=h2.nf.co _ (dD (d:=default) h3 h9);have pl:=U2.hf o ((b').getD (i).toNat default) so.1 h5 hm (hb.at _);refine⟨ah,ah,U2.hp o ((b').getD (i).toNat default) so.1 h5 hm (hb.at _),⟨ah,ah,pl.nf,λk=> ?_,by have:=pl.len;omega⟩,ah⟩;rw [pl.cf k,dh,h6 k,<-cZ (d:=default) h3 h9 rfl,<-List.append_assoc,dh (a++_)];omega
 .have:=IZ h5 (λk=>by rw [h6 k,List.take_of_length_le ah]) (λm hm=>(hl m hm).1);exact congrArg (λz:Bool×List aj=>(z.1,z.2,())) this
def amg{p1 f1 p0 f0 p2 f2 p3 f3}(U1:Y11 p1 f1)(U0:Y10 p0 f0)(U2:Y36 p2 f2){p4:List Int×List Int×Unit->Bool}{f4:List Int×List Int×Unit->List Int×Unit}(hp4:∀a b:List Int,a.length<100000000->b.length<100000000->a.Pairwise (· <= ·)->b.Pairwise (· <= ·)->p4 (a,b,())=true)(hf4:∀a b:List Int,a.length<100000000->b.length<100000000->a.Pairwise (· <= ·)->b.Pairwise (· <= ·)->f4 (a,b,())=(dA (a++b),()))(U3:Y37 p3 f3)(a b:List aj)(ha:Sh a)(hb:Sh b):XY.F (p1,f1,p0,f0,p2,f2,p4,f4,p3,f3,()) (a,b,()) (λy=>y=((j6 a b).1,(j6 a b).2,())):=by
 obtain⟨hp1,hf1⟩:=U1;obtain⟨hp0,hf0⟩:=U0;obtain⟨hp2,hf2⟩:=U2;obtain⟨hp3,hf3⟩:=U3;dsimp only [XY,gm];simp (disch:=omega) only [RR,hp1 a ha,hf1 a ha,hp1 b hb,hf1 b hb,aU,kU];unfold j6;refine⟨λh=> ?_,λ⟨h1,h2⟩=> ?_⟩
 .rw [if_neg];rw [Bool.and_eq_true,aU,aU];rintro⟨g1,g2⟩;rcases h with h | h
  .exact h g1
  .exact h g2
 rw [if_pos (by rw [aP h1,aP h2];rfl)];have l1:=h1.len;have l2:=h2.len;have am:∀m∈a,∀n∈b,aok (mulM m n).atoms/\(mulM m n).atoms.length<=8:=λm hm n hn=>by
  obtain⟨g1,g2⟩:=h1.aok hm;obtain⟨g3,g4⟩:=h2.aok hn;refine⟨⟨?_,λk hk=> ?_⟩,?_⟩
  .have:=List.pairwise_mergeSort (le:=λx y:Int=>decide (x<=y)) (λa b c h1 h2=>by simp at*;omega) (λa b=>by simp;omega) (m.atoms++n.atoms);exact this.imp (λh=>by simpa using h)
  .have:k∈m.atoms++n.atoms:=List.mem_mergeSort.1 hk;rw [List.mem_append]at this;rcases this with hk | hk
   .exact g2.2 k hk
   .exact g4.2 k hk
  .show(dA _).length<=8;rw [u7,List.length_append];omega
 have pm:∀m∈prods a b,aok m.atoms/\m.atoms.length<=8:=λm hm=>by
  unfold prods at hm;rw [List.mem_flatMap]at hm;obtain⟨x,hx,hm⟩:=hm;rw [List.mem_map]at hm;obtain⟨y,hy,rfl⟩:=hm;exact am x hx y hy
 let J:List aj->Int->Int->Prop:=λo i k=>Nf o/\(∀t,cf o t=cf (prods (a.take i.toNat) b++(b.take k.toNat).map (mulM ((a).getD (i).toNat default))) t%65536)/\(o.length:Int)<=12*i+k
 refine aB (λ(y:Int×List aj×List aj×List aj×Unit)=>y.2.1=a/\y.2.2.1=b/\0<=y.1/\y.1<=a.length/\J y.2.2.2.1 y.1 0) (λy=>(a.length-y.1).toNat)
  ⟨rfl,rfl,by simp,by simp,⟨⟨List.Pairwise.nil,λm hm=>absurd hm (by simp)⟩,λk=>by simp [cf,prods],by simp⟩⟩ ?_
 rintro⟨(i:Int),(a':List aj),(b':List aj),(o:List aj),⟨⟩⟩ hI;dsimp only at hI ⊢;obtain⟨rfl,rfl,h3,h4,hJ⟩:=hI;have hJ1:=hJ.2.2;have so:Sh o:=Zr (l:=prods (a'.take i.toNat) b') hJ.1 (λt=>by rw [hJ.2.1 t];simp) (λm hm=>by
  have:m∈prods a' b':=by
   unfold prods at hm ⊢;rw [List.mem_flatMap]at hm ⊢;obtain⟨x,hx,hm⟩:=hm;exact⟨x,List.mem_of_mem_take hx,hm⟩
  have:=(pm m this).2;omega) ah
 simp (disch:=omega) only [RR,hp3 o so,hf3 o so];refine⟨λh9=> ?_,λh9=> ?_⟩
 .refine aB (λ(y:Int×Int×List aj×List aj×List aj×Unit)=>y.1=i/\y.2.2.1=a'/\y.2.2.2.1=b'/\0<=y.2.1/\y.2.1<=b'.length/\J y.2.2.2.2.1 i y.2.1) (λy=>(b'.length-y.2.1).toNat) ⟨rfl,rfl,rfl,by simp,by simp,hJ⟩ ?_;rintro⟨(i':Int),(k:Int),(a2:List aj),(b2:List aj),(o2:List aj),⟨⟩⟩ hI;dsimp only at hI ⊢;obtain⟨rfl,rfl,rfl,g1,g2,hK⟩:=hI;have hK1:=hK.2.2;by_cases g3:k<b2.length
  .have ma:((a2).getD (i').toNat default)∈a2:=dD h3 h9;have mb:((b2).getD (k).toNat default)∈b2:=dD g1 g3;have ca:=h1.nf.co _ ma;have cb:=h2.nf.co _ mb;obtain⟨q1,q2⟩:=h1.aok ma;obtain⟨q3,q4⟩:=h2.aok mb;have hm:=IW (show 0<=((a2).getD (i').toNat default).bD by omega) ah (show 0<=((b2).getD (k).toNat default).bD by omega) ah;have am':=(am _ ma _ mb).2;simp (disch:=omega) only [RR,hp0,hf0,hp4 _ _ (show((a2).getD (i').toNat default).atoms.length<100000000 by omega) (show((b2).getD (k).toNat default).atoms.length<100000000 by omega) q2.1 q4.1,hf4 _ _ (show((a2).getD (i').toNat default).atoms.length<100000000 by omega) (show((b2).getD (k).toNat default).atoms.length<100000000 by omega) q2.1 q4.1];have tk:prods (a2.take i'.toNat) b2++(b2.take (k+1).toNat).map (mulM ((a2).getD (i').toNat default))=prods (a2.take i'.toNat) b2++(b2.take k.toNat).map (mulM ((a2).getD (i').toNat default))++ [mulM ((a2).getD (i').toNat default) ((b2).getD (k).toNat default)]:=by
    rw [<-cZ (d:=default) g1 g3 rfl,List.map_append,List.append_assoc];rfl
   refine⟨λ_=>⟨ah,ah,ah,ah,λg4=> ?_,λg4=>⟨⟨ah,ah,hK.1,λt=> ?_,ah⟩,ah⟩⟩,λh=>absurd g3 h⟩
   .have amh:(⟨((a2).getD (i').toNat default).bD*((b2).getD (k).toNat default).bD%65536,dA (((a2).getD (i').toNat default).atoms++((b2).getD (k).toNat default).atoms)⟩:aj).atoms.length<1000000000:=by have:(dA (((a2).getD (i').toNat default).atoms++((b2).getD (k).toNat default).atoms)).length<=8:=am';dsimp only;omega
    have cc:1<=(⟨((a2).getD (i').toNat default).bD*((b2).getD (k).toNat default).bD%65536,dA (((a2).getD (i').toNat default).atoms++((b2).getD (k).toNat default).atoms)⟩:aj).bD/\(⟨((a2).getD (i').toNat default).bD*((b2).getD (k).toNat default).bD%65536,dA (((a2).getD (i').toNat default).atoms++((b2).getD (k).toNat default).atoms)⟩:aj).bD<=65535:=by dsimp only;omega
    have pl:=hf2 o2 _ ah hK.1 cc amh;refine⟨ah,ah,ah,ah,hp2 o2 _ ah hK.1 cc amh,⟨ah,ah,pl.nf,λt=> ?_,by have:=pl.len;omega⟩,ah⟩;rw [pl.cf t,dh,hK.2.1 t,tk,dh (prods _ _++_)];show(_+cf [mulM ((a2).getD (i').toNat default) ((b2).getD (k).toNat default)] t)%65536=_;omega
   .rw [tk,dh,hK.2.1 t];have:cf [mulM ((a2).getD (i').toNat default) ((b2).getD (k).toNat default)] t=0:=by
     rw [aX,gG];have:(mulM ((a2).getD (i').toNat default) ((b2).getD (k).toNat default)).bD=0:=by show((a2).getD (i').toNat default).bD*((b2).getD (k).toNat default).bD%65536=0;omega
     rw [this];split<;>rfl
    rw [this];omega
  .simp (disch:=omega) only [RR];refine⟨λh=>absurd h g3,λ_=>⟨⟨ah,ah,hK.1,λt=> ?_,ah⟩,ah⟩⟩;rw [hK.2.1 t,List.take_of_length_le (show b2.length<=k.toNat by omega),<-Pv,cZ (d:=default) h3 h9 rfl];simp
 .have:=IZ hJ.1 (l:=prods a' b') (λt=>by rw [hJ.2.1 t,List.take_of_length_le (show a'.length<=i.toNat by omega)];simp) (λm hm=>(pm m hm).1);exact congrArg (λz:Bool×List aj=>(z.1,z.2,())) this
def ze{m:aj}(n:Int)(h:aok m.atoms):mulM m ⟨n,[]⟩=⟨m.bD*n%65536,m.atoms⟩:=by
 unfold mulM;rw [<-pX (a:=m.atoms++ []) (o:=m.atoms) h.1 (by simp)]
def vo(a:List aj)(n:aj):prods a [n]=a.map (λm=>mulM m n):=by
 induction a with
 | nil=>rfl
 | cons x a ih=>simp only [prods,List.flatMap_cons,List.map_cons,List.map_nil]at ih ⊢;rw [ih];rfl
def KR{t:List Int}:∀ {l:List aj},(∀m∈l,m.bD=0)->cf l t=0
 | [],_=>rfl
 | m::l,h=>by rw [aX,KR (λm hm=>h m (by simp [hm])),h m (by simp)];split<;>rfl
def bT:aN []:=dO.2 ⟨⟨List.Pairwise.nil,λm hm=>absurd hm (by simp)⟩,by simp,λm hm=>absurd hm (by simp)⟩
def bO(n:Int):aN (aR n):=by
 unfold aR;split
 .refine dO.2 ⟨⟨List.pairwise_singleton _ _,λm hm=> ?_⟩,by simp,λm hm=> ?_⟩
  .rw [List.mem_singleton]at hm;subst hm;assumption
  .rw [List.mem_singleton]at hm;subst hm;exact⟨by simp,List.Pairwise.nil,λk hk=>absurd hk (by simp)⟩
 .exact bT
def jd(n:Int):aN (dS n):=by
 unfold dS;split
 .refine dO.2 ⟨⟨List.pairwise_singleton _ _,λm hm=> ?_⟩,by simp,λm hm=> ?_⟩
  .rw [List.mem_singleton]at hm;subst hm;dsimp only;omega
  .rw [List.mem_singleton]at hm;subst hm;exact⟨by simp,List.pairwise_singleton _ _,λk hk=>by rw [List.mem_singleton]at hk;omega⟩
 .exact bT
def ami{p1 f1 p0 f0 p4 f4 p3 f3}(U1:Y11 p1 f1)(U0:Y10 p0 f0)(U4:Y13 p4 f4)(U3:Y9 p3 f3)(a:List aj)(n:Int)(ha:Sh a):XW.F (p1,f1,p0,f0,p4,f4,p3,f3,()) (a,n,()) (λy=>y=(gT a n,())):=by
 dsimp only [XW,gm];simp (disch:=omega) only [RR,U1.hp a ha,U1.hf a ha,U3.hp,U3.hf,aU,kU,dF,qB];unfold gT;refine⟨λh=> ?_,λ⟨h1,h2⟩=> ?_⟩
 .rw [if_neg];rw [Bool.and_eq_true,aU,dF];rintro⟨g1,g2⟩;rcases h with h | h
  .exact h g1
  .exact h g2
 rw [if_pos (by rw [aP h1,Bool.true_and,dF];exact h2)];have l1:=h1.len;have hss:=h1.nf.ss
 refine aB (λ(y:Int×Int×List aj×List aj×Unit)=>y.1=n/\y.2.2.1=a/\0<=y.2.1/\y.2.1<=a.length/\Nf y.2.2.2.1/\(y.2.2.2.1.length:Int)<=y.2.1/\(∀t,cf y.2.2.2.1 t=cf ((a.take y.2.1.toNat).map (λm=>⟨m.bD*n%65536,m.atoms⟩)) t%65536)
   /\(∀x∈y.2.2.2.1,x.atoms.length<=4/\(y.2.1<a.length->lt x ((a).getD (y.2.1).toNat default)))) (λy=>(a.length-y.2.1).toNat)
  ⟨rfl,rfl,by simp,by simp,⟨List.Pairwise.nil,λm hm=>absurd hm (by simp)⟩,by simp,λt=>by simp [cf],λx hx=>absurd hx (by simp)⟩ ?_
 rintro⟨(n':Int),(i:Int),(a':List aj),(o:List aj),⟨⟩⟩ hI;dsimp only at hI ⊢;obtain⟨rfl,rfl,h3,h4,h5,h6,h7,h8⟩:=hI;have so:Sh o:=⟨ah,λm hm=>by have:=(h8 m hm).1;omega⟩;by_cases h9:i<a'.length
 .have ma:((a').getD (i).toNat default)∈a':=dD h3 h9;have ca:=h1.nf.co _ ma;have qa:=h1.aok ma;have hm:=IW (show 0<=((a').getD (i).toNat default).bD by omega) ah h2.1 h2.2;have nx:i+1<a'.length->lt ((a').getD (i).toNat default) ((a').getD (i+1).toNat default):=λh=>by
   have:=(dH (d:=default) (R:=lt) dN).1 hss (i+1) ah h;rw [show i+1-1=i by omega]at this;exact this
  have tk:(a'.take (i+1).toNat).map (λm:aj=>(⟨m.bD*n'%65536,m.atoms⟩:aj))=(a'.take i.toNat).map (λm:aj=>(⟨m.bD*n'%65536,m.atoms⟩:aj))++ [⟨((a').getD (i).toNat default).bD*n'%65536,((a').getD (i).toNat default).atoms⟩]:=by
   rw [<-cZ (d:=default) h3 h9 rfl,List.map_append];rfl
  simp (disch:=omega) only [RR,U0.hp,U0.hf];refine⟨λ_=>⟨ah,ah,λg=>⟨ah,ah,by simp only [List.length_cons,List.length_nil];omega,⟨ah,ah,?_,?_,λt=> ?_,λx hx=> ?_⟩,ah⟩,λg=>⟨⟨ah,ah,h5,ah,λt=> ?_,λx hx=>⟨(h8 x hx).1,λg2=>dN ((h8 x hx).2 h9) (nx g2)⟩⟩,ah⟩⟩,λh=>absurd h9 h⟩
  .refine⟨?_,λx hx=> ?_⟩
   .rw [List.pairwise_append];exact⟨h5.ss,List.pairwise_singleton _ _,λx hx z hz=>by rw [List.mem_singleton]at hz;subst hz;exact(h8 x hx).2 h9⟩
   .rw [List.mem_append,List.mem_singleton]at hx;rcases hx with hx | rfl
    .exact h5.co x hx
    .dsimp only;omega
  .rw [List.length_append];simp only [List.length_cons,List.length_nil];omega
  .rw [tk,dh,dh,h7 t,aX,gG];dsimp only;by_cases et:((a').getD (i).toNat default).atoms=t
   .rw [if_pos et];have z:cf o t=0:=gQ λx hx e=>((h8 x hx).2 h9).ne (e.trans et.symm)
    rw [h7 t]at z;omega
   .rw [if_neg et];omega
  .rw [List.mem_append,List.mem_singleton]at hx;rcases hx with hx | rfl
   .exact⟨(h8 x hx).1,λg2=>dN ((h8 x hx).2 h9) (nx g2)⟩
   .exact⟨qa.1,λg2=>nx g2⟩
  .rw [tk,dh,h7 t,aX,gG];dsimp only;have:((a').getD (i).toNat default).bD*n'%65536=0:=by omega
   rw [this];split<;>omega
 .simp (disch:=omega) only [RR,U4.hp o so,U4.hf o so];refine⟨λh=>absurd h h9,λ_=> ?_⟩;have eq:∀t,cf o t=cf (prods a' (aR n')) t%65536:=λt=>by
   rw [h7 t,List.take_of_length_le ah];unfold aR;by_cases hn:1<=n'/\n'<=65535
   .rw [if_pos hn,vo]
    congr 2
    exact List.map_congr_left λm hm=>(ze n' (h1.aok hm).2).symm
   .rw [if_neg hn];have hz:n'=0:=by omega
    have hz2:cf (a'.map (λm=>(⟨m.bD*n'%65536,m.atoms⟩:aj))) t=0:=KR λm hm=>by
     rw [List.mem_map]at hm;obtain⟨x,_,rfl⟩:=hm;dsimp only;rw [hz];simp
    rw [hz2,show prods a' []=[] by simp [prods]];rfl
  have fb:IY o:=⟨ah,λm hm=>(h8 m hm).1⟩;have:=IZ h5 eq (λm hm=>by
   unfold aR at hm;split at hm
   .rw [vo,List.mem_map]at hm;obtain⟨x,hx,rfl⟩:=hm;rw [ze n' (h1.aok hx).2];exact(h1.aok hx).2
   .rw [show prods a' []=[] by simp [prods]]at hm;exact absurd hm (by simp))
  unfold j6;rw [if_pos (by rw [aP h1,aP (bO n')];rfl),<-congrArg Prod.snd this];dsimp only;rw [aP fb];rfl
def Zt(l:List aj):(Nf (nf l)/\∀k,cf (nf l) k=cf l k%65536)\/nf l=[]:=by
 by_cases he:∃o,Nf o/\∀k,cf o k=cf l k%65536
 .obtain⟨o,h1,h2⟩:=he;rw [Gu h1 h2];exact Or.inl ⟨h1,h2⟩
 .right;unfold nf;rw [dif_neg he]
def Zu{l:List aj}{n:Int}(h:bq l n):bq (nf l) n:=by
 rcases Zt l with⟨h1,h2⟩ | h1
 .refine bP.2 λm hm k hk=> ?_
  obtain⟨m',g1,g2⟩:=h1.from h2 hm;exact bP.1 h m' g1 k (g2▸hk)
 .rw [h1];exact bP.2 λm hm=>absurd hm (by simp)
def iN(n:Int):bq [] n:=bP.2 λm hm=>absurd hm (by simp)
def Sd(l:List aj):aN (jZ l).2:=by
 unfold jZ;by_cases h:aN (nf l)
 .rw [aP h];exact h
 .rw [bL h];exact bT
def Ey{l:List aj}{n:Int}(h:bq l n):bq (jZ l).2 n:=by
 unfold jZ;dsimp only;split
 .exact Zu h
 .exact iN n
def UG{a b:List aj}{n:Int}(h1:bq a n)(h2:bq b n):bq (a++b) n:=bP.2 λm hm k hk=>by
 rw [List.mem_append]at hm;rcases hm with hm | hm
 .exact bP.1 h1 m hm k hk
 .exact bP.1 h2 m hm k hk
def KS{a b:List aj}{n:Int}(h1:bq a n)(h2:bq b n):bq (prods a b) n:=bP.2 λm hm k hk=>by
 unfold prods at hm;rw [List.mem_flatMap]at hm;obtain⟨x,hx,hm⟩:=hm;rw [List.mem_map]at hm;obtain⟨y,hy,rfl⟩:=hm;have:k∈x.atoms++y.atoms:=List.mem_mergeSort.1 hk;rw [List.mem_append]at this;rcases this with hk | hk
 .exact bP.1 h1 x hx k hk
 .exact bP.1 h2 y hy k hk
def Sg(a b:List aj):aN (kN a b).2:=by unfold kN;split;exact Sd _;exact bT
def adt(a b:List aj):aN (j6 a b).2:=by unfold j6;split;exact Sd _;exact bT
def Ez{a b:List aj}{n:Int}(h1:bq a n)(h2:bq b n):bq (kN a b).2 n:=by unfold kN;split;exact Ey (UG h1 h2);exact iN n
def EA{a b:List aj}{n:Int}(h1:bq a n)(h2:bq b n):bq (j6 a b).2 n:=by unfold j6;split;exact Ey (KS h1 h2);exact iN n
def sH(c n:Int):bq (aR c) n:=bP.2 λm hm k hk=>by
 unfold aR at hm;split at hm
 .rw [List.mem_singleton]at hm;subst hm;exact absurd hk (by simp)
 .exact absurd hm (by simp)
def pY{k n:Int}(h:k<n):bq (dS k) n:=bP.2 λm hm j hj=>by
 unfold dS at hm;split at hm
 .rw [List.mem_singleton]at hm;subst hm;rw [List.mem_singleton]at hj;omega
 .exact absurd hm (by simp)
def aH.sh{t:List Atom}(h:aH t):ShT t:=⟨by have:=h.2;omega,λa ha=>by
 obtain⟨i,hi,rfl⟩:=List.getElem_of_mem ha;have:=(h.1 i ah ah).1;rw [show(i:Int).toNat=i from rfl,getD_lt hi]at this;unfold fU at this;split at this
 .exact⟨this.2.1.sh,this.2.2.1.sh⟩
 .rw [ShA,this.1.1,this.1.2];exact⟨pW,pW⟩⟩
def zf{t:List Atom}{a:Atom}(h:aH t)(h2:t.length<200):aH (bA t a).1/\t.length<=(bA t a).1.length/\(bA t a).1.length<=t.length+1/\(fU a t.length->0<=(bA t a).2):=by
 have hsp:=iH t a;unfold bA;split
 .rename_i h3;exact⟨h,Nat.le_refl _,Nat.le_succ _,λ_=>h3⟩
 .rename_i h3;split
  .rename_i h4;exact⟨h,Nat.le_refl _,Nat.le_succ _,λh5=>by rcases h4 with h4 | h4;exact absurd h5 h4;omega⟩
  .rename_i h4;have h5:fU a t.length:=Classical.byContradiction λh5=>h4 (Or.inl h5)
   refine⟨iq.2 ⟨?_,by rw [List.length_append];simp only [List.length_cons,List.length_nil];omega⟩,by rw [List.length_append];exact Nat.le_add_right _ _,by rw [List.length_append];exact Nat.le_refl _,λ_=>by dsimp only;omega⟩;have hl:((t++ [a]).length:Int)=t.length+1:=by rw [List.length_append];rfl
   have g1:∀i:Int,0<=i->i<t.length->(t++ [a]).getD i.toNat default=t.getD i.toNat default:=λi i1 i2=>by
    rw [getD_lt (show i.toNat< (t++ [a]).length by omega),getD_lt (show i.toNat<t.length by omega),List.getElem_append_left]
   have g2:(t++ [a]).getD ((t.length:Int)).toNat default=a:=by
    rw [getD_lt (show((t.length:Int)).toNat< (t++ [a]).length by omega)];simp
   rw [hl];intro i i1 i2;dsimp only;by_cases i3:i<t.length
   .rw [g1 i i1 i3];have:=(iq.1 h).1 i i1 i3;exact⟨this.1,λj j1 j2=>by dsimp only;rw [g1 j j1 ah];exact this.2 j j1 j2⟩
   .have:i=t.length:=by omega
    subst this;rw [g2];refine⟨h5,λj j1 j2=> ?_⟩;dsimp only;rw [g1 j j1 j2];rcases hsp with⟨_,g⟩ | ⟨g,_⟩
    .exact g j j1 j2
    .exact absurd g h3
def By(b:List Int):Prop:=∀z∈b,0<=z/\z<=255
structure Bt(b:List Int):Prop where
 len:b.length<=2000
 rng:By b
def By.at{b:List Int}(h:By b)(n:Nat):0<=b.getD n default/\b.getD n default<=255:=by
 by_cases h1:n<b.length
 .rw [getD_lt h1];exact h _ (List.getElem_mem _)
 .simp only [List.getD,List.getElem?_eq_none (by omega:b.length<=n)];decide
def Zv(b:List Int)(hb:By b)(hl:b.length<1000000000):Nn.F () (b,()) (λy=>Bt y.1/\y.2.1=0):=by
 dsimp only [Nn,gm];simp (disch:=omega) only [RR];refine⟨λh=>⟨ah,ah,ah,⟨?_,?_⟩⟩,λh=>⟨ah,hb⟩⟩
 .rw [List.length_drop,List.length_take];omega
 .intro z hz;exact hb z (List.mem_of_mem_take (List.mem_of_mem_drop hz))
def ah0{a b:Int}(h1:0<=a)(h2:a<4611686018427387904)(h3:0<=b)(h4:b<4611686018427387904):0<=kJ .xor .i64 a b/\kJ .xor .i64 a b<4611686018427387904:=by
 have e:((2^IntKind.i64.bits:Nat):Int)=18446744073709551616:=by decide
 have e2:kJ .xor .i64 a b=((a.toNat^^^b.toNat:Nat):Int):=by
  unfold kJ;dsimp only;rw [BitVec.toNat_xor,BitVec.toNat_ofInt,BitVec.toNat_ofInt,e,show a%18446744073709551616=a by omega,show b%18446744073709551616=b by omega];have:=Nat.xor_lt_two_pow (show a.toNat<2^62 by omega) (show b.toNat<2^62 by omega);rw [w64 ah ah]
 rw [e2];have:=Nat.xor_lt_two_pow (show a.toNat<2^62 by omega) (show b.toNat<2^62 by omega);omega
def Cz{a b:Int}(h:0<=a):a.tmod b=a%b:=Int.tmod_eq_emod_of_nonneg h
def Si{a b:Int}(h:0<=a):a.tdiv b=a/b:=Int.tdiv_eq_ediv_of_nonneg h
def Pk(n:Int)(b:List Int)(p:Int)(y:Int×List Int×Int×Unit):Prop:=y.2.1=b/\y.2.2.1=p+1/\0<=y.1/\(y.1<n\/y.1=0)
def Zw(n:Int)(b:List Int)(p:Int)(hb:Bt b)(h1:0<=p)(h2:p<1000000000):Np.F () (n,b,p,()) (λy=>Pk n b p y):=by
 have hl:=hb.1;have cvu:∀k:Nat,IntKind.i64.wrap (b.getD k default)=b.getD k default:=λk=>by have:=hb.2.at k;exact w64 ah ah
 dsimp only [Np,gm];simp (disch:=omega) only [RR,cvu];refine⟨λh=>⟨rfl,rfl,ah,Or.inr rfl⟩,λ⟨h3,h4⟩=> ?_⟩;have e1:p+1-1=p:=by omega
 rw [e1];refine⟨λh=>⟨ah,ah,ah,?_⟩,λh=> ?_⟩
 .have:=hb.2.at p.toNat;rw [Cz this.1];exact⟨rfl,rfl,Int.emod_nonneg _ ah,Or.inl (Int.emod_lt_of_pos _ ah)⟩
 .have hb0:(0:Int)<b.length:=by omega
  have k1:=Int.emod_nonneg p (show(b.length:Int)≠0 by omega);have k2:=Int.emod_lt_of_pos p hb0;have k3:=Int.emod_nonneg (p*7+3) (show(b.length:Int)≠0 by omega);have k4:=Int.emod_lt_of_pos (p*7+3) hb0;have k5:0<=p/b.length:=Int.ediv_nonneg h1 ah;have k6:p/b.length<=p:=Int.ediv_le_self _ h1;simp (disch:=omega) only [w64,Cz,Si];have q1:=hb.2.at (p%b.length).toNat;have q2:=hb.2.at ((p*7+3)%b.length).toNat;generalize (b.getD (p%b.length).toNat default)=u at q1 ⊢;generalize (b.getD ((p*7+3)%b.length).toNat default)=v at q2 ⊢;generalize p/b.length=w at k5 k6 ⊢;simp (disch:=omega) only [w64,Cz,Si];have q:=ah0 (a:=u*131+v*1117+p*29+w*53) (b:=(u*131+v*1117+p*29+w*53)/64) ah ah ah ah;rw [Zf];generalize kJ .xor .i64 (u*131+v*1117+p*29+w*53) ((u*131+v*1117+p*29+w*53)/64)=g at q ⊢;rw [Cz q.1];exact⟨h4,k1,k2,h4,k3,k4,h4,ah,ah,rfl,rfl,Int.emod_nonneg _ ah,Or.inl (Int.emod_lt_of_pos _ ah)⟩
structure Y38(pp:Int×List Int×Int×Unit->Bool)(ff:Int×List Int×Int×Unit->Int×List Int×Int×Unit):Prop where
 hp:∀n b p,Bt b->0<=p->p<1000000000->pp (n,b,p,())=true
 hf:∀n b p,Bt b->0<=p->p<1000000000->Pk n b p (ff (n,b,p,()))
def ah1{p1 f1}(U1:Y38 p1 f1)(n:Int)(b:List Int)(p:Int)(hb:Bt b)(h1:0<=p)(h2:p<1000000000):Nu.F (p1,f1,()) (n,b,p,()) (λy=>y.2.1=b/\y.2.2.1=p+1):=by
 obtain⟨e1,e2,_⟩:=U1.hf n b p hb h1 h2;dsimp only [Nu,gm];simp (disch:=omega) only [RR,U1.hp n b p hb h1 h2,e1,e2]
def Wd(b:List Int)(p:Int)(y:Int×List Int×Int×Unit):Prop:=y.2.1=b/\p<=y.2.2.1/\y.2.2.1<=p+3/\(0<=y.1/\y.1<=65535)
def ah2{p1 f1}(U1:Y38 p1 f1)(b:List Int)(p:Int)(hb:Bt b)(h1:0<=p)(h2:p<900000000):Nw.F (p1,f1,()) (b,p,()) (λy=>Wd b p y):=by
 obtain⟨e1,e2,e3,e4⟩:=U1.hf 4 b p hb h1 ah;have P1:∀n,p1 (n,b,p+1,())=true:=λn=>U1.hp n b (p+1) hb ah ah
 have P2:∀n,p1 (n,b,p+1+1,())=true:=λn=>U1.hp n b (p+1+1) hb ah ah
 obtain⟨a1,a2,a3,a4⟩:=U1.hf 9 b (p+1) hb ah ah;obtain⟨b1,b2,b3,b4⟩:=U1.hf 70 b (p+1) hb ah ah;obtain⟨c1,c2,c3,c4⟩:=U1.hf 256 b (p+1) hb ah ah;obtain⟨d1,d2,d3,d4⟩:=U1.hf 256 b (p+1+1) hb ah ah;dsimp only [Nw,gm];simp (disch:=omega) only [RR,U1.hp 4 b p hb h1 ah,P1,P2,e1,e2,a1,a2,b1,b2,c1,c2,d1,d2,List.length_cons,List.length_nil];refine⟨λ_=>⟨ah,ah,ah,ah,rfl,by dsimp only;omega,by dsimp only;omega,?_⟩,λ_=>⟨λ_=>⟨rfl,by dsimp only;omega,by dsimp only;omega,by dsimp only;omega⟩,λ_=>⟨rfl,by dsimp only;omega,by dsimp only;omega,?_⟩⟩⟩
 .dsimp only;have:=dD (d:=default) (xs:=[(0:Int),1,2,3,65535,32768,255,256,65534]) a3 (by simp only [List.length_cons,List.length_nil];omega);generalize List.getD [(0:Int),1,2,3,65535,32768,255,256,65534] _ default=z at this ⊢;simp at this;omega
 .dsimp only;omega
structure Y39(pp:Int×List Int×Int×Unit->Bool)(ff:Int×List Int×Int×Unit->Bool×List Int×Int×Unit):Prop where
 hp:∀n b p,Bt b->0<=p->p<1000000000->pp (n,b,p,())=true
 hf:∀n b p,Bt b->0<=p->p<1000000000->(ff (n,b,p,())).2.1=b/\(ff (n,b,p,())).2.2.1=p+1
structure Y40(pp:List Int×Int×Unit->Bool)(ff:List Int×Int×Unit->Int×List Int×Int×Unit):Prop where
 hp:∀b p,Bt b->0<=p->p<900000000->pp (b,p,())=true
 hf:∀b p,Bt b->0<=p->p<900000000->Wd b p (ff (b,p,()))
structure Y41(pp:List Int×Unit->Bool)(ff:List Int×Unit->List Int×Int×Unit):Prop where
 hp:∀b,By b->b.length<1000000000->pp (b,())=true
 hf:∀b,By b->b.length<1000000000->Bt (ff (b,())).1/\(ff (b,())).2.1=0
structure amj(n:Int)(b:List Int)(p:Int)(y:List Int×Int×List aj×Unit):Prop where
 b:y.1=b
 lo:p<=y.2.1
 hi:y.2.1<=p+200
 ok:aN y.2.2.1
 un:bq y.2.2.1 n
def Px(n:Int)(t:List Atom):Prop:=(t.length:Int)=n/\All n (λi=>((t).getD (i).toNat default)=⟨1,i,[],[]⟩)
def amk{p2 f2}(U2:Y28 p2 f2):XL.F (p2,f2,()) () (λy=>Px 4 y.1/\y.2.1.length=4/\∀p∈y.2.1,Sh p):=by
 dsimp only [XL,gm];simp (disch:=omega) only [RR,U2.hp,U2.hf];refine aB (λ(y:Int×List (List aj)×List Atom×Unit)=>0<=y.1/\y.1<=4/\(y.2.1.length:Int)=y.1/\(∀p∈y.2.1,Sh p)/\Px y.1 y.2.2.1) (λy=>(4-y.1).toNat) ⟨by simp,by simp,by simp,by simp,by simp,All.zero⟩ ?_;rintro⟨(i:Int),(q:List (List aj)),(t:List Atom),⟨⟩⟩ hI;dsimp only at hI ⊢;obtain⟨h1,h2,h3,h0,h4,h5⟩:=hI;simp (disch:=omega) only [RR,U2.hp,U2.hf,List.length_cons,List.length_nil];refine⟨λh6=>⟨ah,ah,⟨ah,ah,by rw [List.length_append];simp only [List.length_cons,List.length_nil];omega,λp hp=>(List.mem_append.1 hp).elim (h0 p) (λg=>by rw [List.mem_singleton.1 g];exact(jd _).sh),by rw [List.length_append];simp only [List.length_cons,List.length_nil];omega,λj j1 j2=> ?_⟩,ah⟩,λh6=> ?_⟩
 .dsimp only;have hl:((t++ [(⟨1,i,[],[]⟩:Atom)]).length:Int)=t.length+1:=by rw [List.length_append];rfl
  by_cases c:j<i
  .have:=h5 j j1 c;dsimp only at this;rw [getD_lt (show j.toNat<t.length by omega)]at this;rw [getD_lt (show j.toNat< (t++ [(⟨1,i,[],[]⟩:Atom)]).length by omega),List.getElem_append_left (show j.toNat<t.length by omega)];exact this
  .have:j=i:=by omega
   subst this;rw [getD_lt (show j.toNat< (t++ [(⟨1,j,[],[]⟩:Atom)]).length by omega),List.getElem_append_right ah];simp
 .rw [show i=4 by omega]at h4 h5;exact⟨⟨h4,h5⟩,ah,h0⟩
structure arz(b:List Int)(p n:Int)(y:List Int×Int×List Atom×Unit):Prop where
 b:y.1=b
 lo:p<=y.2.1
 hi:y.2.1<=p+10000
 sh:ShT y.2.2.1
 ne:0<y.2.2.1.length
 le:(y.2.2.1.length:Int)<=n
structure Y42(pp:List Atom×Int×List aj×List aj×Unit->Bool)(ff:List Atom×Int×List aj×List aj×Unit->List Atom×List aj×Unit):Prop where
 hp:∀t op x y,ShT t->Sh x->Sh y->pp (t,op,x,y,())=true
 hf:∀t op x y,ShT t->Sh x->Sh y->ff (t,op,x,y,())=((ae7 t op x y).1,(ae7 t op x y).2,())
structure Y43(pp:Int×List Int×Int×Unit->Bool)(ff:Int×List Int×Int×Unit->List Int×Int×List aj×Unit):Prop where
 hp:∀n b p,Bt b->0<=n->0<=p->p<500000000->pp (n,b,p,())=true
 hf:∀n b p,Bt b->0<=n->0<=p->p<500000000->amj n b p (ff (n,b,p,()))
structure Y44(pp:Unit->Bool)(ff:Unit->List Atom×List (List aj)×Unit):Prop where
 hp:pp ()=true
 hf:Px 4 (ff ()).1/\(ff ()).2.1.length=4/\∀p∈(ff ()).2.1,Sh p
structure Y45(pp:Int×List Int×Int×Unit->Bool)(ff:Int×List Int×Int×Unit->List Int×Int×List Atom×Unit):Prop where
 hp:∀n b p,Bt b->0<=p->p<300000000->pp (n,b,p,())=true
 hf:∀n b p,Bt b->0<=p->p<300000000->(ff (n,b,p,())).1=b/\p<=(ff (n,b,p,())).2.1/\(ff (n,b,p,())).2.1<=p+20000/\ShT (ff (n,b,p,())).2.2.1/\0< (ff (n,b,p,())).2.2.1.length
def zh{l o:List aj}(h:aN o)(h2:∀k,cf o k=cf l k%65536):jZ l=(true,o):=by
 unfold jZ;rw [Gu h.nf h2,aP h,if_pos rfl]
def EB{x:List aj}(h:aN x):aN (gT x 65535)/\∀k,cf (gT x 65535) k=(65535*cf x k)%65536:=by
 have hc:∀(l:List aj) k,cf (l.map λm=>(⟨m.bD*65535%65536,m.atoms⟩:aj)) k%65536=(65535*cf l k)%65536:=λl k=>by
  induction l with
  | nil=>rfl
  | cons m l ih=>rw [List.map_cons,aX,aX];dsimp only;split<;>omega
 have no:Nf (x.map λm=>(⟨m.bD*65535%65536,m.atoms⟩:aj)):=⟨by
  rw [List.pairwise_map];exact h.nf.ss,λm hm=>by
  rw [List.mem_map]at hm;obtain⟨n,hn,rfl⟩:=hm;have:=h.nf.co n hn;dsimp only;omega⟩
 have ok:aN (x.map λm=>(⟨m.bD*65535%65536,m.atoms⟩:aj)):=dO.2 ⟨no,by rw [List.length_map];exact h.len,λm hm=>by
  rw [List.mem_map]at hm;obtain⟨n,hn,rfl⟩:=hm;exact show n.atoms.length<=4/\aok n.atoms from h.aok hn⟩
 have pe:prods x (aR 65535)=x.map λm=>(⟨m.bD*65535%65536,m.atoms⟩:aj):=by
  unfold aR;rw [if_pos ah,vo];exact List.map_congr_left λm hm=>ze 65535 (h.aok hm).2
 have e:gT x 65535=x.map λm=>(⟨m.bD*65535%65536,m.atoms⟩:aj):=by
  unfold gT j6;rw [if_pos (by rw [aP h];rfl),if_pos (by rw [aP h,aP (bO _)];rfl),pe,zh ok (λk=>by have:=no.bnd k;omega)]
 rw [e];exact⟨ok,λk=>by rw [<-hc];have:=no.bnd k;omega⟩
def sub_self{x:List aj}(h:aN x):fA 2 x x=([],true):=by
 obtain⟨h1,h2⟩:=EB h;unfold fA kN;rw [if_neg ah,if_pos rfl,if_pos (by rw [aP h,aP h1];rfl),zh bT (λk=>by rw [dh,h2,gG];omega)]
def EC{x:List aj}(h:(dG x).2=true):aN x/\x=aR (dG x).1/\0<=(dG x).1/\(dG x).1<=65535:=by
 unfold dG at h ⊢;by_cases c:aN x
 .rw [aP c,if_pos rfl]at h ⊢;refine⟨c,?_⟩;by_cases c1:x.length=0
  .rw [if_pos c1];exact⟨by rw [List.eq_nil_of_length_eq_zero c1];rfl,ah,ah⟩
  .rw [if_neg c1]at h ⊢;by_cases c2:x.length=1/\(x.getD 0 default).atoms.length=0
   .rw [if_pos c2]
    match x,c,c2 with
    | [m],c,c2=>
     have hc:=c.nf.co m (by simp);have ha:m.atoms=[]:=List.eq_nil_of_length_eq_zero c2.2;refine⟨?_,by show 0<=m.bD;omega,by show m.bD<=65535;omega⟩;show [m]=aR m.bD;unfold aR;rw [if_pos hc,<-ha]
   .rw [if_neg c2]at h;exact absurd h (by simp)
 .rw [bL c]at h;exact absurd h (by simp)
def lY{a:Int}(h:0<=a/\a<=65535)(k:List Int):cf (aR a) k=if []=k then a else 0:=by
 unfold aR;by_cases c:1<=a/\a<=65535
 .rw [if_pos c,aX,gG,Int.add_zero]
 .rw [if_neg c,gG];split<;>omega
def gI{a:Int}(h:0<=a/\a<=65535):dG (aR a)=(a,true):=by
 unfold dG;rw [aP (bO a),if_pos rfl];unfold aR;by_cases c:1<=a/\a<=65535
 .rw [if_pos c];rfl
 .rw [if_neg c,show a=0 by omega];rfl
def Py{op a b:Int}(hop:1<=op/\op<=5)(ha:0<=a/\a<=65535)(hb:0<=b/\b<=65535):fA op (aR a) (aR b)=(aR (wdo op a b),true):=by
 have hm:=IW ha.1 ha.2 hb.1 hb.2;unfold fA;by_cases c1:op=1
 .subst c1;have w:wdo 1 a b=(a+b)%65536:=by unfold wdo;rw [if_pos ⟨ha,hb⟩];rfl
  rw [if_pos rfl,w];unfold kN;rw [if_pos (by rw [aP (bO _),aP (bO _)];rfl),zh (bO ((a+b)%65536)) (λk=>by rw [dh,lY ha,lY hb,lY ah];split<;>omega)]
 .rw [if_neg c1];by_cases c2:op=2
  .subst c2;have w:wdo 2 a b=(a-b)%65536:=by unfold wdo;rw [if_pos ⟨ha,hb⟩];rfl
   obtain⟨s1,s2⟩:=EB (bO b);rw [if_pos rfl,w];unfold kN;rw [if_pos (by rw [aP (bO _),aP s1];rfl),zh (bO ((a-b)%65536)) (λk=>by rw [dh,lY ha,s2,lY hb,lY ah];split<;>omega)]
  .rw [if_neg c2];by_cases c3:op=3
   .subst c3;have w:wdo 3 a b=(a*b)%65536:=by unfold wdo;rw [if_pos ⟨ha,hb⟩];rfl
    rw [if_pos rfl,w];unfold j6;rw [if_pos (by rw [aP (bO _),aP (bO _)];rfl),zh (bO ((a*b)%65536)) (λk=> ?_)];rw [lY ah];by_cases p1:1<=a
    .by_cases p2:1<=b
     .have e1:aR a=[⟨a,[]⟩]:=by unfold aR;rw [if_pos ⟨p1,ha.2⟩]
      have e2:aR b=[⟨b,[]⟩]:=by unfold aR;rw [if_pos ⟨p2,hb.2⟩]
      rw [e1,e2,vo,List.map_cons,List.map_nil,ze b ⟨List.Pairwise.nil,λk hk=>absurd hk (by simp)⟩,aX,gG];dsimp only;split<;>omega
     .have e0:b=0:=by omega
      subst e0;rw [show prods (aR a) (aR 0)=[] by simp [prods,aR],gG];split<;>simp
    .have e0:a=0:=by omega
     subst e0;rw [show prods (aR 0) (aR b)=[] by simp [prods,aR],gG];split<;>simp
   .rw [if_neg c3,Sc,gI ha,gI hb];rfl
structure Y46(pp:List Int×Unit->Bool)(ff:List Int×Unit->Int×List aj×List aj×List Atom×Unit):Prop where
 hp:∀c,By c->c.length<1000000000->pp (c,())=true
 hf:∀c,By c->c.length<1000000000->Sh (ff (c,())).2.1/\Sh (ff (c,())).2.2.1/\ShT (ff (c,())).2.2.2.1/\0< (ff (c,())).2.2.2.1.length
structure Y47(pp:Unit->Bool)(ff:Unit->Bool×Unit):Prop where
 hp:pp ()=true
 hf:ff ()=(true,())
structure Y48(pp:List Atom×List Atom×Unit->Bool)(ff:List Atom×List Atom×Unit->Bool×Unit):Prop where
 hp:∀a b,ShT a->pp (a,b,())=true
 hf:∀a b,ShT a->ff (a,b,())=(bp (a=b),())
def wOK(l:List Int):Prop:=∀z∈l,0<=z/\z<=65535
def wOK.at{l:List Int}(h:wOK l)(n:Nat):0<=l.getD n default/\l.getD n default<=65535:=by
 by_cases hn:n<l.length
 .rw [getD_lt hn];exact h _ (List.getElem_mem _)
 .rw [List.getD,List.getElem?_eq_none ah];decide
def vI(v:List Int)(k:Int):Int:=if k<v.length then((v).getD (k).toNat default)else 0
def evM(v:List Int)(c:Int)(l:List Int):Int:=l.foldl (λc k=>c*vI v k%65536) c
def evF(v:List Int)(p:List aj):Int:=p.foldl (λs m=>(s+evM v m.bD m.atoms)%65536) 0
structure Y49(pp:List Int×Unit->Bool)(ff:List Int×Unit->Bool×Unit):Prop where
 hp:∀a,a.length<1000000000->pp (a,())=true
 hf:∀a,a.length<1000000000->ff (a,())=(bp (wOK a),())
structure Y50(pp:List aj×List Int×Unit->Bool)(ff:List aj×List Int×Unit->Int×Unit):Prop where
 hp:∀a v,aN a->wOK v->v.length<1000000000->pp (a,v,())=true
 hf:∀a v,aN a->wOK v->v.length<1000000000->ff (a,v,())=(evF v a,())
def aVal(regs loads ins out:List Int)(a:Atom):Int:=
 if a.kind=1 then vI regs a.k else if a.kind=2 then vI loads a.k else if a.kind=3 then vI ins a.k else wdo a.k (evF out a.x) (evF out a.y)
def tv(regs loads ins:List Int)(t:List Atom):List Int:=t.foldl (λo a=>o++ [aVal regs loads ins o a]) []
def wOK.snoc{l:List Int}(h:wOK l){x:Int}(hx:0<=x/\x<=65535):wOK (l++ [x]):=λz hz=>by
 rw [List.mem_append,List.mem_singleton]at hz;rcases hz with hz | rfl
 .exact h z hz
 .exact hx
def ah3{p1 f1}(U1:Y40 p1 f1)(n:Int)(b:List Int)(p:Int)(hb:Bt b)(hn:0<=n/\n<=100)(h1:0<=p)(h2:p<800000000):NH.F (p1,f1,()) (n,b,p,()) (λ(y:List Int×Int×List Int×Unit)=>y.1=b/\p<=y.2.1/\y.2.1<=p+300/\y.2.2.1.length=n/\wOK y.2.2.1):=by
 dsimp only [NH,gm];simp (disch:=omega) only [RR];refine aB (λ(y:Int×Int×List Int×Int×List Int×Unit)=>y.1=n/\0<=y.2.1/\y.2.1<=n/\y.2.2.1=b/\p<=y.2.2.2.1/\y.2.2.2.1<=p+3*y.2.1/\y.2.2.2.2.1.length=y.2.1/\wOK y.2.2.2.2.1) (λy=>(n-y.2.1).toNat) ⟨rfl,by simp,by simp;omega,rfl,by simp,by simp,rfl,λz hz=>(by cases hz)⟩ ?_;rintro⟨(n':Int),(k:Int),(b':List Int),(q:Int),(o:List Int),⟨⟩⟩ hI;dsimp only at hI ⊢;obtain⟨rfl,k1,k2,rfl,k3,k4,k5,k6'⟩:=hI;obtain⟨a1,a2,a3,a4⟩:=U1.hf b' q hb ah ah;simp (disch:=omega) only [RR,U1.hp b' q hb ah ah,List.length_append,List.length_cons,List.length_nil];exact⟨λk6=>⟨ah,⟨ah,ah,a1,ah,ah,ah,k6'.snoc a4⟩,ah⟩,λk6=>⟨ah,ah,ah,k6'⟩⟩
def ins(c:Int)(at_:List Int):List aj->List aj
 | []=>if c%65536=0 then []else [⟨c%65536,at_⟩]
 | m::o=>if eO at_ m.atoms<0 then(if c%65536=0 then m::o else⟨c%65536,at_⟩::m::o)
  else if at_=m.atoms then(if(c+m.bD)%65536=0 then o else⟨(c+m.bD)%65536,at_⟩::o)else m::ins c at_ o
def Zx{c:Int}{a:List Int}{x:aj}(hx:eO x.atoms a<0):∀ {o:List aj},(∀y∈o,lt x y)->∀y∈ins c a o,lt x y
 | [],_,y,hy=>by
  unfold ins at hy;split at hy
  .cases hy
  .rw [List.mem_singleton]at hy;subst hy;exact hx
 | m::o,h,y,hy=>by
  unfold ins at hy;split at hy
  .split at hy
   .exact h y hy
   .rcases List.mem_cons.1 hy with rfl | hy
    .exact hx
    .exact h y hy
  .split at hy
   .split at hy
    .exact h y (List.mem_cons_of_mem _ hy)
    .rcases List.mem_cons.1 hy with rfl | hy
     .exact hx
     .exact h y (List.mem_cons_of_mem _ hy)
   .rcases List.mem_cons.1 hy with rfl | hy
    .exact h _ (List.mem_cons_self ..)
    .exact Zx hx (λz hz=>h z (List.mem_cons_of_mem _ hz)) y hy
def Zy(c:Int)(a:List Int):∀ {o:List aj},Nf o->Nf (ins c a o)/\∀k,cf (ins c a o) k=((if a=k then c else 0)+cf o k)%65536
 | [],h=>by
  unfold ins;by_cases h1:c%65536=0
  .rw [if_pos h1];exact⟨h,λk=>by rw [gG];split<;>omega⟩
  .rw [if_neg h1];refine⟨⟨List.pairwise_singleton _ _,λm hm=>by rw [List.mem_singleton]at hm;subst hm;dsimp only;omega⟩,λk=> ?_⟩;rw [aX,gG];dsimp only;split<;>omega
 | m::o,h=>by
  have hb:=h.bnd;have ho:Nf o:=⟨h.ss.tail,λx hx=>h.co x (List.mem_cons_of_mem _ hx)⟩;have hm:=h.co m (List.mem_cons_self ..);unfold ins;by_cases h1:eO a m.atoms<0
  .rw [if_pos h1];by_cases h2:c%65536=0
   .rw [if_pos h2];exact⟨h,λk=>by have:=hb k;split<;>omega⟩
   .rw [if_neg h2];have g:Nf (⟨c%65536,a⟩::m::o):=⟨List.pairwise_cons.2 ⟨λy hy=>by
     rcases List.mem_cons.1 hy with rfl | hy
     .exact h1
     .exact dN (b:=m) h1 (List.rel_of_pairwise_cons h.ss hy),h.ss⟩,λx hx=>by
     rcases List.mem_cons.1 hx with rfl | hx
     .dsimp only;omega
     .exact h.co x hx⟩
    refine⟨g,λk=> ?_⟩;have hk:=hb k;have gk:=g.bnd k;rw [aX]at gk ⊢;dsimp only at gk ⊢;split<;>split at gk<;>omega
  .rw [if_neg h1];by_cases h2:a=m.atoms
   .rw [if_pos h2];by_cases h3:(c+m.bD)%65536=0
    .rw [if_pos h3];refine⟨ho,λk=> ?_⟩;have ok:=ho.bnd k;have hk:=hb k;rw [aX]at hk ⊢;rw [h2];by_cases h4:m.atoms=k
     .rw [if_pos h4,if_pos h4];have:cf o k=0:=gQ λx hx e=>(List.rel_of_pairwise_cons h.ss hx:lt m x).ne (h4.trans e.symm)
      omega
     .rw [if_neg h4,if_neg h4];omega
    .rw [if_neg h3];have g:Nf (⟨(c+m.bD)%65536,a⟩::o):=⟨List.pairwise_cons.2 ⟨λy hy=>by
      have:lt m y:=List.rel_of_pairwise_cons h.ss hy;unfold lt at this ⊢;rw [h2];exact this,ho.ss⟩,λx hx=>by
      rcases List.mem_cons.1 hx with rfl | hx
      .dsimp only;omega
      .exact ho.co x hx⟩
     refine⟨g,λk=> ?_⟩;have ok:=ho.bnd k;rw [aX,aX];dsimp only;rw [h2];by_cases h4:m.atoms=k
     .rw [if_pos h4,if_pos h4,if_pos h4];have:cf o k=0:=gQ λx hx e=>(List.rel_of_pairwise_cons h.ss hx:lt m x).ne (h4.trans e.symm)
      omega
     .rw [if_neg h4,if_neg h4,if_neg h4];omega
   .rw [if_neg h2];obtain⟨i1,i2⟩:=Zy c a ho;have hlt:eO m.atoms a<0:=by
     have:=lG m.atoms a;by_cases z:eO m.atoms a=0
     .exact absurd (iM.1 z).symm h2
     .omega
    refine⟨⟨List.pairwise_cons.2 ⟨Zx hlt (λy hy=>List.rel_of_pairwise_cons h.ss hy),i1.ss⟩,λx hx=>by
     rcases List.mem_cons.1 hx with rfl | hx
     .exact hm
     .exact i1.co x hx⟩,λk=> ?_⟩
    rw [aX,aX,i2 k];by_cases h4:m.atoms=k
    .have:cf o k=0:=gQ λx hx e=>(List.rel_of_pairwise_cons h.ss hx:lt m x).ne (h4.trans e.symm)
     rw [if_pos h4,if_neg (by rw [<-h4];exact h2),this];omega
    .rw [if_neg h4];omega
def afc:∀l:List aj,∃o,Nf o/\∀k,cf o k=cf l k%65536
 | []=>⟨[],⟨List.Pairwise.nil,λm hm=>by cases hm⟩,λk=>rfl⟩
 | m::l=>by
  obtain⟨o,h1,h2⟩:=afc l;obtain⟨g1,g2⟩:=Zy m.bD m.atoms h1;refine⟨_,g1,λk=> ?_⟩;rw [g2,aX,h2];split<;>omega
def I4(l:List aj):Nf (nf l)/\∀k,cf (nf l) k=cf l k%65536:=by
 obtain⟨o,h1,h2⟩:=afc l;rw [Gu h1 h2];exact⟨h1,h2⟩
def Zz{op:Int}(hop:1<=op/\op<=5){x y:List aj}(hx:aN x)(hy:aN y):aN (fA op x y).1:=by
 unfold fA;split
 .exact Sg _ _
 .split
  .exact Sg _ _
  .split
   .exact adt _ _
   .unfold vH
    repeat' split
    all_goals first | exact bO _ | exact bT | assumption
structure Y51(pp:List aj×List Int×Unit->Bool)(ff:List aj×List Int×Unit->Int×Unit):Prop where
 hp:∀a v,Sh a->v.length<1000000000->pp (a,v,())=true
 hf:∀a v,Sh a->v.length<1000000000->ff (a,v,())=(if bp (aN a/\wOK v)then evF v a else 0,())
abbrev hX(o : IOp) : Prop := o.kind ≠ 1 /\ o.kind ≠ 2 /\ o.kind ≠ 6
abbrev hY(o : IOp) : Prop := o.kind = 3 \/ o.kind = 5
abbrev mkV(o : IOp) : Prop := (1 <= o.kind /\ o.kind <= 4) \/ o.kind = 6
abbrev evO(o : IOp) : Prop := 4 <= o.kind /\ o.kind <= 7
def Vl(ops:List IOp)(x n:Int):Prop:=0<=x/\x<n/\mkV ((ops).getD (x).toNat default)
structure lC(ops:List IOp)(len i:Int)(o:IOp):Prop where
 kd:1<=o.kind/\o.kind<=8
 x1:hX o->Vl ops o.x i
 x0:¬hX o->o.x=0
 y1:hY o->Vl ops o.y i
 y0:¬hY o->o.y=0
 k1:o.kind=1->0<=o.k/\o.k<=65535
 k2:o.kind=2\/o.kind=8->0<=o.k/\o.k<=3
 k3:o.kind=3->1<=o.k/\o.k<=5
 k0:4<=o.kind->o.kind<=7->o.k=0
 a1:evO o->0<=o.at_/\o.at_<len
 a0:¬evO o->o.at_=0
structure GD(b:Blk):Prop where
 f:1<=b.fin/\b.fin<=4
 x1:b.fin≠1->Vl b.ops b.x b.ops.length
 x0:b.fin=1->b.x=0
 y1:3<=b.fin->Vl b.ops b.y b.ops.length
 y0:b.fin<=2->b.y=0
 k1:b.fin≠2->0<=b.k/\b.k<=65535
 k0:b.fin=2->b.k=0
structure cu(b:Blk):Prop where
 ln:1<=b.len/\b.len<=8
 pc:0<=b.pc/\b.pc<=64-b.len
 sz:b.ops.length<=48
 op:∀i:Int,0<=i->i<b.ops.length->lC b.ops b.len i ((b.ops).getD (i).toNat default)
 en:GD b
structure SS where
 t:List Atom
 regs:List (List aj)
 vals:List (List aj)
 ld:Int
 inn:Int
 evs:List Ev
def xOf(s:SS)(o:IOp):List aj:=if hX o then((s.vals).getD (o.x).toNat default)else []
def yOf(s:SS)(o:IOp):List aj:=if hY o then((s.vals).getD (o.y).toNat default)else []
def aOf(s:SS)(o:IOp):Atom:=if o.kind=4 then⟨2,s.ld,[],[]⟩else⟨3,s.inn,[],[]⟩
noncomputable def nT (s:SS) (o:IOp):List Atom:=if o.kind=3 then(tDo s.t o.k (xOf s o) (yOf s o)).1 else if o.kind=4\/o.kind=6 then(bA s.t (aOf s o)).1 else s.t
noncomputable def nV (s:SS) (o:IOp):List aj:=if o.kind=1 then aR o.k else if o.kind=2 then((s.regs).getD (o.k).toNat default)else if o.kind=3 then(tDo s.t o.k (xOf s o) (yOf s o)).2 else if o.kind=4\/o.kind=6 then dS (bA s.t (aOf s o)).2 else []
def nR(s:SS)(o:IOp):List (List aj):=if o.kind=8 then s.regs.set o.k.toNat (xOf s o)else s.regs
def nE(s:SS)(o:IOp):List Ev:=if evO o then s.evs++ [⟨o.kind,o.at_,xOf s o,yOf s o,if o.kind=4\/o.kind=5 then s.regs else []⟩]else s.evs
noncomputable def stp (s:SS) (o:IOp):SS:=⟨nT s o,nR s o,s.vals++ [nV s o],if o.kind=4 then s.ld+1 else s.ld,if o.kind=6 then s.inn+1 else s.inn,nE s o⟩
noncomputable def rN (t:List Atom):Nat->List Atom×List (List aj)
 | 0=>(t,[])
 | n+1=>((bA (rN t n).1 ⟨1,n,[],[]⟩).1,(rN t n).2++ [dS (bA (rN t n).1 ⟨1,n,[],[]⟩).2])
noncomputable def s0 (t:List Atom):SS:=⟨(rN t 4).1,(rN t 4).2,[],0,0,[]⟩
noncomputable def dK (t:List Atom) (b:Blk):SS:=b.ops.foldl stp (s0 t)
def jL(b:Blk)(s:SS):Sym:=⟨s.evs,s.regs,b.fin,if b.fin=1 then []else((s.vals).getD (b.x).toNat default),if 3<=b.fin then((s.vals).getD (b.y).toNat default)else [],b.k⟩
def UH:Sym:=⟨[],[],0,[],[],0⟩
noncomputable def symEnd (s:Sym) (behind:Int):Sym:=
 if bp (aN s.x/\aN s.y)=false then UH
 else if s.fin=2/\(dG s.x).2=true then⟨s.events,s.regs,1,[],[],(dG s.x).1⟩
 else if s.fin≠3/\s.fin≠4 then s
 else if s.x=s.y\/(dG s.x).2=true/\(dG s.y).2=true then
  ⟨s.events,s.regs,1,[],[],if s.x=s.y/\s.fin=3\/((dG s.x).2=true/\(dG s.y).2=true)/\(s.fin=3/\(dG s.x).1=(dG s.y).1\/s.fin=4/\(dG s.x).1< (dG s.y).1)then s.k else behind⟩
 else if s.fin=3/\0<fJ s.x s.y then⟨s.events,s.regs,s.fin,s.y,s.x,s.k⟩else s
noncomputable def bK (t:List Atom) (b:Blk):List Atom×Sym:=if bp (aH t/\t.length<=100/\cu b)=true then((dK t b).t,symEnd (jL b (dK t b)) (b.pc+b.len))else([],UH)
def sI(t:List Atom)(a:Atom):t<+:(bA t a).1:=by
 unfold bA;split
 .exact List.prefix_refl _
 .split
  .exact List.prefix_refl _
  .exact List.prefix_append _ _
def jG{α:Type}{a b:List α}(h:a<+:b):a.length<=b.length:=h.length_le
def I5{α:Type}{d:α}{a b:List α}(h:a<+:b){i:Int}(h1:i.toNat<a.length):b.getD i.toNat d=a.getD i.toNat d:=by
 obtain⟨c,rfl⟩:=h;rw [getD_lt h1,getD_lt (by rw [List.length_append];omega),List.getElem_append_left h1]
def qb{t:List Atom}{a:Atom}(h:0<=(bA t a).2):(bA t a).2< (bA t a).1.length/\(((bA t a).1).getD ((bA t a).2).toNat default)=a:=by
 have hsp:=iH t a
 revert h
 unfold bA;split
 .intro h;rcases hsp with⟨h1,_⟩ | ⟨_,h2,h3,_⟩
  .exact absurd h (by dsimp only;omega)
  .exact⟨h2,h3.symm⟩
 .split
  .intro h;exact absurd h (by dsimp only;omega)
  .intro _;dsimp only;refine⟨by rw [List.length_append];simp only [List.length_cons,List.length_nil];omega,?_⟩;rw [getD_lt (by rw [List.length_append];simp only [List.length_cons,List.length_nil];omega)];simp
def Pz{u:List Atom}{a:Atom}(hu:aH u){k:Int}(h0:0<=k)(h1:k<u.length)(h2:((u).getD (k).toNat default)=a):bA u a=(u,k):=by
 have hf:qC u a=k:=by
  refine(iH u a).uniq (Or.inr ⟨h0,h1,h2.symm,λj j1 j2=> ?_⟩);have:=(iq.1 hu).1 k h0 h1;have g:=this.2 j j1 j2;dsimp only at g ⊢;rw [h2]at g;exact g
 unfold bA;rw [hf,if_pos h0]
def zi{t u:List Atom}{a:Atom}(hu:aH u)(h:0<=(bA t a).2)(hp:(bA t a).1<+:u):bA u a=(u,(bA t a).2):=by
 obtain⟨g1,g2⟩:=qb h;have:=jG hp;exact Pz hu h ah (by rw [I5 hp ah,g2])
def KT{op n:Int}{x y:List aj}(ux:bq x n)(uy:bq y n):bq (fA op x y).1 n:=by
 unfold fA;split
 .exact Ez ux uy
 .split
  .refine Ez ux ?_;unfold gT;split
   .exact EA uy (sH _ _)
   .exact iN _
  .split
   .exact EA ux uy
   .unfold vH
    repeat' split
    all_goals first | exact ux | exact uy | exact iN _ | exact sH _ _
structure ah4(t:List Atom)(op:Int)(x y:List aj):Prop where
 tok:aH (tDo t op x y).1
 pre:t<+:(tDo t op x y).1
 len:(tDo t op x y).1.length<=t.length+1
 pok:aN (tDo t op x y).2
 und:bq (tDo t op x y).2 (tDo t op x y).1.length
 ok:tOk t op x y=true
def adu{t:List Atom}{op:Int}{x y:List aj}(h:aH t)(h2:t.length<200)(h3:1<=op/\op<=5)(hx:aN x)(hy:aN y)(ux:bq x t.length)(uy:bq y t.length):ah4 t op x y:=by
 by_cases c:(fA op x y).2=true
 .have e:tDo t op x y=(t,(fA op x y).1):=by unfold tDo;rw [if_pos c]
  refine⟨?_,?_,?_,?_,?_,by unfold tOk;rw [c];rfl⟩<;>rw [e]
  .exact h
  .exact List.prefix_refl _
  .exact Nat.le_succ _
  .exact Zz h3 hx hy
  .exact KT ux uy
 .have key:∀x' y',aN x'->aN y'->bq x' t.length->bq y' t.length->0<=(bA t ⟨4,op,x',y'⟩).2/\aH (bA t ⟨4,op,x',y'⟩).1/\(bA t ⟨4,op,x',y'⟩).1.length<=t.length+1:=λx' y' a1 a2 a3 a4=>by
   have p1:=zf (a:=⟨4,op,x',y'⟩) h h2;have q1:=p1.2.2.2 (by unfold fU;rw [if_pos rfl];exact⟨h3,a1,a2,a3,a4⟩);exact⟨q1,p1.1,p1.2.2.1⟩
  by_cases c2:op≠2/\0<fJ x y
  .obtain⟨k1,k2,k3⟩:=key y x hy hx uy ux;have e:tDo t op x y=((bA t ⟨4,op,y,x⟩).1,dS (bA t ⟨4,op,y,x⟩).2):=by unfold tDo;rw [if_neg c,if_pos c2,if_neg ah]
   refine⟨?_,?_,?_,?_,?_,by unfold tOk;rw [if_pos c2,decide_eq_false ah,Bool.not_false,Bool.or_true]⟩<;>rw [e]
   .exact k2
   .exact sI _ _
   .exact k3
   .exact jd _
   .exact pY (qb k1).1
  .obtain⟨k1,k2,k3⟩:=key x y hx hy ux uy;have e:tDo t op x y=((bA t ⟨4,op,x,y⟩).1,dS (bA t ⟨4,op,x,y⟩).2):=by unfold tDo;rw [if_neg c,if_neg c2,if_neg ah]
   refine⟨?_,?_,?_,?_,?_,by unfold tOk;rw [if_neg c2,decide_eq_false ah,Bool.not_false,Bool.or_true]⟩<;>rw [e]
   .exact k2
   .exact sI _ _
   .exact k3
   .exact jd _
   .exact pY (qb k1).1
def ZA{t u:List Atom}{op:Int}{x y:List aj}(hu:aH u)(h:tOk t op x y=true)(hp:(tDo t op x y).1<+:u):tDo u op x y=(u,(tDo t op x y).2):=by
 by_cases c:(fA op x y).2=true
 .unfold tDo;rw [if_pos c,if_pos c]
 .by_cases c2:op≠2/\0<fJ x y
  .have k1:0<=(bA t ⟨4,op,y,x⟩).2:=by
    unfold tOk at h;rw [if_pos c2,Bool.or_eq_true,Bool.not_eq_true',decide_eq_false_iff_not]at h;have:=h.resolve_left c;omega
   have e:tDo t op x y=((bA t ⟨4,op,y,x⟩).1,dS (bA t ⟨4,op,y,x⟩).2):=by unfold tDo;rw [if_neg c,if_pos c2,if_neg ah]
   rw [e]at hp ⊢;have:=zi hu k1 hp;unfold tDo;rw [if_neg c,if_pos c2,this,if_neg (by dsimp only;omega)]
  .have k1:0<=(bA t ⟨4,op,x,y⟩).2:=by
    unfold tOk at h;rw [if_neg c2,Bool.or_eq_true,Bool.not_eq_true',decide_eq_false_iff_not]at h;have:=h.resolve_left c;omega
   have e:tDo t op x y=((bA t ⟨4,op,x,y⟩).1,dS (bA t ⟨4,op,x,y⟩).2):=by unfold tDo;rw [if_neg c,if_neg c2,if_neg ah]
   rw [e]at hp ⊢;have:=zi hu k1 hp;unfold tDo;rw [if_neg c,if_neg c2,this,if_neg (by dsimp only;omega)]
structure SI(n:Int)(i:Nat)(s:SS):Prop where
 tok:aH s.t
 tl:(s.t.length:Int)<=n+i
 r4:s.regs.length=4
 rok:∀p∈s.regs,aN p/\bq p s.t.length
 vl:s.vals.length=i
 vok:∀p∈s.vals,aN p/\bq p s.t.length
 ld:0<=s.ld/\s.ld<=i
 inn:0<=s.inn/\s.inn<=i
def xR{l:List (List aj)}{n:Int}(h:∀p∈l,aN p/\bq p n)(i:Int):aN ((l).getD (i).toNat default)/\bq ((l).getD (i).toNat default) n:=by
 by_cases c:i.toNat<l.length
 .rw [getD_lt c];exact h _ (List.getElem_mem _)
 .rw [List.getD_eq_getElem?_getD,List.getElem?_eq_none ah];exact⟨bT,iN _⟩
def SI.x{n:Int}{i:Nat}{s:SS}(h:SI n i s)(o:IOp):aN (xOf s o)/\bq (xOf s o) s.t.length:=by
 unfold xOf;split
 .exact xR h.vok _
 .exact⟨bT,iN _⟩
def SI.y{n:Int}{i:Nat}{s:SS}(h:SI n i s)(o:IOp):aN (yOf s o)/\bq (yOf s o) s.t.length:=by
 unfold yOf;split
 .exact xR h.vok _
 .exact⟨bT,iN _⟩
def Sj{n:Int}{i:Nat}{s:SS}(h:SI n i s)(hi:i<200)(o:IOp)(m:Int):fU (aOf s o) m:=by
 have h1:=h.ld;have h2:=h.inn;unfold aOf;split
 .unfold fU;rw [if_neg (by simp)];exact⟨⟨rfl,rfl⟩,Or.inr ⟨Or.inl rfl,by dsimp only;omega,by dsimp only;omega⟩⟩
 .unfold fU;rw [if_neg (by simp)];exact⟨⟨rfl,rfl⟩,Or.inr ⟨Or.inr rfl,by dsimp only;omega,by dsimp only;omega⟩⟩
structure SOK(s:SS)(o:IOp):Prop where
 pre:s.t<+:(stp s o).t
 d:o.kind=3->ah4 s.t o.k (xOf s o) (yOf s o)
 p:o.kind=4\/o.kind=6->0<=(bA s.t (aOf s o)).2
def xS{n:Int}{i:Nat}{s:SS}{o:IOp}(h:SI n i s)(hk:o.kind=3->1<=o.k/\o.k<=5)(hn:n+i<200)(hi:i<200):SI n (i+1) (stp s o)/\SOK s o:=by
 have hl:=h.tl;have tl:s.t.length<200:=by omega
 have hd:o.kind=3->ah4 s.t o.k (xOf s o) (yOf s o):=λe=>adu h.tok tl (hk e) (h.x o).1 (h.y o).1 (h.x o).2 (h.y o).2
 have hput:=zf (a:=aOf s o) h.tok tl;have hp:=hput.2.2.2 (Sj h hi o _);have T:aH (nT s o)/\(nT s o).length<=s.t.length+1/\s.t<+:nT s o:=by
  unfold nT;split
  .rename_i e;have:=hd e;exact⟨this.tok,this.len,this.pre⟩
  .split
   .exact⟨hput.1,hput.2.2.1,sI _ _⟩
   .exact⟨h.tok,Nat.le_succ _,List.prefix_refl _⟩
 have up:∀ {p:List aj},aN p/\bq p s.t.length->aN p/\bq p (nT s o).length:=λhp=>⟨hp.1,vk hp.2 (by have:=jG T.2.2;omega)⟩
 have V:aN (nV s o)/\bq (nV s o) (nT s o).length:=by
  unfold nV;split
  .exact⟨bO _,sH _ _⟩
  .split
   .exact up (xR h.rok _)
   .split
    .rename_i e;have:=hd e;refine⟨this.pok,?_⟩;have e2:nT s o=(tDo s.t o.k (xOf s o) (yOf s o)).1:=by unfold nT;rw [if_pos e]
     rw [e2];exact this.und
    .split
     .rename_i e1 e2;have e3:nT s o=(bA s.t (aOf s o)).1:=by unfold nT;rw [if_neg ah,if_pos e2]
      rw [e3];exact⟨jd _,pY (qb hp).1⟩
     .exact⟨bT,iN _⟩
 have g1:=h.ld;have g2:=h.inn;refine⟨⟨T.1,?_,?_,?_,?_,?_,?_,?_⟩,⟨T.2.2,hd,λ_=>hp⟩⟩
 .have:=T.2.1;show((nT s o).length:Int)<=_;omega
 .show(nR s o).length=4;unfold nR;split
  .rw [List.length_set];exact h.r4
  .exact h.r4
 .show∀p∈nR s o,_;intro p hp;unfold nR at hp;split at hp
  .rcases List.mem_or_eq_of_mem_set hp with hp | rfl
   .exact up (h.rok p hp)
   .exact up (h.x o)
  .exact up (h.rok p hp)
 .show(s.vals++ [nV s o]).length=i+1;rw [List.length_append,h.vl];rfl
 .show∀p∈s.vals++ [nV s o],_;intro p hp;rw [List.mem_append,List.mem_singleton]at hp;rcases hp with hp | rfl
  .exact up (h.vok p hp)
  .exact V
 .show 0<=(if o.kind=4 then s.ld+1 else s.ld)/\(if o.kind=4 then s.ld+1 else s.ld)<=_;split<;>omega
 .show 0<=(if o.kind=6 then s.inn+1 else s.inn)/\(if o.kind=6 then s.inn+1 else s.inn)<=_;split<;>omega
def qc{n:Int}:∀(ops:List IOp) (i:Nat) (s:SS),SI n i s->(∀o∈ops,o.kind=3->1<=o.k/\o.k<=5)->n+i+ops.length<=200->i+ops.length<=200->SI n (i+ops.length) (ops.foldl stp s)/\s.t<+:(ops.foldl stp s).t
 | [],i,s,h,_,_,_=>⟨h,List.prefix_refl _⟩
 | o::r,i,s,h,hk,h1,h2=>by
  rw [List.length_cons]at h1 h2;obtain⟨a1,a2⟩:=xS h (hk o List.mem_cons_self) ah ah;obtain⟨b1,b2⟩:=qc r (i+1) (stp s o) a1 (λo ho=>hk o (List.mem_cons_of_mem _ ho)) ah ah;rw [List.foldl_cons,List.length_cons,show i+(r.length+1)=i+1+r.length by omega];exact⟨b1,a2.pre.trans b2⟩
structure RI(t:List Atom)(n:Nat)(r:List Atom×List (List aj)):Prop where
 tok:aH r.1
 tl:r.1.length<=t.length+n
 pre:t<+:r.1
 r4:r.2.length=n
 rok:∀p∈r.2,aN p/\bq p r.1.length
def BM{t:List Atom}(h:aH t)(hl:t.length<=196):∀n:Nat,n<=4->RI t n (rN t n)
 | 0,_=>⟨h,Nat.le_refl _,List.prefix_refl _,rfl,λp hp=>absurd hp (by simp [rN])⟩
 | n+1,hn=>by
  have ih:=BM h hl n ah;have l:=ih.tl;have hp:=zf (a:=⟨1,n,[],[]⟩) ih.tok ah;have h0:=hp.2.2.2 (by unfold fU;rw [if_neg (by simp)];exact⟨⟨rfl,rfl⟩,Or.inl ⟨rfl,by dsimp only;omega,by dsimp only;omega⟩⟩);have pr:=sI (rN t n).1 ⟨1,n,[],[]⟩;unfold rN;refine⟨hp.1,?_,ih.pre.trans pr,?_,λp h=> ?_⟩
  .have:=hp.2.2.1;dsimp only;omega
  .dsimp only;rw [List.length_append,ih.r4];rfl
  .dsimp only at h ⊢;rw [List.mem_append,List.mem_singleton]at h;rcases h with h | rfl
   .have:=ih.rok p h;exact⟨this.1,vk this.2 (by have:=jG pr;omega)⟩
   .exact⟨jd _,pY (qb h0).1⟩
def PD{t:List Atom}(h:aH t)(hl:t.length<=196){n:Nat}(hn:n<4):0<=(bA (rN t n).1 ⟨1,n,[],[]⟩).2:=by
 have ih:=BM h hl n ah;have l:=ih.tl;exact(zf (a:=⟨1,n,[],[]⟩) ih.tok ah).2.2.2 (by unfold fU;rw [if_neg (by simp)];exact⟨⟨rfl,rfl⟩,Or.inl ⟨rfl,by dsimp only;omega,by dsimp only;omega⟩⟩)
def BN{t:List Atom}(h:aH t)(hl:t.length<=196):SI (t.length+4) 0 (s0 t):=by
 have:=BM h hl 4 ah;have l:=this.tl;exact⟨this.tok,by show((rN t 4).1.length:Int)<=_;omega,this.r4,this.rok,rfl,λp hp=>absurd hp (by simp [s0]),by simp [s0],by simp [s0]⟩
def cu.k3{b:Blk}(h:cu b):∀o∈b.ops,o.kind=3->1<=o.k/\o.k<=5:=λo ho=>by
 obtain⟨i,hi,rfl⟩:=List.getElem_of_mem ho;have:=(h.op i ah ah).k3;rw [show(i:Int).toNat=i from rfl,getD_lt hi]at this;exact this
def I6{t:List Atom}{b:Blk}(h:aH t)(hl:t.length<=100)(hb:cu b):SI (t.length+4) b.ops.length (dK t b)/\t<+:(dK t b).t:=by
 have sz:=hb.sz;obtain⟨h1,h2⟩:=qc b.ops 0 (s0 t) (BN h ah) hb.k3 ah ah;rw [Nat.zero_add]at h1;exact⟨h1,(BM h ah 4 ah).pre.trans h2⟩
def SS.on(s:SS)(u:List Atom):SS:=⟨u,s.regs,s.vals,s.ld,s.inn,s.evs⟩
theorem ah5{s:SS}{o:IOp}{u:List Atom}(hu:aH u)(h:SOK s o)(hp:(stp s o).t<+:u):stp (s.on u) o=(stp s o).on u:=by
 have hp:nT s o<+:u:=hp;have ex:xOf (s.on u) o=xOf s o:=rfl;have ey:yOf (s.on u) o=yOf s o:=rfl;have ea:aOf (s.on u) o=aOf s o:=rfl;have eT:nT (s.on u) o=u:=by
  unfold nT;split
  .rename_i e;rw [ex,ey];have h3:=(h.d e).ok;unfold nT at hp;rw [if_pos e]at hp;rw [show(s.on u).t=u from rfl,ZA hu h3 hp]
  .split
   .rename_i e1 e2;unfold nT at hp;rw [if_neg e1,if_pos e2]at hp;rw [ea,show(s.on u).t=u from rfl,zi hu (h.p e2) hp]
   .rfl
 have eV:nV (s.on u) o=nV s o:=by
  unfold nV;split
  .rfl
  .split
   .rfl
   .split
    .rename_i e;rw [ex,ey];have h3:=(h.d e).ok;unfold nT at hp;rw [if_pos e]at hp;rw [show(s.on u).t=u from rfl,ZA hu h3 hp]
    .split
     .rename_i e1 e2;unfold nT at hp;rw [if_neg e1,if_pos e2]at hp;rw [ea,show(s.on u).t=u from rfl,zi hu (h.p e2) hp]
     .rfl
 show SS.mk (nT (s.on u) o) (nR (s.on u) o) ((s.on u).vals++ [nV (s.on u) o]) _ _ (nE (s.on u) o)=SS.mk u (nR s o) (s.vals++ [nV s o]) _ _ (nE s o);rw [eT,eV];rfl
def ZB{n:Int}{u:List Atom}(hu:aH u):∀(ops:List IOp) (i:Nat) (s:SS),SI n i s->(∀o∈ops,o.kind=3->1<=o.k/\o.k<=5)->n+i+ops.length<=200->i+ops.length<=200->(ops.foldl stp s).t<+:u->ops.foldl stp (s.on u)=(ops.foldl stp s).on u
 | [],i,s,h,_,_,_,_=>rfl
 | o::r,i,s,h,hk,h1,h2,hp=>by
  rw [List.length_cons]at h1 h2;obtain⟨a1,a2⟩:=xS h (hk o List.mem_cons_self) ah ah;rw [List.foldl_cons]at hp;obtain⟨_,b2⟩:=qc r (i+1) (stp s o) a1 (λo ho=>hk o (List.mem_cons_of_mem _ ho)) ah ah;rw [List.foldl_cons,List.foldl_cons,ah5 hu a2 (b2.trans hp)];exact ZB hu r (i+1) (stp s o) a1 (λo ho=>hk o (List.mem_cons_of_mem _ ho)) ah ah hp
def afd{t u:List Atom}(h:aH t)(hl:t.length<=196)(hu:aH u):∀n:Nat,n<=4->(rN t n).1<+:u->rN u n=(u,(rN t n).2)
 | 0,_,_=>rfl
 | n+1,hn,hp=>by
  have h0:=PD h hl (n:=n) ah;have pr:=sI (rN t n).1 ⟨1,n,[],[]⟩;have hp':(bA (rN t n).1 ⟨1,n,[],[]⟩).1<+:u:=hp;have ih:=afd h hl hu n ah (pr.trans hp');show((bA (rN u n).1 ⟨1,n,[],[]⟩).1,(rN u n).2++ [dS (bA (rN u n).1 ⟨1,n,[],[]⟩).2])=(u,(rN t n).2++ [dS (bA (rN t n).1 ⟨1,n,[],[]⟩).2]);rw [ih];dsimp only;rw [zi hu h0 hp']
def adw{t u:List Atom}{b:Blk}(h:aH t)(hl:t.length<=100)(hb:cu b)(hu:aH u)(hp:(dK t b).t<+:u):dK u b=(dK t b).on u:=by
 have sz:=hb.sz;have i0:=BN h ah;obtain⟨_,h2⟩:=qc b.ops 0 (s0 t) i0 hb.k3 ah ah;have e:s0 u=(s0 t).on u:=by
  unfold s0 SS.on;rw [afd h ah hu 4 ah (h2.trans hp)]
 unfold dK at hp ⊢;rw [e];exact ZB hu b.ops 0 (s0 t) i0 hb.k3 ah ah hp
def kg{t:List Atom}{b:Blk}(h:aH t)(hl:t.length<=100)(hb:cu b):bK t b=((dK t b).t,symEnd (jL b (dK t b)) (b.pc+b.len)):=by
 unfold bK;rw [if_pos (aP ⟨h,hl,hb⟩)]
def UJ{t u:List Atom}{b:Blk}(h:aH t)(hl:t.length<=100)(hb:cu b)(hu:aH u)(hlu:u.length<=100)(hp:(bK t b).1<+:u):bK u b=(u,(bK t b).2):=by
 rw [kg h hl hb]at hp ⊢;rw [kg hu hlu hb,adw h hl hb hu hp];rfl
def GH{t:List Atom}{b:Blk}(h:aH t)(hl:t.length<=100)(hb:cu b):aH (bK t b).1/\t<+:(bK t b).1/\(bK t b).1.length<=t.length+b.ops.length+4:=by
 unfold bK;rw [if_pos (aP ⟨h,hl,hb⟩)];obtain⟨h1,h2⟩:=I6 h hl hb;have:=h1.tl;exact⟨h1.tok,h2,by dsimp only;omega⟩
def ShP(l:List (List aj)):Prop:=l.length<1000000000/\∀p∈l,Sh p
def ShE(e:Ev):Prop:=Sh e.x/\Sh e.y/\ShP e.regs
def ah6(l:List Ev):Prop:=l.length<1000000000/\∀e∈l,ShE e
structure ShY(s:Sym):Prop where
 e:ah6 s.events
 r:ShP s.regs
 x:Sh s.x
 y:Sh s.y
def ShP.at{l:List (List aj)}(h:ShP l)(n:Nat):Sh (l.getD n default):=by
 by_cases c:n<l.length
 .rw [getD_lt c];exact h.2 _ (List.getElem_mem _)
 .rw [List.getD_eq_getElem?_getD,List.getElem?_eq_none ah];exact pW
def I7:ShP []:=⟨by simp,λp h=>absurd h (by simp)⟩
def ah6.at{l:List Ev}(h:ah6 l)(n:Nat):ShE (l.getD n default):=by
 by_cases c:n<l.length
 .rw [getD_lt c];exact h.2 _ (List.getElem_mem _)
 .rw [List.getD_eq_getElem?_getD,List.getElem?_eq_none ah];exact⟨pW,pW,I7⟩
def adx:ShY UH:=⟨⟨by simp [UH],λe h=>absurd h (by simp [UH])⟩,I7,pW,pW⟩
def SI.regs{n:Int}{i:Nat}{s:SS}(h:SI n i s):ShP s.regs:=⟨by have:=h.r4;omega,λp hp=>(h.rok p hp).1.sh⟩
def ady{n:Int}{i:Nat}{s:SS}{o:IOp}(h:SI n i s)(h2:s.evs.length<=i/\∀e∈s.evs,ShE e):(stp s o).evs.length<=i+1/\∀e∈(stp s o).evs,ShE e:=by
 show(nE s o).length<=i+1/\∀e∈nE s o,ShE e;unfold nE;split
 .refine⟨by rw [List.length_append];have:=h2.1;simp only [List.length_cons,List.length_nil];omega,λe he=> ?_⟩;rw [List.mem_append,List.mem_singleton]at he;rcases he with he | rfl
  .exact h2.2 e he
  .refine⟨(h.x o).1.sh,(h.y o).1.sh,?_⟩;dsimp only;split
   .exact h.regs
   .exact I7
 .exact⟨by have:=h2.1;omega,h2.2⟩
def PE{n:Int}:∀(ops:List IOp) (i:Nat) (s:SS),SI n i s->(∀o∈ops,o.kind=3->1<=o.k/\o.k<=5)->n+i+ops.length<=200->i+ops.length<=200->(s.evs.length<=i/\∀e∈s.evs,ShE e)->(ops.foldl stp s).evs.length<=i+ops.length/\∀e∈(ops.foldl stp s).evs,ShE e
 | [],i,s,h,_,_,_,h3=>h3
 | o::r,i,s,h,hk,h1,h2,h3=>by
  rw [List.length_cons]at h1 h2;obtain⟨a1,a2⟩:=xS h (hk o List.mem_cons_self) ah ah;have:=PE r (i+1) (stp s o) a1 (λo ho=>hk o (List.mem_cons_of_mem _ ho)) ah ah (ady h h3);rw [List.foldl_cons,List.length_cons,show i+(r.length+1)=i+1+r.length by omega];exact this
def evT(e:Ev):Int×Int×Nat:=(e.kind,e.at_,e.regs.length)
def opT(o:IOp):Int×Int×Nat:=(o.kind,o.at_,if o.kind=4\/o.kind=5 then 4 else 0)
def KU(ops:List IOp):List IOp:=ops.filter λo=>decide (evO o)
def Sk:∀(ops:List IOp) (s:SS),s.regs.length=4->(ops.foldl stp s).evs.map evT=s.evs.map evT++(KU ops).map opT
 | [],s,_=>by simp [KU]
 | o::r,s,h=>by
  have h':(stp s o).regs.length=4:=by
   show(nR s o).length=4;unfold nR;split
   .rw [List.length_set];exact h
   .exact h
  rw [List.foldl_cons,Sk r (stp s o) h'];show(nE s o).map evT++_=_;unfold nE KU;by_cases c:evO o
  .have e:evT ⟨o.kind,o.at_,xOf s o,yOf s o,if o.kind=4\/o.kind=5 then s.regs else []⟩=opT o:=by
    unfold evT opT;dsimp only;split
    .rw [h]
    .rfl
   rw [if_pos c,List.filter_cons_of_pos (by simpa using c),List.map_append,List.append_assoc];refine congrArg (s.evs.map evT++ ·) ?_;show evT _::_=opT o::_;rw [e];rfl
  .rw [if_neg c,List.filter_cons_of_neg (by simpa using c)]
def I8{n:Int}{i:Nat}{s:SS}{b:Blk}(h:SI n i s):aN (jL b s).x/\aN (jL b s).y:=by
 unfold jL;dsimp only;constructor
 .split
  .exact bT
  .exact(xR h.vok _).1
 .split
  .exact(xR h.vok _).1
  .exact bT
def I9{s:Sym}{n:Int}(h:aN s.x/\aN s.y):(symEnd s n).events=s.events/\(symEnd s n).regs=s.regs/\aN (symEnd s n).x/\aN (symEnd s n).y:=by
 unfold symEnd;rw [if_neg (by rw [aP h];simp)]
 repeat' split
 all_goals first | exact⟨rfl,rfl,h⟩ | exact⟨rfl,rfl,bT,bT⟩ | exact⟨rfl,rfl,h.2,h.1⟩
structure aml(t:List Atom)(b:Blk):Prop where
 evs:(bK t b).2.events.map evT=(KU b.ops).map opT
 r4:(bK t b).2.regs.length=4
 sh:ShY (bK t b).2
 ne:0< (bK t b).1.length
theorem KV{t:List Atom}{b:Blk}(h:aH t)(hl:t.length<=100)(hb:cu b):aml t b:=by
 have sz:=hb.sz;have i0:=BN h ah;obtain⟨h1,h2⟩:=I6 h hl hb;have hs:=PE b.ops 0 (s0 t) i0 hb.k3 ah ah ⟨by simp [s0],λe he=>absurd he (by simp [s0])⟩;have he:=Sk b.ops (s0 t) i0.r4;have hk:=I9 (n:=b.pc+b.len) (I8 (b:=b) h1);have e:bK t b=((dK t b).t,symEnd (jL b (dK t b)) (b.pc+b.len)):=by unfold bK;rw [if_pos (aP ⟨h,hl,hb⟩)]
 rw [Nat.zero_add]at hs;refine⟨?_,?_,?_,?_⟩
 .rw [e];dsimp only;rw [hk.1];show(dK t b).evs.map evT=_;unfold dK;rw [he];rfl
 .rw [e];dsimp only;rw [hk.2.1];exact h1.r4
 .rw [e];refine⟨?_,?_,hk.2.2.1.sh,hk.2.2.2.sh⟩
  .rw [hk.1];exact⟨by have:=hs.1;show(b.ops.foldl stp (s0 t)).evs.length<_;omega,hs.2⟩
  .rw [hk.2.1];exact h1.regs
 .rw [e];have r:=qc b.ops 0 (s0 t) i0 hb.k3 ah ah;have:=jG r.2;have p:=qb (PD h ah (n:=3) ah);have p0:=PD h ah (n:=3) ah;show 0< (dK t b).t.length;have:(s0 t).t.length=(bA (rN t 3).1 ⟨1,(3:Nat),[],[]⟩).1.length:=rfl;unfold dK;omega
def Ja(t:List Atom)(b:Blk):ShY (bK t b).2/\ShT (bK t b).1:=by
 by_cases c:aH t/\t.length<=100/\cu b
 .exact⟨(KV c.1 c.2.1 c.2.2).sh,(GH c.1 c.2.1 c.2.2).1.sh⟩
 .unfold bK;rw [bL c,if_neg (by simp)];exact⟨adx,adq⟩
noncomputable def t4:List Atom:=(rN [] 4).1
def vw:aH []:=iq.2 ⟨All.zero,by simp⟩
def afe:aH t4/\t4.length<=4:=by
 have:=BM vw (by simp) 4 ah;exact⟨this.tok,Nat.le_trans this.tl (by simp)⟩
noncomputable def chk (b c:Blk):Bool:=bp (cu b/\cu c/\b.pc=c.pc/\b.len=c.len/\(b=c\/(bK t4 b).2=(bK (bK t4 b).1 c).2))
structure Lk(b c:Blk):Prop where
 ob:cu b
 oc:cu c
 pc:b.pc=c.pc
 len:b.len=c.len
 run:∀u,aH u->u.length<=100->(bK u b).1=u->bK u c=bK u b
def Lk.refl{b:Blk}(h:cu b):Lk b b:=⟨h,h,rfl,rfl,λ_ _ _ _=>rfl⟩
def Lk.trans{b c d:Blk}(h:Lk b c)(g:Lk c d):Lk b d:=⟨h.ob,g.oc,h.pc.trans g.pc,h.len.trans g.len,λu h1 h2 h3=>by
 have e:=h.run u h1 h2 h3;rw [g.run u h1 h2 (by rw [e];exact h3),e]⟩
def adz{b:Blk}(hb:cu b):aH (bK t4 b).1/\(bK t4 b).1.length<=100/\bK (bK t4 b).1 b=bK t4 b:=by
 have h4:=afe;have hr:=GH h4.1 ah hb;have sz:=hb.sz;refine⟨hr.1,ah,?_⟩;have:=UJ h4.1 ah hb hr.1 ah (List.prefix_refl _);rw [this]
def Lk.chk{b c:Blk}(h:Lk b c):chk b c=true:=by
 obtain⟨h1,h2,h3⟩:=adz h.ob;refine aP ⟨h.ob,h.oc,h.pc,h.len,Or.inr ?_⟩;rw [h.run _ h1 h2 (by rw [h3]),h3]
def PG:Blk:=⟨0,0,[],0,0,0,0⟩
def dY{α:Type}{d x:α}{l:List α}{i:Nat}:(l++ [x]).getD i d=if i<l.length then l.getD i d else if i=l.length then x else d:=by
 split
 .rename_i h;rw [getD_lt (by rw [List.length_append];omega),getD_lt h,List.getElem_append_left]
 .split
  .rename_i h1 h2;subst h2;rw [getD_lt (by simp)];simp
  .rw [List.getD_eq_getElem?_getD,List.getElem?_eq_none (by rw [List.length_append];simp only [List.length_cons,List.length_nil];omega)];rfl
def ku(f:SS->IOp->SS)(s:SS){l:List IOp}{i:Nat}(h:i<l.length):(l.take (i+1)).foldl f s=f ((l.take i).foldl f s) l[i]:=by
 rw [List.take_succ_eq_append_getElem h,List.foldl_append];rfl
def vB:∀(l:List IOp) (s:SS),(l.foldl stp s).vals.length=s.vals.length+l.length
 | [],_=>rfl
 | o::r,s=>by
  rw [List.foldl_cons,vB r,List.length_cons];show(s.vals++ [nV s o]).length+_=_;rw [List.length_append];simp only [List.length_cons,List.length_nil];omega
def ren(nm:List Int)(o:IOp):IOp:=⟨o.kind,if hX o then((nm).getD (o.x).toNat default)else o.x,if hY o then((nm).getD (o.y).toNat default)else o.y,o.k,o.at_⟩
def PI(nm:List Int)(b:Blk)(ops:List IOp):Blk:=⟨b.pc,b.len,ops.map (ren nm),b.fin,if b.fin=1 then b.x else((nm).getD (b.x).toNat default),if 3<=b.fin then((nm).getD (b.y).toNat default)else b.y,b.k⟩
def cpN(s:List Int×List Int)(i:Int)(o:IOp):Int:=if o.kind=2/\0<=((s.2).getD (o.k).toNat default)then((s.2).getD (o.k).toNat default)else i
def cpL(s:List Int×List Int)(i:Int)(o:IOp):List Int:=if o.kind=2 then(if 0<=((s.2).getD (o.k).toNat default)then s.2 else s.2.set o.k.toNat i)else if o.kind=8 then s.2.set o.k.toNat ((s.1).getD (o.x).toNat default)else s.2
def cpS(ops:List IOp):Nat->List Int×List Int
 | 0=>([],[-1, -1, -1, -1])
 | i+1=>((cpS ops i).1++ [cpN (cpS ops i) i (ops.getD i default)],cpL (cpS ops i) i (ops.getD i default))
noncomputable def dw (b:Blk):Blk:=if bp (cu b)=true then PI (cpS b.ops b.ops.length).1 b b.ops else PG
def zk(ops:List IOp):∀i,(cpS ops i).1.length=i/\(cpS ops i).2.length=4
 | 0=>⟨rfl,rfl⟩
 | i+1=>by
  obtain⟨h1,h2⟩:=zk ops i;constructor
  .show((cpS ops i).1++ [_]).length=_;rw [List.length_append,h1];rfl
  .show(cpL (cpS ops i) i (ops.getD i default)).length=4;unfold cpL
   repeat' split
   all_goals first | exact h2 | (rw [List.length_set];exact h2)
def PK(ops:List IOp):∀ {i n:Nat} {j:Nat},j<i->i<=n->(cpS ops n).1.getD j default=(cpS ops i).1.getD j default:=by
  intro i n j h1 h2
  induction n with
  | zero => have : i = 0 := by omega
            subst this;rfl
  | succ n ih=>
    by_cases c:i=n+1
    · subst c;rfl
    · have:=ih ah;rw [<-this];show((cpS ops n).1++ [_]).getD j default=_;rw [dY,if_pos (by rw [(zk ops n).1];omega)]
structure CI(ops:List IOp)(i:Nat)(s:SS):Prop where
 nm:∀j:Int,0<=j->j<i->(0<=(((cpS ops i).1).getD (j).toNat default)/\(((cpS ops i).1).getD (j).toNat default)<=j)/\((s.vals).getD ((((cpS ops i).1).getD (j).toNat default)).toNat default)=((s.vals).getD (j).toNat default)/\(mkV ((ops).getD (j).toNat default)->mkV ((ops).getD ((((cpS ops i).1).getD (j).toNat default)).toNat default))
 la:∀r:Int,0<=r->r<=3->0<=(((cpS ops i).2).getD (r).toNat default)->(((cpS ops i).2).getD (r).toNat default)<i/\((s.vals).getD ((((cpS ops i).2).getD (r).toNat default)).toNat default)=((s.regs).getD (r).toNat default)/\mkV ((ops).getD ((((cpS ops i).2).getD (r).toNat default)).toNat default)
def xU{α:Type}{d x:α}{l:List α}{i j:Int}(h0:0<=i)(h1:0<=j)(h2:j<l.length):(l.set j.toNat x).getD i.toNat d=if i=j then x else l.getD i.toNat d:=by
 by_cases c:i<l.length
 .rw [getD_lt (by rw [List.length_set];omega),getD_lt ah,List.getElem_set];by_cases e:i=j
  .subst e;rw [if_pos rfl,if_pos rfl]
  .rw [if_neg ah,if_neg e]
 .rw [if_neg ah];simp only [List.getD_eq_getElem?_getD];rw [List.getElem?_eq_none (by rw [List.length_set];omega),List.getElem?_eq_none ah]
def ED{b:Blk}(hb:cu b)(t:List Atom)(h4:(s0 t).regs.length=4):∀i:Nat,i<=b.ops.length->
  ((b.ops.map (ren (cpS b.ops b.ops.length).1)).take i).foldl stp (s0 t)=(b.ops.take i).foldl stp (s0 t)/\((b.ops.take i).foldl stp (s0 t)).regs.length=4/\CI b.ops i ((b.ops.take i).foldl stp (s0 t))
 | 0,_=>⟨rfl,h4,⟨λj h1 h2=>absurd h2 ah,λr h1 h2 h3=>by
   exfalso;have:(((cpS b.ops 0).2).getD (r).toNat default)= -1:=by
    show((([-1, -1, -1, -1]:List Int)).getD (r).toNat default)= -1;rcases(by omega:r=0\/r=1\/r=2\/r=3)with h | h | h | h<;>subst h<;>rfl
   omega⟩⟩
 | i+1,hi=>by
  obtain⟨ih1,ihr,ih2⟩:=ED hb t h4 i ah;have hlt:i<b.ops.length:=hi;have hok:=hb.op i ah ah;rw [show(i:Int).toNat=i from rfl,getD_lt hlt]at hok;have eo:b.ops.getD i default=b.ops[i]:=getD_lt hlt;have hv:=vB (b.ops.take i) (s0 t);rw [List.length_take,Nat.min_eq_left ah,show(s0 t).vals.length=0 from rfl,Nat.zero_add]at hv;obtain⟨cl1,cl2⟩:=zk b.ops i;rw [ku _ _ (by rw [List.length_map];exact hlt),ku _ _ hlt,ih1,List.getElem_map]
  clear ih1
  generalize (b.ops.take i).foldl stp (s0 t)=s at ihr ih2 hv ⊢;generalize ho:b.ops[i]=o at hok eo ⊢;have nmx:∀j:Int,0<=j->j<i->(((cpS b.ops b.ops.length).1).getD (j).toNat default)=(((cpS b.ops i).1).getD (j).toNat default):=λj h1 h2=>PK b.ops ah ah
  have vx:∀j:Int,0<=j->j<i->((s.vals).getD ((((cpS b.ops b.ops.length).1).getD (j).toNat default)).toNat default)=((s.vals).getD (j).toNat default):=λj h1 h2=>by rw [nmx j h1 h2];exact(ih2.nm j h1 h2).2.1
  have ex:xOf s (ren (cpS b.ops b.ops.length).1 o)=xOf s o:=by
   unfold xOf;by_cases c:hX o
   .rw [if_pos (show hX (ren _ o)from c),if_pos c];show((s.vals).getD ((if hX o then(((cpS b.ops b.ops.length).1).getD (o.x).toNat default)else o.x)).toNat default)=_;rw [if_pos c];exact vx _ (hok.x1 c).1 (hok.x1 c).2.1
   .rw [if_neg (show¬hX (ren _ o)from c),if_neg c]
  have ey:yOf s (ren (cpS b.ops b.ops.length).1 o)=yOf s o:=by
   unfold yOf;by_cases c:hY o
   .rw [if_pos (show hY (ren _ o)from c),if_pos c];show((s.vals).getD ((if hY o then(((cpS b.ops b.ops.length).1).getD (o.y).toNat default)else o.y)).toNat default)=_;rw [if_pos c];exact vx _ (hok.y1 c).1 (hok.y1 c).2.1
   .rw [if_neg (show¬hY (ren _ o)from c),if_neg c]
  have es:stp s (ren (cpS b.ops b.ops.length).1 o)=stp s o:=by
   unfold stp nT nV nR nE aOf;rw [ex,ey];rfl
  have r4:(stp s o).regs.length=4:=by
   show(nR s o).length=4;unfold nR;split
   .rw [List.length_set];exact ihr
   .exact ihr
  refine⟨es,r4,?_⟩;have vs:∀j:Int,0<=j->j<i->(((stp s o).vals).getD (j).toNat default)=((s.vals).getD (j).toNat default):=λj h1 h2=>by
   show(((s.vals++ [nV s o])).getD (j).toNat default)=_;rw [dY,if_pos ah]
  have vi:(((stp s o).vals).getD ((i:Int)).toNat default)=nV s o:=by
   show(((s.vals++ [nV s o])).getD ((i:Int)).toNat default)=_;rw [dY,if_neg ah,if_pos ah]
  have ns:∀j:Int,0<=j->j<i->(((cpS b.ops (i+1)).1).getD (j).toNat default)=(((cpS b.ops i).1).getD (j).toNat default):=λj h1 h2=>PK b.ops ah ah
  have ni:(((cpS b.ops (i+1)).1).getD ((i:Int)).toNat default)=cpN (cpS b.ops i) i o:=by
   show((((cpS b.ops i).1++ [cpN (cpS b.ops i) i (b.ops.getD i default)])).getD ((i:Int)).toNat default)=_;rw [dY,if_neg ah,if_pos ah,eo]
  have nl:(cpS b.ops (i+1)).2=cpL (cpS b.ops i) i o:=by
   show cpL (cpS b.ops i) i (b.ops.getD i default)=_;rw [eo]
  have eoi:((b.ops).getD ((i:Int)).toNat default)=o:=by rw [show(i:Int).toNat=i from rfl,eo]
  refine⟨λj h1 h2=> ?_,λr h1 h2 h3=> ?_⟩
  .by_cases c:j<i
   .obtain⟨⟨g1,g2⟩,g3,g4⟩:=ih2.nm j h1 c;rw [ns j h1 c];exact⟨⟨g1,g2⟩,by rw [vs _ g1 ah,vs j h1 c];exact g3,g4⟩
   .have:j=(i:Int):=by omega
    subst this;rw [ni];unfold cpN;by_cases c2:o.kind=2/\0<=(((cpS b.ops i).2).getD (o.k).toNat default)
    .rw [if_pos c2];have hk:=hok.k2 (Or.inl c2.1);obtain⟨g1,g2,g3⟩:=ih2.la o.k hk.1 hk.2 c2.2;refine⟨⟨c2.2,ah⟩,?_,λ_=>g3⟩;rw [vs _ c2.2 g1,vi,g2];unfold nV;rw [if_neg ah,if_pos c2.1]
    .rw [if_neg c2];exact⟨⟨ah,Int.le_refl _⟩,rfl,λh=>h⟩
  .rw [nl]at h3 ⊢;unfold cpL at h3 ⊢;have old:0<=(((cpS b.ops i).2).getD (r).toNat default)->(o.kind=8->r≠o.k)->(((cpS b.ops i).2).getD (r).toNat default)< ((i+1:Nat):Int)/\(((stp s o).vals).getD ((((cpS b.ops i).2).getD (r).toNat default)).toNat default)=(((stp s o).regs).getD (r).toNat default)/\mkV ((b.ops).getD ((((cpS b.ops i).2).getD (r).toNat default)).toNat default):=λg0 g=>by
    obtain⟨g1,g2,g3⟩:=ih2.la r h1 h2 g0;refine⟨ah,?_,g3⟩;rw [vs _ g0 g1,g2];show _=(((nR s o)).getD (r).toNat default);unfold nR;split
    .rename_i c8;have hk:=hok.k2 (Or.inr c8);rw [xU h1 hk.1 ah,if_neg (g c8)]
    .rfl
   by_cases c2:o.kind=2
   .have hk:=hok.k2 (Or.inl c2);rw [if_pos c2]at h3 ⊢;by_cases c3:0<=(((cpS b.ops i).2).getD (o.k).toNat default)
    .rw [if_pos c3]at h3 ⊢;exact old h3 (λe=>absurd e ah)
    .rw [if_neg c3]at h3 ⊢;rw [xU h1 hk.1 ah]at h3 ⊢;by_cases c4:r=o.k
     .rw [if_pos c4]at h3 ⊢;refine⟨ah,?_,by rw [eoi];exact Or.inl ah⟩;rw [vi];show nV s o=(((nR s o)).getD (r).toNat default);unfold nV nR;rw [if_neg ah,if_pos c2,if_neg ah,c4]
     .rw [if_neg c4]at h3 ⊢;exact old h3 (λe=>absurd e ah)
   .rw [if_neg c2]at h3 ⊢;by_cases c8:o.kind=8
    .have hk:=hok.k2 (Or.inr c8);have hx:hX o:=by unfold hX;omega
     have v:=hok.x1 hx;obtain⟨⟨g1,g2⟩,g3,g4⟩:=ih2.nm o.x v.1 v.2.1;rw [if_pos c8]at h3 ⊢;rw [xU h1 hk.1 ah]at h3 ⊢;by_cases c4:r=o.k
     .rw [if_pos c4]at h3 ⊢;have v1:=v.2.1;refine⟨ah,?_,g4 v.2.2⟩;rw [vs _ g1 ah,g3];show _=(((nR s o)).getD (r).toNat default);unfold nR;rw [if_pos c8,xU h1 hk.1 ah,if_pos c4];unfold xOf;rw [if_pos hx]
     .rw [if_neg c4]at h3 ⊢;exact old h3 (λ_=>c4)
    .rw [if_neg c8]at h3 ⊢;exact old h3 (λe=>absurd e c8)
def ZE{nm:List Int}{b:Blk}{ops:List IOp}(i:Int):((((ops.map (ren nm))).getD (i).toNat default)).kind=(((ops).getD (i).toNat default)).kind:=by
 by_cases c:i.toNat<ops.length
 .rw [getD_lt (by rw [List.length_map];exact c),getD_lt c,List.getElem_map];rfl
 .simp only [List.getD_eq_getElem?_getD];rw [List.getElem?_eq_none (by rw [List.length_map];omega),List.getElem?_eq_none ah]
def BO{b:Blk}(hb:cu b):Lk b (dw b)/\(dw b).ops.length=b.ops.length/\∀u,aH u->u.length<=100->bK u (dw b)=bK u b:=by
 have e:dw b=PI (cpS b.ops b.ops.length).1 b b.ops:=by unfold dw;rw [if_pos (aP hb)]
 have i0:=BN vw (by simp);obtain⟨_,_,ci⟩:=ED hb [] i0.r4 b.ops.length (Nat.le_refl _);have kd:∀i:Int,((((b.ops.map (ren (cpS b.ops b.ops.length).1))).getD (i).toNat default)).kind=(((b.ops).getD (i).toNat default)).kind:=λi=>ZE (b:=b) i
 have vl:∀ {x n:Int},Vl b.ops x n->n<=b.ops.length->Vl (b.ops.map (ren (cpS b.ops b.ops.length).1)) (((cpS b.ops b.ops.length).1).getD (x).toNat default) n:=λ{x n} ⟨h1,h2,h3⟩ hn=>by
  obtain⟨⟨g1,g2⟩,_,g4⟩:=ci.nm x h1 ah;have:=g4 h3;exact⟨g1,ah,by unfold mkV at this ⊢;rw [kd];exact this⟩
 have ok:cu (dw b):=by
  rw [e];refine⟨hb.ln,hb.pc,by show(b.ops.map _).length<=48;rw [List.length_map];exact hb.sz,λi h1 h2=> ?_,?_⟩
  .have h2:i< (b.ops.map (ren (cpS b.ops b.ops.length).1)).length:=h2;rw [List.length_map]at h2;have ho:=hb.op i h1 h2;show lC (b.ops.map _) b.len i (((b.ops.map (ren (cpS b.ops b.ops.length).1))).getD (i).toNat default);rw [getD_lt (show i.toNat< (b.ops.map (ren (cpS b.ops b.ops.length).1)).length by rw [List.length_map];omega),List.getElem_map];rw [getD_lt (show i.toNat<b.ops.length by omega)]at ho;generalize b.ops[i.toNat]=o at ho;refine⟨ho.kd,λh=> ?_,λh=> ?_,λh=> ?_,λh=> ?_,ho.k1,ho.k2,ho.k3,ho.k0,ho.a1,ho.a0⟩
   .have h:hX o:=h;show Vl _ (if hX o then _ else _) i;rw [if_pos h];exact vl (ho.x1 h) ah
   .have h:¬hX o:=h;show(if hX o then _ else _)=_;rw [if_neg h];exact ho.x0 h
   .have h:hY o:=h;show Vl _ (if hY o then _ else _) i;rw [if_pos h];exact vl (ho.y1 h) ah
   .have h:¬hY o:=h;show(if hY o then _ else _)=_;rw [if_neg h];exact ho.y0 h
  .have he:=hb.en;refine⟨he.f,λh=> ?_,λh=> ?_,λh=> ?_,λh=> ?_,he.k1,he.k0⟩
   .have h:b.fin≠1:=h;show Vl (b.ops.map _) (if b.fin=1 then _ else _) ((b.ops.map _).length:Nat);rw [if_neg h,List.length_map];exact vl (he.x1 h) (Int.le_refl _)
   .have h:b.fin=1:=h;show(if b.fin=1 then _ else _)=_;rw [if_pos h];exact he.x0 h
   .have h:3<=b.fin:=h;show Vl (b.ops.map _) (if 3<=b.fin then _ else _) ((b.ops.map _).length:Nat);rw [if_pos h,List.length_map];exact vl (he.y1 h) (Int.le_refl _)
   .have h:b.fin<=2:=h;show(if 3<=b.fin then _ else _)=_;rw [if_neg ah];exact he.y0 h
 suffices R:∀u,aH u->u.length<=100->bK u (dw b)=bK u b from⟨⟨hb,ok,by rw [e];rfl,by rw [e];rfl,λu h1 h2 _=>R u h1 h2⟩,by rw [e];exact List.length_map _,R⟩
 intro u h1 h2;have i1:=BN h1 ah;obtain⟨r1,_,r3⟩:=ED hb u i1.r4 b.ops.length (Nat.le_refl _);rw [List.take_of_length_le (by rw [List.length_map];omega),List.take_of_length_le ah]at r1;rw [List.take_of_length_le ah]at r3;have es:dK u (dw b)=dK u b:=by rw [e];exact r1
 unfold bK;rw [if_pos (aP ⟨h1,h2,ok⟩),if_pos (aP ⟨h1,h2,hb⟩),es];have em:jL (dw b) (dK u b)=jL b (dK u b):=by
  rw [e];unfold jL PI;dsimp only;have en:=hb.en;have xe:b.fin≠1->(((dK u b).vals).getD ((((cpS b.ops b.ops.length).1).getD (b.x).toNat default)).toNat default)=(((dK u b).vals).getD (b.x).toNat default):=λh=>(r3.nm b.x (en.x1 h).1 (en.x1 h).2.1).2.1
  have ye:3<=b.fin->(((dK u b).vals).getD ((((cpS b.ops b.ops.length).1).getD (b.y).toNat default)).toNat default)=(((dK u b).vals).getD (b.y).toNat default):=λh=>(r3.nm b.y (en.y1 h).1 (en.y1 h).2.1).2.1
  congr 1
  .split
   .rfl
   .rename_i h;exact xe h
  .split
   .rename_i h;exact ye h
   .rfl
 rw [em];rw [show(dw b).pc=b.pc by rw [e];rfl,show(dw b).len=b.len by rw [e];rfl]
def PL{b:Blk}(hb:cu b):Lk b (dw b)/\(dw b).ops.length=b.ops.length:=⟨(BO hb).1,(BO hb).2.1⟩
end Go.TX.F
