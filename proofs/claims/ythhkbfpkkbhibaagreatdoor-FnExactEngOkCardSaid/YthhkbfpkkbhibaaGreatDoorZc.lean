/- Part 3 of a proof: what the last part needs. No condition. -/
import Derived.Test.YthhkbfpkkbhibaaGreatDoorZb
import Derived.Test.YthhkbfpkkbhibaaGreatDoorProg
import Derived.KernelRfl
set_option maxHeartbeats 1000000
set_option linter.all false
set_option linter.unusedSectionVars false
set_option linter.unusedVariables false
set_option linter.unusedSimpArgs false
namespace Go.TX
open Go Go.AE
variable [aB]
section
variable {n:Nat}
theorem Il{X:XT}{E:Tab}(hX:XOK X E){s':St}{s:RSt (std n)}(S:SR s' s):∀ {rs:List ResultVar} {qs:List SVal},MB (std n) X s rs=some qs->∃ps,F2 (PVR (nmh s.h)) ps qs/\∀K,K ps->J2 E s' rs K
 | [],qs,h=>by simp only [MB,Option.some.injEq]at h;subst h;exact⟨[],.nil,λK hK=>hK⟩
 | .tmp t::r,qs,h=>by
  simp only [MB]at h;split at h
  .rename_i v hv;split at h
   .rename_i vs hvs;cases h;obtain⟨pv,p1,p2⟩:=S.val t _ hv;obtain⟨ps,q1,q2⟩:=Il hX S hvs;exact⟨pv::ps,.cons p2 q1,λK hK=>by grind [J2,iI]⟩
   .cases h
  .cases h
 | .cell t ty::r,qs,h=>by
  simp only [MB]at h;split at h
  .rename_i p hp;split at h
   .rename_i v hv;split at h
    .rename_i vs hvs;cases h;obtain⟨pv,p1,p2⟩:=S.val t _ hp;obtain⟨pr,r1,r2⟩:=Ko hX S.heap p2 hv (λb hb=>by simp at hb);obtain⟨ps,q1,q2⟩:=Il hX S hvs;exact⟨pr::ps,.cons r1 q1,λK hK=>by grind [J2,iI]⟩
    .cases h
   .cases h
  .cases h
theorem ahv{N:NM}:∀ {ps:List PV} {vs:List SVal},F2 (PVR N) ps vs->(∀v∈vs,oC v=false)->PVR N (one ps) (ang (std n) vs)
 | [],_,h,_=>by cases h;exact .tup .nil
 | [p],_,.cons h1 h2,_=>by cases h2;exact h1
 | p::q::ps,_,.cons h1 (.cons h2 h3),ht=>by
  have up:∀ {p v},PVR N p v->oC v=false->PV0 N p v:=λh hv=>by
   cases h with
   | one h=>exact h
   | tup _=>simp [oC]at hv
  have all:∀ {ps:List PV} {vs:List SVal},F2 (PVR N) ps vs->(∀v∈vs,oC v=false)->F2 (PV0 N) ps vs:=by
   intro ps vs h
   induction h with
   | nil=>intro _;exact .nil
   | cons a _ ih=>intro ht;exact .cons (up a (ht _ (by simp))) (ih λv hv=>ht v (List.mem_cons_of_mem _ hv))
  exact .tup (all (.cons h1 (.cons h2 h3)) ht)
theorem adg{c:Ctx}{w:World}{us:List Value}{ps:List PV}(h:F2 (bF c w) us ps):bF c w (if h:us.toArray.size=1 then us.toArray[0]else .tuple us.toArray) (one ps):=by
 cases h with
 | nil=>exact JY _ _
 | cons q1 q2=>
  cases q2 with
  | nil=>simpa [one]using q1
  | cons q3 q4=>
   have hl:=(F2.cons q1 (F2.cons q3 q4)).length;rw [dif_neg (by simp)];refine .tup _ _ hl (λi hi=> ?_);have hx:∀(l:List PV),i<l.length->l[i]? =some (l.getD i default):=λl hl=>by simp_all
   obtain⟨u,hu,hr⟩:=(F2.cons q1 (F2.cons q3 q4)).get (hx _ hi);simp_all
theorem KN(h:List aK)(l:Nat):Gone [uE (std n) h l] 0:=by
 unfold uE;split
 .exact⟨_,_,rfl⟩
 .exact⟨_,_,rfl⟩
 .exact⟨_,_,rfl⟩
def zu(D:List Nat)(h:Heap):Heap:=D.map (λl=>(l,fM.gone))++h
theorem EA{D:List Nat}{h:Heap}{l:Nat}(hl:l∈D):AE.look (zu D h) l=some .gone:=by
 induction D with
 | nil=>simp at hl
 | cons d D ih=>grind [AE.look,zu,aH,aA,absurd]
theorem qy{D:List Nat}{h:Heap}{l:Nat}(hl:l∉D):AE.look (zu D h) l=AE.look h l:=by
 induction D with
 | nil=>rfl
 | cons d D ih=>grind [AE.look,zu,aA,List.mem_cons_of_mem]
section
variable {X:XT} {E:Tab} (hE:aF E) (hX:XOK X E) {C:Calls aD} (hG:o9 E (kD C)) (hm:E.P.follows .mixedOrders=true) {ord:Nat->List fO} {chk:Nat->Array Oper->Nat->Bool} (KM:∀id ops m,chk id ops m=true->Static E ord id ops m)
include hE hX hG hm KM
theorem anC{f:FuncId}{fn:Func}{code:Code}(hf:E.P.funcs[f]? =some fn)(hb:fn.body=some code)(hent:Enters E.P f){sg:Sig}{an:Ann}{ct:Ct aD sg}
  (hrun:∀x,ct.pre x=true->HZ (std 0) X C ord chk an sg fn code x (λy=>y=ct.fn x)):dN E f (dK ct) where
 enters:=hent
 calls:=by
  rintro args h nn K ⟨m,qs,hs,hargs,HR,hlen,cr,hcall,adh,v,kT,hvk,hK⟩ c w vs hcn qx H Gl;subst hlen;unfold rz at hcall;split at hcall
  .rename_i e1 he1;split at hcall
   .rename_i e he;split at hcall
    .rename_i jg;simp only [Bool.and_eq_true,List.isEmpty_iff]at jg;obtain⟨jg,htr⟩:=jg;have jg:=Ic jg;split at hcall
     .rename_i x hx;simp only [Option.some.injEq]at hcall;subst hcall;have hck:∀b∈e.ck,b=true:=λb hb=>adh b (List.mem_append_left _ hb)
      have hpre:ct.pre x=true:=adh _ (List.mem_append_right _ (by simp));obtain⟨N,hrun⟩:∃N:Nat,HZ (std N) X C ord chk an sg fn code x (λy=>y=ct.fn x):=⟨0,hrun x hpre⟩;simp only at hvk hK;obtain⟨new1,qs1,a1,a2,a3,a4⟩:=uK (λi=>i) he1;obtain⟨new2,os1,b1,b2,b3,b4,b5⟩:=qo (λi=>i) (λ_=>(.gone .i64 0:aK)) (λ_=>⟨.i64,0,rfl⟩) he;have hlv:e.lv.reverse=new1++new2:=by rw [b1,a1];simp [es0]
      have hun:=unpack_pack hx;rw [hlv]at hun;have hrl:e.ren.length=sg.objs.length:=by rw [b2.len,a2.len,Ii]
      have hof:∀(j:Nat) (kk:SkO),sg.objs[j]? =some kk->∃o2,os1[j]? =some o2/\OF e hs (λi=>i) j kk (.gone .i64 0) o2:=λj kk hj=>by
       obtain⟨o2,q1,q2⟩:=b5 e (.refl _) j kk hj;exact⟨o2,q1,by simpa using q2⟩
      obtain⟨o1,m1,m2,m3,m4,_,_⟩:=yg (ks:=sg.objs) (nm:=λi=>i) (old:=λ_=>(.gone .i64 0:aK)) H HR hck jg hrl b4 hof (cb:={K:=λ_ _=>False,ν:=νX e hs c,n:=0}) (hb':=[])
       (KL w _ _ _ (λ_ _ h=>h.elim) (λ_ h=>h)) false (λh=>by cases h) (ν2:=νX e hs c) (n2:=sg.objs.length) (Nat.zero_le _) (λ_ _=>rfl) (λi hi=>hi) (λi j _ _ h=>h)
       (λi l hi=>by simp only [νX];rw [hi]) (λi hi=>by simp only [νX];rw [hi]) (h2:=os1) (λi _=>rfl)
       (λl o hl ho=>by
        have:sg.objs.length<=l:=by
         rcases Nat.lt_or_ge l sg.objs.length with h | h
         .exact absurd rfl (hl l h)
         .exact h
        rw [List.getElem?_eq_none ah]at ho;cases ho) (λ_ _=>rfl)
       (λb ⟨l,o,hl,_⟩ _=>by simp [AE.look]at hl) (λf b h _=>h) (λf b ⟨l,o,hl,_⟩ _=>by simp [AE.look]at hl)
      generalize hc1:({K:=λf b=>False\/KX e c false f b,ν:=νX e hs c,n:=sg.objs.length}:Ctx)=c1 at m1 m2 m3 m4;generalize hh1:su (λi=>i) o1 (List.range sg.objs.length) []=h1' at m1 m2 m4;have c1n:c1.n=sg.objs.length:=by rw [<-hc1]
      have c1K:∀f b,c1.K f b->c.K f b\/∃l g,(l,g)∈e.fro/\c.μ l=some b/\(f=true->g=true):=λf b hb=>by
       rw [<-hc1]at hb;rcases hb with hb | hb | ⟨l,g,q1,q2,q3⟩
       .exact hb.elim
       .exact .inl (by simpa using hb)
       .exact .inr ⟨l,g,q1,q2,λh=>q3 (by simp [h])⟩
      have ahw:∀f b,c.K f b->c1.K f b:=λf b hb=>by rw [<-hc1];exact .inr (.inl (by simpa using hb))
      have anD:∀b,eO c1 h1' b->∃(i lq:Nat) (q:fM),e.ren[i]? =some (some (some lq))/\AE.look h lq=some q/\q.live/\c.μ lq=some b:=λb hb=>by
       rcases m4 b hb with⟨l,o,hl,_⟩ | hb
       .simp [AE.look]at hl
       .exact hb
      have anE:F2 (WV c w (nmh hs)) vs qs:=by
       clear he1 a1 a2 a3 a4 hvk hrun
       induction qx generalizing qs with
       | nil=>cases hargs;exact .nil
       | cons q1 _ ih=>cases hargs with | cons q3 q4=>exact .cons ⟨_,q1,q3⟩ (ih _ q4)
      obtain⟨anF,p1,p2⟩:=Ij (a4 H HR b2 hck m3 (λh=>by cases h) anE);unfold HZ at hrun;split at hrun
      .exact hrun.elim
      rename_i hkk;have hkk:sg.objs.length<=sg.dV.length:=by
       have:Nat.ble sg.objs.length sg.dV.length=true:=by simpa using hkk
       exact Nat.le_of_ble_eq_true this
      rw [show unpack (std N).au sg.inp x=new1++new2 from hun,a3]at hrun;simp only at hrun;have hb3:=b3 [];rw [List.append_nil]at hb3;rw [show uz (std N).au (λi=>i) (λ_=>dZ.gone Co.i64 ((std N).lit 0)) 0 sg.objs new2=some (os1,[])from hb3]at hrun;simp only at hrun;have hql:qs1.length=vs.length:=by rw [<-p2.length,<-p1.length]
      refine calls_of_wp hf hb ?_;have A1:jC E {t:=(List.range qs1.length).zip (anF.map some),h:=h1',n:=sg.objs.length,k:=0,m:=qs1.length+(fn.ntmps-qs1.length)} c1 w {tmps:=vs.toArray++Array.replicate (fn.ntmps-vs.toArray.size) undef,defers:=[]}:=by
       refine⟨⟨λi u hu=>Ew p1 ?_ i u hu,m1,?_⟩,c1n,rfl,by simp [hql]⟩
       .refine F2.Di (by simp [hql]) λj i u hj hu=> ?_
        have:i=j:=by
         have h3:=(List.getElem?_eq_some_iff.1 hj).1;simp at h3;rw [List.getElem?_range h3]at hj;cases hj;rfl
        subst this;have hlt:i<vs.length:=(List.getElem?_eq_some_iff.1 hu).1;simp only;rw [Array.getElem?_append_left (by simpa using hlt)];simpa using hu
       .intro gg d hd;obtain⟨q1,u,q2,q3⟩:=Gl gg d hd;exact⟨ahw _ _ q1,u,q2,q3.mono' λb hb=>ahw _ _ hb⟩
      have S1:SR {t:=(List.range qs1.length).zip (anF.map some),h:=h1',n:=sg.objs.length,k:=0,m:=qs1.length+(fn.ntmps-qs1.length)}
        ({t:=(List.range qs1.length).zip (qs1.map λv=>⟨none,v⟩),gs:=[],h:=os1,m:=qs1.length+(fn.ntmps-qs1.length)}:RSt (std N)):=by
       refine⟨m2,by simp [nm,b4],rfl,λi sv hi=> ?_,λt e he=>by simp at he⟩;obtain⟨q1,q2⟩:=Eu p2 i sv hi;unfold zl;rw [q1];exact q2
      refine wp_mono (oF hE hX hG hm KM c1n code hrun A1 (.refl _ _ _) S1 (.refl _ os1) rfl) ?_
      have fin:∀ {c3:Ctx} {s3':St} {s3:RSt (std N)} {a3x:Act} {w3:World},Grow c1 w h1' c3 w3 s3'.h->jC E s3' c3 w3 a3x->SR s3' s3->Keep sg.objs.length os1 s3.h->
        T9 (std N) X sg fn s3 (λy=>y=ct.fn x)->
        a3x.defers=[]/\∃v,(results fn a3x.tmps).run E.P w3= .ok v w3/\
         Post (λv w'=>∃c' r h' j,Grow c w h c' w' h'/\bI c' w' h'/\c'.n=nm hs.length j/\bF c' w' v r/\K r h' j) (.returned v) w3:=by
       intro c3 s3' s3 at7 w3 g3 A3 S3 K3 hfin;refine⟨A3.defers,?_⟩;generalize hM:T9 (std N) X sg fn s3=M at hfin;unfold T9 at hM;split at hM
       .rename_i rs hrs;split at hM
        .rename_i e2 he2;split at hM
         .rename_i e3 he3;split at hM
          .rename_i EB;have EB:=Ic EB;split at hM
           .rename_i y hy;subst hM;obtain⟨anG,hfin⟩:=gy hfin;have hfin:y=ct.fn x:=hfin;subst hfin;obtain⟨ps,rp1,rp2⟩:=Il (E:=E) hX S3 hrs;obtain⟨us,ps',u1,u2,u3⟩:=AA hE A3 _ (λq=>q=ps) (rp2 _ rfl);subst u3;refine⟨_,J3 u1,?_⟩;generalize hbr:(sg.fresh&&e.fro.all λp=> !p.2)=br at hvk hK;generalize Ui:(if br=true then hs else bB (std m) hs (e.fro.map (·.1)))=h1T at hvk;have EC:h1T.length=hs.length:=by
             rw [<-Ui];split
             .rfl
             .exact ou _ _ _
            have anH:nmh h1T=nmh hs:=by
             rw [<-Ui];split
             .rfl
             .exact uI _ _ _
            obtain⟨nms,ahx⟩:∃nms,newNames e.ren h1T.length sg.dV.length=nms:=⟨_,rfl⟩;rw [ahx]at hvk;have anI:nms.length=sg.dV.length:=by rw [<-ahx];exact iF _ _ _
            obtain⟨anJ,qs3,x1,x2,x3,x4⟩:=uK (λi=>nms.getD i 0) he2;obtain⟨ahy,os3,y1,y2,y3,y4,y5⟩:=qo (λi=>nms.getD i 0) (λi=>uE (std m) h1T (nms.getD i 0)) (λj=>KN h1T _) he3;have hlv3:e3.lv.reverse=anJ++ahy:=by rw [y1,x1];simp [es0]
            have anK:=unpack_pack hy;rw [hlv3]at anK;rw [show unpack (std m).au sg.out (ct.fn x)=anJ++ahy from anK,x3]at hvk;simp only at hvk;have hy3:=y3 [];rw [List.append_nil]at hy3;rw [hy3]at hvk;simp only [Option.some.injEq,Prod.mk.injEq]at hvk;obtain⟨hv,hkT⟩:=hvk;have hrl3:e3.ren.length=sg.dV.length:=by rw [y2.len,x2.len,Ii]
            have Gp:∀(i l:Nat),e.ren[i]? =some (some (some l))->i<sg.objs.length:=λi l hi=>by rw [<-hrl];exact(List.getElem?_eq_some_iff.1 hi).1
            have passed:∀(i l:Nat),e.ren[i]? =some (some (some l))->∃o',AE.look h l=some o'/\o'.live:=λi l hi=>by
             have hik:=Gp i l hi;obtain⟨o2,q1,q2⟩:=hof i _ (List.getElem?_eq_getElem hik);obtain⟨_,_,_,_,q3⟩:=q2.rel H HR hck m3 (λh=>by cases h);exact q3 l (λhg=>jg.gone hi (by rw [List.getElem?_eq_getElem hik,hg])) hi
            have hlh:∀l o',AE.look h l=some o'->l<hs.length:=λl o' hl=>by rw [<-hcn];exact(H.obj l o' hl).1
            have P:=MN (n:=m) os3 e.ren h1T (λi l hi _=>by rw [EC];obtain⟨o',q,_⟩:=passed i l hi;exact hlh l o' q) (λi j l hi hj=>jg.dist hi hj);rw [y4,ahx,hkT]at P;have adi:∀i,i<sg.dV.length->nms[i]? =some (nms.getD i 0):=λi hi=>by
             have:i<nms.length:=by rw [anI];exact hi
             simp [List.getD,List.getElem?_eq_getElem this]
            have nmP:∀i,i<sg.dV.length->kT[nms.getD i 0]? =os3[i]? /\(e.ren[i]? =some (some (some (nms.getD i 0)))\/(hs.length<=nms.getD i 0/\∀q:Nat,e.ren[i]? ≠some (some (some q)))):=λi hi=>by
             obtain⟨l,q1,q2,q3⟩:=P.at_ i (by rw [y4];exact hi);rw [adi i hi]at q1;have q1:=Option.some.inj q1;subst q1;rw [EC]at q3;exact⟨q2,q3⟩
            have VU:∀i j,i<sg.dV.length->j<sg.dV.length->nms.getD i 0=nms.getD j 0->i=j:=λi j hi hj hij=>P.inj i j _ (adi i hi) (by rw [hij];exact adi j hj)
            have asC:∀i,i<sg.dV.length->nms.getD i 0<kT.length:=λi hi=>by
             have h3:=(nmP i hi).1;rw [List.getElem?_eq_getElem (show i<os3.length by rw [y4];exact hi)]at h3;exact(List.getElem?_eq_some_iff.1 h3).1
            have RY:∀(i l:Nat),e.ren[i]? =some (some (some l))->nms.getD i 0=l:=λi l hi=>by
             have hik:=Nat.lt_of_lt_of_le (Gp i l hi) hkk;rcases(nmP i hik).2 with q | ⟨_,q⟩
             .rw [hi]at q;cases q;rfl
             .exact absurd hi (q l)
            have hD:∀l,l∈bJ e.ren->∃i,i<sg.dV.length/\nms.getD i 0=l/\e.ren[i]? =some (some (some l)):=λl hl=>by
             obtain⟨i,hi⟩:=vZ hl;exact⟨i,Nat.lt_of_lt_of_le (Gp i l hi) hkk,RY i l hi,hi⟩
            obtain⟨D,aeD⟩:∃D,bJ e.ren++(if br=true then []else e.fro.map (·.1))=D:=⟨_,rfl⟩;rw [aeD]at hK;have KO:∀l,l∈D↔l∈bJ e.ren\/(br=false/\∃f,(l,f)∈e.fro):=λl=>by
             rw [<-aeD];cases br<;>simp
            have wo:∀l f,(l,f)∈e.fro->(∃g cc xs,hs[l]? =some (.rows g cc xs))/\∃o',AE.look h l=some o'/\o'.live:=λl f hl=>by
             obtain⟨_,g,cc,xs,q⟩:=jg.fro l f hl;obtain⟨o',q1,q2⟩:=HR.old l _ q;cases q2 with | rows _=>exact⟨⟨g,cc,xs,q⟩,_,q1,trivial⟩
            have Gq:∀l o,AE.look (zu D h) l=some o->o.live->l∉D/\AE.look h l=some o:=λl o hl hlv=>by
             by_cases hd:l∈D
             .rw [EA hd]at hl;cases hl;exact hlv.elim
             .rw [qy hd]at hl;exact⟨hd,hl⟩
            have Im:∀l o b,l∉D->AE.look h l=some o->o.live->c.μ l=some b->¬eO c1 h1' b:=λl o b hd hl hlv hb ho=>by
             obtain⟨i,lq,q,q1,q2,q3,q4⟩:=anD b ho;have:=H.inj l o lq q b hl hlv q2 q3 hb q4;subst this;exact hd ((KO l).2 (.inl (qp q1)))
            have RZ:∀b,eO c1 h1' b->eO c h b:=λb hb=>by
             obtain⟨i,lq,q,_,q2,q3,q4⟩:=anD b hb;exact⟨lq,q,q2,q3,q4⟩
            have kept:∀f b,c.K f b->w3.heap[b]? =w.heap[b]? :=λf b hb=>g3.kept b (H.low f b hb) (λho=>H.own f b (RZ b ho) hb)
            have Hb:bI c w3 (zu D h):=by
             refine⟨λl o hl=> ?_,λl o l' o' b q1 q2 q3 q4 q5 q6=> ?_,?_,λf b hb=>Nat.lt_of_lt_of_le (H.low f b hb) g3.size,H.sub⟩
             .by_cases hd:l∈D
              .rw [EA hd]at hl;cases hl;refine⟨?_,trivial⟩;rcases(KO l).1 hd with h3 | ⟨_,f,h3⟩
               .obtain⟨i,hi⟩:=vZ h3;obtain⟨o',q,_⟩:=passed i l hi;exact(H.obj l o' q).1
               .obtain⟨_,o',q,_⟩:=wo l f h3;exact(H.obj l o' q).1
              .rw [qy hd]at hl;obtain⟨q1,q2⟩:=H.obj l o hl;exact⟨q1,q2.mono (.refl c) kept g3.stays q1 (λb hlv hb=>g3.kept b (q2.lt hlv hb) (Im l o b hd hl hlv hb))⟩
             .obtain⟨_,r1⟩:=Gq l o q1 q2;obtain⟨_,r2⟩:=Gq l' o' q3 q4;exact H.inj l o l' o' b r1 q2 r2 q4 q5 q6
             .rintro f b ⟨l,o,hl,hlv,hb⟩ hk;obtain⟨_,r1⟩:=Gq l o hl hlv;exact H.own f b ⟨l,o,r1,hlv,hb⟩ hk
            have VW:∀l o b,AE.look h l=some o->o.live->c.μ l=some b->b<w.heap.size:=λl o b hl hlv hb=>(H.obj l o hl).2.lt hlv hb
            have aeE:∀l o b,l∉D->AE.look h l=some o->o.live->c.μ l=some b->¬eO c3 s3'.h b:=λl o b hd hl hlv hb ho=>by
             rcases g3.oZ b ho with h3 | h3
             .exact Im l o b hd hl hlv hb h3
             .have:=VW l o b hl hlv hb;omega
            have R3:∀q g b,(q,g)∈e3.fro->c3.μ q=some b->eO c3 s3'.h b:=λq g b hq hb=>by
             obtain⟨_,g',cc,xs,hl⟩:=EB.fro q g hq;obtain⟨o',q1,q2⟩:=S3.heap.old q _ hl;cases q2 with | rows _=>exact⟨q,_,q1,trivial,hb⟩
            have anL:br=true->∀l f,(l,f)∈e.fro->f=false:=λhb l f hl=>by
             rw [<-hbr]at hb;simp only [Bool.and_eq_true]at hb;have:=List.all_eq_true.1 hb.2 _ hl;simpa using this
            have ahp:∀f b,eO c (zu D h) b->KX e3 c3 br f b->False:=by
             rintro f b ⟨l,o,hl,hlv,hb⟩ hk;obtain⟨hd,hl⟩:=Gq l o hl hlv;rcases hk with hk | ⟨q,g,q1,q2,_⟩
             .rcases g3.wH _ b hk with h3 | h3 | h3
              .rcases c1K _ b h3 with h3 | ⟨l2,g2,q1,q2,q3⟩
               .exact H.own _ b ⟨l,o,hl,hlv,hb⟩ h3
               .obtain⟨_,o2,r1,r2⟩:=wo l2 g2 q1;have:=H.inj l o l2 o2 b hl hlv r1 r2 hb q2;subst this;cases hbb:br with
                | false=>exact hd ((KO l).2 (.inr ⟨hbb,g2,q1⟩))
                | true=>
                 have h5:=q3 (by rw [hbb];simp);have h6:=anL hbb l g2 q1;rw [h5]at h6;cases h6
              .have:=VW l o b hl hlv hb;omega
              .exact Im l o b hd hl hlv hb h3
             .exact aeE l o b hd hl hlv hb (R3 q g b q1 q2)
            have asD:∃μ2:Nat->Option (Nat×Nat),(∀l,l<hs.length->μ2 l=c.ν l)/\(∀(i q:Nat),i<sg.dV.length->hs.length<=nms.getD i 0->e3.ren[i]? =some (some (some q))->μ2 (nms.getD i 0)=Em (trK e3 s3.h i q) (c3.ν q))/\
              (∀i:Nat,i<sg.dV.length->hs.length<=nms.getD i 0->e3.ren[i]? =some (some none)->μ2 (nms.getD i 0)=none):=by
             have hch:∀l,∃ob:Option (Nat×Nat),(l<hs.length->ob=c.ν l)/\(∀(i q:Nat),i<sg.dV.length->hs.length<=l->nms.getD i 0=l->e3.ren[i]? =some (some (some q))->ob=Em (trK e3 s3.h i q) (c3.ν q))/\
               (∀i:Nat,i<sg.dV.length->hs.length<=l->nms.getD i 0=l->e3.ren[i]? =some (some none)->ob=none):=by
              intro l;by_cases hl:l<hs.length
              .exact⟨c.ν l,λ_=>rfl,λi q _ h4=>by omega,λi _ h4=>by omega⟩
              .by_cases hx:∃i q:Nat,i<sg.dV.length/\nms.getD i 0=l/\e3.ren[i]? =some (some (some q))
               .obtain⟨i,q,h4,h5,h6⟩:=hx;refine⟨Em (trK e3 s3.h i q) (c3.ν q),λh=>absurd h hl,λj q' h7 _ h9 h10=> ?_,λj h7 _ h9 h10=> ?_⟩
                .have:=VU i j h4 h7 (h5.trans h9.symm);subst this;rw [h6]at h10;cases h10;rfl
                .have:=VU i j h4 h7 (h5.trans h9.symm);subst this;rw [h6]at h10;cases h10
               .exact⟨none,λh=>absurd h hl,λj q' h7 _ h9 h10=>absurd ⟨j,q',h7,h9,h10⟩ hx,λ_ _ _ _ _=>rfl⟩
             obtain⟨μ2,ahz⟩:=Classical.axiomOfChoice hch;exact⟨μ2,λl hl=>(ahz l).1 hl,λi q h4 h5 h6=>(ahz _).2.1 i q h4 h5 rfl h6,λi h4 h5 h6=>(ahz _).2.2 i h4 h5 rfl h6⟩
            obtain⟨μ2,μa,μb,μc⟩:=asD;have MO:∀(i:Nat) (v:Option Nat),i<sg.objs.length->e3.ren[i]? =some (some v)->v=some i/\(es0 (std N) sg.objs.length sg.dV).ren[i]? =some (some (some i)):=λi v hi hv=>by
             have hik:=Nat.lt_of_lt_of_le hi hkk;have h0:=Ih (n:=N) hi hik;have hg:q9 sg.dV[i]? =false:=by
              unfold q9;split
              .rename_i hh;exact absurd hh (EB.gone hv)
              .rfl
             rw [hg]at h0;have h0:(es0 (std N) sg.objs.length sg.dV).ren[i]? =some (some (some i)):=by simpa using h0
             have:=y2.ren i _ (x2.ren i _ h0);rw [hv]at this;cases this;exact⟨rfl,h0⟩
            have hname:∀(i q:Nat),e3.ren[i]? =some (some (some q))->μ2 (nms.getD i 0)=Em (trK e3 s3.h i q) (c3.ν q):=λi q hi=>by
             have hik:i<sg.dV.length:=by rw [<-hrl3];exact(List.getElem?_eq_some_iff.1 hi).1
             rcases(nmP i hik).2 with h4 | ⟨h4,_⟩
             .have hio:=Gp i _ h4;obtain⟨h5,h5'⟩:=MO i _ hio hi;cases h5;obtain⟨o',h6,_⟩:=passed i _ h4;have ht3:jk (std N) e3 i=none:=by rw [y2.tr i _ (x2.ren i _ h5'),x2.tr i _ h5'];rfl
              have ht0:jk (std m) e i=none:=by simp [jk,htr]
              rw [μa _ (hlh _ o' h6),mZ ht3,jR,g3.le.ν i (by rw [c1n];exact hio)];have:=(m3.name i _ h4).2;rw [mZ ht0,jR]at this;exact this.symm
             .exact μb i q hik h4 hi
            have hnil:∀(i:Nat),e3.ren[i]? =some (some none)->μ2 (nms.getD i 0)=none:=λi hi=>by
             have hik:i<sg.dV.length:=by rw [<-hrl3];exact(List.getElem?_eq_some_iff.1 hi).1
             rcases Nat.lt_or_ge i sg.objs.length with h4 | h4
             .obtain⟨h5,_⟩:=MO i _ h4 hi;cases h5
             .rcases(nmP i hik).2 with h5 | ⟨h5,_⟩
              .have:=Gp i _ h5;omega
              .exact μc i hik h5 hi
            have hsame:Same hs kT:=λl z hz=>by
             have hll:l<hs.length:=by
              rcases Nat.lt_or_ge l hs.length with hl | hl
              .exact hl
              .simp [nmh,List.getElem?_eq_none hl]at hz
             by_cases hp:∃i:Nat,e.ren[i]? =some (some (some l))
             .obtain⟨i,hi⟩:=hp;have hio:=Gp i l hi;have hik:=Nat.lt_of_lt_of_le hio hkk;have hn:=RY i l hi;have hat:=(nmP i hik).1;rw [hn]at hat;obtain⟨k3,hk3⟩:∃k3,sg.dV[i]? =some k3:=⟨_,List.getElem?_eq_getElem hik⟩;obtain⟨o3,r1,r2⟩:=y5 e3 (.refl _) i k3 hk3;rw [Nat.zero_add]at r2;have goal:nmh [o3] 0=some z->nmh kT l=some z:=λhh=>by
               simp only [nmh,hat,r1];simpa [nmh]using hh
              by_cases hg:k3= .gone
              .refine goal ?_;rw [r2.gone hg];show nmh [uE (std m) h1T (nms.getD i 0)] 0=some z;rw [hn];rw [<-anH]at hz;unfold uE;simp only [nmh]at hz ⊢;split at hz
               .rename_i hh;rw [hh];simpa using hz
               .rename_i hh;rw [hh];simpa using hz
               .cases hz
              .obtain⟨v3,hv3⟩:=r2.live hg;obtain⟨h5,h6⟩:=MO i _ hio hv3;subst h5;obtain⟨o1',s1,s2⟩:=hof i _ (List.getElem?_eq_getElem hio);have asE:sg.objs[i]≠ .gone:=λhh=>jg.gone hi (by rw [List.getElem?_eq_getElem hio,hh])
               have t1:=s2.s1 l z.1 z.2 asE hi (by rw [hz]);have asF:jk (std m) e i=none:=by simp [jk,htr]
               rw [asF]at t1;have t2:nmh os1 i=some z:=by simp only [nmh,s1];simpa [nmh]using t1
               rcases(K3 i hio).2 z t2 with⟨cc,nn,hgo⟩ | t3
               .exfalso;obtain⟨v3',aua⟩:=r2.live hg;have:=Gn he3 (i:=i) hk3 hg (l:=i) (by rw [Nat.zero_add];exact hv3);obtain⟨o4,ho4,asG⟩:=this;rw [hgo]at ho4;cases ho4;exact asG ⟨_,_,rfl⟩
               .have asH:jk (std N) e3 i=none:=by rw [y2.tr i _ (x2.ren i _ h6),x2.tr i _ h6];rfl
                have t4:=r2.s1 i z.1 z.2 hg hv3 (by rw [t3]);rw [asH]at t4;exact goal t4
             .have hp':∀i:Nat,i<os3.length->e.ren[i]? ≠some (some (some l)):=λi _ hi=>hp ⟨i,hi⟩
              have:=P.old l (by rw [EC];exact hll) hp';rw [<-anH]at hz;simp only [nmh,this];exact hz
            have asI:∀(j:Nat) (kk:SkO),sg.dV[j]? =some kk->∃o2,os3[j]? =some o2/\OF e3 s3.h (λi=>nms.getD i 0) j kk (uE (std m) h1T (nms.getD j 0)) o2:=λj kk hj=>by
             obtain⟨o2,q1,q2⟩:=y5 e3 (.refl _) j kk hj;exact⟨o2,q1,by simpa using q2⟩
            have asJ:br=true->sg.dV.all SkO.fresh=true:=λhb=>by
             rw [<-hbr]at hb;simp only [Bool.and_eq_true,Sig.fresh]at hb;exact hb.1.2
            have asK:br=true->sg.res.all SkV.fresh=true:=λhb=>by
             rw [<-hbr]at hb;simp only [Bool.and_eq_true,Sig.fresh]at hb;exact hb.1.1
            obtain⟨o3f,z1,z2,z3,z4,z5,z6⟩:=yg (ks:=sg.dV) (nm:=λi=>nms.getD i 0) (old:=λi=>uE (std m) h1T (nms.getD i 0)) A3.abs.heap S3.heap anG EB hrl3 y4 asI (cb:=c) (hb':=zu D h)
             Hb br asJ (ν2:=μ2) (n2:=kT.length) (by rw [hcn,<-EC];exact P.len) (λl hl=>μa l (by rw [<-hcn];exact hl)) asC VU hname hnil (h2:=kT) (λi hi=>(nmP i hi).1)
             (λl o hl ho=>by
              have hll:l<hs.length:=by
               rcases Nat.lt_or_ge l hs.length with h4 | h4
               .exact h4
               .obtain⟨i,q1,q2⟩:=P.new l (by rw [EC];exact h4) (List.getElem?_eq_some_iff.1 ho).1;rw [y4]at q1;rw [adi i q1]at q2;exact absurd (Option.some.inj q2) (hl i q1)
              have hnp:l∉bJ e.ren:=λhp=>by
               obtain⟨i,q1,q2,_⟩:=hD l hp;exact hl i q1 q2
              have h5:=P.old l (by rw [EC];exact hll) (λi hi hh=>hnp (qp hh));rw [h5]at ho;by_cases hd:l∈D
              .rcases(KO l).1 hd with h6 | ⟨hb0,f,h6⟩
               .exact absurd h6 hnp
               .rw [<-Ui,hb0]at ho;simp only [Bool.false_eq_true,if_false]at ho;obtain⟨⟨g,cc,xs,h7⟩,_⟩:=wo l f h6;have:Gone (bB (std m) hs (e.fro.map (·.1))) l:=zq (List.mem_map.2 ⟨_,h6,rfl⟩) h7;obtain⟨c5,n5,h8⟩:=this;rw [h8]at ho;cases ho;exact⟨.gone,EA hd,.gone⟩
              .have h7:hs[l]? =some o:=by
                rw [<-Ui]at ho;split at ho
                .exact ho
                .rename_i hb0;rw [jP m _ _ (λh8=>hd ((KO l).2 (.inr ⟨by simpa using hb0,by
                  obtain⟨p,hp,rfl⟩:=List.mem_map.1 h8;exact⟨p.2,hp⟩⟩)))]at ho
                 exact ho
               obtain⟨o',r1,r2⟩:=HR.old l _ h7;exact⟨o',by rw [qy hd];exact r1,r2.mono hsame⟩)
             (λl hl=>by
              have hll:hs.length<=l:=by have:=P.len;rw [EC]at this;omega
              have hnd:l∉D:=λhd=>by
               rcases(KO l).1 hd with h4 | ⟨_,f,h4⟩
               .obtain⟨i,hi⟩:=vZ h4;obtain⟨o',q,_⟩:=passed i l hi;have:=hlh l o' q;omega
               .obtain⟨_,o',q,_⟩:=wo l f h4;have:=hlh l o' q;omega
              rw [qy hnd];exact HR.new l hll)
             (λb ⟨l,o,hl,hlv,hb⟩ ho=>by
              obtain⟨hd,hl⟩:=Gq l o hl hlv;exact aeE l o b hd hl hlv hb ho)
             (λf b hk ho=>A3.abs.heap.own f b ho (g3.le.K f b (ahw f b hk))) ahp
            have wvs:F2 (WV c3 w3 (nmh s3.h)) us rs:=by
             clear he2 x1 x2 x3 x4 hrs u1 rp2
             induction u2 generalizing rs with
             | nil=>cases rp1;exact .nil
             | cons q1 _ ih=>cases rp1 with | cons q3 q4=>exact .cons ⟨_,q1,q3⟩ (ih _ q4)
            obtain⟨asL,w1,w2⟩:=Ij (x4 A3.abs.heap S3.heap y2 anG z3 asK wvs);have hv3:PVR (nmh kT) (one asL) v:=by rw [<-hv];exact ahv w2 (Ez (x3 ahy))
            have hkl:kT.length=nm hs.length (kT.length-hs.length):=by have:=P.len;rw [EC]at this;simp [nm];omega
            have asM:∀b,eO c (zu D h) b->eO c h b:=λb ⟨l,o,hl,hlv,hb⟩=>⟨l,o,(Gq l o hl hlv).2,hlv,hb⟩
            have aeF:∀b,eO c3 s3'.h b->eO c h b\/w.heap.size<=b:=λb hb=>(g3.oZ b hb).imp (RZ b) id
            refine⟨_,_,_,kT.length-hs.length,?_,z1,hkl,adg w1,hK _ _ _ hv3 z2 ?_ hkl⟩
            .refine⟨z5,g3.size,g3.stays,λb hb hno=>g3.kept b hb (λho=>hno (RZ b ho)),λf b hb=> ?_,λb hb=> ?_,g3.os,g3.tape,g3.output⟩
             .rcases hb with hb | hb | ⟨q,g,q1,q2,_⟩
              .exact .inl hb
              .rcases g3.wH _ b hb with h4 | h4 | h4
               .rcases c1K _ b h4 with h5 | ⟨l2,g2,q1,q2,q3⟩
                .left;cases f with
                 | true=>simpa using h5
                 | false=>cases br with
                  | true=>exact H.sub b (by simpa using h5)
                  | false=>simpa using h5
                .obtain⟨_,o2,r1,r2⟩:=wo l2 g2 q1;exact .inr (.inr ⟨l2,o2,r1,r2,q2⟩)
               .exact .inr (.inl h4)
               .exact .inr (.inr (RZ b h4))
              .rcases aeF b (R3 q g b q1 q2)with h4 | h4
               .exact .inr (.inr h4)
               .exact .inr (.inl h4)
             .rcases z4 b hb with h4 | ⟨i,lq,q,_,q2,q3,q4⟩
              .exact .inl (asM b h4)
              .exact aeF b ⟨lq,q,q2,q3,q4⟩
            .refine⟨hsame,by have:=P.len;rw [EC]at this;exact this,λl ⟨cc,nn,hgo⟩=> ?_,λl hl hnd=> ?_⟩
             .have hll:=(List.getElem?_eq_some_iff.1 hgo).1;have hnp:∀i:Nat,e.ren[i]? ≠some (some (some l)):=λi hi=>by
               obtain⟨o',q1,q2⟩:=passed i l hi;obtain⟨o2,q3,q4⟩:=HR.old l _ hgo;rw [q1]at q3;cases q3;cases q4;exact q2.elim
              have hnf:∀f,(l,f)∉e.fro:=λf hf=>by
               obtain⟨⟨g,c5,xs,h7⟩,_⟩:=wo l f hf;rw [hgo]at h7;cases h7
              refine⟨cc,nn,?_⟩;rw [P.old l (by rw [EC];exact hll) (λi _=>hnp i),<-Ui];split
              .exact hgo
              .rw [jP m _ _ (λh8=>by
                obtain⟨p,hp,rfl⟩:=List.mem_map.1 h8;exact hnf p.2 hp)]
               exact hgo
             .have hnp:∀i:Nat,e.ren[i]? ≠some (some (some l)):=λi hi=>hnd ((KO l).2 (.inl (qp hi)))
              refine⟨?_,?_⟩
              .rw [P.old l (by rw [EC];exact hl) (λi _=>hnp i),<-Ui];split
               .rfl
               .rename_i hb0;exact jP m _ _ (λh8=>hnd ((KO l).2 (.inr ⟨by simpa using hb0,by
                 obtain⟨p,hp,rfl⟩:=List.mem_map.1 h8;exact⟨p.2,hp⟩⟩)))
              .rw [z6 l (λi hi hh=>by
                rcases(nmP i hi).2 with h4 | ⟨h4,_⟩
                .rw [hh]at h4;exact hnp i h4
                .omega),qy hnd]
           ·(subst hM;exact hfin.elim)
          ·(subst hM;exact hfin.elim)
         ·(subst hM;exact hfin.elim)
        ·(subst hM;exact hfin.elim)
       ·(subst hM;exact hfin.elim)
      intro ex a' w' he;cases ex with
      | outgrown=>exact he.elim
      | panic _=>exact he.elim
      | goto _=>exact he.elim
      | normal=>obtain⟨c3,s3',s3,g1,g2,g3,g4,_,g6⟩:=he;exact fin g1 g2 g3 g4 g6
      | ret=>obtain⟨c3,s3',s3,g1,g2,g3,g4,_,g6⟩:=he;exact fin g1 g2 g3 g4 g6
      | exit i=>obtain⟨c3,s3',s3,g1,g2,g3,g4,_,g6⟩:=he;exact g6.elim
     .cases hcall
    .cases hcall
   .cases hcall
  .cases hcall
end
end
end Go.TX
namespace Go.TX
open Go Go.AE
structure FM{ρ:Type}(m:(ρ->Prop)->Prop):Prop where
 mono:∀Q Q':ρ->Prop,(∀y,Q y->Q' y)->m Q->m Q'
 one:∀Q:ρ->Prop,m Q->∃y,Q y/\m (λz=>z=y)
 two:∀Q Q':ρ->Prop,m Q->m Q'->∃y,Q y/\Q' y
section
variable {n:Nat} {ρ:Type}
theorem FM.fail:FM (λ_:ρ->Prop=>False):=⟨λ_ _ _ h=>h,λ_ h=>h.elim,λ_ _ h=>h.elim⟩
theorem FM.ret(t:ρ):FM (λQ:ρ->Prop=>Q t):=⟨λ_ _ h hq=>h _ hq,λ_ hq=>⟨t,hq,rfl⟩,λ_ _ h g=>⟨t,h,g⟩⟩
theorem FM.bind{α:Type}{m:(α->Prop)->Prop}{k:α->(ρ->Prop)->Prop}(hm:FM m)(hk:∀t,FM (k t)):FM (λQ=>m λt=>k t Q):=
 ⟨λQ Q' h hq=>hm.mono _ _ (λt ht=>(hk t).mono _ _ h ht) hq,λQ hq=>by
  obtain⟨t,h1,h2⟩:=hm.one _ hq;obtain⟨y,h3,h4⟩:=(hk t).one _ h1;exact⟨y,h3,hm.mono _ _ (λt' e=>by subst e;exact h4) h2⟩,λQ Q' h g=>by
  obtain⟨t,h1,h2⟩:=hm.two _ _ h g;exact(hk t).two _ _ h1 h2⟩
theorem FM.uo{α:Type}{m:(α ⊕ ρ->Prop)->Prop}{k:α->(ρ->Prop)->Prop}(hm:FM m)(hk:∀t,FM (k t)):FM (λQ=>m (CU k Q)):=
 ⟨λQ Q' h hq=>hm.mono _ _ (λt ht=>by
  cases t with
  | inl x=>exact(hk x).mono _ _ h ht
  | inr r=>exact h _ ht) hq,λQ hq=>by
  obtain⟨t,h1,h2⟩:=hm.one _ hq;cases t with
  | inl x=>
   obtain⟨y,h3,h4⟩:=(hk x).one _ h1;exact⟨y,h3,hm.mono _ _ (λt' e=>by subst e;exact h4) h2⟩
  | inr r=>exact⟨r,h1,hm.mono _ _ (λt' e=>by subst e;rfl) h2⟩,λQ Q' h g=>by
  obtain⟨t,h1,h2⟩:=hm.two _ _ h g;cases t with
  | inl x=>exact(hk x).two _ _ h1 h2
  | inr r=>exact⟨r,h1,h2⟩⟩
theorem FM.itW{α:Type}{f:α->(α ⊕ ρ->Prop)->Prop}(hf:∀x,FM (f x)):∀(N:Nat) (x:α),FM (TX.itW N f x)
 | 0,x=>by simp_all [TX.itW,fail]
 | N+1,x=>by
  have e:TX.itW (N+1) f x=λQ=>f x (CU (TX.itW N f) Q):=by funext Q;rw [TX.itW]
  rw [e];exact .uo (hf x) (FM.itW hf N)
theorem A9{α:Type}{k k':α->(ρ->Prop)->Prop}{Q Q':ρ->Prop}(hk:∀x,k x Q->k' x Q')(hq:∀y,Q y->Q' y):∀s,CU k Q s->CU k' Q' s
 | .inl x=>hk x
 | .inr r=>hq r
theorem MQ{α:Type}{f:α->(α ⊕ ρ->Prop)->Prop}(hf:∀x,FM (f x)){Q:ρ->Prop}:∀ {N M:Nat} {x:α},N<=M->TX.itW N f x Q->TX.itW M f x Q
 | 0,_,_,_,h=>by grind [TX.itW]
 | N+1,0,_,h,_=>absurd h ah
 | N+1,M+1,x,h,g=>by
  rw [TX.itW]at g ⊢;exact(hf x).mono _ _ (A9 (λy k=>MQ hf ah k) (λ_ k=>k)) g
theorem EF{α:Type}{f:α->(α ⊕ ρ->Prop)->Prop}(hf:∀x,FM (f x)){x:α}{Q:ρ->Prop}(h:RA f x Q):∃r,Q r/\∃N,TX.itW N f x (λz=>z=r):=by
 obtain⟨I,μ,h0,hs⟩:=h;have key:∀(n:Nat) (y:α),μ y<n->I y->∃r,Q r/\∃N,TX.itW N f y (λz=>z=r):=by
  intro n
  induction n with
  | zero=>intro y h;omega
  | succ n ih=>
   intro y hy hI;obtain⟨s,h1,h2⟩:=(hf y).one _ (hs y hI);cases s with
   | inl z=>
    obtain⟨r,q1,N,q2⟩:=ih z (by have:=h1.2;omega) h1.1;refine⟨r,q1,N+1,?_⟩;rw [TX.itW];exact(hf y).mono _ _ (λs e=>by subst e;exact q2) h2
   | inr r=>
    refine⟨r,h1,1,?_⟩;rw [TX.itW];exact(hf y).mono _ _ (λs e=>by subst e;rfl) h2
 exact key _ x (Nat.lt_succ_self _) h0
theorem FM.iter{α:Type}{f:α->(α ⊕ ρ->Prop)->Prop}(hf:∀x,FM (f x))(x:α):FM (λQ=>RA f x Q):=by
 refine⟨λQ Q' h ⟨I,μ,h0,hs⟩=>⟨I,μ,h0,λy hy=>(hf y).mono _ _ (A9 (λ_ h=>h) h) (hs y hy)⟩,λQ h=> ?_,λQ Q' h g=> ?_⟩
 rotate_left
 .obtain⟨r,q1,N,q2⟩:=EF hf h;obtain⟨t,g1,M,g2⟩:=EF hf g;obtain⟨z,rfl,rfl⟩:=(FM.itW hf (max N M) x).two _ _ (MQ hf (Nat.le_max_left ..) q2) (MQ hf (Nat.le_max_right ..) g2);exact⟨_,q1,g1⟩
 obtain⟨r,q1,N,q2⟩:=EF hf h;refine⟨r,q1,?_⟩;have least:∀y,(∃N,TX.itW N f y (λz=>z=r))->∃N,TX.itW N f y (λz=>z=r)/\∀M,M<N->¬TX.itW M f y (λz=>z=r):=by
  intro y ⟨N,hN⟩
  induction N using Nat.strongRecOn with
  | ind N ih=>grind
 have pick:∀y,∃N,(∃N,TX.itW N f y (λz=>z=r))->TX.itW N f y (λz=>z=r)/\∀M,M<N->¬TX.itW M f y (λz=>z=r):=λy=>by
  by_cases h:∃N,TX.itW N f y (λz=>z=r)
  .obtain⟨N,hN⟩:=least y h;grind
  simp_all
 obtain⟨ν,hν⟩:=Classical.axiomOfChoice pick;refine⟨λy=>∃N,TX.itW N f y (λz=>z=r),ν,⟨N,q2⟩,λy hy=> ?_⟩;obtain⟨h1,h2⟩:=hν y hy;cases hn:ν y with
 | zero=>grind [TX.itW]
 | succ k=>
  rw [hn]at h1;rw [TX.itW]at h1;refine(hf y).mono _ _ (A9 (λz hz=> ?_) (λ_ h=>h)) h1
  grind
theorem FM.chk{b:Bool}{m:(ρ->Prop)->Prop}(h:FM m):FM (λQ=>b=true/\m Q):=
 ⟨λ_ _ hq ⟨a,c⟩=>⟨a,h.mono _ _ hq c⟩,λ_ ⟨a,c⟩=>let⟨y,q1,q2⟩:=h.one _ c;⟨y,q1,a,q2⟩,λ_ _ ⟨_,c⟩ ⟨_,d⟩=>h.two _ _ c d⟩
theorem FM.gP{m:(ρ->Prop)->Prop}(h:FM m):∀(ps:List Bool),FM (TX.gP (std n) ps m)
 | []=>h
 | _::ps=> .chk (FM.gP h ps)
theorem FM.cond{b:Bool}{x y:(ρ->Prop)->Prop}(hx:FM x)(hy:FM y):FM (λQ=>(b=true->x Q)/\(b=false->y Q)):=
 ⟨λ_ _ hq ⟨a,c⟩=>⟨λh=>hx.mono _ _ hq (a h),λh=>hy.mono _ _ hq (c h)⟩,λ_ ⟨a,c⟩=>by
  cases b with
  | true=>obtain⟨y,q1,q2⟩:=hx.one _ (a rfl);grind
  | false=>obtain⟨y,q1,q2⟩:=hy.one _ (c rfl);grind,λ_ _ ⟨a,c⟩ ⟨a',c'⟩=>by
  cases b with
  | true=>exact hx.two _ _ (a rfl) (a' rfl)
  | false=>exact hy.two _ _ (c rfl) (c' rfl)⟩
theorem FM.bind'{ts:List LTy}{m:(iE ts->Prop)->Prop}{k:iE ts->(ρ->Prop)->Prop}(hm:FM m)(hk:∀t,FM (k t)):FM ((std n).bind ts m k):=by simp_all [FM.bind]
theorem FM.ahA{ts:List LTy}{m:(iE ts ⊕ ρ->Prop)->Prop}{k:iE ts->(ρ->Prop)->Prop}(hm:FM m)(hk:∀t,FM (k t)):FM ((std n).uo ts m k):=by simp_all [FM.uo]
theorem FM.inl'{ts:List LTy}(t:iE ts):FM ((std n).inl (ρ:=ρ) ts t):=FM.ret _
theorem FM.inr'{ts:List LTy}{m:(ρ->Prop)->Prop}(h:FM m):FM ((std n).inr (ρ:=ρ) ts m):=by simp_all [FM.bind,iE,FM.ret]
theorem FM.iter'{ts:List LTy}{f:iE ts->(iE ts ⊕ ρ->Prop)->Prop}(hf:∀x,FM (f x))(x:iE ts):FM ((std n).iter ts f x):=FM.iter hf x
theorem FM.ret'{ts:List LTy}(t:iE ts):FM ((std n).ret ts t):=FM.ret t
theorem FM.use{cr:CR (std n)}{K:SVal->List aK->(ρ->Prop)->Prop}(h:∀v k,FM (K v k)):FM (rX (std n) cr K):=by
 obtain⟨ck,ts,y,k,td,p⟩:=cr;unfold rX;cases ts with
 | nil=>grind [fail]
 | cons a b=>grind [fail]
end
theorem uM:∀(ts:List LTy),Nonempty (iE ts)
 | []=>⟨()⟩
 | t::r=>by
  obtain⟨y⟩:=uM r;have x:Nonempty (LT aD t):=by
   cases t with
   | i=>exact⟨(0:Int)⟩
   | b=>exact⟨false⟩
   | s=>exact⟨(default:ByteArray)⟩
   | l c=>exact⟨([]:List c.den)⟩
   | x c=>exact⟨(default:c.den)⟩
  obtain⟨x⟩:=x;exact⟨(x,y)⟩
noncomputable def cn {s:Sig} (F:iE s.inp->(iE s.out->Prop)->Prop):Ct aD s:=
 {pre:=λx=> @decide (∃y,F x λz=>z=y) (Classical.propDecidable _)
  fn:=λx=> @Classical.epsilon _ (uM _) λy=>F x λz=>z=y}
structure Fn(E:Tab)(f:FuncId){s:Sig}(F:iE s.inp->(iE s.out->Prop)->Prop)(c:Ct aD s):Prop where
 e:c=cn F
 fm:∀x,FM (F x)
 ok:dN E f (dK c)
theorem Fn.cs{E:Tab}{f:FuncId}{s:Sig}{F:iE s.inp->(iE s.out->Prop)->Prop}{c:Ct aD s}(h:Fn E f F c){x:iE s.inp}{Q:iE s.out->Prop}(g:F x Q):c.pre x=true/\Q (c.fn x):=by
 rw [h.e];obtain⟨y,h1,h2⟩:=(h.fm x).one _ g;have e:∃y,F x λz=>z=y:=⟨y,h2⟩
 refine⟨by grind [cn,decide_eq_true,Classical.propDecidable],?_⟩;obtain⟨z,k1,k2⟩:=(h.fm x).two _ _ g (@Classical.epsilon_spec _ (λy=>F x λz=>z=y) e)
 grind [cn]
variable [aB]
section
variable {n:Nat} {ρ:Type}
theorem FM.region{X:XT}{C:Calls aD}{ops:List Oper}{K:RSt (std n)->(ρ->Prop)->Prop}(hK:∀s,FM (K s)):∀(rest:List Oper) (s:RSt (std n)),FM (fH (std n) X C ops rest K s)
 | [],s=>by unfold fH;exact hK s
 | o::rest,s=>by
  have ih:=FM.region (X:=X) (C:=C) (ops:=ops) hK rest;unfold fH;split
  .split
   .split
    .split
     .refine FM.gP ?_ _;rw [Da];exact ih _
     .exact .fail
    .split
     .exact FM.gP (FM.use λv k=>ih _) _
     .exact .fail
   .split
    .split
     .exact ih _
     .split
      .split
       .exact FM.gP (ih _) _
       .exact .fail
      .split
       .split
        .exact FM.gP (FM.use λv k=>ih _) _
        .exact .cond (FM.gP (FM.use λv k=>ih _) _) (ih _)
       .exact .fail
     .exact .fail
    .exact .fail
  .exact .fail
theorem FM.draw{X:XT}{C:Calls aD}{ops:List Oper}{K:RSt (std n)->(ρ->Prop)->Prop}(hK:∀s,FM (K s)):∀(rest:List fO) (hs:List (Nat×List Nat)) (s:RSt (std n)),FM (iO (std n) X C ops rest hs K s)
 | [],hs,s=>by unfold iO;exact hK s
 | (i,rs,cs)::rest,hs,s=>by
  have ih:=FM.draw (X:=X) (C:=C) (ops:=ops) hK rest;unfold iO;split
  .exact .fail
  .split
   .simp only;split
    .split
     .exact .fail
     .split
      .split
       .refine FM.gP ?_ _;rw [Da];exact ih _ _
       .exact .fail
      .split
       .split
        .exact ih _ _
        .split
         .exact FM.gP (ih _ _) _
         .exact .fail
        .exact .fail
       .exact .fail
    .split
     .exact FM.gP (ih _ _) _
     .exact ih _ _
     .exact .fail
    .split
     .exact FM.gP (ih _ _) _
     .exact .fail
    .split
     .split
      .split
       .exact FM.gP (FM.use λv k=>ih _ _) _
       .exact .fail
      .exact .fail
     .split
      .split
       .exact ih _ _
       .split
        .split
         .split
          .exact FM.gP (FM.use λv k=>ih _ _) _
          .exact .cond (FM.gP (FM.use λv k=>ih _ _) _) (ih _ _)
         .exact .fail
        .exact .fail
       .exact .fail
      .exact .fail
   .exact .fail
theorem FM.cut{k:Nat}{sk:jY}{pl:Bool}{s:RSt (std n)}{K:Exit->RSt (std n)->(ρ->Prop)->Prop}(hK:∀e s,FM (K e s)){W: {σ:Type}->(Exit->RSt (std n)->(σ->Prop)->Prop)->(σ->Prop)->Prop}
  (hW:∀ {σ:Type} {K':Exit->RSt (std n)->(σ->Prop)->Prop},(∀e s,FM (K' e s))->FM (W K')):FM (Mx (std n) k sk pl s K W):=by
 unfold Mx;split
 .refine FM.bind' (hW λe s=> ?_) (λt=>hK _ _);split
  .split
   .exact FM.gP (FM.ret' _) _
   .exact .fail
  .exact .fail
 .refine FM.ahA (hW λe s=> ?_) (λt=>hK _ _);split
  .split
   .exact FM.gP (FM.inl' _) _
   .exact .fail
  .exact FM.inr' (hK _ _)
theorem FM.reg{X:XT}{C:Calls aD}{ord:Nat->List fO}{chk:Nat->Array Oper->Nat->Bool}{id:Nat}{ops:Array Oper}{draw:Bool}{s:RSt (std n)}{K:Exit->RSt (std n)->(ρ->Prop)->Prop}(hK:∀e s,FM (K e s)):
 FM ((if draw then(if chk id ops s.m then iO (std n) X C ops.toList (ord id) [] (λs=>K .normal s) s else(std n).fail)else fH (std n) X C ops.toList ops.toList (λs=>K .normal s) s:(std n).M ρ)):=by grind [FM.draw,fail,FM.region]
end
theorem FM.exec{n:Nat}{X:XT}{C:Calls aD}{ord:Nat->List fO}{chk:Nat->Array Oper->Nat->Bool}{k:Nat}:∀(code:Code) {ρ:Type} (an:Ann) (s:RSt (std n)) (K:Exit->RSt (std n)->(ρ->Prop)->Prop),(∀e s,FM (K e s))->FM (bL (std n) X C ord chk k an code s K)
  | .skip,ρ,an,s,K,hK=>by cases an<;>exact hK _ _
  | .region id ops draw,ρ,an,s,K,hK=>by
    simp only [bL];split
    · exact FM.cut hK λhK'=>FM.reg hK'
    · exact FM.reg hK
  | .seq x y,ρ,an,s,K,hK=>by
    have main:∀a1 a2 (K1:Exit->RSt (std n)->(ρ->Prop)->Prop),(∀s',K1 .normal s'=bL (std n) X C ord chk k a2 y s' K)->(∀e s',e≠ .normal->K1 e s'=K e s')->FM (bL (std n) X C ord chk k a1 x s K1):=by
      intro a1 a2 K1 h1 h2;refine FM.exec x a1 s K1 λe s'=> ?_
      by_cases he:e= .normal
      · subst he;rw [h1];exact FM.exec y a2 s' K hK
      · rw [h2 e s' he];exact hK _ _
    cases an with
    | seq a1 a2=>rw [bL];exact main a1 a2 _ (λ_=>rfl) (λe s' he=>by cases e<;>first | rfl | exact absurd rfl he)
    | u=>rw [bL];exact main .u .u _ (λ_=>rfl) (λe s' he=>by cases e<;>first | rfl | exact absurd rfl he)
    | _=>simp only [bL];exact .fail
  | .cond cd x y,ρ,an,s,K,hK=>by
    simp only [bL];split
    · split
      · exact .cond (FM.exec x _ s K hK) (FM.exec y _ s K hK)
      · exact .cond (FM.exec x _ s K hK) (FM.exec y _ s K hK)
      · exact FM.cut hK λhK'=> .cond (FM.exec x _ s _ hK') (FM.exec y _ s _ hK')
      · exact .fail
    · exact .fail
  | .block id b,ρ,an,s,K,hK=>by
    have main:∀ {σ:Type} {K':Exit->RSt (std n)->(σ->Prop)->Prop},(∀e s,FM (K' e s))->∀a1 (K1:Exit->RSt (std n)->(σ->Prop)->Prop),(∀e s',K1 e s'=K' e s'\/K1 e s'=K' .normal s')->FM (bL (std n) X C ord chk k a1 b s K1):=by
      intro σ K' hK' a1 K1 h1;refine FM.exec b a1 s K1 λe s'=> ?_
      rcases h1 e s' with h | h<;>rw [h]<;>exact hK' _ _
    have alt:∀ {σ:Type} {K':Exit->RSt (std n)->(σ->Prop)->Prop} (e:Exit) (s':RSt (std n)),(match e with | .exit i=>if i==id then K' .normal s' else K' (.exit i) s' | e=>K' e s':(std n).M σ)=K' e s'\/(match e with | .exit i=>if i==id then K' .normal s' else K' (.exit i) s' | e=>K' e s':(std n).M σ)=K' .normal s':=by
      intro σ K' e s';cases e with
      | exit i => simp only; split
                  · exact .inr rfl
                  · exact .inl rfl
      | _=>exact .inl rfl
    simp only [bL];split
    · exact main hK _ _ alt
    · exact main hK _ _ alt
    · exact FM.cut hK λhK'=>main hK' _ _ alt
    · exact .fail
  | .loop b,ρ,an,s,K,hK=>by
    cases an with
    | loop sk a1=>
      rw [bL];split
      · refine FM.gP (FM.iter' (λx=>FM.exec b a1 _ _ λe s'=> ?_) _) _;split
        · split
          · exact FM.gP (FM.inl' _) _
          · exact .fail
        · exact FM.inr' (hK _ _)
      · exact .fail
    | _=>simp only [bL];exact .fail
  | .exit i,ρ,an,s,K,hK=>by cases an<;>exact hK _ _
  | .ret,ρ,an,s,K,hK=>by cases an<;>exact hK _ _
  | .rangeFunc ..,ρ,an,s,K,hK=>by grind [bL,fail]
  | .scope _,ρ,an,s,K,hK=>by grind [bL,fail]
  | .label _,ρ,an,s,K,hK=>by grind [bL,fail]
  | .goto _,ρ,an,s,K,hK=>by grind [bL,fail]
  | .refuse _,ρ,an,s,K,hK=>by grind [bL,fail]
theorem FM.run{n:Nat}{X:XT}{C:Calls aD}{ord:Nat->List fO}{chk:Nat->Array Oper->Nat->Bool}{an:Ann}{sg:Sig}{fn:Func}{code:Code}(x:iE sg.inp):FM (HZ (std n) X C ord chk an sg fn code x):=by
 unfold HZ;split
 .exact .fail
 .split
  .split
   .refine FM.exec code an _ _ λe s=> ?_
    have he:FM (T9 (std n) X sg fn s):=by
     unfold T9;split
     .split
      .split
       .split
        .split
         .exact FM.gP (FM.ret' _) _
         .exact .fail
        .exact .fail
       .exact .fail
      .exact .fail
     .exact .fail
    grind [fail]
   .exact .fail
  .exact .fail
def ofL(C:Car)(l:List (FuncId×Sigma (Ct C))):Calls C:=λf=>(l.filter λp=>p.1==f).map (·.2)
def Uj(l:List (Nat×List fO))(i:Nat):List fO:=match l.find? λp=>p.1==i with | some p=>p.2 | none=> []
def adk(E:Tab)(l:List (Nat×List fO))(id:Nat)(ops:Array Oper)(m:Nat):Bool:=Ho ops.toList (Uj l id)&&yZ E m ops.toList&&Hr E.P ops.toList
theorem adl{E:Tab}{l:List (Nat×List fO)}:∀id ops m,adk E l id ops m=true->Static E (Uj l) id ops m:=λ_ _ _ h=>h
theorem ahB{E:Tab}{l:List (FuncId×Sigma (Ct aD))}(h:∀p∈l,dN E p.1 (dK p.2.2)):o9 E (kD (ofL aD l)):=by
 intro f R hR;unfold kD at hR;split at hR
 .cases hR
 .cases hR;rename_i hne;have hall:∀ct∈ofL aD l f,dN E f (dK ct.2):=λct hct=>by
   obtain⟨p,hp,rfl⟩:=List.mem_map.1 hct
   grind
  obtain⟨ct,hct⟩:=List.exists_mem_of_ne_nil _ hne;exact⟨(hall ct hct).enters,λargs h n K ⟨ct,hct,hk⟩=>(hall ct hct).calls args h n K hk⟩
def Ru(X:XT)(E:Tab)(A:Alg)(ord:List (Nat×List fO))(an:Ann)(s:Sig)(fn:Func)(l:List (FuncId×Sigma (Ct A.au)))(F:Tup A.au s.inp->A.M (Tup A.au s.out)):Prop:=
 ∀x,HZ A X (ofL A.au l) (Uj ord) (adk E ord) an s fn (fn.body.getD .skip) x=F x
section
variable {X:XT} {E:Tab} (hE:aF E) (hX:XOK X E) (hm:E.P.follows .mixedOrders=true)
include hE hX hm
theorem asN{f:FuncId}{fn:Func}(hf:E.P.funcs[f]? =some fn)(hb:fn.body.isSome=true)(hent:∀c,fn.body=some c->Enters E.P f){l:List (FuncId×Sigma (Ct aD))}(hl:∀p∈l,dN E p.1 (dK p.2.2)){ord:List (Nat×List fO)}{sg:Sig}{an:Ann}
  {F:iE sg.inp->(iE sg.out->Prop)->Prop} (hrun:Ru X E (std 0) ord an sg fn l F):Fn E f F (cn F):=by
 obtain⟨code,hb⟩:=Option.isSome_iff_exists.1 hb;have hr:∀x,HZ (std 0) X (ofL aD l) (Uj ord) (adk E ord) an sg fn code x=F x:=λx=>by have:=hrun x;simp_all
 have hFM:∀x,FM (F x):=λx=>by rw [<-hr x];exact FM.run x
 refine⟨rfl,hFM,anC hE hX (ahB hl) hm (ord:=Uj ord) (chk:=adk E ord) adl hf hb (hent _ hb) (an:=an) (λx hx=> ?_)⟩;rw [hr x];simp only [cn]at hx;exact @Classical.epsilon_spec _ (λy=>F x λz=>z=y) (@of_decide_eq_true _ (Classical.propDecidable _) hx)
end
abbrev aB.z : aB := ⟨[], []⟩
abbrev Tup.q{C : Car}{a b c d : LTy}{ts : List LTy}(x : Tup C (a :: b :: c :: d :: ts)) : Tup C ts := x.2.2.2.2
abbrev Tup.o{C : Car}{a b c d e f g h : LTy}{ts : List LTy}(x : Tup C (a :: b :: c :: d :: e :: f :: g :: h :: ts)) : Tup C ts := x.2.2.2.2.2.2.2.2
abbrev Pt(A : Alg)(s : Sig) : Type := Tup A.au s.inp -> A.B
abbrev Ft(A : Alg)(s : Sig) : Type := Tup A.au s.inp -> Tup A.au s.out
abbrev Ot(A : Alg)(s : Sig) : Type := A.M (Tup A.au s.out)
structure Al(A:Alg) where
 n:Int->A.I
 z:A.I
 u:A.I
 T:A.B
 F:A.B
 e:A.I->A.I->A.B
 d:A.I->A.I->A.B
 l:A.I->A.I->A.B
 m:A.I->A.I->A.B
 g:A.I->A.I->A.B
 h:A.I->A.I->A.B
 p:A.I->A.I->A.I
 q:A.I->A.I->A.I
 t:A.I->A.I->A.I
 i: {ρ:Type}->A.I->(Tup A.au [.i]->A.M ρ)->A.M ρ
 b: {ρ:Type}->A.B->(Tup A.au [.b]->A.M ρ)->A.M ρ
 s: {ρ:Type}->(t:LTy)->LT A.au t->(Tup A.au [t]->A.M ρ)->A.M ρ
 j: {ρ:Type}->{i o:List LTy}->(Tup A.au i->A.B)->(Tup A.au i->Tup A.au o)->Tup A.au i->(Tup A.au o->A.M ρ)->A.M ρ
 k: {ρ:Type}->{i o:List LTy}->A.B->(Tup A.au i->A.B)->(Tup A.au i->Tup A.au o)->Tup A.au i->(Tup A.au o->A.M ρ)->A.M ρ
 v:A.B->A.M (Tup A.au [.b])
 w: {ρ:Type}->(c:Co)->A.L c->A.I->A.M ρ->A.M ρ
 c: {ρ:Type}->A.B->A.M ρ->A.M ρ->A.M ρ
 C: {ρ:Type}->A.B->A.M ρ->A.M ρ
 r: {ts:List LTy}->Tup A.au ts->A.M (Tup A.au ts)
 L: {ρ:Type}->{ts:List LTy}->Tup A.au ts->A.M (Sum (Tup A.au ts) ρ)
 R: {ρ:Type}->{ts:List LTy}->A.M ρ->A.M (Sum (Tup A.au ts) ρ)
 I: {ρ:Type}->(ts:List LTy)->(Tup A.au ts->A.M (Sum (Tup A.au ts) ρ))->Tup A.au ts->A.M ρ
 f:(c:Co)->Nat->A.X c->A.I
 D:(c:Co)->Nat->(c':Co)->A.X c->A.L c'
 x:(c:Co)->Tup A.au c.qg->A.X c
 y:(c:Co)->A.L c->A.I
 o:(c:Co)->A.L c->A.I->A.X c
 a:A.B->A.B->A.B->A.B
 N:A.B->A.B
 O:A.B->A.B->A.B
abbrev Alg.al(A : Alg) : Al A where
 n:=A.lit
 z:=A.lit 0
 u:=A.lit 1
 T:=A.bl true
 F:=A.bl false
 e:=A.cmp .eql
 d:=A.cmp .neq
 l:=A.cmp .lss
 m:=A.cmp .leq
 g:=A.cmp .gtr
 h:=A.cmp .geq
 p:=A.arith .add .i64
 q:=A.arith .sub .i64
 t:=A.arith .mul .i64
 i:=λv k=>A.tq [.i] (v,()) k
 b:=λv k=>A.tq [.b] (v,()) k
 s:=λt v k=>A.tq [t] (v,()) k
 j:=λp f a k=>A.chk (p a) (A.tq _ (f a) k)
 k:=λb p f a k=>A.chk (A.orB (A.xY b) (p a)) (A.tq _ (f a) k)
 v:=λv=>A.tq [.b] (v,()) λx=>A.ret [.b] (x.1,())
 w:=λc l i m=>A.chk (A.cmp .leq (A.lit 0) i) (A.chk (A.cmp .lss i (A.len c l)) m)
 c:=A.cond
 C:=A.chk
 r:=A.ret _
 L:=A.inl _
 R:=A.inr _
 I:=A.iter
 f:=A.fI
 D:=A.fL
 x:=A.mkX
 y:=A.len
 o:=A.get
 a:=A.Hu
 N:=A.xY
 O:=A.orB
abbrev SkC.i : SkC := .int .i64
abbrev SkV.i : SkV := .c (.int .i64)
abbrev SkV.b : SkV := .c .bool
abbrev SkV.p(l s : Nat) : SkV := .c (.pb l s 0)
abbrev SkV.o(l : Nat) : SkV := .c (.own l)
abbrev SkV.r(f : Bool)(c : Co) : SkV := .c (.rows f c)
abbrev SkO.g(l : List SkC) : SkO := .box (.agg l)
abbrev SkO.s(f : Bool)(c : Co) : SkO := .box (.sv f c)
abbrev Ann.v(a : Ann) : Ann := .seq .u a
end Go.TX
namespace Go.TX
open Go Go.AE
section
variable [aB]
def tmps(l:List Operand):List Nat:=l.filterMap λ| .tmp t=>some t | _=>none
def opT(ops:List Oper)(o:Oper):List Nat:=
 (match o.op with
 | .build _ ps | .buildSlice _ _ ps=>tmps (ps.toList.map (·.2))
 | .slice _ x a b c=>tmps (x::(a.toList++b.toList++c.toList))
 | .makeFunc _ a b=>tmps (a.toList++b.toList)
 | .call c=>tmps c.operands.toList
 | .lookup _ a v _=>tmps [a,v]++(kW ops).map (·.2)
 | op=>tmps op.operands.toList)++(match o.guard with | some (j,_)=>(gslot ops j).toList | none=> [])
def VX(ops:List Oper)(m:List Nat)(k2:Nat):Nat->Nat->List fO->List fO
 | 0,_,out=>out
 | k+1,dn,out=>
  let dm (i:Nat):Nat:=match ops[i]? with | some o=>Vb [] o.after.toList | none=>0
  let rdy (i q:Nat):Bool:= !dn.testBit i&& (dm i&&&q)==dm i
  let rs (i:Nat):List Nat:=match ops[i]? with | some o=>opT ops o | none=> []
  let n:=List.range ops.length
  match n.find? λi=>Nat.ble (bD ops i) 1&&rdy i (n.foldl (λd j=>if k2.testBit j&& !(match gslot ops j with | some x=>(rs i).contains x | none=>false)then d ||| 2^j else d) dn)with
  | some i=>VX ops m k2 k (dn ||| 2^i) (out++ [(i,rs i,[])])
  | none=>match n.find? λi=>bD ops i==3&&rdy i (dn ||| k2)with
   | some i=>
    let a:=n.filter λj=>bD ops j==2&& !dn.testBit j&& (m.getD i 0).testBit j
    VX ops m k2 k (a.foldl (λd j=>d ||| 2^j) dn ||| 2^i) (out++a.map (λj=>(j,[],[]))++ [(i,rs i,(out.filter λp=>loadAt ops p.1&& !jX m i p.1).map (·.1))])
   | none=>out++(n.filter λj=> !dn.testBit j).map (λj=>(j,[],[]))
def anM(ops:List Oper):List fO:=VX ops (masks ops) ((List.range ops.length).foldl (λd i=>if bD ops i==2 then d ||| 2^i else d) 0) (ops.length+1) 0 []
def adn:Code->List (Nat×List fO)
 | .region id ops true=> [(id,anM ops.toList)]
 | .seq a b | .cond _ a b=>adn a++adn b
 | .block _ b | .loop b=>adn b
 | _=> []
def ahC(f:Func):List (Nat×List fO):=adn (f.body.getD .skip)
end
inductive Ex where
 | v (n j:Nat) | ln (n:Nat) | lz (n:Nat) | bl (b:Bool) | st (s:ByteArray)
 | ar (op:BinOp) (k:IntKind) (x y:Ex) | cm (op:BinOp) (x y:Ex) | addN (x y:Ex) | Kc (x y:Ex) | neg (k:IntKind) (x:Ex) | conv (k:IntKind) (x:Ex) | Mf (x y:Ex) | jo (x y:Ex)
 | xY (x:Ex) | Ke (x y:Ex) | orB (x y:Ex) | eqB (x y:Ex) | eqS (x y:Ex) | Mg (x:Ex)
 | Mh (b x y:Ex) | Hu (b x y:Ex) | Mi (b:Ex) (c:Co) (x y:Ex) | TU (b:Ex) (c:Co) (x y:Ex)
 | len (c:Co) (x:Ex) | D6 (c:Co) | get (c:Co) (x i:Ex) | set (c:Co) (x i y:Ex) | app (c:Co) (x y:Ex) | sub (c:Co) (x i j:Ex) | rep (c:Co) (n x:Ex) | lst (c:Co) (xs:List Ex) | glob (n:Nat) (c:Co)
 | fI (c:Co) (j:Nat) (x:Ex) | fB (c:Co) (j:Nat) (x:Ex) | fS (c:Co) (j:Nat) (x:Ex) | fL (c:Co) (j:Nat) (c':Co) (x:Ex) | mkX (c:Co) (ts:List LTy) (t:List Ex) | eqX (c:Co) (x y:Ex)
 | cp (i:Nat) (ts:List LTy) (t:List Ex) | cf (i:Nat) (ts:List LTy) (t:List Ex) (j:Nat)
inductive Pg where
 | ret (ts:List LTy) (t:List Ex) | tq (ts:List LTy) (t:List Ex) (k:Pg) | anN (i:Nat) (ts:List LTy) (t:List Ex) (k:Pg) | fail | chk (b:Ex) (m:Pg) | cond (b:Ex) (x y:Pg) | bind (ts:List LTy) (m k:Pg) | uo (ts:List LTy) (m k:Pg)
 | inl (ts:List LTy) (t:List Ex) | inr (ts:List LTy) (m:Pg) | iter (ts:List LTy) (b:Pg) (t:List Ex)
abbrev Io:Car:={I:=Ex,B:=Ex,S:=Ex,L:=λ_=>Ex,X:=λ_=>Ex}
def lvE:LV Io->Ex | .i x=>x | .b x=>x | .s x=>x | .l _ x=>x | .x _ x=>x
def tE(ts:List LTy)(t:Tup Io ts):List Ex:=(unpack Io ts t).map lvE
def eT(f:Nat->Ex):(ts:List LTy)->Nat->Tup Io ts
 | [],_=>()
 | t::r,j=>(match t with | .i=>f j | .b=>f j | .s=>f j | .l _=>f j | .x _=>f j,eT f r (j+1))
def vT(ts:List LTy)(n:Nat):Tup Io ts:=eT (.v n) ts 0
def anO(i:Nat):Nat->List Ex->Bool
 | _,[]=>true
 | j,.cf i' _ _ j'::r=>Nat.beq i i'&&Nat.beq j j'&&anO i (j+1) r
 | _,_=>false
structure MS where
 run:Nat->Pg
def asO:Alg:={
 au:=Io
 M:=λ_=>MS
 lit:=λn=>(match n with | .ofNat k=> .ln k | .negSucc k=> .lz (k+1)),bl:= .bl,st:= .st,arith:= .ar,cmp:= .cm,addN:= .addN,Kc:= .Kc,neg:= .neg,conv:= .conv,Mf:= .Mf,jo:= .jo
 xY:= .xY,Ke:= .Ke,orB:= .orB,eqB:= .eqB,eqS:= .eqS,Mg:= .Mg,Mh:= .Mh,Hu:= .Hu,Mi:= .Mi,TU:= .TU
 len:= .len,D6:= .D6,get:= .get,set:= .set,app:= .app,sub:= .sub,rep:= .rep,lst:= .lst,glob:= .glob
 fI:= .fI,fB:= .fB,fS:= .fS,fL:= .fL,mkX:=λc t=> .mkX c c.qg (tE c.qg t),eqX:= .eqX
 ret:=λts t=>⟨λ_=> .ret ts (tE ts t)⟩
 tq:=λts t k=>⟨λn=>match tE ts t with | .cf i q e 0::r=>if anO i 1 r then .anN i q e ((k (vT ts n)).run (n+1))else .tq ts (.cf i q e 0::r) ((k (vT ts n)).run (n+1)) | e=> .tq ts e ((k (vT ts n)).run (n+1))⟩
 fail:=⟨λ_=> .fail⟩
 chk:=λb m=>⟨λn=> .chk b (m.run n)⟩
 cond:=λb x y=>⟨λn=> .cond b (x.run n) (y.run n)⟩
 bind:=λts m k=>⟨λn=> .bind ts (m.run n) ((k (vT ts n)).run (n+1))⟩
 uo:=λts m k=>⟨λn=> .uo ts (m.run n) ((k (vT ts n)).run (n+1))⟩
 inl:=λts t=>⟨λ_=> .inl ts (tE ts t)⟩
 inr:=λts m=>⟨λn=> .inr ts (m.run n)⟩
 iter:=λts b t=>⟨λn=> .iter ts ((b (vT ts n)).run (n+1)) (tE ts t)⟩}
def sCt(i:Nat)(s:Sig):Ct Io s:={pre:=λt=> .cp i s.inp (tE s.inp t),fn:=λt=>eT (.cf i s.inp (tE s.inp t)) s.out 0}
def scs:List (Nat×Sig)->Nat->List (FuncId×Sigma (Ct Io))
 | [],_=> []
 | p::r,i=>(p.1,⟨p.2,sCt i p.2⟩)::scs r (i+1)
def asP(k:aB)(X:XT)(a:Ann)(s:Sig)(f:Func)(l:List (Nat×Sig)):Pg:=
 (HZ asO X (ofL Io (scs l 0)) (Uj (ahC f)) (λ_ _ _=>true) a s f (f.body.getD .skip) (vT s.inp 0)).run 1
abbrev Cs(A:Alg):List (Nat×Sig)->Type
 | []=>Unit
 | p::r=>Pt A p.2×Ft A p.2×Cs A r
abbrev csl(A:Alg):(l:List (Nat×Sig))->Cs A l->List (FuncId×Sigma (Ct A.au))
 | [],_=> []
 | p::r,c=>(p.1,⟨p.2,⟨c.1,c.2.1⟩⟩)::csl A r c.2.2
abbrev Vs(A:Alg):=List ((ts:List LTy)×Tup A.au ts)
section
variable (A:Alg) (L Z:Nat->A.I) (W:ByteArray->A.S) (P:∀ {α β:Type},α×β->α) (Q:∀ {α β:Type},α×β->β) (U:Unit) (l:List (Nat×Sig)) (C:Cs A l) (N:Nat) (V:Vs A)
def dfl:(t:LTy)->LT A.au t
 | .i=>L 0 | .b=>A.bl true | .s=>W default | .l c=>A.D6 c | .x c=>A.get c (A.D6 c) (L 0)
def ahD:(ts:List LTy)->Tup A.au ts | []=>() | t::r=>(dfl A L W t,ahD r)
def cst(t' t:LTy)(x:LT A.au t'):LT A.au t:=if h:t'=t then h▸x else dfl A L W t
def Uk(ts' ts:List LTy)(x:Tup A.au ts'):Tup A.au ts:=if h:ts'=ts then h▸x else ahD A L W ts
def vrT:(ts:List LTy)->Tup A.au ts->Nat->(t:LTy)->LT A.au t
 | [],_,_,t=>dfl A L W t
 | t'::_,x,0,t=>cst A L W t' t (P x)
 | _::r,x,j+1,t=>vrT r (Q x) j t
def vr(n j:Nat)(t:LTy):LT A.au t:=match V[N-1-n]? with | some p=>vrT A L W P Q p.1 p.2 j t | none=>dfl A L W t
def cP:(l:List (Nat×Sig))->Cs A l->Nat->((s:Sig)->Tup A.au s.inp)->A.B
 | [],_,_,_=>A.bl true
 | p::_,c,0,g=>c.1 (g p.2)
 | _::r,c,i+1,g=>cP r c.2.2 i g
def cF{R:Type}(d:R):(l:List (Nat×Sig))->Cs A l->Nat->((s:Sig)->Ft A s->R)->R
 | [],_,_,_=>d
 | p::_,c,0,g=>g p.2 c.2.1
 | _::r,c,i+1,g=>cF d r c.2.2 i g
mutual
def ev:Ex->(t:LTy)->LT A.au t
 | .v n j,t=>vr A L W P Q N V n j t
 | .ln n,.i=>L n
 | .lz n,.i=>Z n
 | .bl b,.b=>A.bl b
 | .st s,.s=>W s
 | .ar op k x y,.i=>A.arith op k (ev x .i) (ev y .i)
 | .cm op x y,.b=>A.cmp op (ev x .i) (ev y .i)
 | .addN x y,.i=>A.addN (ev x .i) (ev y .i)
 | .Kc x y,.i=>A.Kc (ev x .i) (ev y .i)
 | .neg k x,.i=>A.neg k (ev x .i)
 | .conv k x,.i=>A.conv k (ev x .i)
 | .Mf x y,.i=>A.Mf (ev x .i) (ev y .i)
 | .jo x y,.i=>A.jo (ev x .i) (ev y .i)
 | .xY x,.b=>A.xY (ev x .b)
 | .Ke x y,.b=>A.Ke (ev x .b) (ev y .b)
 | .orB x y,.b=>A.orB (ev x .b) (ev y .b)
 | .eqB x y,.b=>A.eqB (ev x .b) (ev y .b)
 | .eqS x y,.b=>A.eqS (ev x .s) (ev y .s)
 | .Mg x,.s=>A.Mg (ev x (.l .u8))
 | .Mh b x y,.i=>A.Mh (ev b .b) (ev x .i) (ev y .i)
 | .Hu b x y,.b=>A.Hu (ev b .b) (ev x .b) (ev y .b)
 | .Mi b _ x y,.l c=>A.Mi (ev b .b) c (ev x (.l c)) (ev y (.l c))
 | .TU b _ x y,.x c=>A.TU (ev b .b) c (ev x (.x c)) (ev y (.x c))
 | .len c x,.i=>A.len c (ev x (.l c))
 | .D6 _,.l c=>A.D6 c
 | .get _ x i,.x c=>A.get c (ev x (.l c)) (ev i .i)
 | .set _ x i y,.l c=>A.set c (ev x (.l c)) (ev i .i) (ev y (.x c))
 | .app _ x y,.l c=>A.app c (ev x (.l c)) (ev y (.l c))
 | .sub _ x i j,.l c=>A.sub c (ev x (.l c)) (ev i .i) (ev j .i)
 | .rep _ n x,.l c=>A.rep c (ev n .i) (ev x (.x c))
 | .lst _ xs,.l c=>A.lst c (evs c xs)
 | .glob n _,.l c=>A.glob n c
 | .fI c j x,.i=>A.fI c j (ev x (.x c))
 | .fB c j x,.b=>A.fB c j (ev x (.x c))
 | .fS c j x,.s=>A.fS c j (ev x (.x c))
 | .fL c j _ x,.l c'=>A.fL c j c' (ev x (.x c))
 | .mkX _ ts t,.x c=>A.mkX c (Uk A L W ts c.qg (tp t ts))
 | .eqX c x y,.b=>A.eqX c (ev x (.x c)) (ev y (.x c))
 | .cp i ts t,.b=>cP A l C i λs=>Uk A L W ts s.inp (tp t ts)
 | .cf i ts t j,ty=>cF A (dfl A L W ty) l C i λs f=>vrT A L W P Q s.out (f (Uk A L W ts s.inp (tp t ts))) j ty
 | _,t=>dfl A L W t
termination_by structural e=>e
def tp:List Ex->(ts:List LTy)->Tup A.au ts
 | _,[]=>U
 | e::r,t::ts=>(ev e t,tp r ts)
 | [],t::ts=>ahD A L W (t::ts)
termination_by structural e=>e
def evs(c:Co):List Ex->List (A.X c)
 | []=> []
 | e::r=>ev e (.x c)::evs c r
termination_by structural e=>e
end
end
inductive RT where
 | t (ts:List LTy) | s (ts:List LTy) (r:RT)
abbrev RT.den(A:Alg):RT->Type
 | .t ts=>Tup A.au ts
 | .s ts r=>Sum (Tup A.au ts) (r.den A)
def den(A:Alg)(L Z:Nat->A.I)(W:ByteArray->A.S)(P:∀ {α β:Type},α×β->α)(Q:∀ {α β:Type},α×β->β)(U:Unit)(l:List (Nat×Sig))(C:Cs A l):Pg->(r:RT)->Nat->Vs A->A.M (r.den A)
 | .ret q t,.t ts,N,V=>A.ret ts (Uk A L W q ts (tp A L Z W P Q U l C N V t q))
 | .tq ts t k,r,N,V=>A.tq ts (tp A L Z W P Q U l C N V t ts) λy=>den A L Z W P Q U l C k r (N+1) (⟨ts,y⟩::V)
 | .anN i q t k,r,N,V=>cF A A.fail l C i λs f=>A.tq s.out (f (Uk A L W q s.inp (tp A L Z W P Q U l C N V t q))) λy=>den A L Z W P Q U l C k r (N+1) (⟨s.out,y⟩::V)
 | .chk b m,r,N,V=>A.chk (ev A L Z W P Q U l C N V b .b) (den A L Z W P Q U l C m r N V)
 | .cond b x y,r,N,V=>A.cond (ev A L Z W P Q U l C N V b .b) (den A L Z W P Q U l C x r N V) (den A L Z W P Q U l C y r N V)
 | .bind ts m k,r,N,V=>A.bind ts (den A L Z W P Q U l C m (.t ts) N V) λy=>den A L Z W P Q U l C k r (N+1) (⟨ts,y⟩::V)
 | .uo ts m k,r,N,V=>A.uo ts (den A L Z W P Q U l C m (.s ts r) N V) λy=>den A L Z W P Q U l C k r (N+1) (⟨ts,y⟩::V)
 | .inl q t,.s ts _,N,V=>A.inl ts (Uk A L W q ts (tp A L Z W P Q U l C N V t q))
 | .inr _ m,.s ts r,N,V=>A.inr ts (den A L Z W P Q U l C m r N V)
 | .iter ts b t,r,N,V=>A.iter ts (λy=>den A L Z W P Q U l C b (.s ts r) (N+1) (⟨ts,y⟩::V)) (tp A L Z W P Q U l C N V t ts)
 | _,_,_,_=>A.fail
inductive Hx {α:Type}:α->α->Prop | r (a:α):Hx a a
theorem nz(n:Nat):(Nat.cast (no_index (@OfNat.ofNat Nat n (instOfNatNat n))):Int)=OfNat.ofNat n:=rfl
structure Gt(k:aB)(X:XT)(E:Tab)(a:Ann)(s:Sig)(f:Func)(l:List (Nat×Sig)) where
 F:Cs (std 0) l->iE s.inp->(iE s.out->Prop)->Prop
 h:∀C,Ru X E (std 0) (ahC f) a s f (csl (std 0) l C) (F C)
def gm{k:aB}{X:XT}{E:Tab}{a:Ann}{s:Sig}{f:Func}{l:List (Nat×Sig)}{F:(A:Alg)->Cs A l->Tup A.au s.inp->Ot A s}
 (_g:∀A (P:∀ {α β:Type},α×β->α) (Q:∀ {α β:Type},α×β->β) (U:Unit), @P= @Prod.fst-> @Q= @Prod.snd->U=()->∀C x,Hx (den A (λn=>A.lit (Nat.cast n)) (λn=>A.lit (-(Nat.cast n))) A.st P Q U l C (asP k X a s f l) (.t s.out) 1 [⟨s.inp,x⟩]) (F A C x):=by
  intro A P Q U hP hQ hU C x;generalize hL:(λn:Nat=>A.lit (Nat.cast n))=L;generalize hZ:(λn:Nat=>A.lit (-(Nat.cast n)))=Z
  conv=>arg 1;arg 10;reduce
  conv=>arg 1;reduce
  subst hL hZ hP hQ hU
  try dsimp only [nz]
  exact .r _)
 (h:∀A C,Ru X E A (ahC f) a s f (csl A l C) (F A C):=by intro _ _ _;kernel_rfl):Gt k X E a s f l:=⟨F (std 0),h (std 0)⟩
end Go.TX
namespace Go.TX.Seat
open Go Go.AE Go.TX Go.Proofs
set_option maxRecDepth 100000
def ty:TypeId->Option TY
 | 2=>some ⟨(.int .i64),1,8,[.d true (.int .i64 0)]⟩
 | 3=>some ⟨(.int .i64),1,8,[.d true (.int .i64 0)]⟩
 | 4=>some ⟨.bool,1,1,[.d true (.bool false)]⟩
 | 5=>some ⟨(.int .u8),1,1,[.d true (.int .u8 0)]⟩
 | 6=>some ⟨(.int .u8),1,1,[.d true (.int .u8 0)]⟩
 | 7=>some ⟨(.struct [(0,2),(1,3),(2,4),(3,6)]),4,24,[.d true (.int .i64 0),.d true (.int .i64 0),.d true (.bool false),.d true (.int .u8 0)]⟩
 | 8=>some ⟨(.struct [(0,2),(1,3),(2,4),(3,6)]),4,24,[.d true (.int .i64 0),.d true (.int .i64 0),.d true (.bool false),.d true (.int .u8 0)]⟩
 | 9=>some ⟨.str,1,16,[.d true (.str ⟨#[]⟩)]⟩
 | 10=>some ⟨.str,1,16,[.d true (.str ⟨#[]⟩)]⟩
 | 11=>some ⟨.str,1,16,[.d true (.str ⟨#[]⟩)]⟩
 | 12=>some ⟨(.int .u64),1,8,[.d true (.int .u64 0)]⟩
 | 13=>some ⟨(.struct [(0,9),(1,12)]),2,24,[.d true (.str ⟨#[]⟩),.d true (.int .u64 0)]⟩
 | 14=>some ⟨(.struct [(0,9),(1,12)]),2,24,[.d true (.str ⟨#[]⟩),.d true (.int .u64 0)]⟩
 | 15=>some ⟨.scalar,1,8,[.np]⟩
 | 16=>some ⟨.scalar,1,8,[.np]⟩
 | 17=>some ⟨.scalar,1,8,[.np]⟩
 | 18=>some ⟨(.struct [(0,17)]),1,8,[.np]⟩
 | 19=>some ⟨(.struct [(0,17)]),1,8,[.np]⟩
 | 21=>some ⟨(.int .i32),1,4,[.d true (.int .i32 0)]⟩
 | 22=>some ⟨(.slice 51),1,24,[.nil]⟩
 | 23=>some ⟨(.slice 3),1,24,[.nil]⟩
 | 26=>some ⟨(.slice 57),1,24,[.nil]⟩
 | 32=>some ⟨(.struct [(0,23),(1,3),(2,23),(3,3),(4,4),(5,4),(6,3),(7,23),(8,23),(9,3)]),10,136,[.nil,.d true (.int .i64 0),.nil,.d true (.int .i64 0),.d true (.bool false),.d true (.bool false),.d true (.int .i64 0),.nil,.nil,.d true (.int .i64 0)]⟩
 | 33=>some ⟨(.struct [(0,23),(1,3),(2,23),(3,3),(4,4),(5,4),(6,3),(7,23),(8,23),(9,3)]),10,136,[.nil,.d true (.int .i64 0),.nil,.d true (.int .i64 0),.d true (.bool false),.d true (.bool false),.d true (.int .i64 0),.nil,.nil,.d true (.int .i64 0)]⟩
 | 34=>some ⟨(.slice 110),1,24,[.nil]⟩
 | 35=>some ⟨(.struct [(0,33),(10,22),(11,34)]),12,184,[.nil,.d true (.int .i64 0),.nil,.d true (.int .i64 0),.d true (.bool false),.d true (.bool false),.d true (.int .i64 0),.nil,.nil,.d true (.int .i64 0),.nil,.nil]⟩
 | 36=>some ⟨(.struct [(0,33),(10,22),(11,34)]),12,184,[.nil,.d true (.int .i64 0),.nil,.d true (.int .i64 0),.d true (.bool false),.d true (.bool false),.d true (.int .i64 0),.nil,.nil,.d true (.int .i64 0),.nil,.nil]⟩
 | 39=>some ⟨(.struct [(0,23),(1,3),(2,23),(3,3),(4,4),(5,4),(6,3),(7,23),(8,23),(9,3)]),10,136,[.nil,.d true (.int .i64 0),.nil,.d true (.int .i64 0),.d true (.bool false),.d true (.bool false),.d true (.int .i64 0),.nil,.nil,.d true (.int .i64 0)]⟩
 | 40=>some ⟨(.slice 112),1,24,[.nil]⟩
 | 41=>some ⟨(.struct [(0,39),(10,26),(11,40)]),12,184,[.nil,.d true (.int .i64 0),.nil,.d true (.int .i64 0),.d true (.bool false),.d true (.bool false),.d true (.int .i64 0),.nil,.nil,.d true (.int .i64 0),.nil,.nil]⟩
 | 42=>some ⟨(.struct [(0,39),(10,26),(11,40)]),12,184,[.nil,.d true (.int .i64 0),.nil,.d true (.int .i64 0),.d true (.bool false),.d true (.bool false),.d true (.int .i64 0),.nil,.nil,.d true (.int .i64 0),.nil,.nil]⟩
 | 47=>some ⟨(.slice 177),1,24,[.nil]⟩
 | 48=>some ⟨(.struct [(0,3),(1,3),(2,47),(3,3),(4,3),(5,3),(6,3)]),7,72,[.d true (.int .i64 0),.d true (.int .i64 0),.nil,.d true (.int .i64 0),.d true (.int .i64 0),.d true (.int .i64 0),.d true (.int .i64 0)]⟩
 | 49=>some ⟨(.struct [(0,3),(1,3),(2,47),(3,3),(4,3),(5,3),(6,3)]),7,72,[.d true (.int .i64 0),.d true (.int .i64 0),.nil,.d true (.int .i64 0),.d true (.int .i64 0),.d true (.int .i64 0),.d true (.int .i64 0)]⟩
 | 50=>some ⟨(.struct [(0,23),(1,49)]),8,96,[.nil,.d true (.int .i64 0),.d true (.int .i64 0),.nil,.d true (.int .i64 0),.d true (.int .i64 0),.d true (.int .i64 0),.d true (.int .i64 0)]⟩
 | 51=>some ⟨(.struct [(0,23),(1,49)]),8,96,[.nil,.d true (.int .i64 0),.d true (.int .i64 0),.nil,.d true (.int .i64 0),.d true (.int .i64 0),.d true (.int .i64 0),.d true (.int .i64 0)]⟩
 | 53=>some ⟨(.slice 128),1,24,[.nil]⟩
 | 54=>some ⟨(.struct [(0,3),(1,3),(2,53),(3,3),(4,3),(5,3),(6,3)]),7,72,[.d true (.int .i64 0),.d true (.int .i64 0),.nil,.d true (.int .i64 0),.d true (.int .i64 0),.d true (.int .i64 0),.d true (.int .i64 0)]⟩
 | 55=>some ⟨(.struct [(0,3),(1,3),(2,53),(3,3),(4,3),(5,3),(6,3)]),7,72,[.d true (.int .i64 0),.d true (.int .i64 0),.nil,.d true (.int .i64 0),.d true (.int .i64 0),.d true (.int .i64 0),.d true (.int .i64 0)]⟩
 | 56=>some ⟨(.struct [(0,23),(1,55)]),8,96,[.nil,.d true (.int .i64 0),.d true (.int .i64 0),.nil,.d true (.int .i64 0),.d true (.int .i64 0),.d true (.int .i64 0),.d true (.int .i64 0)]⟩
 | 57=>some ⟨(.struct [(0,23),(1,55)]),8,96,[.nil,.d true (.int .i64 0),.d true (.int .i64 0),.nil,.d true (.int .i64 0),.d true (.int .i64 0),.d true (.int .i64 0),.d true (.int .i64 0)]⟩
 | 60=>some ⟨(.slice 80),1,24,[.nil]⟩
 | 79=>some ⟨(.struct [(0,3),(1,3),(2,3),(3,3)]),4,32,[.d true (.int .i64 0),.d true (.int .i64 0),.d true (.int .i64 0),.d true (.int .i64 0)]⟩
 | 80=>some ⟨(.struct [(0,3),(1,3),(2,3),(3,3)]),4,32,[.d true (.int .i64 0),.d true (.int .i64 0),.d true (.int .i64 0),.d true (.int .i64 0)]⟩
 | 87=>some ⟨(.slice 158),1,24,[.nil]⟩
 | 88=>some ⟨(.struct [(0,87)]),1,24,[.nil]⟩
 | 89=>some ⟨(.struct [(0,87)]),1,24,[.nil]⟩
 | 90=>some ⟨(.slice 96),1,24,[.nil]⟩
 | 93=>some ⟨(.slice 138),1,24,[.nil]⟩
 | 94=>some ⟨(.slice 183),1,24,[.nil]⟩
 | 95=>some ⟨(.struct [(0,94)]),1,24,[.nil]⟩
 | 96=>some ⟨(.struct [(0,94)]),1,24,[.nil]⟩
 | 97=>some ⟨(.struct [(0,93),(1,90),(2,3),(3,96),(4,96),(5,3)]),6,112,[.nil,.nil,.d true (.int .i64 0),.nil,.nil,.d true (.int .i64 0)]⟩
 | 98=>some ⟨(.struct [(0,93),(1,90),(2,3),(3,96),(4,96),(5,3)]),6,112,[.nil,.nil,.d true (.int .i64 0),.nil,.nil,.d true (.int .i64 0)]⟩
 | 102=>some ⟨.scalar,1,8,[.np]⟩
 | 103=>some ⟨(.struct [(0,55),(7,3)]),8,80,[.d true (.int .i64 0),.d true (.int .i64 0),.nil,.d true (.int .i64 0),.d true (.int .i64 0),.d true (.int .i64 0),.d true (.int .i64 0),.d true (.int .i64 0)]⟩
 | 104=>some ⟨(.struct [(0,55),(7,3)]),8,80,[.d true (.int .i64 0),.d true (.int .i64 0),.nil,.d true (.int .i64 0),.d true (.int .i64 0),.d true (.int .i64 0),.d true (.int .i64 0),.d true (.int .i64 0)]⟩
 | 109=>some ⟨(.struct [(0,49),(7,49)]),14,144,[.d true (.int .i64 0),.d true (.int .i64 0),.nil,.d true (.int .i64 0),.d true (.int .i64 0),.d true (.int .i64 0),.d true (.int .i64 0),.d true (.int .i64 0),.d true (.int .i64 0),.nil,.d true (.int .i64 0),.d true (.int .i64 0),.d true (.int .i64 0),.d true (.int .i64 0)]⟩
 | 110=>some ⟨(.struct [(0,49),(7,49)]),14,144,[.d true (.int .i64 0),.d true (.int .i64 0),.nil,.d true (.int .i64 0),.d true (.int .i64 0),.d true (.int .i64 0),.d true (.int .i64 0),.d true (.int .i64 0),.d true (.int .i64 0),.nil,.d true (.int .i64 0),.d true (.int .i64 0),.d true (.int .i64 0),.d true (.int .i64 0)]⟩
 | 111=>some ⟨(.struct [(0,55),(7,55)]),14,144,[.d true (.int .i64 0),.d true (.int .i64 0),.nil,.d true (.int .i64 0),.d true (.int .i64 0),.d true (.int .i64 0),.d true (.int .i64 0),.d true (.int .i64 0),.d true (.int .i64 0),.nil,.d true (.int .i64 0),.d true (.int .i64 0),.d true (.int .i64 0),.d true (.int .i64 0)]⟩
 | 112=>some ⟨(.struct [(0,55),(7,55)]),14,144,[.d true (.int .i64 0),.d true (.int .i64 0),.nil,.d true (.int .i64 0),.d true (.int .i64 0),.d true (.int .i64 0),.d true (.int .i64 0),.d true (.int .i64 0),.d true (.int .i64 0),.nil,.d true (.int .i64 0),.d true (.int .i64 0),.d true (.int .i64 0),.d true (.int .i64 0)]⟩
 | 120=>some ⟨(.int .u64),1,8,[.d true (.int .u64 0)]⟩
 | 121=>some ⟨(.slice 9),1,24,[.nil]⟩
 | 122=>some ⟨(.struct [(0,4),(1,4),(2,3),(3,121)]),4,40,[.d true (.bool false),.d true (.bool false),.d true (.int .i64 0),.nil]⟩
 | 123=>some ⟨(.struct [(0,4),(1,4),(2,3),(3,121)]),4,40,[.d true (.bool false),.d true (.bool false),.d true (.int .i64 0),.nil]⟩
 | 124=>some ⟨(.slice 123),1,24,[.nil]⟩
 | 127=>some ⟨(.struct [(0,3),(1,3),(2,3),(3,3),(4,3)]),5,40,[.d true (.int .i64 0),.d true (.int .i64 0),.d true (.int .i64 0),.d true (.int .i64 0),.d true (.int .i64 0)]⟩
 | 128=>some ⟨(.struct [(0,3),(1,3),(2,3),(3,3),(4,3)]),5,40,[.d true (.int .i64 0),.d true (.int .i64 0),.d true (.int .i64 0),.d true (.int .i64 0),.d true (.int .i64 0)]⟩
 | 129=>some ⟨.scalar,1,8,[.np]⟩
 | 130=>some ⟨(.struct [(0,89),(1,4)]),2,32,[.nil,.d true (.bool false)]⟩
 | 131=>some ⟨(.struct [(0,89),(1,4)]),2,32,[.nil,.d true (.bool false)]⟩
 | 137=>some ⟨(.struct [(0,3),(1,3),(2,96),(3,96),(4,90)]),5,88,[.d true (.int .i64 0),.d true (.int .i64 0),.nil,.nil,.nil]⟩
 | 138=>some ⟨(.struct [(0,3),(1,3),(2,96),(3,96),(4,90)]),5,88,[.d true (.int .i64 0),.d true (.int .i64 0),.nil,.nil,.nil]⟩
 | 157=>some ⟨(.struct [(0,3),(1,3),(2,96),(3,96)]),4,64,[.d true (.int .i64 0),.d true (.int .i64 0),.nil,.nil]⟩
 | 158=>some ⟨(.struct [(0,3),(1,3),(2,96),(3,96)]),4,64,[.d true (.int .i64 0),.d true (.int .i64 0),.nil,.nil]⟩
 | 177=>some ⟨(.struct [(0,3),(1,3),(2,3),(3,3),(4,3)]),5,40,[.d true (.int .i64 0),.d true (.int .i64 0),.d true (.int .i64 0),.d true (.int .i64 0),.d true (.int .i64 0)]⟩
 | 182=>some ⟨(.struct [(0,3),(1,23)]),2,32,[.d true (.int .i64 0),.nil]⟩
 | 183=>some ⟨(.struct [(0,3),(1,23)]),2,32,[.d true (.int .i64 0),.nil]⟩
 | 220=>some ⟨(.slice 94),1,24,[.nil]⟩
 | 222=>some ⟨(.slice 23),1,24,[.nil]⟩
 | 228=>some ⟨(.int .i64),1,8,[.d true (.int .i64 0)]⟩
 | 235=>some ⟨(.int .u32),1,4,[.d true (.int .u32 0)]⟩
 | 237=>some ⟨(.int .u64),1,8,[.d true (.int .u64 0)]⟩
 | 240=>some ⟨(.int .u64),1,8,[.d true (.int .u64 0)]⟩
 | 244=>some ⟨.scalar,1,8,[.np]⟩
 | 246=>some ⟨.scalar,1,8,[.np]⟩
 | 250=>some ⟨(.struct [(0,17),(1,17),(2,17),(3,9)]),4,40,[.np,.np,.np,.d true (.str ⟨#[]⟩)]⟩
 | 251=>some ⟨(.struct [(0,17),(1,17),(2,17),(3,9)]),4,40,[.np,.np,.np,.d true (.str ⟨#[]⟩)]⟩
 | 256=>some ⟨(.int .u8),1,1,[.d true (.int .u8 0)]⟩
 | 257=>some ⟨(.int .u8),1,1,[.d true (.int .u8 0)]⟩
 | 259=>some ⟨.scalar,1,8,[.np]⟩
 | 260=>some ⟨(.int .i32),1,4,[.d true (.int .i32 0)]⟩
 | 261=>some ⟨(.int .i32),1,4,[.d true (.int .i32 0)]⟩
 | _=>none
def yA{P:Program}{t:TypeId}{y:TY}(i:TypeInfo)(d:GX P t y.desc)(h:P.info? t=some i:=by kernel_rfl)(s:i.size=y.size:=by rfl)(b:i.bytes=y.bytes:=by rfl)
 (z:∃z,i.zero=some z/\zcs z.cells.toList=some y.zero:=by exact⟨_,rfl,rfl⟩) (l:y.zero.length=y.size:=by rfl):UD P t y:=⟨⟨i,h,s,b,z.elim λx h=>⟨x,h.1,λ_ _=>Rj h.2⟩⟩,d,l⟩
def yS{P:Program}{t:TypeId}{y:TY}{F:Array Field}(i:TypeInfo)(u:P.underlying t=some (.struct F))(e:y.desc= .struct (F.toList.map λf=>(f.offset,f.type)):=by rfl)(h:P.info? t=some i:=by kernel_rfl)(s:i.size=y.size:=by rfl)(b:i.bytes=y.bytes:=by rfl)
 (z:∃z,i.zero=some z/\zcs z.cells.toList=some y.zero:=by exact⟨_,rfl,rfl⟩) (l:y.zero.length=y.size:=by rfl):UD P t y:=yA i (by rw [e];exact⟨F,u,rfl⟩) h s b z l
def yP{P:Program}{t:TypeId}{y:TY}{e:TypeId}(i:TypeInfo)(u:P.underlying t=some (.pointer e))(e:y.desc= .scalar:=by rfl)(h:P.info? t=some i:=by kernel_rfl)(s:i.size=y.size:=by rfl)(b:i.bytes=y.bytes:=by rfl)
 (z:∃z,i.zero=some z/\zcs z.cells.toList=some y.zero:=by exact⟨_,rfl,rfl⟩) (l:y.zero.length=y.size:=by rfl):UD P t y:=yA i (by rw [e];exact⟨_,u,(λ_ h=>by cases h),(λ_ _ h=>by cases h)⟩) h s b z l
def asQ:∀t y,ty t=some y->UD Tryz.prog t y:=by
 intro t y h;unfold ty at h;split at h<;>first | (cases h;done) | skip
 .cases h;exact yA Tryz.t2 Tryz.underlying2
 .cases h;exact yA Tryz.t3 Tryz.underlying3
 .cases h;exact yA Tryz.t4 Tryz.underlying4
 .cases h;exact yA Tryz.t5 Tryz.underlying5
 .cases h;exact yA Tryz.t6 Tryz.underlying6
 .cases h;exact yS Tryz.t7 Tryz.underlying7
 .cases h;exact yS Tryz.t8 Tryz.underlying8
 .cases h;exact yA Tryz.t9 Tryz.underlying9
 .cases h;exact yA Tryz.t10 Tryz.underlying10
 .cases h;exact yA Tryz.t11 Tryz.underlying11
 .cases h;exact yA Tryz.t12 Tryz.underlying12
 .cases h;exact yS Tryz.t13 Tryz.underlying13
 .cases h;exact yS Tryz.t14 Tryz.underlying14
 .cases h;exact yP Tryz.t15 Tryz.underlying15
 .cases h;exact yP Tryz.t16 Tryz.underlying16
 .cases h;exact yP Tryz.t17 Tryz.underlying17
 .cases h;exact yS Tryz.t18 Tryz.underlying18
 .cases h;exact yS Tryz.t19 Tryz.underlying19
 .cases h;exact yA Tryz.t21 Tryz.underlying21
 .cases h;exact yA Tryz.t22 Tryz.underlying22
 .cases h;exact yA Tryz.t23 Tryz.underlying23
 .cases h;exact yA Tryz.t26 Tryz.underlying26
 .cases h;exact yS Tryz.t32 Tryz.underlying32
 .cases h;exact yS Tryz.t33 Tryz.underlying33
 .cases h;exact yA Tryz.t34 Tryz.underlying34
 .cases h;exact yS Tryz.t35 Tryz.underlying35
 .cases h;exact yS Tryz.t36 Tryz.underlying36
 .cases h;exact yS Tryz.t39 Tryz.underlying39
 .cases h;exact yA Tryz.t40 Tryz.underlying40
 .cases h;exact yS Tryz.t41 Tryz.underlying41
 .cases h;exact yS Tryz.t42 Tryz.underlying42
 .cases h;exact yA Tryz.t47 Tryz.underlying47
 .cases h;exact yS Tryz.t48 Tryz.underlying48
 .cases h;exact yS Tryz.t49 Tryz.underlying49
 .cases h;exact yS Tryz.t50 Tryz.underlying50
 .cases h;exact yS Tryz.t51 Tryz.underlying51
 .cases h;exact yA Tryz.t53 Tryz.underlying53
 .cases h;exact yS Tryz.t54 Tryz.underlying54
 .cases h;exact yS Tryz.t55 Tryz.underlying55
 .cases h;exact yS Tryz.t56 Tryz.underlying56
 .cases h;exact yS Tryz.t57 Tryz.underlying57
 .cases h;exact yA Tryz.t60 Tryz.underlying60
 .cases h;exact yS Tryz.t79 Tryz.underlying79
 .cases h;exact yS Tryz.t80 Tryz.underlying80
 .cases h;exact yA Tryz.t87 Tryz.underlying87
 .cases h;exact yS Tryz.t88 Tryz.underlying88
 .cases h;exact yS Tryz.t89 Tryz.underlying89
 .cases h;exact yA Tryz.t90 Tryz.underlying90
 .cases h;exact yA Tryz.t93 Tryz.underlying93
 .cases h;exact yA Tryz.t94 Tryz.underlying94
 .cases h;exact yS Tryz.t95 Tryz.underlying95
 .cases h;exact yS Tryz.t96 Tryz.underlying96
 .cases h;exact yS Tryz.t97 Tryz.underlying97
 .cases h;exact yS Tryz.t98 Tryz.underlying98
 .cases h;exact yP Tryz.t102 Tryz.underlying102
 .cases h;exact yS Tryz.t103 Tryz.underlying103
 .cases h;exact yS Tryz.t104 Tryz.underlying104
 .cases h;exact yS Tryz.t109 Tryz.underlying109
 .cases h;exact yS Tryz.t110 Tryz.underlying110
 .cases h;exact yS Tryz.t111 Tryz.underlying111
 .cases h;exact yS Tryz.t112 Tryz.underlying112
 .cases h;exact yA Tryz.t120 Tryz.underlying120
 .cases h;exact yA Tryz.t121 Tryz.underlying121
 .cases h;exact yS Tryz.t122 Tryz.underlying122
 .cases h;exact yS Tryz.t123 Tryz.underlying123
 .cases h;exact yA Tryz.t124 Tryz.underlying124
 .cases h;exact yS Tryz.t127 Tryz.underlying127
 .cases h;exact yS Tryz.t128 Tryz.underlying128
 .cases h;exact yP Tryz.t129 Tryz.underlying129
 .cases h;exact yS Tryz.t130 Tryz.underlying130
 .cases h;exact yS Tryz.t131 Tryz.underlying131
 .cases h;exact yS Tryz.t137 Tryz.underlying137
 .cases h;exact yS Tryz.t138 Tryz.underlying138
 .cases h;exact yS Tryz.t157 Tryz.underlying157
 .cases h;exact yS Tryz.t158 Tryz.underlying158
 .cases h;exact yS Tryz.t177 Tryz.underlying177
 .cases h;exact yS Tryz.t182 Tryz.underlying182
 .cases h;exact yS Tryz.t183 Tryz.underlying183
 .cases h;exact yA Tryz.t220 Tryz.underlying220
 .cases h;exact yA Tryz.t222 Tryz.underlying222
 .cases h;exact yA Tryz.t228 Tryz.underlying228
 .cases h;exact yA Tryz.t235 Tryz.underlying235
 .cases h;exact yA Tryz.t237 Tryz.underlying237
 .cases h;exact yA Tryz.t240 Tryz.underlying240
 .cases h;exact yP Tryz.t244 Tryz.underlying244
 .cases h;exact yP Tryz.t246 Tryz.underlying246
 .cases h;exact yS Tryz.t250 Tryz.underlying250
 .cases h;exact yS Tryz.t251 Tryz.underlying251
 .cases h;exact yA Tryz.t256 Tryz.underlying256
 .cases h;exact yA Tryz.t257 Tryz.underlying257
 .cases h;exact yP Tryz.t259 Tryz.underlying259
 .cases h;exact yA Tryz.t260 Tryz.underlying260
 .cases h;exact yA Tryz.t261 Tryz.underlying261
def co:TypeId->Option Co
 | 3=>some .i64
 | 4=>some .bool
 | 5=>some .u8
 | 9=>some .str
 | 23=>some .ints
 | 33=>some .aM
 | 36=>some .eng
 | 39=>some .aM
 | 42=>some .eng
 | 49=>some .blk
 | 51=>some .cac
 | 55=>some .blk
 | 57=>some .cac
 | 80=>some .ins
 | 89=>some .tab
 | 94=>some .poly
 | 96=>some .poly
 | 98=>some .sym
 | 110=>some .cer
 | 112=>some .cer
 | 123=>some .form
 | 128=>some .iop
 | 138=>some .ev
 | 158=>some .atom
 | 177=>some .iop
 | 183=>some .mono
 | _=>none
def ieq:TypeId->Option Co
 | 80=>some .ins
 | 128=>some .iop
 | 177=>some .iop
 | _=>none
def X:XT:={ty:=ty,co:=co,glob:=λg=>if g==0 then some .form else none,ieq:=ieq}
noncomputable def E:Tab:={P:=Tryz.prog,ty:=ty,glob:=λg=>if g==0 then some (.rows 4 (aL .form uH))else none,ieq:=λt=>(ieq t).map λc=>c.size}
end Go.TX.Seat
namespace Go.TX.F
open Go Go.AE Go.TX
set_option maxRecDepth 100000
abbrev VY : Sig := ⟨[.r false .i64, .i], [], [.i], []⟩
abbrev aeG : Sig := ⟨[.r false .iop, .i], [], [.i], []⟩
abbrev VZ : Sig := ⟨[.sv false .blk, .i], [], [.i], []⟩
abbrev aeH : Sig := ⟨[.sv false .cac, .i], [], [.i], []⟩
abbrev R4 : Sig := ⟨[.r false .cac, .i], [], [.i], []⟩
abbrev cu : Sig := ⟨[.i], [], [.b], []⟩
abbrev cZ : Sig := ⟨[.i, .i, .i], [], [.b], []⟩
abbrev nu : Sig := ⟨[.sv false .ins], [], [.b], []⟩
abbrev Ip : Sig := ⟨[.i], [], [.agg [.i, .i, .i, .i], .b], []⟩
abbrev Iq : Sig := ⟨[.r false .i64], [], [.o 0], [.rows true .ins]⟩
abbrev Ba : Sig := ⟨[.i, .r false .ins], [], [.b], []⟩
abbrev EG : Sig := ⟨[.r false .iop, .i, .i], [], [.b], []⟩
abbrev pG : Sig := ⟨[.sv false .blk], [], [.b], []⟩
abbrev kY : Sig := ⟨[.sv false .blk, .sv false .blk], [], [.b], []⟩
abbrev jF : Sig := ⟨[.i], [], [.agg [.own 0]], [.rows true .mono]⟩
abbrev MR : Sig := ⟨[], [], [.agg [.own 0], .o 1], [.rows true .atom, .rows true .poly]⟩
abbrev nA : Sig := ⟨[.r false .i64, .r false .i64], [], [.i], []⟩
abbrev Ir : Sig := ⟨[.sv false .mono], [], [.b], []⟩
abbrev jG : Sig := ⟨[.sv false .poly], [], [.b], []⟩
abbrev V3 : Sig := ⟨[.sv false .atom], [], [.b], []⟩
abbrev EH : Sig := ⟨[.sv false .poly, .i], [], [.b], []⟩
abbrev Bb : Sig := ⟨[.sv false .atom, .i], [], [.b], []⟩
abbrev lQ : Sig := ⟨[.sv false .poly, .sv false .poly], [], [.i], []⟩
abbrev EI : Sig := ⟨[.sv false .atom, .sv false .atom], [], [.b], []⟩
abbrev Iu : Sig := ⟨[.sv false .tab], [], [.b], []⟩
abbrev pI : Sig := ⟨[.r false .mono], [], [.agg [.own 0]], [.rows true .mono]⟩
abbrev MU : Sig := ⟨[.sv false .atom], [], [.agg [.i, .i, .own 0, .own 1]], [.rows true .mono, .rows true .mono]⟩
abbrev EJ : Sig := ⟨[.sv false .tab], [], [.agg [.own 0]], [.rows true .atom]⟩
abbrev Iw : Sig := ⟨[.agg [.own 0], .sv false .atom], [.rows true .atom], [.agg [.own 1], .i], [.gone, .rows true .atom]⟩
abbrev V4 : Sig := ⟨[.o 0, .i], [.rows false .poly], [.sv false .poly], [.rows false .poly]⟩
abbrev nC : Sig := ⟨[.i], [], [.i], []⟩
abbrev MV : Sig := ⟨[.r false .mono, .sv false .mono], [], [.o 0], [.rows false .mono]⟩
abbrev MW : Sig := ⟨[.r false .mono], [], [.agg [.own 0], .b], [.rows true .mono]⟩
abbrev rF : Sig := ⟨[.sv false .poly, .sv false .poly], [], [.agg [.own 0], .b], [.rows true .mono]⟩
abbrev Iy : Sig := ⟨[.sv false .poly, .i], [], [.agg [.own 0]], [.rows true .mono]⟩
abbrev V5 : Sig := ⟨[.r false .i64, .r false .i64], [], [.o 0], [.rows true .i64]⟩
abbrev Iz : Sig := ⟨[.i, .sv false .poly, .sv false .poly], [], [.agg [.own 0], .b], [.rows true .mono]⟩
abbrev yu : Sig := ⟨[.sv false .poly], [], [.i, .b], []⟩
abbrev IB : Sig := ⟨[.i, .i, .i], [], [.i], []⟩
abbrev V6 : Sig := ⟨[.i, .i, .sv false .poly], [], [.agg [.own 0], .b], [.rows true .mono]⟩
abbrev V7 : Sig := ⟨[.agg [.own 0], .i, .sv false .poly, .sv false .poly], [.rows true .atom], [.agg [.own 1], .agg [.own 2]], [.gone, .rows true .atom, .rows true .mono]⟩
abbrev V8 : Sig := ⟨[.r false .ev, .i], [], [.i], []⟩
abbrev V9 : Sig := ⟨[.agg [.own 0], .r false .ev, .i], [.rows true .atom], [.agg [.own 1], .agg [.own 2]], [.gone, .rows true .atom, .rows true .mono]⟩
abbrev Bc : Sig := ⟨[.r false .poly], [], [.o 0], [.rows true .poly]⟩
abbrev Wh : Sig := ⟨[.sv false .iop, .sv false .poly, .sv false .poly, .r false .poly], [], [.agg [.i, .i, .own 0, .own 1, .own 2]], [.rows true .mono, .rows true .mono, .rows true .poly]⟩
abbrev IC : Sig := ⟨[.sv false .blk], [], [.i], []⟩
abbrev MX : Sig := ⟨[.sv false .sym, .i], [], [.agg [.rows false .ev, .rows false .poly, .i, .nil, .nil, .i]], []⟩
abbrev IE : Sig := ⟨[.sv false .sym, .i], [], [.sv false .sym], []⟩
abbrev Wi : Sig := ⟨[.sv false .tab, .sv false .blk], [], [.sv false .tab, .sv false .sym], []⟩
abbrev Bd : Sig := ⟨[.r false .poly, .r false .poly], [], [.b], []⟩
abbrev IG : Sig := ⟨[.sv false .ev, .sv false .ev], [], [.b], []⟩
abbrev II : Sig := ⟨[.sv false .sym, .sv false .sym], [], [.b], []⟩
abbrev Bf : Sig := ⟨[.agg [.i, .i, .own 0, .i, .i, .i, .i], .sv false .iop], [.rows true .iop], [.agg [.i, .i, .own 1, .i, .i, .i, .i], .i], [.gone, .rows true .iop]⟩
abbrev MZ : Sig := ⟨[.agg [.i, .i, .own 0, .i, .i, .i, .i], .i, .i], [.rows true .iop], [.agg [.i, .i, .own 1, .i, .i, .i, .i]], [.gone, .rows true .iop]⟩
abbrev EK : Sig := ⟨[.agg [.i, .i, .own 0, .i, .i, .i, .i], .i], [.rows true .iop], [.agg [.i, .i, .own 1, .i, .i, .i, .i], .i], [.gone, .rows true .iop]⟩
abbrev M0 : Sig := ⟨[.agg [.i, .i, .own 0, .i, .i, .i, .i], .i, .i, .sv false .iop], [.rows true .iop], [.agg [.i, .i, .own 1, .i, .i, .i, .i], .i], [.gone, .rows true .iop]⟩
abbrev IJ : Sig := ⟨[.agg [.i, .i, .own 0, .i, .i, .i, .i], .sv false .ins, .i], [.rows true .iop], [.agg [.i, .i, .own 1, .i, .i, .i, .i]], [.gone, .rows true .iop]⟩
abbrev Wj : Sig := ⟨[.agg [.i, .i, .own 0, .i, .i, .i, .i], .sv false .ins], [.rows true .iop], [.agg [.i, .i, .own 1, .i, .i, .i, .i]], [.gone, .rows true .iop]⟩
abbrev IK : Sig := ⟨[.i, .r false .ins], [], [.agg [.i, .i, .own 0, .i, .i, .i, .i]], [.rows true .iop]⟩
abbrev Wm : Sig := ⟨[.sv false .cac], [], [.b], []⟩
abbrev Wn : Sig := ⟨[.r false .i64, .r false .i64, .i], [], [.b], []⟩
abbrev IL : Sig := ⟨[.r false .cac, .r false .i64], [], [.b], []⟩
abbrev Bg : Sig := ⟨[.r false .i64], [], [.o 0], [.rows true .i64]⟩
abbrev Wp : Sig := ⟨[.sv false .iop], [], [.agg [.i, .i, .i, .i, .i]], []⟩
abbrev Wq : Sig := ⟨[.r false .iop], [], [.o 0], [.rows true .iop]⟩
abbrev EL : Sig := ⟨[.sv false .blk], [], [.agg [.i, .i, .own 0, .i, .i, .i, .i]], [.rows true .iop]⟩
abbrev Ws : Sig := ⟨[.sv false .cac], [], [.agg [.own 0, .i, .i, .own 1, .i, .i, .i, .i]], [.rows true .i64, .rows true .iop]⟩
abbrev Wt : Sig := ⟨[.r false .cac], [], [.o 0], [.rows true .cac]⟩
abbrev EM : Sig := ⟨[.r false .i64, .r false .i64], [], [.b], []⟩
abbrev anP : Sig := ⟨[.sv false .cac, .r false .i64], [], [.b], []⟩
abbrev Wu : Sig := ⟨[.sv false .iop], [], [.b, .b, .b, .b], []⟩
abbrev KQ : Sig := ⟨[.sv false .iop], [], [.b], []⟩
abbrev Wv : Sig := ⟨[.sv false .blk, .i, .i], [], [.b], []⟩
abbrev aeI : Sig := ⟨[.sv false .blk, .i], [], [.b], []⟩
abbrev Ww : Sig := ⟨[.sv false .blk], [], [.b, .b, .b], []⟩
abbrev IQ : Sig := ⟨[.r false .iop, .r false .iop], [], [.b], []⟩
abbrev aeJ : Sig := ⟨[.i, .p 0 1], [.box (.i)], [.b], [.box (.i)]⟩
abbrev Wx : Sig := ⟨[.r false .i64, .c (.fn 192 [(0, 1)])], [.box (.i)], [.i], [.box (.i)]⟩
abbrev Wy : Sig := ⟨[.r false .i64, .c (.fn 192 [(0, 1)])], [.box (.i)], [.b], [.box (.i)]⟩
abbrev ado : Sig := ⟨[.i, .i], [], [.i], []⟩
abbrev ahE : Sig := ⟨[.r false .i64], [], [.i], []⟩
abbrev adp : Sig := ⟨[.i, .i], [], [.b], []⟩
abbrev Bh : Sig := ⟨[.r false .i64], [], [.b], []⟩
abbrev Wz : Sig := ⟨[.r false .mono, .c (.fn 180 [])], [], [.i], []⟩
abbrev WA : Sig := ⟨[.r false .mono, .c (.fn 180 [])], [], [.b], []⟩
abbrev zw : Sig := ⟨[.sv false .poly, .sv false .poly], [], [.b], []⟩
abbrev aeK : Sig := ⟨[.sv false .atom, .p 0 4], [.s false .atom], [.b], [.s false .atom]⟩
abbrev WB : Sig := ⟨[.r false .atom, .c (.fn 168 [(0, 4)])], [.s false .atom], [.i], [.s false .atom]⟩
abbrev WE : Sig := ⟨[.sv false .tab, .sv false .atom], [], [.i], []⟩
abbrev WG : Sig := ⟨[.r true .atom], [], [.c (.clip true .atom)], []⟩
abbrev WH : Sig := ⟨[.sv true .tab, .sv true .atom], [], [.sv true .tab, .i], []⟩
abbrev WI : Sig := ⟨[.p 0 2, .i, .i], [.g [.rows true .atom, .bool]], [.sv true .poly], [.g [.rows true .atom, .bool]]⟩
abbrev WJ : Sig := ⟨[.p 0 2], [.g [.rows true .atom, .bool]], [.o 1], [.g [.rows true .atom, .bool], .rows true .poly]⟩
abbrev R5 : Sig := ⟨[.sv false .poly], [], [.agg [.own 0]], [.rows true .mono]⟩
abbrev aeL : Sig := ⟨[], [], [.sv true .tab, .r true .poly], []⟩
abbrev WK : Sig := ⟨[.o 0], [.rows true .poly], [.o 1], [.rows true .poly, .rows true .poly]⟩
abbrev WL : Sig := ⟨[.sv false .mono, .sv false .mono], [], [.i], []⟩
abbrev WM : Sig := ⟨[.o 0, .i, .i, .c (.fn 208 [])], [.rows false .mono], [], [.rows false .mono]⟩
abbrev yw : Sig := ⟨[.o 0, .i, .i, .i, .c (.fn 208 [])], [.rows false .mono], [], [.rows false .mono]⟩
abbrev M4 : Sig := ⟨[.o 0, .i, .i, .i, .c (.fn 208 [])], [.rows false .mono], [], [.rows false .mono]⟩
abbrev WO : Sig := ⟨[.o 0, .i, .c (.fn 208 [])], [.rows false .mono], [], [.rows false .mono]⟩
abbrev WQ : Sig := ⟨[.o 0, .c (.fn 208 [])], [.rows false .mono], [], [.rows false .mono]⟩
abbrev WR : Sig := ⟨[.o 0], [.rows false .mono], [.agg [.own 1], .b], [.rows false .mono, .rows true .mono]⟩
abbrev WS : Sig := ⟨[.c (.nil), .i], [], [.o 0], [.rows true .mono]⟩
abbrev WT : Sig := ⟨[.r false .poly], [], [.o 0], [.rows false .mono]⟩
abbrev WU : Sig := ⟨[.c (.nil), .i], [], [.o 0], [.rows true .i64]⟩
abbrev WW : Sig := ⟨[.r false .ints], [], [.o 0], [.rows true .i64]⟩
abbrev EN : Sig := ⟨[.o 0, .i, .i], [.rows true .i64], [], [.rows true .i64]⟩
abbrev WX : Sig := ⟨[.o 0, .i, .i], [.rows true .i64], [], [.rows true .i64]⟩
abbrev WY : Sig := ⟨[.o 0, .i, .i], [.rows true .i64], [], [.rows true .i64]⟩
abbrev M5 : Sig := ⟨[.o 0, .i, .i], [.rows true .i64], [.i, .i], [.rows true .i64]⟩
abbrev WZ : Sig := ⟨[.o 0, .i, .i], [.rows true .i64], [], [.rows true .i64]⟩
abbrev M6 : Sig := ⟨[.o 0, .i, .i], [.rows true .i64], [.b], [.rows true .i64]⟩
abbrev M7 : Sig := ⟨[.o 0, .i, .i, .i], [.rows true .i64], [.i], [.rows true .i64]⟩
abbrev M8 : Sig := ⟨[.o 0, .i, .i, .i], [.rows true .i64], [.i, .b], [.rows true .i64]⟩
abbrev EP : Sig := ⟨[.o 0, .i, .i, .i], [.rows true .i64], [], [.rows true .i64]⟩
abbrev W9 : Sig := ⟨[.c (.int .u64)], [], [.i], []⟩
abbrev Xa : Sig := ⟨[.o 0], [.rows true .i64], [], [.rows true .i64]⟩
abbrev aeM : Sig := ⟨[.i, .sv true .poly, .sv true .poly], [], [.sv true .poly, .b], []⟩
abbrev aeN : Sig := ⟨[.sv true .tab, .i, .sv true .poly, .sv true .poly], [], [.sv true .tab, .sv true .poly, .b], []⟩
abbrev aeO : Sig := ⟨[.sv false .sym], [], [.agg [.own 0, .own 1, .i, .own 2, .own 3, .i]], [.rows true .ev, .rows true .poly, .rows true .mono, .rows true .mono]⟩
abbrev aeP : Sig := ⟨[.sv false .sym, .i], [], [.sv true .sym], []⟩
abbrev aeQ : Sig := ⟨[.sv true .tab, .sv false .blk], [], [.sv true .tab, .sv true .sym], []⟩
abbrev Xb : Sig := ⟨[.r false .poly, .r false .poly, .c (.fn 150 [])], [], [.b], []⟩
abbrev Xc : Sig := ⟨[.r false .ev, .r false .ev, .c (.fn 98 [])], [], [.b], []⟩
abbrev Gr : Sig := ⟨[.p 0 8, .i, .i, .i, .i], [.g [.i, .i, .own 1, .i, .i, .i, .i, .i], .rows true .iop], [.i], [.g [.i, .i, .own 2, .i, .i, .i, .i, .i], .gone, .rows true .iop]⟩
abbrev aeR : Sig := ⟨[.i, .p 0 1, .p 1 4], [.box (.p 2 8), .s false .ins, .g [.i, .i, .own 3, .i, .i, .i, .i, .i], .rows true .iop], [], [.box (.p 2 8), .s false .ins, .g [.i, .i, .own 4, .i, .i, .i, .i, .i], .gone, .rows true .iop]⟩
abbrev R6 : Sig := ⟨[.p 0 8, .i], [.g [.i, .i, .own 1, .i, .i, .i, .i, .i], .rows true .iop], [.i], [.g [.i, .i, .own 2, .i, .i, .i, .i, .i], .gone, .rows true .iop]⟩
abbrev aeS : Sig := ⟨[.p 0 8, .i, .i, .i], [.g [.i, .i, .own 1, .i, .i, .i, .i, .i], .rows true .iop], [.i], [.g [.i, .i, .own 2, .i, .i, .i, .i, .i], .gone, .rows true .iop]⟩
abbrev aeT : Sig := ⟨[.p 0 8, .sv false .ins], [.g [.i, .i, .own 1, .i, .i, .i, .i, .i], .rows true .iop], [], [.g [.i, .i, .own 2, .i, .i, .i, .i, .i], .gone, .rows true .iop]⟩
abbrev anQ : Sig := ⟨[.sv false .cac, .p 0 1], [.box (.i)], [.b], [.box (.i)]⟩
abbrev Xd : Sig := ⟨[.r false .cac, .c (.fn 58 [(0, 1)])], [.box (.i)], [.i], [.box (.i)]⟩
abbrev aeU : Sig := ⟨[.sv false .iop, .sv false .iop], [], [.b], []⟩
abbrev aeV : Sig := ⟨[.sv false .cac, .sv false .cac], [], [.b], []⟩
abbrev aeW : Sig := ⟨[.r false .cac, .r false .cac], [], [.b], []⟩
abbrev Xe : Sig := ⟨[.sv false .aM, .i], [], [.i], []⟩
abbrev aeX : Sig := ⟨[.sv false .cer, .i], [], [.i], []⟩
abbrev aeY : Sig := ⟨[.r false .cer, .i], [], [.i], []⟩
abbrev aeZ : Sig := ⟨[.sv false .eng, .i], [], [.i], []⟩
abbrev IU : Sig := ⟨[.sv false .aM], [], [.b], []⟩
abbrev IV : Sig := ⟨[.r false .cer], [], [.b], []⟩
abbrev ER : Sig := ⟨[.sv false .eng], [], [.b], []⟩
abbrev Xf : Sig := ⟨[.sv false .aM], [], [.agg [.own 0, .i, .own 1, .i, .bool, .bool, .i, .own 2, .own 3, .i]], [.rows true .i64, .rows true .i64, .rows true .i64, .rows true .i64]⟩
abbrev Xg : Sig := ⟨[.sv false .cer], [], [.agg [.i, .i, .own 0, .i, .i, .i, .i, .i, .i, .own 1, .i, .i, .i, .i]], [.rows true .iop, .rows true .iop]⟩
abbrev Xh : Sig := ⟨[.r false .cer], [], [.o 0], [.rows true .cer]⟩
abbrev Xi : Sig := ⟨[.sv false .eng], [], [.agg [.own 0, .i, .own 1, .i, .bool, .bool, .i, .own 2, .own 3, .i, .own 4, .own 5]], [.rows true .i64, .rows true .i64, .rows true .i64, .rows true .i64, .rows true .cac, .rows true .cer]⟩
abbrev ae0 : Sig := ⟨[.sv false .cer], [], [.b], []⟩
abbrev Xj : Sig := ⟨[.r false .cer, .c (.fn 68 [])], [], [.i], []⟩
abbrev Xk : Sig := ⟨[.r false .cer, .c (.fn 68 [])], [], [.b], []⟩
abbrev ae1 : Sig := ⟨[.sv false .aM, .sv false .aM], [], [.b], []⟩
abbrev ae2 : Sig := ⟨[.sv false .cer, .sv false .cer], [], [.b], []⟩
abbrev ae3 : Sig := ⟨[.r false .cer, .r false .cer], [], [.b], []⟩
abbrev ae4 : Sig := ⟨[.sv false .eng, .sv false .eng], [], [.b], []⟩
abbrev qq3 : List SkC := [.nil, .nil, .i, .nil, .nil, .i]
abbrev M9 : List SkC := [.rows true .atom, .bool]
abbrev qq0 : jY := ⟨[(3, .p 0 7), (4, .p 1 1), (5, .p 2 6), (6, .p 3 2), (7, .p 4 6), (8, .o 5), (9, .i), (10, .i), (57, .r false .iop), (58, .i), (59, .i)], [.s false .blk, .g [.nil], .g qq3, .g M9, .g [.own 6, .own 7, .i, .nil, .nil, .i], .rows true .poly, .rows true .ev, .rows true .poly]⟩
abbrev qq1 : List SkO := [.g qq3, .g [.own 2, .own 3, .i, .own 4, .own 5, .i], .rows true .ev, .rows true .poly, .rows true .mono, .rows true .mono]
abbrev qq2 : jY := ⟨[], [.g [.i, .i, .own 2, .i, .i, .i, .i, .i], .gone, .rows true .iop]⟩
abbrev qq4 : Ann := (.cond .u .u)
abbrev qq5 : jY := ⟨[(3, .p 0 7), (4, .p 1 1), (5, .p 2 6), (6, .p 3 2), (7, .p 4 6), (8, .o 5), (9, .i), (10, .i), (11, .i), (12, .p 6 5), (17, .p 7 1), (18, .p 8 1), (57, .r false .iop), (58, .i), (59, .i)], [.s false .blk, .g [.nil], .g qq3, .g M9, .g [.own 9, .own 10, .i, .nil, .nil, .i], .rows true .poly, .s false .iop, .s true .poly, .s true .poly, .rows true .ev, .rows true .poly]⟩
abbrev qq6 : List SkO := [.rows false .mono]
abbrev qq7 : jY := ⟨[(3, .p 0 7), (4, .p 1 1), (5, .p 2 6), (6, .p 3 1), (7, .p 4 6), (9, .o 5), (13, .o 6), (14, .i), (18, .p 7 1)], [.s false .blk, .g [.nil], .g qq3, .g [.own 8], .g [.own 9, .nil, .i, .nil, .nil, .i], .rows false .poly, .rows false .poly, .g [.own 10], .rows true .atom, .rows true .ev, .rows true .mono]⟩
abbrev qq8 : jY := ⟨[(3, .p 0 7), (4, .p 1 1), (5, .p 2 6), (6, .p 3 1), (7, .p 4 6), (9, .o 5), (13, .o 6), (14, .i), (18, .p 7 1)], [.s false .blk, .g [.nil], .g qq3, .g [.own 8], .g [.own 9, .nil, .i, .nil, .nil, .i], .rows false .poly, .rows false .poly, .s false .poly, .rows true .atom, .rows true .ev]⟩
abbrev qq9 : jY := ⟨[(0, .r false .mono), (3, .p 0 2), (5, .o 1), (6, .b), (7, .i)], [.s false .mono, .rows false .mono]⟩
abbrev anR : List SkO := [.rows true .iop, .g [.i, .i, .own 0, .i, .i, .i, .i], .s false .ins, .g [.i, .i, .nil, .i, .i, .i, .i]]
abbrev FP : List SkO := [.rows true .i64]
abbrev ahF : jY := ⟨[(0, .o 0), (1, .i), (2, .i), (3, .i), (8, .b), (9, .b)], FP⟩
abbrev adq : jY := ⟨[(1, .p 0 4), (4, .i), (30, .b)], [.s false .ins]⟩
abbrev anS : jY := ⟨[(2, .p 0 1), (3, .p 1 1), (4, .p 2 1), (6, .o 3), (7, .i), (8, .i)], [.s false .poly, .s false .poly, .g [.nil], .rows false .mono]⟩
abbrev Xl : jY := ⟨[(4, .p 0 6), (5, .p 1 6)], qq1⟩
abbrev anT : jY := ⟨[(0, .o 0), (1, .i), (2, .i), (3, .i), (4, .c (.fn 208 [])), (18, .i), (19, .i), (20, .i), (21, .i), (22, .i)], qq6⟩
abbrev anU : jY := ⟨[(0, .o 0), (2, .p 1 1), (4, .p 2 1), (5, .i)], [.rows false .mono, .g [.nil], .g [.own 3], .rows true .mono]⟩
abbrev anV : jY := ⟨[(1, .i), (2, .p 0 1), (4, .p 1 1), (5, .o 2), (6, .i)], [.s false .poly, .g [.nil], .rows false .mono]⟩
abbrev anW : Ann := (.v (.v (.seq (.v (.block (.loop ⟨[(0, .r false .i64), (1, .r false .i64), (5, .i)], []⟩ .u))) .u)))
abbrev anX : Ann := (.block (.loop ⟨[(0, .o 0), (1, .i), (2, .c (.fn 208 [])), (6, .i), (7, .i), (8, .i)], qq6⟩ .u))
abbrev anY : jY := ⟨[(0, .r false .i64), (1, .r false .i64), (5, .o 0), (6, .i), (7, .i)], FP⟩
abbrev anZ : Ann := (.v (.seq (.v (.block (.loop ⟨[(0, .r false .i64), (3, .i)], []⟩ .u))) .u))
abbrev an0 : jY := ⟨[(0, .o 0), (2, .i), (4, .c (.fn 208 [])), (14, .i), (15, .i)], qq6⟩
abbrev an1 : jY := ⟨[(0, .o 0), (2, .i), (4, .c (.fn 208 [])), (10, .i), (11, .i)], qq6⟩
abbrev an2 : jY := ⟨[(0, .o 0), (1, .i), (4, .c (.fn 208 [])), (10, .i), (11, .i)], qq6⟩
abbrev an3 : jY := ⟨[(0, .o 0), (1, .i), (2, .c (.fn 208 [])), (6, .i)], qq6⟩
abbrev an4 : jY := ⟨[(3, .p 1 7), (4, .p 2 4), (6, .p 3 7), (109, .b)], anR⟩
abbrev an5 : jY := ⟨[(0, .r false .ev), (1, .i), (5, .i), (6, .i)], []⟩
end Go.TX.F
noncomputable section
namespace Go.TX.F
open Go Go.AE Go.TX Go.TX.Seat Go.Proofs
set_option maxRecDepth 100000
set_option maxHeartbeats 4000000
def Xm:Gt aB.z X E .u VY Tryz.f38 []:=gm
def Xn:Gt aB.z X E .u aeG Tryz.f70 []:=gm
def Xo:Gt aB.z X E .u VZ Tryz.f39 [(70,aeG)]:=gm
def Xp:Gt aB.z X E .u aeH Tryz.f17 [(38,VY),(39,VZ)]:=gm
def Xq:Gt aB.z X E (.v (.v (.v (.seq (.v (.block (.loop ⟨[(0,.r false .cac),(1,.i),(5,.i)],[]⟩ .u))) .u)))) R4 Tryz.f5 [(17,aeH)]:=gm
def Na:Gt aB.z X E .u cu Tryz.f62 []:=gm
def Nb:Gt aB.z X E .u cZ Tryz.f63 []:=gm
def Nc:Gt aB.z X E (.v (.seq (.v (.block (.v (.cond .u (.v (.cond .u (.v (.cond .u (.seq (.v (.cut adq (.cond .u (.v (.cut adq (.cond .u (.v (.cut adq (.cond .u (.v (.cut adq qq4))))))))))) (.cond .u (.v (.cond .u (.v (.cond .u (.seq (.v (.cut ⟨[(1,.p 0 4),(54,.b)],[.s false .ins]⟩ qq4)) .u))))))))))))))) .u)) nu Tryz.f108 []:=gm
def Ng:Gt aB.z X E .u nu Tryz.f73 [(63,cZ),(108,nu)]:=gm
def Nh:Gt aB.z X E .u Ip Tryz.f71 [(73,nu),(62,cu)]:=gm
def Ni:Gt aB.z X E (.v (.v (.seq (.v (.block (.loop ⟨[(0,.r false .i64),(3,.o 0),(4,.i)],[.rows true .ins]⟩ .u))) .u))) Iq Tryz.f40 [(71,Ip)]:=gm
def Nj:Gt aB.z X E .u cu Tryz.f74 []:=gm
def Nk:Gt aB.z X E .u nu Tryz.f72 [(74,cu),(73,nu)]:=gm
def Nl:Gt aB.z X E (.v (.v (.seq (.v (.block (.loop ⟨[(1,.r false .ins),(5,.i)],[]⟩ .u))) .u))) Ba Tryz.f41 [(74,cu),(73,nu),(63,cZ),(72,nu)]:=gm
def Nn:Gt aB.z X E .u cu Tryz.f182 [(63,cZ)]:=gm
def Np:Gt aB.z X E .u EG Tryz.f152 [(182,cu)]:=gm
def Nq:Gt aB.z X E (.v (.v (.seq (.v (.block (.v (.cond .u (.v (.cond .u (.v (.cond .u (.seq (.v (.cut ⟨[(0,.r false .iop),(1,.i),(2,.i),(7,.p 0 5),(13,.i),(78,.b)],[.s false .iop]⟩ qq4)) .u))))))))) .u))) EG Tryz.f109 [(62,cu),(63,cZ),(152,EG)]:=gm
def Nr:Gt aB.z X E (.v (.v (.seq (.v (.block (.v (.cond .u (.v (.cond .u (.seq (.v (.cut ⟨[(1,.p 0 7),(3,.i),(42,.b)],[.s false .blk]⟩ qq4)) .u))))))) .u))) pG Tryz.f110 [(62,cu),(152,EG)]:=gm
def Ns:Gt aB.z X E (.v (.v (.seq (.v (.block (.loop ⟨[(1,.p 0 7),(3,.i)],[.s false .blk]⟩ .u))) .u))) pG Tryz.f75 [(63,cZ),(110,pG),(109,EG)]:=gm
def Nt:Gt aB.z X E (.v (.v (.seq (.v (.block (.loop ⟨[(2,.p 0 7),(3,.p 1 7),(5,.i)],[.s false .blk,.s false .blk]⟩ .u))) .u))) kY Tryz.f76 []:=gm
def Nu:Gt aB.z X E .u jF Tryz.f111 [(63,cZ)]:=gm
def Nv:Gt aB.z X E (.v (.v (.v (.seq (.v (.block (.loop ⟨[(0,.p 0 1),(2,.p 1 1),(3,.o 2),(4,.i)],[.g [.nil],.g [.own 3],.rows true .poly,.rows true .atom]⟩ .u))) .u)))) MR Tryz.f77 [(111,jF)]:=gm
def Nw:Gt aB.z X E anW nA Tryz.f163 []:=gm
def Ny:Gt aB.z X E (.v (.v (.seq (.v (.block (.loop ⟨[(1,.p 0 2),(3,.i)],[.s false .mono]⟩ .u))) .u))) Ir Tryz.f190 [(63,cZ)]:=gm
def Nz:Gt aB.z X E (.v (.v (.seq (.v (.block (.loop ⟨[(1,.p 0 1),(3,.i)],[.s false .poly]⟩ .u))) .u))) jG Tryz.f159 [(190,Ir),(163,nA)]:=gm
def NA:Gt aB.z X E .u V3 Tryz.f183 []:=gm
def NC:Gt aB.z X E (.v (.seq (.v (.block (.loop ⟨[(1,.i),(2,.p 0 1),(5,.i)],[.s false .poly]⟩ (.v (.seq (.block (.v (.block (.loop ⟨[(1,.i),(2,.p 0 1),(5,.i),(6,.i)],[.s false .poly]⟩ .u)))) .u))))) .u)) EH Tryz.f184 []:=gm
def ND:Gt aB.z X E (.v (.seq (.v (.block (.v (.cond .u (.seq (.v (.cut ⟨[(1,.i),(2,.p 0 4),(6,.i),(16,.b)],[.s false .atom]⟩ qq4)) .u))))) .u)) Bb Tryz.f153 [(63,cZ),(159,jG),(184,EH),(183,V3)]:=gm
def NH:Gt aB.z X E (.v (.v (.seq (.v (.block (.loop ⟨[(2,.p 0 1),(3,.p 1 1),(5,.i)],[.s false .poly,.s false .poly]⟩ .u))) .u))) lQ Tryz.f126 [(163,nA)]:=gm
def NI:Gt aB.z X E .u EI Tryz.f154 [(126,lQ)]:=gm
def NJ:Gt aB.z X E (.v (.v (.seq (.v (.block (.loop ⟨[(1,.p 0 1),(3,.i)],[.s false .tab]⟩ (.v (.seq (.block (.v (.v (.block (.loop ⟨[(1,.p 0 1),(3,.i),(4,.i)],[.s false .tab]⟩ .u))))) .u))))) .u))) Iu Tryz.f112 [(153,Bb),(154,EI)]:=gm
def NK:Gt ⟨[26],[]⟩ X E (.v (.v (.seq (.v (.block (.loop ⟨[(0,.r false .mono),(2,.p 0 1),(3,.p 1 1),(4,.i)],[.g [.nil],.g [.own 2],.rows true .mono]⟩ .u))) .u))) pI Tryz.f121 []:=gm
def NP:Gt aB.z X E .u MU Tryz.f155 [(121,pI)]:=gm
end Go.TX.F
end
noncomputable section
namespace Go.TX.F
open Go Go.AE Go.TX Go.TX.Seat Go.Proofs
set_option maxRecDepth 100000
set_option maxHeartbeats 4000000
def NQ:Gt ⟨[20],[]⟩ X E (.v (.v (.seq (.v (.block (.loop ⟨[(1,.p 0 1),(2,.p 1 1),(3,.p 2 1),(4,.i)],[.s false .tab,.g [.nil],.g [.own 3],.rows true .atom]⟩ .u))) .u))) EJ Tryz.f113 [(155,MU)]:=gm
def NR:Gt ⟨[38],[]⟩ X E (.v (.v (.seq (.v (.block (.loop ⟨[(2,.p 1 1),(3,.p 2 4),(4,.p 3 1),(6,.i)],[.rows true .atom,.g [.own 0],.s false .atom,.g [.nil]]⟩ .u))) .u))) Iw Tryz.f114 [(153,Bb),(154,EI),(155,MU)]:=gm
def NS:Gt aB.z X E .u V4 Tryz.f115 []:=gm
def NT:Gt aB.z X E .u jF Tryz.f116 [(63,cZ)]:=gm
def NU:Gt aB.z X E (.v (.v (.seq (.v (.cut ⟨[(3,.i)],[]⟩ qq4)) .u))) nC Tryz.f204 []:=gm
def NV:Gt aB.z X E (.v (.v (.v (.seq (.v (.block (.loop qq9 (.v (.seq (.block (.v (.seq (.v (.cut ⟨[(0,.r false .mono),(3,.p 0 2),(5,.o 1),(6,.b),(7,.i),(8,.i)],[.s false .mono,.rows false .mono]⟩ qq4)) (.v (.cut qq9 (.cond (.v (.v (.v (.cut qq9 qq4)))) .u)))))) .u))))) (.seq (.v (.cut ⟨[(5,.o 0)],qq6⟩ qq4)) .u))))) MV Tryz.f202 [(163,nA),(204,nC)]:=gm
def NW:Gt aB.z X E (.v (.v (.seq (.v (.block (.loop ⟨[(0,.r false .mono),(2,.p 0 1),(4,.i)],[.g [.nil]]⟩ .u))) .u))) MW Tryz.f203 [(121,pI)]:=gm
def NY:Gt aB.z X E (.v (.v (.v (.seq (.v (.block (.loop ⟨[(3,.p 0 1),(4,.p 1 1),(6,.r false .mono),(7,.i)],[.s false .poly,.g [.nil]]⟩ .u))) .u)))) rF Tryz.f185 [(159,jG),(202,MV),(203,MW)]:=gm
def NZ:Gt aB.z X E (.v (.v (.v (.seq (.v (.block (.loop anV (.v (.seq (.block (.v (.v (.cut anV qq4)))) .u))))) .u)))) Iy Tryz.f186 [(159,jG),(204,nC),(121,pI),(62,cu)]:=gm
def N7:Gt aB.z X E (.v (.v (.v (.seq (.v (.block (.loop anY (.v (.seq (.block (.seq (.block (.loop anY .u)) .u)) .u))))) .u)))) V5 Tryz.f205 []:=gm
def N8:Gt aB.z X E (.v (.v (.v (.seq (.v (.block (.loop ⟨[(2,.p 0 1),(3,.p 1 1),(4,.p 2 1),(6,.o 3),(7,.i)],[.s false .poly,.s false .poly,.g [.nil],.rows false .mono]⟩ (.v (.seq (.block (.v (.block (.loop anS (.v (.seq (.block (.v (.v (.cut anS qq4)))) .u)))))) .u))))) .u)))) rF Tryz.f187 [(159,jG),(204,nC),(202,MV),(205,V5),(203,MW)]:=gm
def N9:Gt aB.z X E .u Iz Tryz.f156 [(187,rF),(185,rF),(186,Iy)]:=gm
def Oa:Gt aB.z X E .u yu Tryz.f160 [(159,jG)]:=gm
def Ob:Gt aB.z X E .u IB Tryz.f188 [(204,nC),(62,cu)]:=gm
def Oc:Gt aB.z X E .u V6 Tryz.f189 [(121,pI)]:=gm
def Od:Gt aB.z X E .u Iz Tryz.f157 [(126,lQ),(121,pI),(188,IB),(116,jF),(160,yu),(189,V6)]:=gm
def Oe:Gt aB.z X E (.v (.v (.seq (.v (.cut ⟨[(1,.i),(4,.p 1 1),(6,.p 2 1),(7,.p 3 1),(8,.p 4 1),(9,.p 5 1),(10,.p 6 1),(11,.b)],[.rows true .atom,.g [.own 0],.s false .poly,.s false .poly,.g [.nil],.g [.nil],.g [.own 7],.rows true .mono]⟩ qq4)) (.v (.v (.seq (.v (.cut ⟨[(4,.p 1 1),(8,.p 2 1),(9,.p 3 1),(12,.p 4 4)],[.rows true .atom,.g [.own 0],.g [.nil],.g [.nil],.g [.i,.i,.rows false .mono,.rows false .mono]]⟩ qq4)) .u)))))) V7 Tryz.f117 [(111,jF),(126,lQ),(156,Iz),(157,Iz),(114,Iw)]:=gm
def Og:Gt aB.z X E (.v (.v (.seq (.v (.block (.loop an5 (.v (.seq (.block (.v (.cut an5 qq4))) .u))))) .u))) V8 Tryz.f158 []:=gm
def Oh:Gt aB.z X E (.v (.v (.seq (.v (.cut ⟨[(3,.p 1 1),(6,.p 2 1),(7,.p 3 1),(8,.p 4 4)],[.rows true .atom,.g [.own 0],.g [.nil],.g [.nil],.g [.i,.i,.nil,.nil]]⟩ qq4)) .u))) V9 Tryz.f118 [(111,jF),(114,Iw),(158,V8)]:=gm
def Oi:Gt aB.z X E (.v (.v (.seq (.v (.block (.loop ⟨[(0,.r false .poly),(3,.o 0),(4,.i)],[.rows true .poly]⟩ .u))) .u))) Bc Tryz.f120 [(121,pI)]:=gm
def Oj:Gt aB.z X E (.v (.v (.seq (.v (.cut ⟨[(3,.r false .poly),(4,.p 0 5),(6,.p 1 1),(8,.p 2 5),(9,.p 3 5)],[.s false .iop,.s false .poly,.g [.i,.i,.nil,.nil,.nil],.g [.i,.i,.own 4,.nil,.nil],.rows true .mono]⟩ qq4)) (.seq (.v (.cut ⟨[(3,.r false .poly),(4,.p 0 5),(8,.p 1 5),(9,.p 2 5)],[.s false .iop,.g [.i,.i,.nil,.nil,.nil],.g [.i,.i,.own 3,.own 4,.nil],.rows true .mono,.rows true .mono]⟩ qq4)) (.seq (.v (.cut ⟨[(8,.p 0 5),(9,.p 1 5)],[.g [.i,.i,.nil,.nil,.nil],.g [.i,.i,.own 2,.own 3,.own 4],.rows true .mono,.rows true .mono,.rows true .poly]⟩ qq4)) .u))))) Wh Tryz.f119 [(121,pI),(120,Bc)]:=gm
def Ol:Gt aB.z X E .u IC Tryz.f122 []:=gm
def Om:Gt aB.z X E .u IC Tryz.f123 []:=gm
def Oo:Gt aB.z X E .u MX Tryz.f161 []:=gm
def Oq:Gt aB.z X E (.v (.v (.v (.v (.seq (.block (.seq (.v (.cut ⟨[(1,.i),(2,.p 0 6),(4,.p 1 6),(6,.b),(8,.b),(9,.b),(29,.b)],[.s false .sym,.g qq3]⟩ qq4)) (.cond .u (.seq (.v (.cut ⟨[(1,.i),(2,.p 0 6),(4,.p 1 6),(54,.b)],[.s false .sym,.g qq3]⟩ qq4)) .u)))) (.seq (.v (.cut ⟨[(2,.p 0 6),(4,.p 1 6)],[.s false .sym,.g qq3]⟩ qq4)) .u)))))) IE Tryz.f162 [(160,yu),(126,lQ),(161,MX)]:=gm
def Ou:Gt ⟨[53],[]⟩ X E (.v (.v (.v (.v (.seq (.v (.block (.loop ⟨[(1,.i),(2,.p 0 6),(4,.p 1 6),(5,.p 2 6),(6,.i)],[.s false .sym,.g qq3,.g [.own 3,.rows false .poly,.i,.rows false .mono,.rows false .mono,.i],.rows true .ev]⟩ .u))) (.v (.v (.v (.seq (.v (.block (.v (.cut Xl (.cond .u (.seq (.v (.cut ⟨[(1,.i),(4,.p 0 6),(5,.p 1 6),(85,.b)],qq1⟩ qq4)) .u)))))) .u))))))))) IE Tryz.f124 [(160,yu),(159,jG),(121,pI),(161,MX),(162,IE),(120,Bc)]:=gm
def Ov:Gt ⟨[116],[]⟩ X E (.v (.v (.v (.v (.v (.seq (.v (.block (.loop ⟨[(3,.p 0 7),(4,.p 1 1),(5,.p 2 6),(6,.p 3 1),(7,.p 4 6),(9,.o 5),(10,.i)],[.s false .blk,.g [.nil],.g qq3,.g [.own 6],.g qq3,.rows true .poly,.rows true .atom]⟩ .u))) (.v (.seq (.v (.block (.loop ⟨[(3,.p 0 7),(4,.p 1 1),(5,.p 2 6),(6,.p 3 1),(7,.p 4 6),(9,.o 5),(13,.o 6),(14,.i)],[.s false .blk,.g [.nil],.g qq3,.g [.own 7],.g [.own 8,.nil,.i,.nil,.nil,.i],.rows false .poly,.rows false .poly,.rows true .atom,.rows true .ev]⟩ (.v (.seq (.block (.v (.v (.v (.v (.seq (.v (.block (.v (.cut qq8 (.cond .u (.v (.cut qq8 (.cond .u (.v (.cut qq7 (.cond .u (.v (.cut qq7 (.cond .u (.seq (.v (.cut ⟨[(3,.p 0 7),(4,.p 1 1),(5,.p 2 6),(6,.p 3 1),(7,.p 4 6),(9,.o 5),(13,.o 6),(14,.i),(15,.p 7 5),(16,.p 8 1),(17,.p 9 1),(18,.p 10 1)],[.s false .blk,.g [.nil],.g qq3,.g [.own 11],.g [.own 12,.nil,.i,.nil,.nil,.i],.rows false .poly,.rows false .poly,.s false .iop,.s false .poly,.s false .poly,.g [.own 13],.rows true .atom,.rows true .ev,.rows true .mono]⟩ qq4)) .u))))))))))))))) .u)))))) .u))))) .u)))))))) Wi Tryz.f78 [(75,pG),(111,jF),(116,jF),(124,IE),(77,MR),(112,Iu),(121,pI),(113,EJ),(117,V7),(114,Iw),(118,V9),(119,Wh),(115,V4),(120,Bc),(122,IC),(123,IC)]:=gm
end Go.TX.F
end
noncomputable section
namespace Go.TX.F
open Go Go.AE Go.TX Go.TX.Seat Go.Proofs
set_option maxRecDepth 100000
set_option maxHeartbeats 4000000
def Ow:Gt aB.z X E (.v (.v (.seq (.v (.block (.loop ⟨[(0,.r false .poly),(1,.r false .poly),(5,.i)],[]⟩ .u))) .u))) Bd Tryz.f125 [(126,lQ)]:=gm
def Ox:Gt aB.z X E .u IG Tryz.f127 [(126,lQ),(125,Bd)]:=gm
def Oy:Gt aB.z X E (.v (.v (.seq (.v (.block (.loop ⟨[(2,.p 0 6),(3,.p 1 6),(5,.i)],[.s false .sym,.s false .sym]⟩ .u))) .u))) II Tryz.f79 [(126,lQ),(127,IG),(125,Bd)]:=gm
def Oz:Gt aB.z X E .u kY Tryz.f42 [(75,pG),(76,kY),(77,MR),(78,Wi),(79,II)]:=gm
def OA:Gt aB.z X E .u Bf Tryz.f128 []:=gm
def OB:Gt aB.z X E .u MZ Tryz.f129 [(128,Bf)]:=gm
def OC:Gt aB.z X E .u EK Tryz.f130 [(128,Bf)]:=gm
def OD:Gt aB.z X E .u M0 Tryz.f131 [(130,EK),(128,Bf)]:=gm
def OE:Gt aB.z X E (.v (.v (.seq (.v (.block (.loop ⟨[(0,.i),(3,.i),(4,.i)],[]⟩ .u))) .u))) nC Tryz.f132 []:=gm
def OG:Gt aB.z X E .u IJ Tryz.f133 [(130,EK),(128,Bf),(131,M0),(129,MZ)]:=gm
def OH:Gt aB.z X E (.v (.v (.v (.v (.v (.seq (.v (.cut ⟨[(3,.p 1 4),(4,.p 2 7),(8,.i),(9,.p 3 7),(10,.i)],[.gone,.s false .ins,.g [.i,.i,.nil,.i,.i,.i,.i],.g [.i,.i,.own 4,.i,.i,.i,.i],.rows true .iop]⟩ qq4)) .u)))))) Wj Tryz.f134 [(130,EK)]:=gm
def OI:Gt aB.z X E (.v (.seq (.v (.block (.v (.cond .u (.v (.cond .u (.v (.cond .u (.seq (.v (.cut ⟨[(2,.i),(3,.p 1 7),(4,.p 2 4),(6,.p 3 7),(22,.i),(70,.b)],anR⟩ qq4)) (.cond .u (.v (.cond .u (.v (.cond .u (.seq (.v (.cut an4 (.cond .u (.v (.cut an4 qq4))))) .u))))))))))))))) .u)) IJ Tryz.f80 [(130,EK),(134,Wj),(128,Bf),(133,IJ),(131,M0),(129,MZ),(132,nC)]:=gm
def OJ:Gt aB.z X E (.v (.v (.v (.seq (.v (.block (.loop ⟨[(1,.r false .ins),(4,.p 0 7),(5,.p 1 7),(6,.i)],[.g [.i,.i,.nil,.i,.i,.i,.i],.g [.i,.i,.own 2,.i,.i,.i,.i],.rows true .iop]⟩ .u))) .u)))) IK Tryz.f43 [(41,Ba),(80,IJ)]:=gm
def OL:Gt aB.z X E (.v (.v (.seq (.cut ⟨[(2,.b)],[]⟩ .u) .u))) Wm Tryz.f18 [(43,IK),(41,Ba),(40,Iq),(42,kY)]:=gm
def OM:Gt aB.z X E (.v (.seq (.v (.block (.loop ⟨[(0,.r false .i64),(1,.r false .i64),(2,.i),(7,.i)],[]⟩ .u))) .u)) Wn Tryz.f19 []:=gm
def OO:Gt aB.z X E (.v (.v (.seq (.v (.block (.loop ⟨[(0,.r false .cac),(1,.r false .i64),(5,.i)],[]⟩ (.v (.seq (.block (.v (.v (.block (.loop ⟨[(0,.r false .cac),(1,.r false .i64),(5,.i),(6,.i)],[]⟩ .u))))) .u))))) .u))) IL Tryz.f6 [(18,Wm),(19,Wn)]:=gm
def OP:Gt aB.z X E (.v (.v (.seq (.v (.block (.loop ⟨[(0,.r false .i64),(3,.o 0),(4,.i)],FP⟩ .u))) .u))) Bg Tryz.f8 []:=gm
def OQ:Gt aB.z X E .u Wp Tryz.f135 []:=gm
def OT:Gt aB.z X E (.v (.v (.seq (.v (.block (.loop ⟨[(0,.r false .iop),(3,.o 0),(4,.i)],[.rows true .iop]⟩ .u))) .u))) Wq Tryz.f81 [(135,Wp)]:=gm
def OU:Gt aB.z X E .u EL Tryz.f44 [(81,Wq)]:=gm
def OV:Gt aB.z X E .u Ws Tryz.f20 [(8,Bg),(44,EL)]:=gm
def OW:Gt aB.z X E (.v (.v (.seq (.v (.block (.loop ⟨[(0,.r false .cac),(3,.o 0),(4,.i)],[.rows true .cac]⟩ .u))) .u))) Wt Tryz.f7 [(20,Ws)]:=gm
def Xr:Gt aB.z X E .u cZ Tryz.f46 []:=gm
def Xt:Gt aB.z X E .u cu Tryz.f82 [(46,cZ)]:=gm
def Xu:Gt aB.z X E .u nu Tryz.f48 [(46,cZ),(82,cu)]:=gm
def Xv:Gt aB.z X E .u cu Tryz.f66 [(46,cZ)]:=gm
def Xw:Gt aB.z X E .u Ip Tryz.f45 [(48,nu),(66,cu)]:=gm
def ahG:Gt aB.z X E (.v (.v (.seq (.v (.cut ⟨[(3,.o 0)],[.rows true .ins]⟩ (.block (.loop ⟨[(3,.o 0),(8,.r false .i64),(9,.i),(10,.i)],[.rows true .ins]⟩ .u)))) .u))) Iq Tryz.f21 [(45,Ip)]:=gm
end Go.TX.F
end
noncomputable section
namespace Go.TX.F
open Go Go.AE Go.TX Go.TX.Seat Go.Proofs
set_option maxRecDepth 100000
set_option maxHeartbeats 4000000
def OX:Gt aB.z X E (.v (.v (.seq (.v (.block (.loop ⟨[(0,.r false .i64),(1,.r false .i64),(12,.i),(13,.i)],[]⟩ .u))) .u))) EM Tryz.f47 []:=gm
def ahH:Gt aB.z X E .u anP Tryz.f22 [(46,cZ),(47,EM)]:=gm
def Xx:Gt aB.z X E .u cu Tryz.f49 [(46,cZ)]:=gm
def ahI:Gt aB.z X E (.v (.v (.seq (.v (.block (.loop ⟨[(1,.r false .ins),(19,.r false .ins),(20,.i),(21,.i)],[]⟩ .u))) .u))) Ba Tryz.f23 [(49,cu),(48,nu),(46,cZ)]:=gm
def Xy:Gt aB.z X E .u Wu Tryz.f89 [(46,cZ)]:=gm
def Xz:Gt aB.z X E .u cu Tryz.f136 [(46,cZ)]:=gm
def XA:Gt aB.z X E .u KQ Tryz.f164 [(46,cZ)]:=gm
def XB:Gt aB.z X E .u Wv Tryz.f137 [(164,KQ),(46,cZ)]:=gm
def XC:Gt ⟨[],[27,40]⟩ X E .u aeI Tryz.f83 [(137,Wv),(89,Wu),(66,cu),(46,cZ),(136,cu),(82,cu)]:=gm
def XD:Gt aB.z X E .u Ww Tryz.f95 []:=gm
def XE:Gt aB.z X E .u pG Tryz.f84 [(95,Ww),(137,Wv),(66,cu),(46,cZ)]:=gm
def XF:Gt aB.z X E (.v (.v (.seq (.v (.block (.loop ⟨[(1,.p 0 7),(25,.i),(26,.i)],[.s false .blk]⟩ .u))) .u))) pG Tryz.f50 [(84,pG),(83,aeI),(46,cZ)]:=gm
def OY:Gt aB.z X E (.v (.v (.seq (.v (.block (.loop ⟨[(0,.r false .iop),(1,.r false .iop),(12,.i),(13,.i)],[]⟩ .u))) .u))) IQ Tryz.f85 []:=gm
def XG:Gt aB.z X E .u kY Tryz.f51 [(85,IQ)]:=gm
def XH:Gt aB.z X E .u aeJ Tryz.f192 []:=gm
def OZ:Gt aB.z X E (.v (.seq (.v (.block (.loop ⟨[(0,.r false .i64),(1,.c (.fn 192 [(0,1)])),(7,.i),(8,.i)],[.box (.i)]⟩ .u))) .u)) Wx Tryz.f206 [(192,aeJ)]:=gm
def O1:Gt aB.z X E .u Wy Tryz.f191 [(206,Wx)]:=gm
def XI:Gt aB.z X E (.v (.seq (.v (.block (.loop ⟨[(3,.p 0 1),(8,.r false .mono),(9,.i),(10,.i)],[.box (.i)]⟩ .u))) .u)) EH Tryz.f166 [(191,Wy)]:=gm
def ahJ:Gt aB.z X E .u cu Tryz.f198 []:=gm
def ahK:Gt aB.z X E .u ado Tryz.f174 [(198,cu)]:=gm
def ahL:Gt aB.z X E (.v (.v (.seq (.v (.block (.loop ⟨[(3,.i),(6,.r false .i64),(7,.i),(8,.i)],[]⟩ .u))) .u))) ahE Tryz.f175 []:=gm
def O4:Gt aB.z X E (.v (.seq (.v (.block (.loop ⟨[(0,.r false .i64),(1,.r false .i64),(9,.r false .i64),(10,.i),(11,.i)],[]⟩ .u))) .u)) nA Tryz.f199 [(174,ado)]:=gm
def XJ:Gt aB.z X E .u nA Tryz.f176 [(175,ahE),(174,ado),(199,nA)]:=gm
def ahM:Gt aB.z X E .u adp Tryz.f200 [(198,cu)]:=gm
def O5:Gt aB.z X E anZ Bh Tryz.f178 [(200,adp)]:=gm
def XK:Gt aB.z X E .u Ir Tryz.f180 []:=gm
def O6:Gt aB.z X E (.v (.seq (.v (.block (.loop ⟨[(0,.r false .mono),(1,.c (.fn 180 [])),(7,.i),(8,.i)],[]⟩ .u))) .u)) Wz Tryz.f201 [(180,Ir)]:=gm
def O7:Gt aB.z X E .u WA Tryz.f179 [(201,Wz)]:=gm
def XL:Gt aB.z X E (.v (.seq (.v (.block (.loop ⟨[(1,.p 0 1),(6,.r false .mono),(7,.i),(8,.i)],[.s false .poly]⟩ .u))) .u)) jG Tryz.f145 [(46,cZ),(166,EH),(178,Bh),(176,nA),(179,WA)]:=gm
def XM:Gt aB.z X E .u Bb Tryz.f139 [(46,cZ),(136,cu),(166,EH),(145,jG),(82,cu)]:=gm
def XO:Gt aB.z X E (.v (.v (.seq (.v (.block (.loop ⟨[(3,.p 0 1),(20,.r false .mono),(21,.i),(22,.i)],[.s false .poly]⟩ .u))) .u))) lQ Tryz.f142 [(175,ahE),(174,ado),(176,nA)]:=gm
def XP:Gt aB.z X E .u zw Tryz.f99 [(142,lQ)]:=gm
def XQ:Gt aB.z X E .u EI Tryz.f169 [(99,zw)]:=gm
def XR:Gt aB.z X E .u aeK Tryz.f168 [(169,EI)]:=gm
def O8:Gt aB.z X E (.v (.seq (.v (.block (.loop ⟨[(0,.r false .atom),(1,.c (.fn 168 [(0,4)])),(7,.i),(8,.i)],[.s false .atom]⟩ .u))) .u)) WB Tryz.f167 [(168,aeK)]:=gm
def XU:Gt aB.z X E .u WE Tryz.f140 [(167,WB)]:=gm
def O9:Gt aB.z X E .u WG Tryz.f177 []:=gm
def XV:Gt aB.z X E .u WH Tryz.f143 [(139,Bb),(140,WE),(177,WG)]:=gm
def XW:Gt aB.z X E .u jF Tryz.f144 [(46,cZ)]:=gm
def XY:Gt aB.z X E .u WI Tryz.f94 [(144,jF),(143,WH)]:=gm
def XZ:Gt aB.z X E (.v (.v (.seq (.v (.block (.loop ⟨[(0,.p 0 2),(3,.o 1),(5,.i)],[.g M9,.rows true .poly]⟩ .u))) .u))) WJ Tryz.f86 [(94,WI)]:=gm
def X0:Gt aB.z X E .u Bg Tryz.f165 []:=gm
def X3:Gt ⟨[20],[]⟩ X E (.v (.v (.seq (.v (.block (.loop ⟨[(2,.p 0 1),(3,.p 1 1),(7,.r false .mono),(8,.i),(9,.i)],[.g [.nil],.g [.own 2],.rows true .mono]⟩ .u))) .u))) R5 Tryz.f138 [(165,Bg)]:=gm
def X4:Gt ⟨[25],[]⟩ X E (.v (.v (.seq (.v (.block (.loop ⟨[(2,.p 0 1),(3,.p 1 1),(7,.r false .atom),(8,.i),(9,.i)],[.g [.nil],.g [.own 2],.rows true .atom]⟩ .u))) .u))) EJ Tryz.f87 [(138,R5)]:=gm
def X5:Gt aB.z X E .u aeL Tryz.f52 [(87,EJ),(86,WJ)]:=gm
def X6:Gt aB.z X E (.v (.seq (.v (.block (.loop ⟨[(1,.p 0 1),(6,.r false .atom),(7,.i),(8,.i)],[.s false .tab]⟩ .u))) .u)) Iu Tryz.f88 [(139,Bb),(140,WE)]:=gm
def X7:Gt aB.z X E .u KQ Tryz.f90 [(46,cZ)]:=gm
def Pb:Gt aB.z X E .u WK Tryz.f91 []:=gm
def X8:Gt aB.z X E .u jF Tryz.f92 [(46,cZ)]:=gm
def X9:Gt aB.z X E .u yu Tryz.f147 [(145,jG)]:=gm
end Go.TX.F
end
noncomputable section
namespace Go.TX.F
open Go Go.AE Go.TX Go.TX.Seat Go.Proofs
set_option maxRecDepth 100000
set_option maxHeartbeats 4000000
def Ya:Gt aB.z X E .u nC Tryz.f197 []:=gm
def Yb:Gt aB.z X E .u WL Tryz.f208 [(176,nA)]:=gm
def Pf:Gt aB.z X E (.v (.block (.loop ⟨[(0,.o 0),(1,.i),(2,.i),(3,.c (.fn 208 [])),(8,.i)],qq6⟩ (.v (.seq (.block (.v (.block (.loop ⟨[(0,.o 0),(1,.i),(2,.i),(3,.c (.fn 208 [])),(8,.i),(9,.i)],qq6⟩ .u)))) .u))))) WM Tryz.f224 [(208,WL)]:=gm
def Ph:Gt aB.z X E (.v (.block (.loop ⟨[(0,.o 0),(1,.i),(2,.i),(3,.i),(10,.i)],qq6⟩ .u))) yw Tryz.f233 []:=gm
def Pj:Gt aB.z X E (.v (.v (.seq (.block (.loop an1 (.v (.block (.v (.cut an1 qq4)))))) .u))) yw Tryz.f231 [(233,yw)]:=gm
def ET:Gt aB.z X E (.seq (.v (.cond (.v (.v (.seq (.block (.loop an2 (.v (.block (.v (.v (.cut an2 qq4))))))) (.seq (.v (.block (.loop ⟨[(0,.o 0),(10,.i),(13,.i)],qq6⟩ .u))) .u)))) .u)) (.seq (.v (.cond (.v (.v (.seq (.block (.loop an0 (.v (.block (.v (.v (.cut an0 qq4))))))) (.seq (.v (.block (.loop ⟨[(0,.o 0),(14,.i),(17,.i)],qq6⟩ .u))) .u)))) .u)) (.v (.v (.v (.seq (.v (.cut ⟨[(0,.o 0),(1,.i),(2,.i),(3,.i),(4,.c (.fn 208 [])),(18,.i),(19,.i),(20,.i),(21,.i)],qq6⟩ qq4)) (.v (.seq (.block (.loop anT (.v (.block (.v (.v (.cut anT qq4))))))) (.v (.seq (.v (.cut ⟨[(0,.o 0),(1,.i),(3,.i),(4,.c (.fn 208 [])),(18,.i),(20,.i),(24,.i)],qq6⟩ qq4)) (.seq (.v (.cut ⟨[(0,.o 0),(3,.i),(4,.c (.fn 208 [])),(18,.i),(24,.i)],qq6⟩ qq4)) (.v (.cut ⟨[],qq6⟩ qq4))))))))))))) yw Tryz.f225 [(208,WL),(231,yw),(225,yw)]:=gm
def Pm:Gt aB.z X E (.v (.v (.seq anX (.v (.block (.loop an3 (.v (.block (.v (.seq anX (.seq (.v (.v (.cut an3 qq4))) .u))))))))))) WO Tryz.f213 [(224,WM),(225,yw)]:=gm
def Pn:Gt aB.z X E .u WQ Tryz.f207 [(213,WO)]:=gm
def Yc:Gt ⟨[51],[]⟩ X E (.v (.v (.v (.seq (.v (.block (.loop anU (.v (.block (.v (.seq (.block (.loop ⟨[(0,.o 0),(2,.p 1 1),(4,.p 2 1),(5,.i),(6,.i),(7,.p 3 2)],[.rows false .mono,.g [.nil],.g [.own 4],.s false .mono,.rows true .mono]⟩ .u)) (.v (.cut anU qq4))))))))) .u)))) WR Tryz.f193 [(176,nA),(145,jG),(197,nC),(165,Bg),(207,WQ)]:=gm
def Po:Gt aB.z X E (.v (.v (.seq (.v (.v (.cut ⟨[(0,.o 0)],[.rows true .mono]⟩ qq4))) .u))) WS Tryz.f209 []:=gm
def Pp:Gt aB.z X E (.v (.v (.seq (.v (.block (.loop ⟨[(0,.r false .poly),(3,.i),(9,.r false .poly),(10,.i),(11,.i)],[]⟩ .u))) (.v (.seq (.v (.block (.loop ⟨[(6,.o 0),(25,.r false .poly),(26,.i),(27,.i)],qq6⟩ .u))) .u))))) WT Tryz.f194 [(209,WS)]:=gm
def Yd:Gt aB.z X E .u rF Tryz.f170 [(145,jG),(193,WR),(194,WT)]:=gm
def Pq:Gt aB.z X E (.v (.v (.seq (.v (.v (.cut ⟨[(0,.o 0)],FP⟩ qq4))) .u))) WU Tryz.f210 []:=gm
def Pv:Gt aB.z X E (.v (.v (.seq (.v (.block (.loop ⟨[(0,.r false .ints),(3,.i),(9,.r false .ints),(10,.i),(11,.i)],[]⟩ .u))) (.v (.seq (.v (.block (.loop ⟨[(6,.o 0),(25,.r false .ints),(26,.i),(27,.i)],FP⟩ .u))) .u))))) WW Tryz.f195 [(210,WU)]:=gm
def Pw:Gt aB.z X E (.v (.block (.loop ⟨[(0,.o 0),(1,.i),(2,.i),(6,.i)],FP⟩ (.v (.seq (.block (.v (.block (.loop ⟨[(0,.o 0),(1,.i),(2,.i),(6,.i),(7,.i)],FP⟩ .u)))) .u))))) EN Tryz.f214 [(200,adp)]:=gm
def Px:Gt aB.z X E (.v (.v (.block (.loop ahF (.cut ahF (.block (.v (.v (.v (.seq (.v (.cut ⟨[(0,.o 0),(1,.i),(2,.i),(3,.i),(8,.b),(9,.b),(10,.i)],FP⟩ qq4)) (.v (.seq (.v (.cut ⟨[(0,.o 0),(1,.i),(2,.i),(3,.i),(8,.b),(9,.b),(10,.i),(11,.i),(12,.i)],FP⟩ qq4)) (.seq (.v (.cut ⟨[(0,.o 0),(1,.i),(2,.i),(3,.i),(8,.b),(9,.b),(10,.i),(11,.i)],FP⟩ qq4)) (.v (.v (.v (.v (.v (.v (.cut ahF qq4)))))))))))))))))))) EP Tryz.f211 [(200,adp),(214,EN),(215,EN),(216,EN),(217,M5),(218,EN),(219,M6),(220,M7),(221,M8),(211,EP)]:=gm
def Py:Gt aB.z X E .u Xa Tryz.f196 [(211,EP),(212,W9)]:=gm
def Ye:Gt aB.z X E (.v (.v (.v (.seq (.v (.block (.loop ⟨[(3,.p 0 1),(4,.p 1 1),(6,.o 2),(22,.r false .mono),(23,.i),(24,.i)],[.s false .poly,.g [.nil],.rows true .mono]⟩ (.v (.v (.seq (.block (.v (.v (.block (.loop ⟨[(3,.p 0 1),(4,.p 1 1),(6,.o 2),(8,.p 3 2),(22,.r false .mono),(23,.i),(24,.i),(29,.r false .mono),(30,.i),(31,.i)],[.s false .poly,.g [.nil],.rows true .mono,.s false .mono]⟩ .u))))) .u)))))) .u)))) rF Tryz.f172 [(145,jG),(197,nC),(193,WR),(195,WW),(196,Xa)]:=gm
def Yf:Gt aB.z X E .u Iy Tryz.f171 [(145,jG),(92,jF),(66,cu),(172,rF)]:=gm
end Go.TX.F
end
noncomputable section
namespace Go.TX.F
open Go Go.AE Go.TX Go.TX.Seat Go.Proofs
set_option maxRecDepth 100000
set_option maxHeartbeats 4000000
def Yg:Gt aB.z X E .u IB Tryz.f173 [(66,cu),(197,nC)]:=gm
def Yh:Gt aB.z X E (.v (.v (.v (.v (.v (.seq (.v (.cut ⟨[(0,.i),(4,.p 0 1),(6,.p 1 1),(10,.i),(11,.b)],[.s true .poly,.g [.nil]]⟩ qq4)) .u)))))) aeM Tryz.f141 [(99,zw),(92,jF),(173,IB),(170,rF),(172,rF),(171,Iy),(147,yu)]:=gm
def Yi:Gt aB.z X E (.v (.v (.seq (.v (.cut ⟨[(1,.i),(4,.p 0 1),(6,.p 1 1),(7,.p 2 1),(8,.p 3 1),(9,.p 4 1)],[.s true .tab,.s true .poly,.s true .poly,.g [.nil],.g [.nil]]⟩ qq4)) .u))) aeN Tryz.f93 [(142,lQ),(141,aeM),(143,WH),(144,jF)]:=gm
def Yj:Gt aB.z X E (.v (.v (.seq (.v (.block (.loop ⟨[(3,.o 0),(6,.r false .poly),(7,.i),(8,.i)],[.rows true .poly]⟩ .u))) .u))) Bc Tryz.f181 [(138,R5)]:=gm
def Yk:Gt ⟨[42],[]⟩ X E (.v (.v (.seq (.v (.block (.loop ⟨[(2,.p 0 6),(3,.p 1 6),(21,.r false .ev),(22,.i),(23,.i)],qq1⟩ .u))) .u))) aeO Tryz.f146 [(138,R5),(181,Bc)]:=gm
def Yl:Gt aB.z X E .u cZ Tryz.f148 [(66,cu)]:=gm
def Ym:Gt aB.z X E (.v (.v (.v (.v (.v (.v (.seq (.block (.v (.cut Xl (.cond .u (.v (.cut Xl (.cond .u (.v (.cut Xl (.cond (.v (.v (.v (.cut ⟨[(4,.p 0 6),(5,.p 1 6)],[.g qq3,.g [.own 2,.own 3,.i,.nil,.nil,.i],.rows true .ev,.rows true .poly]⟩ qq4)))) (.v (.cut Xl qq4)))))))))))) .u))))))) aeP Tryz.f96 [(147,yu),(145,jG),(142,lQ),(146,aeO),(99,zw),(148,cZ)]:=gm
def Yn:Gt aB.z X E (.v (.v (.v (.v (.v (.v (.seq (.v (.block (.loop qq0 (.v (.v (.seq (.block (.v (.v (.v (.seq (.v (.cut ⟨[(3,.p 0 7),(4,.p 1 1),(5,.p 2 6),(6,.p 3 2),(7,.p 4 6),(8,.o 5),(9,.i),(10,.i),(11,.i),(12,.p 6 5),(14,.b),(17,.p 7 1),(18,.p 8 1),(57,.r false .iop),(58,.i),(59,.i)],[.s false .blk,.g [.nil],.g qq3,.g M9,.g [.own 9,.own 10,.i,.nil,.nil,.i],.rows true .poly,.s false .iop,.s true .poly,.g [.nil],.rows true .ev,.rows true .poly]⟩ qq4)) (.seq (.v (.cut qq5 qq4)) (.seq (.v (.cut qq5 (.cond (.v (.seq (.v (.cut ⟨[(3,.p 0 7),(4,.p 1 1),(5,.p 2 6),(6,.p 3 2),(7,.p 4 6),(8,.o 5),(9,.i),(10,.i),(11,.i),(12,.p 6 5),(17,.p 7 1),(18,.p 8 1),(19,.p 9 5),(57,.r false .iop),(58,.i),(59,.i)],[.s false .blk,.g [.nil],.g qq3,.g M9,.g [.own 10,.own 11,.i,.nil,.nil,.i],.rows true .poly,.s false .iop,.s true .poly,.s true .poly,.g [.i,.i,.rows true .mono,.rows true .mono,.own 12],.rows true .ev,.rows true .poly,.rows true .poly]⟩ qq4)) .u)) .u))) (.v (.block (.v (.cut qq0 (.cond .u (.v (.cut qq0 (.cond .u (.v (.cut qq0 (.cond .u (.v (.cut qq0 (.cond .u (.v (.cut qq0 (.cond .u (.v (.cut qq0 qq4)))))))))))))))))))))))))) .u)))))) (.v (.seq (.v (.cut ⟨[(3,.p 0 7),(4,.p 1 1),(5,.p 2 6),(6,.p 3 2),(7,.p 4 6),(8,.o 5),(24,.b)],[.s false .blk,.g [.nil],.g qq3,.g M9,.g [.own 6,.own 7,.i,.rows true .mono,.nil,.i],.rows true .poly,.rows true .ev,.rows true .poly]⟩ qq4)) (.seq (.v (.cut ⟨[(3,.p 0 7),(4,.p 1 1),(5,.p 2 6),(6,.p 3 2),(7,.p 4 6)],[.s false .blk,.g [.nil],.g qq3,.g M9,.g [.own 5,.own 6,.i,.rows true .mono,.rows true .mono,.i],.rows true .ev,.rows true .poly]⟩ qq4)) .u)))))))))) aeQ Tryz.f53 [(95,Ww),(50,pG),(90,KQ),(89,Wu),(92,jF),(96,aeP),(88,Iu),(87,EJ),(93,aeN),(94,WI),(86,WJ),(91,WK)]:=gm
def Yo:Gt aB.z X E .u zw Tryz.f150 [(99,zw)]:=gm
def Pz:Gt aB.z X E (.v (.v (.seq (.v (.block (.loop ⟨[(1,.r false .poly),(2,.c (.fn 150 [])),(15,.r false .poly),(16,.i),(17,.i)],[]⟩ .u))) .u))) Xb Tryz.f149 [(150,zw)]:=gm
def Yp:Gt aB.z X E .u Bd Tryz.f100 [(149,Xb)]:=gm
def Yq:Gt aB.z X E .u IG Tryz.f98 [(99,zw),(100,Bd)]:=gm
end Go.TX.F
end
noncomputable section
namespace Go.TX.F
open Go Go.AE Go.TX Go.TX.Seat Go.Proofs
set_option maxRecDepth 100000
set_option maxHeartbeats 4000000
def PD:Gt aB.z X E (.v (.v (.seq (.v (.block (.loop ⟨[(1,.r false .ev),(2,.c (.fn 98 [])),(15,.r false .ev),(16,.i),(17,.i)],[]⟩ .u))) .u))) Xc Tryz.f97 [(98,IG)]:=gm
def Yr:Gt aB.z X E .u II Tryz.f54 [(99,zw),(100,Bd),(97,Xc)]:=gm
def Yt:Gt aB.z X E .u kY Tryz.f24 [(50,pG),(51,kY),(52,aeL),(53,aeQ),(54,II)]:=gm
def Yu:Gt aB.z X E (.v (.v (.seq (.v (.cut ⟨[(0,.p 0 8),(11,.p 2 5)],[.g [.i,.i,.own 1,.i,.i,.i,.i,.i],.rows true .iop,.g [.i,.i,.i,.i,.i]]⟩ qq4)) .u))) Gr Tryz.f102 [(90,KQ)]:=gm
def Yv:Gt aB.z X E .u aeR Tryz.f101 [(102,Gr)]:=gm
def Yw:Gt aB.z X E .u R6 Tryz.f103 [(102,Gr)]:=gm
def Yx:Gt aB.z X E .u R6 Tryz.f104 [(102,Gr)]:=gm
def Yy:Gt aB.z X E .u aeS Tryz.f105 [(102,Gr)]:=gm
def Yz:Gt aB.z X E (.v (.v (.v (.block (.v (.cut qq2 (.cond .u (.v (.cut qq2 (.cond .u (.v (.cut qq2 (.cond .u (.v (.cut qq2 (.cond .u (.v (.cut qq2 (.cond .u (.v (.cut qq2 (.cond .u (.v (.cut qq2 (.cond .u (.seq (.v (.cut ⟨[(2,.p 2 1),(3,.p 3 4),(4,.c (.fn 101 [(2,1),(3,4)])),(11,.i),(112,.b)],[.g [.i,.i,.own 1,.i,.i,.i,.i,.i],.rows true .iop,.box (.p 0 8),.s false .ins]⟩ qq4)) (.cut qq2 (.cond .u (.v (.cut qq2 qq4)))))))))))))))))))))))))))))) aeT Tryz.f55 [(105,aeS),(104,R6),(101,aeR),(102,Gr),(103,R6)]:=gm
def YA:Gt aB.z X E .u EL Tryz.f56 []:=gm
def ahN:Gt aB.z X E (.v (.v (.v (.seq (.v (.block (.loop ⟨[(4,.p 0 7),(5,.p 1 8),(23,.r false .ins),(24,.i),(25,.i)],[.g [.i,.i,.nil,.i,.i,.i,.i],.g [.i,.i,.own 2,.i,.i,.i,.i,.i],.rows true .iop]⟩ .u))) .u)))) IK Tryz.f25 [(23,Ba),(56,EL),(55,aeT)]:=gm
def ahO:Gt aB.z X E .u anQ Tryz.f58 []:=gm
def PE:Gt aB.z X E (.v (.seq (.v (.block (.loop ⟨[(0,.r false .cac),(1,.c (.fn 58 [(0,1)])),(7,.i),(8,.i)],[.box (.i)]⟩ .u))) .u)) Xd Tryz.f57 [(58,anQ)]:=gm
def ahP:Gt aB.z X E .u R4 Tryz.f26 [(57,Xd)]:=gm
def YB:Gt aB.z X E (.v (.seq (.v (.block (.loop ⟨[(0,.r false .cac),(1,.r false .i64),(8,.r false .cac),(9,.i),(10,.i)],[]⟩ (.v (.v (.seq (.block (.v (.v (.seq (.cut ⟨[(0,.r false .cac),(1,.r false .i64),(8,.r false .cac),(9,.i),(10,.i),(57,.b)],[]⟩ .u) .u)))) .u)))))) .u)) IL Tryz.f9 [(25,IK),(23,Ba),(21,Iq),(22,anP),(26,R4),(24,kY)]:=gm
def YC:Gt aB.z X E anW EM Tryz.f11 []:=gm
def YD:Gt aB.z X E .u aeU Tryz.f151 []:=gm
def YE:Gt aB.z X E (.v (.v (.seq (.v (.block (.loop ⟨[(0,.r false .iop),(1,.r false .iop),(5,.i)],[]⟩ .u))) .u))) IQ Tryz.f106 [(151,aeU)]:=gm
def YF:Gt aB.z X E .u kY Tryz.f59 [(106,IQ)]:=gm
def YG:Gt aB.z X E .u aeV Tryz.f27 [(11,EM),(59,kY)]:=gm
def YH:Gt aB.z X E (.v (.v (.seq (.v (.block (.loop ⟨[(0,.r false .cac),(1,.r false .cac),(5,.i)],[]⟩ .u))) .u))) aeW Tryz.f10 [(27,aeV)]:=gm
def PG:Gt aB.z X E .u Xe Tryz.f28 [(38,VY)]:=gm
end Go.TX.F
end
noncomputable section
namespace Go.TX.F
open Go Go.AE Go.TX Go.TX.Seat Go.Proofs
set_option maxRecDepth 100000
set_option maxHeartbeats 4000000
def YI:Gt aB.z X E .u aeX Tryz.f60 [(39,VZ)]:=gm
def YJ:Gt aB.z X E (.v (.v (.v (.seq (.v (.block (.loop ⟨[(0,.r false .cer),(1,.i),(5,.i)],[]⟩ .u))) .u)))) aeY Tryz.f29 [(60,aeX)]:=gm
def YK:Gt aB.z X E .u aeZ Tryz.f12 [(5,R4),(29,aeY),(28,Xe)]:=gm
def PI:Gt aB.z X E anZ Bh Tryz.f61 [(62,cu)]:=gm
def PK:Gt aB.z X E .u IU Tryz.f30 [(62,cu),(63,cZ),(61,Bh)]:=gm
def PL:Gt aB.z X E (.v (.v (.seq (.v (.block (.loop ⟨[(0,.r false .cer),(3,.i)],[]⟩ .u))) .u))) IV Tryz.f31 [(42,kY)]:=gm
def PN:Gt aB.z X E .u ER Tryz.f13 [(6,IL),(31,IV),(30,IU)]:=gm
def PO:Gt aB.z X E .u Xf Tryz.f32 [(8,Bg)]:=gm
def PU:Gt aB.z X E .u Xg Tryz.f64 [(44,EL)]:=gm
def PW:Gt aB.z X E (.v (.v (.seq (.v (.block (.loop ⟨[(0,.r false .cer),(3,.o 0),(4,.i)],[.rows true .cer]⟩ .u))) .u))) Xh Tryz.f33 [(64,Xg)]:=gm
def PX:Gt aB.z X E .u Xi Tryz.f14 [(7,Wt),(33,Xh),(32,Xf)]:=gm
def YL:Gt aB.z X E (.v (.seq (.v (.block (.loop ⟨[(5,.r false .i64),(6,.i),(7,.i)],[]⟩ .u))) .u)) Bh Tryz.f65 [(66,cu)]:=gm
def YM:Gt aB.z X E .u IU Tryz.f34 [(66,cu),(46,cZ),(65,Bh)]:=gm
def YN:Gt aB.z X E .u ae0 Tryz.f68 [(24,kY)]:=gm
def PY:Gt aB.z X E (.v (.seq (.v (.block (.loop ⟨[(0,.r false .cer),(1,.c (.fn 68 [])),(7,.i),(8,.i)],[]⟩ .u))) .u)) Xj Tryz.f107 [(68,ae0)]:=gm
def PZ:Gt aB.z X E .u Xk Tryz.f67 [(107,Xj)]:=gm
def YO:Gt aB.z X E .u IV Tryz.f35 [(67,Xk)]:=gm
def YP:Gt aB.z X E .u ER Tryz.f15 [(9,IL),(35,IV),(34,IU)]:=gm
def YQ:Gt aB.z X E .u ae1 Tryz.f36 [(11,EM)]:=gm
def YR:Gt aB.z X E .u ae2 Tryz.f69 [(59,kY)]:=gm
def YS:Gt aB.z X E (.v (.v (.seq (.v (.block (.loop ⟨[(0,.r false .cer),(1,.r false .cer),(5,.i)],[]⟩ .u))) .u))) ae3 Tryz.f37 [(69,ae2)]:=gm
def YT:Gt aB.z X E .u ae4 Tryz.f16 [(10,aeW),(37,ae3),(36,ae1)]:=gm
def YU:Gt aB.z X E .u ER Tryz.f4 [(15,ER),(16,ae4),(12,aeZ),(14,Xi),(13,ER)]:=gm
end Go.TX.F
end

namespace Go.TX
open Go Go.AE
theorem ahQ(x y:Int):bG .lss x y=decide (x<y):=rfl
theorem ahR(x y:Int):bG .leq x y=decide (x<=y):=rfl
theorem ahS(x y:Int):bG .gtr x y=decide (y<x):=rfl
theorem ahT(x y:Int):bG .geq x y=decide (y<=x):=rfl
theorem YV(x y:Int):bG .eql x y=decide (x=y):=rfl
theorem ahU(x y:Int):bG .neq x y= !decide (x=y):=rfl
theorem ahV(k:IntKind)(x y:Int):gX .add k x y=k.wrap (x+y):=rfl
theorem ahW(k:IntKind)(x y:Int):gX .sub k x y=k.wrap (x-y):=rfl
theorem ahX(k:IntKind)(x y:Int):gX .mul k x y=k.wrap (x*y):=rfl
theorem ahY(k:IntKind)(x y:Int):gX .quo k x y=k.wrap (x.tdiv y):=rfl
theorem YW(k:IntKind)(x y:Int):gX .rem k x y=x.tmod y:=rfl
def w64{x:Int}(h1: -9223372036854775808<=x)(h2:x<=9223372036854775807):IntKind.i64.wrap x=x:=IntWalk.i64_in _ ah
theorem ads(m:aj):bV .mono 0 m=m.bC:=rfl
theorem adt(m:aj):iR .mono 1 .i64 m=m.atoms:=rfl
theorem ahZ(p:List aj):iR .poly 0 .mono p=p:=rfl
theorem an6(p:List Atom):iR .tab 0 .atom p=p:=rfl
theorem ah0(p:List Int):iR .ints 0 .i64 p=p:=rfl
theorem adu(m:Atom):bV .atom 0 m=m.kind:=rfl
theorem adw(m:Atom):bV .atom 1 m=m.k:=rfl
theorem adx(m:Atom):iR .atom 2 .mono m=m.x:=rfl
theorem ady(m:Atom):iR .atom 3 .mono m=m.y:=rfl
theorem an7(n:Int):bV .i64 0 n=n:=rfl
theorem asR(n:Int):bV .u8 0 n=n:=rfl
theorem adz(x):Co.mk .mono x=⟨x.1,x.2.1⟩:=rfl
theorem adA(x):Co.mk .poly x=x.1:=rfl
theorem ah1(x):Co.mk .tab x=x.1:=rfl
theorem adB(x):Co.mk .ints x=x.1:=rfl
theorem ah2(x):Co.mk .i64 x=x.1:=rfl
theorem adC(x):Co.mk .atom x=⟨x.1,x.2.1,x.2.2.1,x.2.2.2.1⟩:=rfl
def ak{α ρ:Type}{f:α->(α ⊕ ρ->Prop)->Prop}{x:α}{Q:ρ->Prop}(I:α->Prop)(μ:α->Nat)(h0:I x)(hs:∀y,I y->f y (CU (λz _=>I z/\μ z<μ y) Q)):RA f x Q:=⟨I,μ,h0,hs⟩
theorem YX{α ρ:Type}(k:α->(ρ->Prop)->Prop)(Q:ρ->Prop)(x:α):CU k Q (.inl x)=k x Q:=rfl
theorem YZ{α ρ:Type}(k:α->(ρ->Prop)->Prop)(Q:ρ->Prop)(r:ρ):CU k Q (.inr r)=Q r:=rfl
def getD_lt{α:Type}{xs:List α}{d:α}{i:Nat}(h:i<xs.length):xs.getD i d=xs[i]:=by simp [List.getD,h]
def cO{α:Type}{xs:List α}{d:α}{i:Int}(h0:0<=i)(h:i<xs.length):xs.getD i.toNat d∈xs:=by
 rw [getD_lt ah];exact List.getElem_mem _
def RR:(∀(x y:Int),bG BinOp.lss x y=decide (x<y))/\(∀(x y:Int),bG BinOp.leq x y=decide (x<=y))/\(∀(x y:Int),bG BinOp.gtr x y=decide (y<x))/\(∀(x y:Int),bG BinOp.geq x y=decide (y<=x))/\(∀(x y:Int),bG BinOp.eql x y=decide (x=y))/\(∀(x y:Int),bG BinOp.neq x y= !decide (x=y))/\(∀(k:IntKind) (x y:Int),gX BinOp.add k x y=k.wrap (x+y))/\(∀(k:IntKind) (x y:Int),gX BinOp.sub k x y=k.wrap (x-y))/\(∀(k:IntKind) (x y:Int),gX BinOp.mul k x y=k.wrap (x*y))/\(∀(k:IntKind) (x y:Int),gX BinOp.quo k x y=k.wrap (x.tdiv y))/\(∀(k:IntKind) (x y:Int),gX BinOp.rem k x y=x.tmod y)/\(∀ {x:Int}, -9223372036854775808<=x->x<=9223372036854775807->IntKind.i64.wrap x=x)/\(∀(m:aj),bV Co.mono 0 m=m.bC)/\(∀(m:aj),iR Co.mono 1 Co.i64 m=m.atoms)/\(∀(p:List aj),iR Co.poly 0 Co.mono p=p)/\(∀(p:List Atom),iR Co.tab 0 Co.atom p=p)/\(∀(p:List Int),iR Co.ints 0 Co.i64 p=p)/\(∀(m:Atom),bV Co.atom 0 m=m.kind)/\(∀(m:Atom),bV Co.atom 1 m=m.k)/\(∀(m:Atom),iR Co.atom 2 Co.mono m=m.x)/\(∀(m:Atom),iR Co.atom 3 Co.mono m=m.y)/\(∀(n:Int),bV Co.i64 0 n=n)/\(∀(n:Int),bV Co.u8 0 n=n)/\(∀(x:iE Co.mono.qg),Co.mono.mk x=aj.mk x.fst x.snd.fst)/\(∀(x:iE Co.poly.qg),Co.poly.mk x=x.fst)/\(∀(x:iE Co.tab.qg),Co.tab.mk x=x.fst)/\(∀(x:iE Co.ints.qg),Co.ints.mk x=x.fst)/\(∀(x:iE Co.i64.qg),Co.i64.mk x=x.fst)/\(∀(x:iE Co.atom.qg),Co.atom.mk x=Atom.mk x.fst x.snd.fst x.snd.snd.fst x.snd.snd.snd.fst)/\(∀ {α ρ:Type} (k:α->(ρ->Prop)->Prop) (Q:ρ->Prop) (x:α),CU k Q (Sum.inl x)=k x Q)/\(∀ {α ρ:Type} (k:α->(ρ->Prop)->Prop) (Q:ρ->Prop) (r:ρ),CU k Q (Sum.inr r)=Q r)/\(∀(c f:Bool),(bif c then true else f)=(c || f))/\(∀(c t:Bool),(bif c then t else false)=(c&&t))/\(∀(c f:Bool),(bif c then false else f)=(!c&&f))/\(∀(c t:Bool),(bif c then t else true)=(!c || t))/\(∀(a b:Bool),((a || b)=true)=(a=true\/b=true))/\(∀ {x y:Bool},(x || y)=false↔x=false/\y=false)/\(∀(a b:Bool),((a&&b)=true)=(a=true/\b=true))/\(∀ {p:Prop} [inst:Decidable p],(decide p=true)=p)/\(∀ {p:Prop} {x:Decidable p},decide p=false↔¬p)/\(∀(b:Bool),((!b)=true)=(b=false))/\(∀(b:Bool),((!b)=false)=(b=true))/\(∀(b:Bool),(!!b)=b)/\(∀(p:Prop),(True/\p)=p)/\(∀(p:Prop),(p/\True)=p)/\(∀ {α:Type} [inst:LE α] {x y:α},x>=y↔y<=x)/\(¬True)=False/\(¬False)=True/\(false=true)=False/\(true=false)=False/\(∀(p:Prop),(False->p)=True)/\(∀(p:Prop),(True->p)=p)/\(∀(α:Prop),(α->True)=True)/\(∀(α:Type),(∀(a:α),True)=True)/\(∀(p:Prop),(False\/p)=p)/\(∀(p:Prop),(p\/False)=p)/\(∀(p:Prop),(True\/p)=True)/\(∀(p:Prop),(p\/True)=True)/\(∀ {α:Type} {x:Decidable True} (t e:α),(if True then t else e)=t)/\∀ {α:Type} {x:Decidable False} (t e:α),(if False then t else e)=e:=And.intro (@ahQ)<| And.intro (@ahR)<| And.intro (@ahS)<| And.intro (@ahT)<| And.intro (@YV)<| And.intro (@ahU)<| And.intro (@ahV)<| And.intro (@ahW)<| And.intro (@ahX)<| And.intro (@ahY)<| And.intro (@YW)<| And.intro (@w64)<| And.intro (@ads)<| And.intro (@adt)<| And.intro (@ahZ)<| And.intro (@an6)<| And.intro (@ah0)<| And.intro (@adu)<| And.intro (@adw)<| And.intro (@adx)<| And.intro (@ady)<| And.intro (@an7)<| And.intro (@asR)<| And.intro (@adz)<| And.intro (@adA)<| And.intro (@ah1)<| And.intro (@adB)<| And.intro (@ah2)<| And.intro (@adC)<| And.intro (@YX)<| And.intro (@YZ)<| And.intro (@Bool.cond_true_left)<| And.intro (@Bool.cond_false_right)<| And.intro (@Bool.cond_false_left)<| And.intro (@Bool.cond_true_right)<| And.intro (@Bool.or_eq_true)<| And.intro (@Bool.or_eq_false_iff)<| And.intro (@Bool.and_eq_true)<| And.intro (@decide_eq_true_eq)<| And.intro (@decide_eq_false_iff_not)<| And.intro (@Bool.not_eq_true')<| And.intro (@Bool.not_eq_false')<| And.intro (@Bool.not_not)<| And.intro (@true_and)<| And.intro (@and_true)<| And.intro (@ge_iff_le.{0})<| And.intro (@not_true_eq_false)<| And.intro (@not_false_eq_true)<| And.intro (@Bool.false_eq_true)<| And.intro (@Bool.true_eq_false)<| And.intro (@false_implies)<| And.intro (@true_implies)<| And.intro (@implies_true.{0})<| And.intro (@implies_true.{1})<| And.intro (@false_or)<| And.intro (@or_false)<| And.intro (@true_or)<| And.intro (@or_true)<| And.intro (@if_true.{1})<| @if_false.{1}
end Go.TX
namespace Go.TX.F
open Go Go.AE Go.TX
def inB(a lo hi:Int):Bool:=decide (lo<=a)&&decide (a<=hi)
def ae5(a b c:Int):Xr.F () (a,b,c,()) (λy=>y=(inB a b c,())):=by
 dsimp only [Xr,gm];simp (disch:=omega) only [RR];rfl
structure Y1(pp:Int×Int×Int×Unit->Bool)(ff:Int×Int×Int×Unit->Bool×Unit):Prop where
 hp:∀a b c,pp (a,b,c,())=true
 hf:∀a b c,ff (a,b,c,())=(inB a b c,())
def an8{p f}(U:Y1 p f)(a:Int):Xv.F (p,f,()) (a,()) (λy=>y=(inB a 0 65535,())):=by
 dsimp only [Xv,gm];simp (disch:=omega) only [RR,U.hp,U.hf]
def an9{p f}(U:Y1 p f)(a:Int):Xz.F (p,f,()) (a,()) (λy=>y=(inB a 1 5,())):=by
 dsimp only [Xz,gm];simp (disch:=omega) only [RR,U.hp,U.hf]
def aoa{p f}(U:Y1 p f)(a:Int):Xt.F (p,f,()) (a,()) (λy=>y=(inB a 0 3,())):=by
 dsimp only [Xt,gm];simp (disch:=omega) only [RR,U.hp,U.hf]
def aob(a:Int):ahJ.F () (a,()) (λy=>y=(false,())):=by
 dsimp only [ahJ,gm];simp (disch:=omega) only [RR];simp
def ig(a b:Int):Int:=if a<b then-1 else if b<a then 1 else 0
structure Y2(pp:Int×Unit->Bool)(ff:Int×Unit->Bool×Unit):Prop where
 hp:∀a,pp (a,())=true
 hf:∀a,ff (a,())=(false,())
def asS{p f}(U:Y2 p f)(a b:Int):ahK.F (p,f,()) (a,b,()) (λy=>y=(ig a b,())):=by
 dsimp only [ahK,gm];simp (disch:=omega) only [RR,U.hp,U.hf];unfold ig;refine⟨λh=>by simp [h],λh=>⟨λh2=>by simp [h,h2],λh2=>by simp [h,h2]⟩⟩
def asT{p f}(U:Y2 p f)(a b:Int):ahM.F (p,f,()) (a,b,()) (λy=>y=(decide (a<b),())):=by
 dsimp only [ahM,gm];simp (disch:=omega) only [RR,U.hp,U.hf];simp
def or2(a b:Int):Int:=if a≠0 then a else b
def aoc(a b:Int):ahL.F () ([a,b],()) (λy=>y=(or2 a b,())):=by
 dsimp only [ahL,gm];refine ak (λ(y:Int×List Int×Int×Int×Unit)=>y.1=0/\y.2.1=[a,b]/\y.2.2.1=2/\0<=y.2.2.2.1/\y.2.2.2.1<=2/\(0<y.2.2.2.1->a=0)/\(1<y.2.2.2.1->b=0)) (λy=>(2-y.2.2.2.1).toNat) ⟨rfl,rfl,rfl,by simp,by simp,λh=>absurd h (by simp),λh=>absurd h (by simp)⟩ ?_;rintro⟨(z:Int),(l:List Int),(n:Int),(i:Int),⟨⟩⟩ hI;dsimp only at hI ⊢;obtain⟨rfl,rfl,rfl,h1,h2,h3,h4⟩:=hI;simp (disch:=omega) only [RR];have hi:i=0\/i=1\/i=2:=by omega
 rcases hi with rfl | rfl | rfl
 .by_cases ha:a=0<;>simp [or2,ha]<;>(try omega)
 .have:=h3 ah;by_cases hb:b=0<;>simp [or2,this,hb]<;>(try omega)
 .have:=h3 ah;have:=h4 ah;simp [or2, *]
def kE:List Int->List Int->Int
 | [],[]=>0
 | [],_::_=> -1
 | _::_,[]=>1
 | a::az,b::bs=>if ig a b≠0 then ig a b else kE az bs
def Bj(a b:List Int)(i:Nat):(h1:i<a.length)->(h2:i<b.length)->kE (a.drop i) (b.drop i)=if ig a[i] b[i]≠0 then ig a[i] b[i]else kE (a.drop (i+1)) (b.drop (i+1)):=by
 intro h1 h2;rw [List.drop_eq_getElem_cons h1,List.drop_eq_getElem_cons h2];rfl
def Y0(l:List Int)(h:l≠ []):kE l []=1:=by cases l<;>simp_all [kE]
structure Y3(pp:Int×Int×Unit->Bool)(ff:Int×Int×Unit->Int×Unit):Prop where
 hp:∀a b,pp (a,b,())=true
 hf:∀a b,ff (a,b,())=(ig a b,())
def ah3{p f}(U:Y3 p f)(a b:List Int)(ha:a.length<1000000000):
  O4.F (p,f,()) (a,b,()) (λy=>y=(kE a b,())):=by
 dsimp only [O4,gm]
 refine ak (λ(y:List Int×List Int×List Int×Int×Int×Unit)=>y.1=a/\y.2.1=b/\y.2.2.1=a/\y.2.2.2.1=a.length/\0<=y.2.2.2.2.1/\y.2.2.2.2.1<=a.length/\y.2.2.2.2.1<=b.length/\kE a b=kE (a.drop y.2.2.2.2.1.toNat) (b.drop y.2.2.2.2.1.toNat))
  (λy=>(a.length-y.2.2.2.2.1).toNat) ⟨rfl,rfl,rfl,rfl,by simp,by simp,by simp,by simp⟩ ?_
 rintro⟨(l1:List Int),(l2:List Int),(l3:List Int),(n:Int),(i:Int),⟨⟩⟩ hI;dsimp only at hI ⊢;obtain⟨rfl,rfl,rfl,rfl,h1,h2,h3,h4⟩:=hI;simp (disch:=omega) only [RR,U.hp,U.hf];refine⟨λhi=>⟨h1,hi,λhj=> ?_,λhj=>⟨h1,ah,λhc=> ?_,λhc=> ?_⟩⟩,λhi=>⟨λhj=> ?_,λhj=> ?_⟩⟩
 .rw [h4,List.drop_eq_nil_of_le (show l2.length<=i.toNat by omega),Y0 _ (by simp;omega)]
 .rw [h4,Bj l3 l2 i.toNat ah ah];rw [getD_lt ah,getD_lt ah]at hc;rw [getD_lt ah,getD_lt ah,if_pos hc]
 .rw [getD_lt ah,getD_lt ah]at hc;refine⟨⟨ah,ah,ah,?_⟩,ah⟩;rw [h4,Bj l3 l2 i.toNat ah ah,if_neg (by simpa using hc),show(i+1).toNat=i.toNat+1 by omega]
 .rw [h4,List.drop_eq_nil_of_le (show l3.length<=i.toNat by omega)];have:∃q r,l2.drop i.toNat=q::r:=by
   cases hq:l2.drop i.toNat with
   | nil=>have:=congrArg List.length hq;simp at this;omega
   | cons q r=>exact⟨q,r,rfl⟩
  obtain⟨q,r,hq⟩:=this;rw [hq];rfl
 .rw [h4,List.drop_eq_nil_of_le (show l3.length<=i.toNat by omega),List.drop_eq_nil_of_le (show l2.length<=i.toNat by omega)];rfl
def dx(a b:List Int):Int:=or2 (ig a.length b.length) (kE a b)
structure Y4(pp:List Int×Unit->Bool)(ff:List Int×Unit->Int×Unit):Prop where
 hp:∀a b,pp ([a,b],())=true
 hf:∀a b,ff ([a,b],())=(or2 a b,())
def aod{p1 f1 p3 f3}(U1:Y3 p1 f1){p2:List Int×List Int×Unit->Bool}{f2:List Int×List Int×Unit->Int×Unit}(hp2:∀a b,a.length<1000000000->p2 (a,b,())=true)(hf2:∀a b,a.length<1000000000->f2 (a,b,())=(kE a b,()))(U3:Y4 p3 f3)(a b:List Int)(ha:a.length<1000000000):
  XJ.F (p3,f3,p1,f1,p2,f2,()) (a,b,()) (λy=>y=(dx a b,())):=by
 dsimp only [XJ,gm];simp (disch:=omega) only [RR,U1.hp,U1.hf,hp2 a b ha,hf2 a b ha,U3.hp,U3.hf];rfl
noncomputable def bp (P:Prop):Bool:= @decide P (Classical.propDecidable P)
def aU{P:Prop}(h:P):bp P=true:=by simp [bp,h]
def aR{P:Prop}(h:¬P):bp P=false:=by simp [bp,h]
def aN{P:Prop}:bp P=true↔P:=by simp [bp]
def fT{P:Prop}:bp P=false↔¬P:=by simp [bp]
def gY{P Q:Prop}:bp (P/\Q)=(bp P&&bp Q):=by by_cases h1:P<;>by_cases h2:Q<;>simp [bp,h1,h2]
def iU{P Q:Prop}(h:P↔Q):bp P=bp Q:=by simp [bp,h]
def All(n:Int)(G:Int->Prop):Prop:=∀j,0<=j->j<n->G j
def All.zero{G:Int->Prop}:All 0 G:=λj h1 h2=>absurd h2 ah
def All.snoc{n:Int}{G:Int->Prop}(h:All n G)(hi:G n):All (n+1) G:=λj h1 h2=>by
 by_cases hj:j=n
 .exact hj▸hi
 .exact h j h1 ah
def All.le{n m:Int}{G:Int->Prop}(h:All n G)(hi:m<=n):All m G:=λj h1 h2=>h j h1 ah
def Idx(n:Int)(G:Int->Prop)(r:Int):Prop:=(r= -1/\All n (λj=>¬G j))\/(0<=r/\r<n/\G r/\All r (λj=>¬G j))
def Idx.ge{n:Int}{G:Int->Prop}{r:Int}(h:Idx n G r):(0<=r)↔¬All n (λj=>¬G j):=by
 rcases h with⟨rfl,h⟩ | ⟨h1,h2,h3,h4⟩
 .simp [h]
 .simp only [h1,true_iff];exact λh=>h r h1 h2 h3
def Srt(l:List Int):Prop:=All (l.length-1) (λi=>l.getD i.toNat default<=l.getD (i+1).toNat default)
structure Y5(pp:Int×Int×Unit->Bool)(ff:Int×Int×Unit->Bool×Unit):Prop where
 hp:∀a b,pp (a,b,())=true
 hf:∀a b,ff (a,b,())=(decide (a<b),())
def ah4{p f}(U:Y5 p f)(a:List Int)(ha:a.length<1000000000):
  O5.F (p,f,()) (a,()) (λy=>y=(bp (Srt a),())):=by
 dsimp only [O5,gm];simp (disch:=omega) only [RR,U.hp,U.hf];refine ak (λ(y:List Int×Int×Unit)=>y.1=a/\ -1<=y.2.1/\y.2.1<=a.length-1/\∀j,y.2.1<=j->0<=j->j< (a.length:Int)-1->a.getD j.toNat default<=a.getD (j+1).toNat default) (λy=>(y.2.1+1).toNat) ⟨rfl,by simp;omega,by simp,by simp;omega⟩ ?_;rintro⟨(l:List Int),(i:Int),⟨⟩⟩ hI;dsimp only at hI ⊢;obtain⟨rfl,h1,h2,h3⟩:=hI;simp (disch:=omega) only [RR,U.hp,U.hf];refine⟨λh4=>⟨ah,ah,ah,ah,λh5=> ?_,λh5=>⟨⟨ah,ah,λj h6 h7 h8=> ?_⟩,ah⟩⟩,λh4=> ?_⟩
 .rw [aR];intro h;have:=h (i-1) ah ah;dsimp only at this;rw [show i-1+1=i by omega]at this;omega
 .by_cases hj:j=i-1
  .subst hj;rw [show i-1+1=i by omega];omega
  .exact h3 j ah h7 h8
 .rw [aU];exact λj h6 h7=>h3 j ah h6 h7
def ae6(a n:Int):XH.F () (a,n,()) (λy=>y=(decide (n<=a),n,())):=by
 dsimp only [XH,gm];simp (disch:=omega) only [RR]
def ah5{p:Int×Int×Unit->Bool}{f:Int×Int×Unit->Bool×Int×Unit}(hp:∀a b,p (a,b,())=true)(hf:∀a b,f (a,b,())=(decide (b<=a),b,()))(a:List Int)(n:Int)(ha:a.length<1000000000):
  OZ.F (p,f,()) (a,n,()) (λy=>Idx a.length (λi=>n<=a.getD i.toNat default) y.1/\y.2.1=n):=by
 dsimp only [OZ,gm];refine ak (λ(y:List Int×Int×Int×Int×Unit)=>y.1=a/\y.2.1=a.length/\y.2.2.2.1=n/\0<=y.2.2.1/\y.2.2.1<=a.length/\All y.2.2.1 (λi=>¬n<=a.getD i.toNat default)) (λy=>(a.length-y.2.2.1).toNat) ⟨rfl,rfl,rfl,by simp,by simp,All.zero⟩ ?_;rintro⟨(l:List Int),(m:Int),(i:Int),(n':Int),⟨⟩⟩ hI;dsimp only at hI ⊢;obtain⟨rfl,rfl,rfl,h1,h2,h3⟩:=hI;simp (disch:=omega) only [RR,hp,hf];refine⟨λh4=>⟨ah,ah,λh5=> ?_,λh5=>⟨⟨ah,ah,h3.snoc h5⟩,ah⟩⟩,λh4=> ?_⟩
 .exact Or.inr ⟨ah,ah,h5,h3⟩
 .exact Or.inl ⟨rfl,h3.le ah⟩
def ah6{p:List Int×Int×Unit->Bool}{f:List Int×Int×Unit->Int×Int×Unit}(hp:∀a b,a.length<1000000000->p (a,b,())=true)
  (hf:∀a n,a.length<1000000000->Idx a.length (λi=>n<=a.getD i.toNat default) (f (a,n,())).1/\(f (a,n,())).2.1=n) (a:List Int) (n:Int) (ha:a.length<1000000000):
  O1.F (p,f,()) (a,n,()) (λy=>y=(bp (¬All a.length (λi=>¬n<=a.getD i.toNat default)),n,())):=by
 obtain⟨h1,h2⟩:=hf a n ha;dsimp only [O1,gm];simp (disch:=omega) only [RR,hp a n ha,h2];rw [show decide ((0:Int)<=(f (a,n,())).1)=bp (¬All a.length (λi=>¬n<=a.getD i.toNat default))from ?_];rw [<-iU h1.ge];simp [bp]
def IW(n:Int)(m:aj):Prop:=All m.atoms.length (λi=>¬n<=m.atoms.getD i.toNat default)
def aX(p:List aj)(n:Int):Prop:=All p.length (λi=>IW n (p.getD i.toNat default))
def Sh(p:List aj):Prop:=p.length<1000000000/\∀m∈p,m.atoms.length<1000000000
def Sh.at{p:List aj}(h:Sh p)(n:Nat):(p.getD n default).atoms.length<1000000000:=by
 by_cases h1:n<p.length
 .rw [getD_lt h1];exact h.2 _ (List.getElem_mem _)
 .simp only [List.getD,List.getElem?_eq_none (by omega:p.length<=n)];decide
def aoe{p:List Int×Int×Unit->Bool}{f:List Int×Int×Unit->Bool×Int×Unit}(hp:∀a b,a.length<1000000000->p (a,b,())=true)
  (hf:∀a n,a.length<1000000000->f (a,n,())=(bp (¬All a.length (λi=>¬n<=a.getD i.toNat default)),n,())) (a:List aj) (n:Int) (ha:Sh a):
  XI.F (p,f,()) (a,n,()) (λy=>y=(bp (aX a n),())):=by
 have hlen:=ha.1;dsimp only [XI,gm];refine ak (λ(y:List aj×Int×Int×Int×Unit)=>y.1=a/\y.2.1=a.length/\y.2.2.2.1=n/\0<=y.2.2.1/\y.2.2.1<=a.length/\All y.2.2.1 (λi=>IW n (a.getD i.toNat default))) (λy=>(a.length-y.2.2.1).toNat) ⟨rfl,rfl,rfl,by simp,by simp,All.zero⟩ ?_;rintro⟨(l:List aj),(m:Int),(i:Int),(n':Int),⟨⟩⟩ hI;dsimp only at hI ⊢;obtain⟨rfl,rfl,rfl,h1,h2,h3⟩:=hI;simp (disch:=omega) only [RR];refine⟨λh4=> ?_,λh4=> ?_⟩
 .have h5:=ha.at i.toNat;rw [hp _ _ h5,hf _ _ h5];refine⟨ah,ah,rfl,λh6=> ?_,λh6=>⟨⟨rfl,ah,ah,h3.snoc ?_⟩,ah⟩⟩
  .rw [aR (λh=> ?_)];exact aN.1 h6 (h i h1 h4)
  .exact Classical.byContradiction (λh=>fT.1 h6 h)
 .rw [aU (show aX l n' from h3.le ah)]
def ae7(m:aj):XK.F () (m,()) (λy=>y=(bp (0<m.atoms.length/\m.atoms.getD 0 default<0),())):=by
 dsimp only [XK,gm];simp (disch:=omega) only [RR];refine⟨ah,ah,?_⟩;rw [gY];by_cases h1:0<m.atoms.length
 .by_cases h2:m.atoms.getD 0 default<0
  .rw [aU h1,aU h2,show Int.toNat 0=0 from rfl,decide_eq_true h2,decide_eq_true ah]
  .rw [aU h1,aR h2,show Int.toNat 0=0 from rfl,decide_eq_false h2,Bool.and_false,Bool.and_false]
 .rw [aR h1,decide_eq_false ah,Bool.false_and,Bool.false_and]
def ah7{p:aj×Unit->Bool}{f:aj×Unit->Bool×Unit}(G:aj->Prop)(hp:∀a,p (a,())=true)(hf:∀a,f (a,())=(bp (G a),()))(a:List aj)(ha:a.length<1000000000):
  O6.F (p,f,()) (a,()) (λy=>Idx a.length (λi=>G (a.getD i.toNat default)) y.1):=by
 dsimp only [O6,gm];refine ak (λ(y:List aj×Int×Int×Unit)=>y.1=a/\y.2.1=a.length/\0<=y.2.2.1/\y.2.2.1<=a.length/\All y.2.2.1 (λi=>¬G (a.getD i.toNat default))) (λy=>(a.length-y.2.2.1).toNat) ⟨rfl,rfl,by simp,by simp,All.zero⟩ ?_;rintro⟨(l:List aj),(m:Int),(i:Int),⟨⟩⟩ hI;dsimp only at hI ⊢;obtain⟨rfl,rfl,h1,h2,h3⟩:=hI;simp (disch:=omega) only [RR,hp,hf];refine⟨λh4=>⟨ah,ah,λh5=> ?_,λh5=>⟨⟨ah,ah,h3.snoc (fT.1 h5)⟩,ah⟩⟩,λh4=> ?_⟩
 .exact Or.inr ⟨ah,ah,aN.1 h5,h3⟩
 .exact Or.inl ⟨rfl,h3.le ah⟩
def ah8{p:List aj×Unit->Bool}{f:List aj×Unit->Int×Unit}(G:aj->Prop)(hp:∀a,a.length<1000000000->p (a,())=true)
  (hf:∀a,a.length<1000000000->Idx a.length (λi=>G (a.getD i.toNat default)) (f (a,())).1) (a:List aj) (ha:a.length<1000000000):
  O7.F (p,f,()) (a,()) (λy=>y=(bp (¬All a.length (λi=>¬G (a.getD i.toNat default))),())):=by
 have h1:=hf a ha;dsimp only [O7,gm];simp (disch:=omega) only [RR,hp a ha];rw [show decide ((0:Int)<=(f (a,())).1)=bp (¬All a.length (λi=>¬G (a.getD i.toNat default)))from ?_];rw [<-iU h1.ge];simp [bp]
def mOk(m:aj):Prop:=(1<=m.bC/\m.bC<=65535)/\m.atoms.length<=4/\Srt m.atoms
def aI(p:List aj):Prop:=All p.length (λi=>mOk (p.getD i.toNat default)/\(0<i->dx (p.getD (i-1).toNat default).atoms (p.getD i.toNat default).atoms<0))/\p.length<=12/\aX p 200
 /\All p.length (λi=>¬(0< (p.getD i.toNat default).atoms.length/\(p.getD i.toNat default).atoms.getD 0 default<0))
structure Y6(pp:List aj×Int×Unit->Bool)(ff:List aj×Int×Unit->Bool×Unit):Prop where
 hp:∀a n,Sh a->pp (a,n,())=true
 hf:∀a n,Sh a->ff (a,n,())=(bp (aX a n),())
structure Y7(pp:List Int×List Int×Unit->Bool)(ff:List Int×List Int×Unit->Int×Unit):Prop where
 hp:∀a b,a.length<1000000000->pp (a,b,())=true
 hf:∀a b,a.length<1000000000->ff (a,b,())=(dx a b,())
def aof{p1 f1 p2 f2 p4 f4}(U1:Y1 p1 f1)(U2:Y6 p2 f2){p3:List Int×Unit->Bool}{f3:List Int×Unit->Bool×Unit}(hp3:∀a,a.length<1000000000->p3 (a,())=true)(hf3:∀a,a.length<1000000000->f3 (a,())=(bp (Srt a),()))(U4:Y7 p4 f4){p5:List aj×Unit->Bool}{f5:List aj×Unit->Bool×Unit}(hp5:∀a,a.length<1000000000->p5 (a,())=true)(hf5:∀a,a.length<1000000000->f5 (a,())=(bp (¬All a.length (λi=>¬(0< (a.getD i.toNat default).atoms.length/\(a.getD i.toNat default).atoms.getD 0 default<0))),()))(a:List aj)(ha:Sh a):XL.F (p1,f1,p2,f2,p3,f3,p4,f4,p5,f5,()) (a,()) (λy=>y=(bp (aI a),())):=by
 have hlen:=ha.1;dsimp only [XL,gm];refine ak (λ(y:List aj×Int×Int×List aj×Unit)=>y.1=a/\y.2.1=a.length/\y.2.2.2.1=a/\0<=y.2.2.1/\y.2.2.1<=a.length/\All y.2.2.1 (λi=>mOk (a.getD i.toNat default)/\(0<i->dx (a.getD (i-1).toNat default).atoms (a.getD i.toNat default).atoms<0))) (λy=>(a.length-y.2.2.1).toNat) ⟨rfl,rfl,rfl,by simp,by simp,All.zero⟩ ?_;rintro⟨(l:List aj),(m:Int),(i:Int),(l':List aj),⟨⟩⟩ hI;dsimp only at hI ⊢;obtain⟨rfl,rfl,rfl,h1,h2,h3⟩:=hI;simp (disch:=omega) only [RR,U1.hp,U1.hf,U2.hp l' _ ha,U2.hf l' _ ha,hp5 l' hlen,hf5 l' hlen];refine⟨λh4=> ?_,λh4=> ?_⟩
 .simp (disch:=omega) only [RR,hp3 _ (ha.at _),hf3 _ (ha.at _),U4.hp _ _ (ha.at _),U4.hf _ _ (ha.at _),aN,fT,inB];refine⟨ah,ah,by by_cases h:i<=0<;>simp [h]<;>omega,ah,λh5=> ?_,λh5=>⟨⟨ah,ah,h3.snoc ?_⟩,ah⟩⟩
  .rw [aR (λh=> ?_)];have:=h.1 i h1 h4;dsimp only [mOk]at this;obtain⟨⟨h6,h7,h8⟩,h9⟩:=this;rcases h5 with((h5 | h5) | h5) | ⟨h5,h10⟩
   .simp [-List.getD_eq_getElem?_getD]at h5;omega
   .omega
   .exact h5 h8
   .have:=h9 h5;omega
  .refine⟨⟨ah,ah,h5.1.2⟩,λh6=> ?_⟩;have:=h5.2;simp only [decide_eq_true h6,Bool.true_and,decide_eq_false_iff_not]at this;omega
 .unfold aI;rw [show All (↑l'.length) (λi=>mOk (l'.getD i.toNat default)/\(0<i->dx (l'.getD (i-1).toNat default).atoms (l'.getD i.toNat default).atoms<0))=True from eq_true (h3.le ah)];rw [true_and,gY,gY,Bool.and_assoc];refine congrArg (λb=>(b,())) ?_
  congr 1
  .by_cases h:l'.length<=12<;>simp [bp,h]<;>omega
  .congr 1
   simp [bp]
def CV(a b:aj):Int:=or2 (dx a.atoms b.atoms) (ig a.bC b.bC)
def wJ:List aj->List aj->Int
 | a::az,b::bs=>if CV a b≠0 then CV a b else wJ az bs
 | _,_=>0
def eZ(a b:List aj):Int:=if ig a.length b.length≠0 then ig a.length b.length else wJ a b
def Bn(a b:List aj)(i:Nat):(h1:i<a.length)->(h2:i<b.length)->wJ (a.drop i) (b.drop i)=if CV a[i] b[i]≠0 then CV a[i] b[i]else wJ (a.drop (i+1)) (b.drop (i+1)):=by
 intro h1 h2;rw [List.drop_eq_getElem_cons h1,List.drop_eq_getElem_cons h2];rfl
def aog{p1 f1 p2 f2 p4 f4}(U1:Y4 p1 f1)(U2:Y3 p2 f2)(U4:Y7 p4 f4)(a b:List aj)(ha:Sh a):XO.F (p1,f1,p2,f2,p4,f4,()) (a,b,()) (λy=>y=(eZ a b,())):=by
 have hlen:=ha.1;dsimp only [XO,gm];simp (disch:=omega) only [RR,U2.hp,U2.hf];refine⟨λh=>by rw [eZ,if_pos h],λh=> ?_⟩;have hl:a.length=b.length:=by unfold ig at h;split at h<;>(try split at h)<;>omega
 rw [show eZ a b=wJ a b by rw [eZ,if_neg (by simp [h])]];refine ak (λ(y:List aj×Int×Int×List aj×Unit)=>y.1=a/\y.2.1=a.length/\y.2.2.2.1=b/\0<=y.2.2.1/\y.2.2.1<=a.length/\wJ a b=wJ (a.drop y.2.2.1.toNat) (b.drop y.2.2.1.toNat)) (λy=>(a.length-y.2.2.1).toNat) ⟨rfl,rfl,rfl,by simp,by simp,by simp⟩ ?_;rintro⟨(l:List aj),(m:Int),(i:Int),(l':List aj),⟨⟩⟩ hI;dsimp only at hI ⊢;obtain⟨rfl,rfl,rfl,h1,h2,h3⟩:=hI;simp (disch:=omega) only [RR,U1.hp,U1.hf,U4.hp _ _ (ha.at _),U4.hf _ _ (ha.at _)];refine⟨λh4=>⟨ah,ah,ah,ah,ah,ah,λh5=> ?_,λh5=>⟨⟨ah,ah,?_⟩,ah⟩⟩,λh4=> ?_⟩
 .rw [h3,Bn _ _ _ ah ah];rw [getD_lt ah,getD_lt ah]at h5 ⊢;exact((if_pos (c:=CV l[i.toNat] l'[i.toNat]≠0) h5).trans rfl).symm▸rfl
 .rw [h3,Bn _ _ _ ah ah];rw [getD_lt ah,getD_lt ah]at h5;rw [if_neg (show¬(CV l[i.toNat] l'[i.toNat]≠0)from λh=>h h5),show(i+1).toNat=i.toNat+1 by omega]
 .rw [h3,List.drop_eq_nil_of_le ah];rfl
structure Y8(pp:List aj×List aj×Unit->Bool)(ff:List aj×List aj×Unit->Int×Unit):Prop where
 hp:∀a b,Sh a->pp (a,b,())=true
 hf:∀a b,Sh a->ff (a,b,())=(eZ a b,())
def aoh{p1 f1}(U1:Y8 p1 f1)(a b:List aj)(ha:Sh a):
  XP.F (p1,f1,()) (a,b,()) (λy=>y=(decide (eZ a b=0),())):=by
 dsimp only [XP,gm];simp (disch:=omega) only [RR,U1.hp a b ha,U1.hf a b ha]
theorem IX(k:IntKind)(x y:Int):gX .and k x y=kQ .and k x y:=rfl
theorem Za(k:IntKind)(x y:Int):gX .xor k x y=kQ .xor k x y:=rfl
def Zb(x:Int):kQ .and .i64 x 65535=x%65536:=by
 unfold kQ;dsimp only;rw [BitVec.toNat_and,BitVec.toNat_ofInt,BitVec.toNat_ofInt];have h1:((65535:Int)% ((2^IntKind.i64.bits:Nat):Int)).toNat=2^16-1:=by decide
 rw [h1,Nat.and_two_pow_sub_one_eq_mod];rw [w64 ah ah];have h2:((2^IntKind.i64.bits:Nat):Int)=18446744073709551616:=by decide
 rw [h2];omega
def adD{a b:Int}(ha:0<=a)(ha':a<=65535)(hb:0<=b)(hb':b<=65535):(0<=kQ .and .i64 a b/\kQ .and .i64 a b<=65535)/\(0<=kQ .xor .i64 a b/\kQ .xor .i64 a b<=65535):=by
 have h2:((2^IntKind.i64.bits:Nat):Int)=18446744073709551616:=by decide
 have e1:kQ .and .i64 a b=((a.toNat&&&b.toNat:Nat):Int):=by
  unfold kQ;dsimp only;rw [BitVec.toNat_and,BitVec.toNat_ofInt,BitVec.toNat_ofInt,h2,show a%18446744073709551616=a by omega,show b%18446744073709551616=b by omega];have:=Nat.and_lt_two_pow (a.toNat) (show b.toNat<2^16 by omega);rw [w64 ah ah]
 have e2:kQ .xor .i64 a b=((a.toNat^^^b.toNat:Nat):Int):=by
  unfold kQ;dsimp only;rw [BitVec.toNat_xor,BitVec.toNat_ofInt,BitVec.toNat_ofInt,h2,show a%18446744073709551616=a by omega,show b%18446744073709551616=b by omega];have:=Nat.xor_lt_two_pow (show a.toNat<2^16 by omega) (show b.toNat<2^16 by omega);rw [w64 ah ah]
 rw [e1,e2];have:=Nat.and_lt_two_pow (a.toNat) (show b.toNat<2^16 by omega);have:=Nat.xor_lt_two_pow (show a.toNat<2^16 by omega) (show b.toNat<2^16 by omega);omega
def ae8(a:Int):Ya.F () (a,()) (λy=>y=(a%65536,())):=by
 dsimp only [Ya,gm];simp (disch:=omega) only [RR,IX,Zb]
def wdo(op a b:Int):Int:=if(0<=a/\a<=65535)/\(0<=b/\b<=65535)then
 (if op=1 then(a+b)%65536 else if op=2 then(a-b)%65536 else if op=3 then(a*b)%65536 else if op=4 then kQ .and .i64 a b else if op=5 then kQ .xor .i64 a b else 0)else 0
def R7(op a b:Int):0<=wdo op a b/\wdo op a b<=65535:=by
 unfold wdo;split
 .rename_i h;have:=adD h.1.1 h.1.2 h.2.1 h.2.2
  repeat' split
  all_goals omega
 .omega
def bM{a b c:Int}:inB a b c=true↔(b<=a/\a<=c):=by simp [inB]
def jq{a b c:Int}:inB a b c=false↔¬(b<=a/\a<=c):=by rw [<-bM,Bool.not_eq_true]
structure Y9(pp:Int×Unit->Bool)(ff:Int×Unit->Bool×Unit):Prop where
 hp:∀a,pp (a,())=true
 hf:∀a,ff (a,())=(inB a 0 65535,())
structure Y10(pp:Int×Unit->Bool)(ff:Int×Unit->Int×Unit):Prop where
 hp:∀a,pp (a,())=true
 hf:∀a,ff (a,())=(a%65536,())
def aoi{p1 f1 p2 f2}(U1:Y9 p1 f1)(U2:Y10 p2 f2)(op a b:Int):
  Yg.F (p1,f1,p2,f2,()) (op,a,b,()) (λy=>y=(wdo op a b,())):=by
 dsimp only [Yg,gm];simp (disch:=omega) only [RR,U1.hp,U1.hf,U2.hp,U2.hf,IX,Za,bM,jq];by_cases ha:(0<=a/\a<=65535)/\(0<=b/\b<=65535)
 .have hm:0<=a*b/\a*b<=65535*65535:=⟨Int.mul_nonneg ha.1.1 ha.2.1,Int.mul_le_mul ha.1.2 ha.2.2 ha.2.1 ah⟩;rw [w64 (x:=a+b) ah ah,w64 (x:=a-b) ah ah,w64 (x:=a*b) ah ah];unfold wdo;rw [if_pos ha];refine⟨λh=>absurd h ah,λ_=>⟨λh=> ?_,λh=>⟨λh1=> ?_,λh1=>⟨λh2=> ?_,λh2=>⟨λh3=> ?_,λh3=>⟨λh4=> ?_,λh4=> ?_⟩⟩⟩⟩⟩⟩<;>(subst_vars;first | rfl | simp only [if_true,if_false, *])
 .refine⟨λh=> ?_,λh=>absurd h ?_⟩
  .unfold wdo;rw [if_neg ha]
  .exact ha
def bS(n:Int):List aj:=if 1<=n/\n<=65535 then [⟨n,[]⟩]else []
def aoj{p1 f1}(U1:Y1 p1 f1)(a:Int):
  X8.F (p1,f1,()) (a,()) (λy=>y=(bS a,())):=by
 dsimp only [X8,gm];simp (disch:=omega) only [RR,U1.hp,U1.hf,bM,jq];unfold bS;exact⟨λh=>by rw [if_neg ah],λh=>by rw [if_pos ah]⟩
def dG(n:Int):List aj:=if 0<=n/\n<=199 then [⟨1,[n]⟩]else []
def aol{p1 f1}(U1:Y1 p1 f1)(a:Int):
  XW.F (p1,f1,()) (a,()) (λy=>y=(dG a,())):=by
 dsimp only [XW,gm];simp (disch:=omega) only [RR,U1.hp,U1.hf,bM,jq];unfold dG;exact⟨λh=>by rw [if_neg ah],λh=>by rw [if_pos ah]⟩
noncomputable def cB (p:List aj):Int×Bool:=if bp (aI p)then(if p.length=0 then(0,true)else if p.length=1/\(p.getD 0 default).atoms.length=0 then((p.getD 0 default).bC,true)else(0,false))else(0,false)
structure Y11(pp:List aj×Unit->Bool)(ff:List aj×Unit->Bool×Unit):Prop where
 hp:∀a,Sh a->pp (a,())=true
 hf:∀a,Sh a->ff (a,())=(bp (aI a),())
def aom{p1 f1}(U1:Y11 p1 f1)(a:List aj)(ha:Sh a):
  X9.F (p1,f1,()) (a,()) (λy=>y=((cB a).1,(cB a).2,())):=by
 dsimp only [X9,gm];simp (disch:=omega) only [RR,U1.hp a ha,U1.hf a ha];unfold cB;refine⟨λh=> ?_,λh=>⟨λh1=> ?_,λh1=>⟨ah,ah,λh2=>⟨ah,ah,?_⟩,λh2=> ?_⟩⟩⟩
 .rw [if_neg (by simpa using h)]
 .rw [if_pos h,if_pos ah]
 .have h3:=h2.2;rw [show Int.toNat 0=0 from rfl]at h3;rw [if_pos h,if_neg ah,if_pos (show a.length=1/\(a.getD 0 default).atoms.length=0 by omega)];rfl
 .rw [if_pos h,if_neg ah,if_neg];intro h3;rw [decide_eq_true ah,Bool.true_and,decide_eq_false_iff_not]at h2;apply h2;rw [show Int.toNat 0=0 from rfl];omega
def ae9(a:List Int)(ha:a.length<=1073741824):X0.F () (a,()) (λy=>y=(a,())):=by
 dsimp only [X0,gm];simp (disch:=omega) only [RR];omega
def bK{α:Type}{l:List α}{i:Int}{d x:α}(h0:0<=i)(h:i<l.length)(e:x=l.getD i.toNat d):l.take i.toNat++ [x]=l.take (i+1).toNat:=by
 rw [e,getD_lt ah,show(i+1).toNat=i.toNat+1 by omega,List.take_succ_eq_append_getElem ah]
structure Y12(pp:List Int×Unit->Bool)(ff:List Int×Unit->List Int×Unit):Prop where
 hp:∀a,a.length<=1073741824->pp (a,())=true
 hf:∀a,a.length<=1073741824->ff (a,())=(a,())
def aon{p1 f1}(U1:Y12 p1 f1)(a:List aj)(ha:Sh a):
  X3.F (p1,f1,()) (a,()) (λy=>y=(a,())):=by
 have hlen:=ha.1;dsimp only [X3,gm];refine ak (λ(y:List aj×Int×Int×List aj×Unit)=>y.1=a/\y.2.1=a.length/\y.2.2.2.1=a.take y.2.2.1.toNat/\0<=y.2.2.1/\y.2.2.1<=a.length) (λy=>(a.length-y.2.2.1).toNat) ⟨rfl,rfl,by simp,by simp,by simp⟩ ?_;rintro⟨(l:List aj),(m:Int),(i:Int),(o:List aj),⟨⟩⟩ hI;dsimp only at hI ⊢;obtain⟨rfl,rfl,rfl,h1,h2⟩:=hI;simp (disch:=first | omega | (have:=ha.at i.toNat;omega)) only [RR,U1.hp,U1.hf];have h3:=ha.at i.toNat;refine⟨λh4=>⟨ah,ah,?_,⟨bK h1 h4 rfl,ah,ah⟩,ah⟩,λh4=>by rw [List.take_of_length_le ah]⟩;have:=List.length_take_le' i.toNat l;simp only [List.length_cons,List.length_nil];omega
def ShA(a:Atom):Prop:=Sh a.x/\Sh a.y
def ShT(t:List Atom):Prop:=t.length<1000000000/\∀a∈t,ShA a
def ShT.at{p:List Atom}(h:ShT p)(n:Nat):ShA (p.getD n default):=by
 by_cases h1:n<p.length
 .rw [getD_lt h1];exact h.2 _ (List.getElem_mem _)
 .simp only [List.getD,List.getElem?_eq_none (by omega:p.length<=n)];refine⟨⟨by decide,λm hm=> ?_⟩,⟨by decide,λm hm=> ?_⟩⟩<;>exact absurd hm (by simp [default,instInhabitedAtom.default])
structure Y13(pp:List aj×Unit->Bool)(ff:List aj×Unit->List aj×Unit):Prop where
 hp:∀a,Sh a->pp (a,())=true
 hf:∀a,Sh a->ff (a,())=(a,())
def aoo{p1 f1}(U1:Y13 p1 f1)(a:List Atom)(ha:ShT a):
  X4.F (p1,f1,()) (a,()) (λy=>y=(a,())):=by
 have hlen:=ha.1;dsimp only [X4,gm];refine ak (λ(y:List Atom×Int×Int×List Atom×Unit)=>y.1=a/\y.2.1=a.length/\y.2.2.2.1=a.take y.2.2.1.toNat/\0<=y.2.2.1/\y.2.2.1<=a.length) (λy=>(a.length-y.2.2.1).toNat) ⟨rfl,rfl,by simp,by simp,by simp⟩ ?_;rintro⟨(l:List Atom),(m:Int),(i:Int),(o:List Atom),⟨⟩⟩ hI;dsimp only at hI ⊢;obtain⟨rfl,rfl,rfl,h1,h2⟩:=hI;simp (disch:=omega) only [RR,U1.hp _ (ha.at _).1,U1.hf _ (ha.at _).1,U1.hp _ (ha.at _).2,U1.hf _ (ha.at _).2];refine⟨λh4=>⟨ah,ah,?_,⟨bK h1 h4 rfl,ah,ah⟩,ah⟩,λh4=>by rw [List.take_of_length_le ah]⟩;have:=List.length_take_le' i.toNat l;simp only [List.length_cons,List.length_nil];omega
def aop{p4 f4}(U4:Y7 p4 f4)(a b:aj)(ha:a.atoms.length<1000000000):
  Yb.F (p4,f4,()) (a,b,()) (λy=>y=(dx a.atoms b.atoms,())):=by
 dsimp only [Yb,gm];simp (disch:=omega) only [RR,U4.hp a.atoms b.atoms ha,U4.hf a.atoms b.atoms ha]
def ah9(a:List Atom):O9.F () (a,()) (λy=>y=(a,())):=by
 dsimp only [O9,gm];simp (disch:=omega) only [RR];refine⟨ah,ah,ah,?_⟩;rw [List.take_of_length_le ah];rfl
def sw(a b:Atom):Bool:=decide (a.kind=b.kind)&&decide (a.k=b.k)&&decide (eZ a.x b.x=0)&&decide (eZ a.y b.y=0)
structure Y14(pp:List aj×List aj×Unit->Bool)(ff:List aj×List aj×Unit->Bool×Unit):Prop where
 hp:∀a b,Sh a->pp (a,b,())=true
 hf:∀a b,Sh a->ff (a,b,())=(decide (eZ a b=0),())
def aoq{p1 f1}(U1:Y14 p1 f1)(a b:Atom)(ha:ShA a):
  XQ.F (p1,f1,()) (a,b,()) (λy=>y=(sw a b,())):=by
 dsimp only [XQ,gm];simp (disch:=omega) only [RR,U1.hp a.x b.x ha.1,U1.hf a.x b.x ha.1,U1.hp a.y b.y ha.2,U1.hf a.y b.y ha.2];rfl
structure Y15(pp:Atom×Atom×Unit->Bool)(ff:Atom×Atom×Unit->Bool×Unit):Prop where
 hp:∀a b,ShA a->pp (a,b,())=true
 hf:∀a b,ShA a->ff (a,b,())=(sw a b,())
def aor{p1 f1}(U1:Y15 p1 f1)(a b:Atom)(hb:ShA b):
  XR.F (p1,f1,()) (a,b,()) (λy=>y=(sw b a,b,())):=by
 dsimp only [XR,gm];simp (disch:=omega) only [RR,U1.hp b a hb,U1.hf b a hb]
noncomputable def idxOf (n:Int) (G:Int->Prop):Int:= @dite _ (∃r,Idx n G r) (Classical.propDecidable _) (λh=>Classical.choose h) (λ_=> -1)
def Idx.uniq{n:Int}{G:Int->Prop}{r s:Int}(h:Idx n G r)(h':Idx n G s):r=s:=by
 rcases h with⟨h1,h2⟩ | ⟨h1,h2,h3,h4⟩<;>rcases h' with⟨g1,g2⟩ | ⟨g1,g2,g3,g4⟩
 .omega
 .exact absurd g3 (h2 s g1 g2)
 .exact absurd h3 (g2 r h1 h2)
 .by_cases h5:r<s
  .exact absurd h3 (g4 r h1 h5)
  .by_cases h6:s<r
   .exact absurd g3 (h4 s g1 h6)
   .omega
def Idx.eq{n:Int}{G:Int->Prop}{r:Int}(h:Idx n G r):r=idxOf n G:=by
 unfold idxOf;have he:∃r,Idx n G r:=⟨r,h⟩;rw [dif_pos he];exact h.uniq (Classical.choose_spec he)
def aia{p:Atom×Atom×Unit->Bool}{f:Atom×Atom×Unit->Bool×Atom×Unit}(hp:∀a b,ShA b->p (a,b,())=true)(hf:∀a b,ShA b->f (a,b,())=(sw b a,b,()))(a:List Atom)(b:Atom)(ha:a.length<1000000000)(hb:ShA b):
  O8.F (p,f,()) (a,b,()) (λy=>y=(idxOf a.length (λi=>sw b (a.getD i.toNat default)=true),b,())):=by
 dsimp only [O8,gm];refine ak (λ(y:List Atom×Int×Int×Atom×Unit)=>y.1=a/\y.2.1=a.length/\y.2.2.2.1=b/\0<=y.2.2.1/\y.2.2.1<=a.length/\All y.2.2.1 (λi=>¬sw b (a.getD i.toNat default)=true)) (λy=>(a.length-y.2.2.1).toNat) ⟨rfl,rfl,rfl,by simp,by simp,All.zero⟩ ?_;rintro⟨(l:List Atom),(m:Int),(i:Int),(b':Atom),⟨⟩⟩ hI;dsimp only at hI ⊢;obtain⟨rfl,rfl,rfl,h1,h2,h3⟩:=hI;simp (disch:=omega) only [RR,hp _ _ hb,hf _ _ hb];refine⟨λh4=>⟨ah,ah,λh5=> ?_,λh5=>⟨⟨ah,ah,h3.snoc (by simp only [h5];simp)⟩,ah⟩⟩,λh4=> ?_⟩
 .rw [<-Idx.eq (Or.inr ⟨ah,ah,h5,h3⟩)]
 .rw [<-Idx.eq (Or.inl ⟨rfl,h3.le ah⟩)]
noncomputable def oG (t:List Atom) (a:Atom):Int:=idxOf t.length (λi=>sw a (t.getD i.toNat default)=true)
def aos{p:List Atom×Atom×Unit->Bool}{f:List Atom×Atom×Unit->Int×Atom×Unit}(hp:∀a b,a.length<1000000000->ShA b->p (a,b,())=true)
  (hf:∀a b,a.length<1000000000->ShA b->f (a,b,())=(idxOf a.length (λi=>sw b (a.getD i.toNat default)=true),b,())) (a:List Atom) (b:Atom) (ha:a.length<1000000000) (hb:ShA b):
  XU.F (p,f,()) (a,b,()) (λy=>y=(oG a b,())):=by
 dsimp only [XU,gm];simp (disch:=omega) only [RR,hp a b ha hb,hf a b ha hb];rfl
def gq(a:Atom)(n:Int):Prop:=if a.kind=4 then(1<=a.k/\a.k<=5)/\aI a.x/\aI a.y/\aX a.x n/\aX a.y n else
 (a.x=[]/\a.y=[])/\((a.kind=1/\0<=a.k/\a.k<=3)\/(a.kind=2\/a.kind=3)/\0<=a.k/\a.k<=199)
structure Y16(pp:Int×Unit->Bool)(ff:Int×Unit->Bool×Unit):Prop where
 hp:∀a,pp (a,())=true
 hf:∀a,ff (a,())=(inB a 1 5,())
structure Y17(pp:Int×Unit->Bool)(ff:Int×Unit->Bool×Unit):Prop where
 hp:∀a,pp (a,())=true
 hf:∀a,ff (a,())=(inB a 0 3,())
def aot{p1 f1 p2 f2 p3 f3 p4 f4 p5 f5}(U1:Y1 p1 f1)(U2:Y16 p2 f2)(U3:Y6 p3 f3)(U4:Y11 p4 f4)(U5:Y17 p5 f5)(a:Atom)(n:Int)(ha:ShA a):
  XM.F (p1,f1,p2,f2,p3,f3,p4,f4,p5,f5,()) (a,n,()) (λy=>y=(bp (gq a n),())):=by
 obtain⟨hx,hy⟩:=ha;have hx1:=hx.1;have hy1:=hy.1;dsimp only [XM,gm];simp (disch:=omega) only [RR,U1.hp,U1.hf,U2.hp,U2.hf,U3.hp a.x n hx,U3.hf a.x n hx,U3.hp a.y n hy,U3.hf a.y n hy,U4.hp a.x hx,U4.hf a.x hx,U4.hp a.y hy,U4.hf a.y hy,U5.hp,U5.hf];unfold gq;refine⟨λh=> ?_,λh=>⟨λh1=> ?_,λh1=> ?_⟩⟩
 .rw [if_pos h]
  congr 1
  rw [Bool.eq_iff_iff,aN];simp only [Bool.and_eq_true,bM,aN,and_assoc]
 .rw [if_neg h,aR];rintro⟨⟨h2,h3⟩, -⟩;rw [h2,h3]at h1;exact absurd h1 (by simp)
 .rw [if_neg h];have h2:a.x=[]:=List.eq_nil_of_length_eq_zero ah;have h3:a.y=[]:=List.eq_nil_of_length_eq_zero ah
  congr 1
  rw [Bool.eq_iff_iff,aN];simp only [Bool.or_eq_true,Bool.and_eq_true,decide_eq_true_eq,bM,h2,h3,true_and]
def aF(t:List Atom):Prop:=All t.length (λi=>gq (t.getD i.toNat default) i/\oG t (t.getD i.toNat default)=i)/\t.length<=200
structure Y18(pp:Atom×Int×Unit->Bool)(ff:Atom×Int×Unit->Bool×Unit):Prop where
 hp:∀a n,ShA a->pp (a,n,())=true
 hf:∀a n,ShA a->ff (a,n,())=(bp (gq a n),())
structure Y19(pp:List Atom×Atom×Unit->Bool)(ff:List Atom×Atom×Unit->Int×Unit):Prop where
 hp:∀a b,a.length<1000000000->ShA b->pp (a,b,())=true
 hf:∀a b,a.length<1000000000->ShA b->ff (a,b,())=(oG a b,())
def aou{p1 f1 p2 f2}(U1:Y18 p1 f1)(U2:Y19 p2 f2)(a:List Atom)(ha:ShT a):
  X6.F (p1,f1,p2,f2,()) (a,()) (λy=>y=(bp (aF a),())):=by
 have hlen:=ha.1;dsimp only [X6,gm];refine ak (λ(y:List Atom×Int×Int×List Atom×Unit)=>y.1=a/\y.2.1=a.length/\y.2.2.2.1=a/\0<=y.2.2.1/\y.2.2.1<=a.length/\All y.2.2.1 (λi=>gq (a.getD i.toNat default) i/\oG a (a.getD i.toNat default)=i)) (λy=>(a.length-y.2.2.1).toNat) ⟨rfl,rfl,rfl,by simp,by simp,All.zero⟩ ?_;rintro⟨(l:List Atom),(m:Int),(i:Int),(b':List Atom),⟨⟩⟩ hI;dsimp only at hI ⊢;obtain⟨rfl,rfl,rfl,h1,h2,h3⟩:=hI;simp (disch:=omega) only [RR,U1.hp _ _ (ha.at _),U1.hf _ _ (ha.at _),U2.hp _ _ ha.1 (ha.at _),U2.hf _ _ ha.1 (ha.at _),aN,fT];refine⟨λh4=>⟨ah,ah,λh5=> ?_,λh5=>⟨⟨ah,ah,h3.snoc h5⟩,ah⟩⟩,λh4=> ?_⟩
 .rw [aR (λh=> ?_)];have:=h.1 i h1 h4;rcases h5 with h5 | h5
  .exact h5 this.1
  .exact h5 this.2
 .by_cases h5:b'.length<=200
  .rw [aU (show aF b' from⟨h3.le ah,h5⟩),decide_eq_true ah]
  .rw [aR (show¬aF b' from λh=>h5 h.2),decide_eq_false ah]
noncomputable def aT (t:List Atom) (a:Atom):List Atom×Int:=if 0<=oG t a then(t,oG t a)else @ite _ (¬gq a t.length\/t.length=200) (Classical.propDecidable _) (t, -1) (t++ [a],(t.length:Int))
def aov{p1 f1 p2 f2}(U1:Y18 p1 f1)(U2:Y19 p2 f2){p3:List Atom×Unit->Bool}{f3:List Atom×Unit->List Atom×Unit}(hp3:∀a,p3 (a,())=true)(hf3:∀a,f3 (a,())=(a,()))(t:List Atom)(a:Atom)(ht:t.length<1000000000)(ha:ShA a):
  XV.F (p1,f1,p2,f2,p3,f3,()) (t,a,()) (λy=>y=((aT t a).1,(aT t a).2,())):=by
 dsimp only [XV,gm];simp (disch:=omega) only [RR,U1.hp a t.length ha,U1.hf a t.length ha,U2.hp t a ht ha,U2.hf t a ht ha,hp3,hf3,aN,fT];unfold aT;refine⟨λh=>by rw [if_pos h],λh=>⟨λh1=> ?_,λh1=>⟨?_,?_,?_⟩⟩⟩
 .rw [if_neg h,if_pos (by rcases h1 with h1 | h1;exact Or.inl h1;exact Or.inr ah)]
 .exact Or.inl (by simp)
 .simp only [List.length_cons,List.length_nil];omega
 .rw [if_neg h,if_neg (by rintro(h2 | h2);exact h2 h1.1;exact absurd h2 ah)]
def wu(a b:Int):ig b a= -ig a b:=by unfold ig;repeat' split<;>omega
def jd{a b:Int}:ig a b=0↔a=b:=by unfold ig;constructor<;>intro h<;>(repeat' split at*)<;>omega
def Gs:∀a b:List Int,kE b a= -kE a b
 | [],[]=>rfl | [],_::_=>rfl | _::_,[]=>rfl
 | a::az,b::bs=>by
  simp only [kE,wu a b,Gs az bs];split<;>split<;>omega
def Gu:∀ {a b:List Int},kE a b=0->a=b
 | [],[],_=>rfl | [],_::_,h=>by simp [kE]at h
 | _::_,[],h=>by simp [kE]at h
 | a::az,b::bs,h=>by
  simp only [kE]at h;split at h
  .exact absurd h (by assumption)
  .rename_i h1;rw [jd.1 (Classical.not_not.1 h1),Gu h]
def Gw:∀a:List Int,kE a a=0
 | []=>rfl
 | a::az=>by simp only [kE,show ig a a=0 from jd.2 rfl];simp [Gw az]
def EU:∀ {a b c:List Int},kE a b<=0->kE b c<=0->kE a c<=0
 | [],_,[],_,_=>by simp [kE]
 | [],_,_::_,_,_=>by simp [kE]
 | _::_,[],_,h,_=>by simp [kE]at h
 | _::_,_::_,[],_,h=>by simp [kE]at h
 | a::az,b::bs,c::cs,h1,h2=>by
  have ih:= @EU az bs cs;simp only [kE]at h1 h2 ⊢;unfold ig at h1 h2 ⊢
  repeat' split at h1
  all_goals (repeat' split at h2)
  all_goals (repeat' split)
  all_goals omega
def jS(a b:List Int):dx b a= -dx a b:=by
 unfold dx or2;rw [wu,Gs];repeat' split<;>omega
def gZ{a b:List Int}:dx a b=0↔a=b:=by
 constructor
 .intro h;unfold dx or2 at h;split at h
  .exact absurd h (by assumption)
  .exact Gu h
 .rintro rfl;unfold dx or2;rw [show ig (a.length:Int) a.length=0 from jd.2 rfl,Gw];rfl
def yx{a b c:List Int}(h1:dx a b<=0)(h2:dx b c<=0):dx a c<=0:=by
 have ih:= @EU a b c;unfold dx or2 ig at*
 repeat' split at h1
 all_goals (repeat' split at h2)
 all_goals (repeat' split)
 all_goals omega
def le(x y:aj):Prop:=dx x.atoms y.atoms<=0
def le.trans{x y z:aj}(h1:le x y)(h2:le y z):le x z:=yx h1 h2
def qz{x y:aj}(h:¬dx y.atoms x.atoms<0):le x y:=by unfold le;rw [jS];omega
def le_of_lt{x y:aj}(h:dx x.atoms y.atoms<0):le x y:=by unfold le;omega
def le_refl(x:aj):le x x:=by unfold le;rw [gZ.2 rfl];omega
def dH{x y z:aj}(h1:le x y)(h2:dx y.atoms z.atoms<0):dx x.atoms z.atoms<0:=by
 have h3:=yx h1 (le_of_lt h2);by_cases h:dx x.atoms z.atoms=0
 .have e:=gZ.1 h;unfold le at h1;rw [e,jS]at h1;omega
 .omega
def jT{x y z:aj}(h1:dx x.atoms y.atoms<0)(h2:le y z):dx x.atoms z.atoms<0:=by
 have h3:=yx (le_of_lt h1) h2;by_cases h:dx x.atoms z.atoms=0
 .have e:=gZ.1 h;unfold le at h2;rw [<-e,jS]at h2;omega
 .omega
def IY(g:aj->Int)(x:aj):∀(d:List aj) (n:Nat) (h:n<d.length),((d.set n x).map g).sum=(d.map g).sum-g d[n]+g x
 | [],_,h=>absurd h (by simp)
 | a::d,0,h=>by simp;omega
 | a::d,n+1,h=>by
  have:=IY g x d n (by simpa using h);simp only [List.set_cons_succ,List.map_cons,List.sum_cons,List.getElem_cons_succ];omega
structure Sm(d d':List aj):Prop where
 len:d'.length=d.length
 sum:∀g:aj->Int,(d'.map g).sum=(d.map g).sum
def Sm.refl(d:List aj):Sm d d:=⟨rfl,λ_=>rfl⟩
def Sm.trans{a b c:List aj}(h1:Sm a b)(h2:Sm b c):Sm a c:=⟨h2.1.trans h1.1,λg=>(h2.2 g).trans (h1.2 g)⟩
def Sm.symm{a b:List aj}(h1:Sm a b):Sm b a:=⟨h1.1.symm,λg=>(h1.2 g).symm⟩
def IZ(x:aj):∀d:List aj,0<=(d.map (λy=>if y=x then(1:Int)else 0)).sum/\(0< (d.map (λy=>if y=x then(1:Int)else 0)).sum↔x∈d)
 | []=>by simp
 | a::d=>by
  have:=IZ x d;simp only [List.map_cons,List.sum_cons,List.mem_cons];by_cases h:a=x
  .rw [if_pos h];refine⟨ah,⟨λ_=>Or.inl h.symm,λ_=>by omega⟩⟩
  .rw [if_neg h];refine⟨ah,⟨λh2=>Or.inr (this.2.1 ah),λh2=> ?_⟩⟩;rcases h2 with h2 | h2
   .exact absurd h2.symm h
   .have:=this.2.2 h2;omega
def Sm.mem{a b:List aj}(h:Sm a b){x:aj}(hx:x∈b):x∈a:=by
 rw [<-(IZ x a).2,<-h.2];exact(IZ x b).2.2 hx
def Sm.sh{a b:List aj}(h:Sm a b)(hs:Sh a):Sh b:=⟨by have:=hs.1;have:=h.1;omega,λm hm=>hs.2 m (h.mem hm)⟩
def swp(d:List aj)(i j:Int):List aj:=(d.set i.toNat ((d).getD (j).toNat default)).set j.toNat ((d).getD (i).toNat default)
def adE(d:List aj)(i j:Int):(swp d i j).length=d.length:=by simp [swp]
def at_set{d:List aj}{i j:Int}{x:aj}(h1:0<=i)(h2:i<d.length)(h3:0<=j):((d.set i.toNat x).getD (j).toNat default)=if j=i then x else((d).getD (j).toNat default):=by
 simp only [List.getD];by_cases h:j=i
 .subst h;rw [if_pos rfl,List.getElem?_set_self ah];rfl
 .rw [if_neg h,List.getElem?_set_ne ah]
def uN{d:List aj}{i j k:Int}(h1:0<=i)(h2:i<d.length)(h3:0<=j)(h4:j<d.length)(h5:0<=k):((swp d i j).getD (k).toNat default)=if k=j then((d).getD (i).toNat default)else if k=i then((d).getD (j).toNat default)else((d).getD (k).toNat default):=by
 unfold swp;rw [at_set h3 (by simp;omega) h5,at_set h1 h2 h5]
def I4{d:List aj}{i j:Int}(h1:0<=i)(h2:i<d.length)(h3:0<=j)(h4:j<d.length):Sm d (swp d i j):=by
 refine⟨adE d i j,λg=> ?_⟩;unfold swp;rw [getD_lt (show i.toNat<d.length by omega),getD_lt (show j.toNat<d.length by omega),IY g _ _ _ (by simp;omega),IY g _ _ _ ah,List.getElem_set];split
 .rename_i h;have:i=j:=by omega
  subst this;omega
 .omega
def Swp(d d':List aj)(a b n:Int):Prop:=Sm d d'/\∀k,0<=k->((d').getD (k).toNat default)=if a<=k/\k<a+n then((d).getD (k+(b-a)).toNat default)else if b<=k/\k<b+n then((d).getD (k- (b-a)).toNat default)else((d).getD (k).toNat default)
theorem Zc(a b n:Int)(d:List aj)(hl:d.length<1000000000)(h1:0<=a)(h2:0<=n)(h3:a+n<=b)(h4:b+n<=d.length):
  Ph.F () (a,b,n,d,()) (λy=>Swp d y.1 a b n):=by
 dsimp only [Ph,gm]
 refine ak (λ(y:Int×Int×Int×Int×List aj×Unit)=>y.1=a/\y.2.1=b/\y.2.2.1=n/\0<=y.2.2.2.1/\y.2.2.2.1<=n/\Swp d y.2.2.2.2.1 a b y.2.2.2.1) (λy=>(n-y.2.2.2.1).toNat)
  ⟨rfl,rfl,rfl,by simp,by simp;omega,Sm.refl d,λk hk=>by dsimp only;rw [if_neg ah,if_neg ah]⟩ ?_
 rintro⟨(a':Int),(b':Int),(n':Int),(i:Int),(e:List aj),⟨⟩⟩ hI;dsimp only at hI ⊢;obtain⟨rfl,rfl,rfl,h5,h6,h7,h8⟩:=hI;have hle:=h7.1;simp (disch:=omega) only [RR,List.length_set];refine⟨λh9=> ?_,λh9=> ?_⟩
 .have e1:(e.set (a'+i).toNat ((e).getD (b'+i).toNat default)).set (b'+i).toNat ((e).getD (a'+i).toNat default)=swp e (a'+i) (b'+i):=rfl;rw [e1];refine⟨ah,ah,ah,ah,ah,ah,ah,ah,ah,ah,ah,ah,ah,ah,ah,ah,⟨ah,ah,h7.trans (I4 ah ah ah ah),λk hk=> ?_⟩,ah⟩;rw [uN ah ah ah ah hk];rw [h8 _ ah,h8 _ ah,h8 _ hk]
  repeat' split
  all_goals first | rfl | (exfalso;omega) | (congr 2;omega)
 .have:i=n':=by omega
  subst this;exact⟨h7,h8⟩
def Rot(d d':List aj)(a m b:Int):Prop:=Sm d d'/\∀k,0<=k->((d').getD (k).toNat default)=if a<=k/\k<a+(b-m)then((d).getD (k+(m-a)).toNat default)else if a+(b-m)<=k/\k<b then((d).getD (k- (b-m)).toNat default)else((d).getD (k).toNat default)
def aib{p:Int×Int×Int×List aj×Unit->Bool}{f:Int×Int×Int×List aj×Unit->List aj×Unit}
  (hp:∀(a b n:Int) (d:List aj),d.length<1000000000->0<=a->0<=n->a+n<=b->b+n<=d.length->p (a,b,n,d,())=true) (hf:∀(a b n:Int) (d:List aj),d.length<1000000000->0<=a->0<=n->a+n<=b->b+n<=d.length->Swp d (f (a,b,n,d,())).1 a b n)
  (a m b:Int) (d:List aj) (hl:d.length<1000000000) (h1:0<=a) (h2:a<m) (h3:m<b) (h4:b<=d.length):
  Pj.F (p,f,()) (a,m,b,d,()) (λy=>Rot d y.1 a m b):=by
 dsimp only [Pj,gm];simp (disch:=omega) only [RR]
 refine ak (λ(y:Int×Int×Int×List aj×Unit)=>y.1=m/\0<y.2.1/\0<y.2.2.1/\a<=m-y.2.1/\m+y.2.2.1<=b/\Sm d y.2.2.2.1/\
   ∀k,0<=k->(if a<=k/\k<a+(b-m)then((d).getD (k+(m-a)).toNat default)else if a+(b-m)<=k/\k<b then((d).getD (k- (b-m)).toNat default)else((d).getD (k).toNat default))
    =(if m-y.2.1<=k/\k<m-y.2.1+y.2.2.1 then((y.2.2.2.1).getD (k+y.2.1).toNat default)else if m-y.2.1+y.2.2.1<=k/\k<m+y.2.2.1 then((y.2.2.2.1).getD (k-y.2.2.1).toNat default)else((y.2.2.2.1).getD (k).toNat default))) (λy=>(y.2.1+y.2.2.1).toNat)
  ⟨rfl,by simp;omega,by simp;omega,by simp;omega,by simp;omega,Sm.refl d,λk hk=>by
   dsimp only;rw [show m- (m-a)=a by omega,show m+(b-m)=b by omega]⟩ ?_
 rintro⟨(m':Int),(i:Int),(j:Int),(e:List aj),⟨⟩⟩ hI;dsimp only at hI ⊢;obtain⟨rfl,h5,h6,h7,h8,h9,h10⟩:=hI;have hle:=h9.1;simp (disch:=omega) only [RR];refine⟨λh11=>⟨λh12=> ?_,λh12=> ?_⟩,λh11=> ?_⟩
 .obtain⟨s1,s2⟩:=hf (m'-i) m' j e ah ah ah ah ah;refine⟨hp _ _ _ _ ah ah ah ah ah,⟨ah,ah,ah,ah,h9.trans s1,λk hk=> ?_⟩,ah⟩;rw [h10 k hk];generalize (f (m'-i,m',j,e,())).1=e' at s1 s2 ⊢;by_cases c1:m'-i<=k/\k<m'-i+j
  .rw [if_pos c1,if_neg ah,if_neg ah,s2 k hk,if_pos c1];congr 2;omega
  .rw [if_neg c1];by_cases c2:m'-i+j<=k/\k<m'+j
   .rw [if_pos c2];by_cases c3:m'- (i-j)<=k/\k<m'- (i-j)+j
    .rw [if_pos c3,s2 _ ah,if_neg ah,if_pos ah];congr 2;omega
    .rw [if_neg c3,if_pos ah,s2 _ ah,if_neg ah,if_neg ah]
   .rw [if_neg c2,if_neg ah,if_neg ah,s2 _ hk,if_neg ah,if_neg ah]
 .obtain⟨s1,s2⟩:=hf (m'-i) (m'+j-i) i e ah ah ah ah ah;refine⟨hp _ _ _ _ ah ah ah ah ah,⟨ah,ah,ah,ah,h9.trans s1,λk hk=> ?_⟩,ah⟩;rw [h10 k hk];generalize (f (m'-i,m'+j-i,i,e,())).1=e' at s1 s2 ⊢;by_cases c1:m'-i<=k/\k<m'-i+j
  .rw [if_pos c1];by_cases c3:k<m'-i+(j-i)
   .rw [if_pos ah,s2 _ ah];by_cases c4:k<m'
    .by_cases c5:k+i<m'+j-i
     .rw [if_neg ah,if_neg ah]
     .exfalso;omega
    .by_cases c5:k+i<m'+j-i
     .rw [if_neg ah,if_neg ah]
     .exfalso;omega
   .by_cases c6:k<m'
    .rw [if_neg ah,if_pos ah,s2 _ ah,if_pos ah];congr 2;omega
    .rw [if_neg ah,if_pos ah,s2 _ ah];by_cases c7:k- (j-i)<m'
     .rw [if_pos ah];congr 2;omega
     .exfalso;omega
  .rw [if_neg c1];by_cases c2:m'-i+j<=k/\k<m'+j
   .rw [if_pos c2,if_neg ah,if_neg ah,s2 _ hk,if_neg ah,if_pos ah];congr 2;omega
   .rw [if_neg c2,if_neg ah,if_neg ah,s2 _ hk,if_neg ah,if_neg ah]
 .have hij:i=j:=by omega
  subst hij;obtain⟨s1,s2⟩:=hf (m'-i) m' i e ah ah ah ah ah;refine⟨hp _ _ _ _ ah ah ah ah ah,h9.trans s1,λk hk=> ?_⟩;rw [h10 k hk,s2 k hk]
  repeat' split
  all_goals first | rfl | (exfalso;omega) | (congr 2;omega)
def lS(d:List aj)(a b:Int):Prop:=∀p q,a<=p->p<=q->q<b->le ((d).getD (p).toNat default) ((d).getD (q).toNat default)
def Out(d d':List aj)(a b:Int):Prop:=∀k,0<=k->(k<a\/b<=k)->((d').getD (k).toNat default)=((d).getD (k).toNat default)
structure Y20(pp:aj×aj×Unit->Bool)(ff:aj×aj×Unit->Int×Unit):Prop where
 hp:∀x y,x.atoms.length<1000000000->pp (x,y,())=true
 hf:∀x y,x.atoms.length<1000000000->ff (x,y,())=(dx x.atoms y.atoms,())
theorem aic{p f}(U:Y20 p f)(a b:Int)(d:List aj)(hd:Sh d)(h1:0<=a)(h2:a<=b)(h3:b<=d.length):
  Pf.F (p,f,()) (a,b,d,()) (λy=>Sm d y.1/\Out d y.1 a b/\lS y.1 a b):=by
 have hlen:=hd.1;dsimp only [Pf,gm];simp (disch:=omega) only [RR]
 refine ak (λ(y:Int×Int×Int×List aj×Unit)=>y.1=a/\y.2.1=b/\a+1<=y.2.2.1/\(y.2.2.1<=b\/y.2.2.1=a+1)/\Sm d y.2.2.2.1/\Out d y.2.2.2.1 a b/\lS y.2.2.2.1 a y.2.2.1) (λy=>(b-y.2.2.1).toNat)
  ⟨rfl,rfl,by simp,Or.inr rfl,Sm.refl d,λk _ _=>rfl,λp q h1 h2 h3=>by dsimp only at h3;rw [show p=q by omega];exact le_refl _⟩ ?_
 rintro⟨(a':Int),(b':Int),(i:Int),(e:List aj),⟨⟩⟩ hI;dsimp only at hI ⊢;obtain⟨rfl,rfl,h4,h5,h6,h7,h8⟩:=hI;have hle:=h6.1;simp (disch:=omega) only [RR];refine⟨λh9=> ?_,λh9=>⟨h6,h7,λp q g1 g2 g3=>h8 p q g1 g2 ah⟩⟩
 refine ak (λ(y:Int×Int×Int×Int×List aj×Unit)=>y.1=a'/\y.2.1=b'/\y.2.2.1=i/\a'<=y.2.2.2.1/\y.2.2.2.1<=i/\Sm d y.2.2.2.2.1/\Out d y.2.2.2.2.1 a' b'
   /\(∀p q,a'<=p->p<=q->q<=i->p≠y.2.2.2.1->q≠y.2.2.2.1->le ((y.2.2.2.2.1).getD (p).toNat default) ((y.2.2.2.2.1).getD (q).toNat default))/\(∀q,y.2.2.2.1<q->q<=i->le ((y.2.2.2.2.1).getD (y.2.2.2.1).toNat default) ((y.2.2.2.2.1).getD (q).toNat default))) (λy=>y.2.2.2.1.toNat)
  ⟨rfl,rfl,rfl,by simp;omega,by simp,h6,h7,λp q g1 g2 g3 g4 g5=>h8 p q g1 g2 (by dsimp only at g3 g5;omega),λq g1 g2=>by dsimp only at g1;omega⟩ ?_
 rintro⟨(a'':Int),(b'':Int),(i':Int),(j:Int),(e':List aj),⟨⟩⟩ hI;dsimp only at hI ⊢;obtain⟨rfl,rfl,rfl,h10,h11,h12,h13,h14,h15⟩:=hI;have hle':=h12.1;have hs:=h12.sh hd;simp (disch:=omega) only [RR,List.length_set,U.hp _ _ (hs.at _),U.hf _ _ (hs.at _)];have e1:(e'.set j.toNat ((e').getD (j-1).toNat default)).set (j-1).toNat ((e').getD (j).toNat default)=swp e' j (j-1):=rfl;rw [e1]
 repeat' (refine And.intro ?_ ?_)
 all_goals try omega
 .intro ⟨g1,g2⟩
  repeat' (refine And.intro ?_ ?_)
  all_goals try omega
  .exact h12.trans (I4 ah ah ah ah)
  .intro k hk hk2;rw [uN ah ah ah ah hk,if_neg ah,if_neg ah];exact h13 k hk hk2
  .intro p q k1 k2 k3 k4 k5;rw [uN ah ah ah ah ah,if_neg k4,uN ah ah ah ah ah,if_neg k5];by_cases c1:p=j
   .rw [if_pos c1];by_cases c2:q=j
    .rw [if_pos c2];exact le_refl _
    .rw [if_neg c2];exact h14 _ _ ah ah ah ah ah
   .rw [if_neg c1];by_cases c2:q=j
    .rw [if_pos c2];exact h14 _ _ ah ah ah ah ah
    .rw [if_neg c2];exact h14 _ _ ah ah ah ah ah
  .intro q k1 k2;rw [uN ah ah ah ah ah,if_pos rfl,uN ah ah ah ah ah,if_neg ah];by_cases c2:q=j
   .rw [if_pos c2];exact le_of_lt g2
   .rw [if_neg c2];exact h15 q ah k2
 .intro g;refine⟨⟨ah,ah,h12,h13,?_⟩,ah⟩;have hj:a''<j->le ((e').getD (j-1).toNat default) ((e').getD (j).toNat default):=λc=>qz (by
   simp only [decide_eq_true c,Bool.true_and,decide_eq_false_iff_not]at g;exact g)
  intro p q k1 k2 k3;by_cases c1:p=j
  .subst c1;by_cases c2:q=p
   .rw [c2];exact le_refl _
   .exact h15 q ah ah
  .by_cases c2:q=j
   .subst c2;by_cases c3:p=q-1
    .rw [c3];exact hj ah
    .exact(h14 p (q-1) k1 ah ah c1 ah).trans (hj ah)
   .exact h14 p q k1 k2 ah c1 c2
def half{x:Int}(h1:0<=x)(h2:x<=4000000000):IntKind.i64.wrap (gX .shr .u64 (IntKind.u64.wrap x) 1)=x/2:=by
 have e1:IntKind.u64.wrap x=x:=by simp [IntKind.wrap,IntKind.bits,IntKind.signed];omega
 have e2:gX .shr .u64 x 1=x/2:=by
  show x.fdiv (2^ (min (Int.toNat 1) IntKind.u64.bits))=x/2;rw [show(2:Int)^ (min (Int.toNat 1) IntKind.u64.bits)=2 by decide,Int.fdiv_eq_ediv_of_nonneg _ ah]
 rw [e1,e2,w64 ah ah]
structure Mrg(d d':List aj)(a b:Int):Prop where
 sm:Sm d d'
 out:Out d d' a b
 ins:∀k,a<=k->k<b->∃j,a<=j/\j<b/\((d').getD (k).toNat default)=((d).getD (j).toNat default)
 srt:lS d' a b
structure Bo(a m b:Int)(d:List aj):Prop where
 sh:Sh d
 h1:0<=a
 h2:a<m
 h3:m<b
 h4:b<=d.length
 s1:lS d a m
 s2:lS d m b
def Bp{P Q:Prop}[Decidable P][Decidable Q]:((decide P&&decide Q)=false)↔¬(P/\Q):=by by_cases h1:P<;>by_cases h2:Q<;>simp [h1,h2]
def KR{p2:Int×Int×Int×List aj×Unit->Bool}{f2:Int×Int×Int×List aj×Unit->List aj×Unit}
    (hp2:∀(a m b:Int) (d:List aj),d.length<1000000000->0<=a->a<m->m<b->b<=d.length->p2 (a,m,b,d,())=true) (hf2:∀(a m b:Int) (d:List aj),d.length<1000000000->0<=a->a<m->m<b->b<=d.length->Rot d (f2 (a,m,b,d,())).1 a m b)
    {p3:Int×Int×Int×List aj×Unit->Bool} {f3:Int×Int×Int×List aj×Unit->List aj×Unit}
    (K:Int) (hp3:∀(a m b:Int) (d:List aj),Bo a m b d->b-a<K->p3 (a,m,b,d,())=true) (hf3:∀(a m b:Int) (d:List aj),Bo a m b d->b-a<K->Mrg d (f3 (a,m,b,d,())).1 a b)
    (a m b mid i E:Int) (d:List aj) (hd:Bo a m b d) (hK:b-a<=K) (hmid:mid=(a+b)/2) (hE:E=mid+m-i)
    (b1:a<=i) (b2:i<=m) (b3:m<=E) (b4:E<=b) (b5:a<mid) (b6:mid<b)
    (fA:i=a\/E=b\/le ((d).getD (i-1).toNat default) ((d).getD (E).toNat default)) (fB:E=m\/i=m\/le ((d).getD (E-1).toNat default) ((d).getD (i).toNat default)):
      (i<m/\m<E->
          p2 (i,m,E,d,())=true/\
            (a<i/\i<mid->
                p3 (a,i,mid,(f2 (i,m,E,d,())).fst,())=true/\
                  (mid<E/\E<b->
                      p3 (mid,E,b,(f3 (a,i,mid,(f2 (i,m,E,d,())).fst,())).fst,())=true/\
                        Mrg d (f3 (mid,E,b,(f3 (a,i,mid,(f2 (i,m,E,d,())).fst,())).fst,())).fst
                          a b)/\
                    ((decide (mid<E)&&decide (E<b))=false->
                      Mrg d (f3 (a,i,mid,(f2 (i,m,E,d,())).fst,())).fst a b))/\
              ((decide (a<i)&&decide (i<mid))=false->
                (mid<E/\E<b->
                    p3 (mid,E,b,(f2 (i,m,E,d,())).fst,())=true/\
                      Mrg d (f3 (mid,E,b,(f2 (i,m,E,d,())).fst,())).fst a b)/\
                  ((decide (mid<E)&&decide (E<b))=false->
                    Mrg d (f2 (i,m,E,d,())).fst a b)))/\
        ((decide (i<m)&&decide (m<E))=false->
          (a<i/\i<mid->
              p3 (a,i,mid,d,())=true/\
                (mid<E/\E<b->
                    p3 (mid,E,b,(f3 (a,i,mid,d,())).fst,())=true/\
                      Mrg d (f3 (mid,E,b,(f3 (a,i,mid,d,())).fst,())).fst a b)/\
                  ((decide (mid<E)&&decide (E<b))=false->
                    Mrg d (f3 (a,i,mid,d,())).fst a b))/\
            ((decide (a<i)&&decide (i<mid))=false->
              (mid<E/\E<b->
                  p3 (mid,E,b,d,())=true/\Mrg d (f3 (mid,E,b,d,())).fst a b)/\
                ((decide (mid<E)&&decide (E<b))=false->Mrg d d a b))):=by
  obtain⟨hs,h1,h2,h3,h4,hA,hB⟩:=hd;have hlen:=hs.1;have cross:∀x y,((a<=x/\x<i)\/(m<=x/\x<E))->((i<=y/\y<m)\/(E<=y/\y<b))->le ((d).getD (x).toNat default) ((d).getD (y).toNat default):=by
    rintro x y (hx | hx) (hy | hy)
    · exact hA x y hx.1 ah hy.2
    · rcases fA with fA | fA | fA
      · omega
      · omega
      · exact((hA x (i-1) hx.1 ah ah).trans fA).trans (hB E y b3 hy.1 hy.2)
    · rcases fB with fB | fB | fB
      · omega
      · omega
      · exact((hB x (E-1) hx.1 ah ah).trans fB).trans (hA i y b1 hy.1 hy.2)
    · exact hB x y hx.1 ah hy.2
  have aow : ∀ e, Rot d e i m E -> ∀ R : Prop, R = Mrg d e a b -> (a < i /\ i < mid ->
              p3 (a,i,mid,e,())=true/\
                (mid<E/\E<b->
                    p3 (mid,E,b,(f3 (a,i,mid,e,())).fst,())=true/\
                      Mrg d (f3 (mid,E,b,(f3 (a,i,mid,e,())).fst,())).fst a b)/\
                  ((decide (mid<E)&&decide (E<b))=false->
                    Mrg d (f3 (a,i,mid,e,())).fst a b))/\
            ((decide (a<i)&&decide (i<mid))=false->
              (mid<E/\E<b->
                  p3 (mid,E,b,e,())=true/\Mrg d (f3 (mid,E,b,e,())).fst a b)/\
                ((decide (mid<E)&&decide (E<b))=false->R)):=by
    rintro e ⟨r1,r2⟩ R rfl;have hle:=r1.1;have hes:=r1.sh hs;have lo:∀k,a<=k->k<mid->∃x,((a<=x/\x<i)\/(m<=x/\x<E))/\((e).getD (k).toNat default)=((d).getD (x).toNat default):=by
      intro k k1 k2;rw [r2 k ah];by_cases c1:i<=k/\k<i+(E-m)
      · rw [if_pos c1];exact⟨k+(m-i),ah,rfl⟩
      · rw [if_neg c1,if_neg ah];exact⟨k,ah,rfl⟩
    have hi:∀k,mid<=k->k<b->∃x,((i<=x/\x<m)\/(E<=x/\x<b))/\((e).getD (k).toNat default)=((d).getD (x).toNat default):=by
      intro k k1 k2;rw [r2 k ah,if_neg ah];by_cases c1:i+(E-m)<=k/\k<E
      · rw [if_pos c1];exact⟨k- (E-m),ah,rfl⟩
      · rw [if_neg c1];exact⟨k,ah,rfl⟩
    have S1:lS e a i:=by
      intro p q q1 q2 q3;rw [r2 p ah,r2 q ah,if_neg ah,if_neg ah,if_neg ah,if_neg ah];exact hA p q q1 q2 ah
    have S2:lS e i mid:=by
      intro p q q1 q2 q3;rw [r2 p ah,r2 q ah,if_pos ah,if_pos ah];exact hB _ _ ah ah ah
    have S3:lS e mid E:=by
      intro p q q1 q2 q3;rw [r2 p ah,r2 q ah,if_neg ah,if_pos ah,if_neg ah,if_pos ah];exact hA _ _ ah ah ah
    have S4:lS e E b:=by
      intro p q q1 q2 q3;rw [r2 p ah,r2 q ah,if_neg ah,if_neg ah,if_neg ah,if_neg ah];exact hB _ _ ah ah ah
    have fin:∀e1 e2,Mrg e e1 a mid->Mrg e1 e2 mid b->Mrg d e2 a b:=by
      intro e1 e2 m1 m2;refine⟨(r1.trans m1.sm).trans m2.sm,λk k1 k2=> ?_,λk k1 k2=> ?_,λp q q1 q2 q3=> ?_⟩
      · rw [m2.out k k1 ah,m1.out k k1 ah,r2 k k1,if_neg ah,if_neg ah]
      · by_cases c:k<mid
        · rw [m2.out k ah ah];obtain⟨j,j1,j2,j3⟩:=m1.ins k k1 c;obtain⟨x,x1,x2⟩:=lo j j1 j2;rw [j3,x2];exact⟨x,ah,ah,rfl⟩
        · obtain⟨j,j1,j2,j3⟩:=m2.ins k ah k2;rw [j3,m1.out j ah ah];obtain⟨x,x1,x2⟩:=hi j j1 j2;rw [x2];exact⟨x,ah,ah,rfl⟩
      · by_cases c:q<mid
        · rw [m2.out p ah ah,m2.out q ah ah];exact m1.srt p q q1 q2 c
        · by_cases c2:mid<=p
          · exact m2.srt p q c2 q2 q3
          · rw [m2.out p ah ah];obtain⟨j,j1,j2,j3⟩:=m1.ins p q1 ah;obtain⟨x,x1,x2⟩:=lo j j1 j2;obtain⟨j',j1',j2',j3'⟩:=m2.ins q ah q3;obtain⟨x',x1',x2'⟩:=hi j' j1' j2';rw [j3,x2,j3',m1.out j' ah ah,x2'];exact cross x x' x1 x1'
    have triv:∀e' a' b',lS e' a' b'->Mrg e' e' a' b':=λe' a' b' h=>⟨Sm.refl _,λ_ _ _=>rfl,λk k1 k2=>⟨k,k1,k2,rfl⟩,h⟩
    have last : ∀ e1, Mrg e e1 a mid -> (mid < E /\ E < b ->
                    p3 (mid,E,b,e1,())=true/\
                      Mrg d (f3 (mid,E,b,e1,())).fst a b)/\
                  ((decide (mid<E)&&decide (E<b))=false->
                    Mrg d e1 a b):=by
      intro e1 m1;have hle1:=m1.sm.1;have O:∀a' b',mid<=a'->b'<=b->lS e a' b'->lS e1 a' b':=λa' b' g1 g2 g p q q1 q2 q3=>by
        rw [m1.out p ah ah,m1.out q ah ah];exact g p q q1 q2 q3
      refine⟨λc=> ?_,λc=> ?_⟩
      · have pre:Bo mid E b e1:=⟨m1.sm.sh hes,ah,c.1,c.2,ah,O _ _ ah ah S3,O _ _ ah ah S4⟩;exact⟨hp3 _ _ _ _ pre ah,fin _ _ m1 (hf3 _ _ _ _ pre ah)⟩
      · rw [Bp]at c;refine fin _ _ m1 (triv _ _ _ ?_);by_cases c2:mid<E
        · have:E=b:=by omega
          subst this;exact O _ _ ah ah S3
        · have:E=mid:=by omega
          rw [this]at S4;exact O _ _ ah ah S4
    refine⟨λc=> ?_,λc=> ?_⟩
    · have pre:Bo a i mid e:=⟨hes,ah,c.1,c.2,ah,S1,S2⟩;exact⟨hp3 _ _ _ _ pre ah,last _ (hf3 _ _ _ _ pre ah)⟩
    · rw [Bp]at c;refine last e (triv _ _ _ ?_);by_cases c2:a<i
      · have:i=mid:=by omega
        rw [<-this];exact S1
      · have:i=a:=by omega
        rw [this]at S2;exact S2
  refine⟨λc=>⟨hp2 _ _ _ _ hlen ah c.1 c.2 ah,aow _ (hf2 _ _ _ _ hlen ah c.1 c.2 ah) _ rfl⟩,λc=>aow d ?_ _ rfl⟩;rw [Bp]at c;refine⟨Sm.refl _,λk k1=> ?_⟩
  repeat' split
  all_goals first | rfl | (exfalso;omega) | (congr 2;omega)
theorem aie{p f}(U:Y20 p f){p2:Int×Int×Int×List aj×Unit->Bool}{f2:Int×Int×Int×List aj×Unit->List aj×Unit}(hp2:∀(a m b:Int) (d:List aj),d.length<1000000000->0<=a->a<m->m<b->b<=d.length->p2 (a,m,b,d,())=true)(hf2:∀(a m b:Int) (d:List aj),d.length<1000000000->0<=a->a<m->m<b->b<=d.length->Rot d (f2 (a,m,b,d,())).1 a m b){p3:Int×Int×Int×List aj×Unit->Bool}{f3:Int×Int×Int×List aj×Unit->List aj×Unit}(K:Int)(hp3:∀(a m b:Int) (d:List aj),Bo a m b d->b-a<K->p3 (a,m,b,d,())=true)(hf3:∀(a m b:Int) (d:List aj),Bo a m b d->b-a<K->Mrg d (f3 (a,m,b,d,())).1 a b)(a m b:Int)(d:List aj)(hd:Bo a m b d)(hK:b-a<=K):
  ET.F (p,f,p2,f2,p3,f3,()) (a,m,b,d,()) (λy=>Mrg d y.1 a b):=by
 obtain⟨hs,h1,h2,h3,h4,hA,hB⟩:=hd;have hlen:=hs.1;dsimp only [ET,gm];simp (disch:=omega) only [RR];refine⟨λh5=> ?_,λh5=>⟨λh6=> ?_,λh6=> ?_⟩⟩
 ·
  have hm:m=a+1:=by omega
  subst hm
  refine ak (λ(y:Int×Int×Int×List aj×Unit)=>y.1=a/\y.2.2.2.1=d/\a+1<=y.2.1/\y.2.1<=y.2.2.1/\y.2.2.1<=b/\(∀q,a+1<=q->q<y.2.1->dx ((d).getD (q).toNat default).atoms ((d).getD (a).toNat default).atoms<0)/\(∀q,y.2.2.1<=q->q<b->¬dx ((d).getD (q).toNat default).atoms ((d).getD (a).toNat default).atoms<0)) (λy=>(y.2.2.1-y.2.1).toNat)
   ⟨rfl,rfl,by simp,by simp;omega,by simp,λq g1 g2=>by dsimp only at g2;omega,λq g1 g2=>by dsimp only at g1;omega⟩ ?_
  rintro⟨(a':Int),(i:Int),(j:Int),(d':List aj),⟨⟩⟩ hI;dsimp only at hI ⊢;obtain⟨rfl,rfl,g1,g2,g3,g4,g5⟩:=hI;simp (disch:=omega) only [RR,half,U.hp _ _ (hs.at _),U.hf _ _ (hs.at _)];refine⟨λg6=>⟨ah,ah,ah,ah,ah,ah,ah,ah,ah,λg7=>⟨⟨ah,ah,ah,λq k1 k2=> ?_,g5⟩,ah⟩,λg7=>⟨⟨ah,ah,ah,g4,λq k1 k2=> ?_⟩,ah⟩⟩,λg6=> ?_⟩
  .exact dH (hB q ((i+j)/2) k1 ah ah) g7
  .intro g8;exact g7 (dH (hB ((i+j)/2) q ah ah k2) g8)
  have hij:i=j:=by omega
  subst hij
  refine ak (λ(y:Int×Int×List aj×Unit)=>y.1=i/\a'<=y.2.1/\y.2.1<=i-1/\Sm d' y.2.2.1/\(∀k,0<=k->((y.2.2.1).getD (k).toNat default)=if a'<=k/\k<y.2.1 then((d').getD (k+1).toNat default)else if k=y.2.1 then((d').getD (a').toNat default)else((d').getD (k).toNat default))) (λy=>(i-y.2.1).toNat)
   ⟨rfl,by simp,by simp;omega,Sm.refl _,λk hk=>by dsimp only;rw [if_neg ah];split;(· congr 2);(· rfl)⟩ ?_
  rintro⟨(i':Int),(k:Int),(e:List aj),⟨⟩⟩ hI;dsimp only at hI ⊢;obtain⟨rfl,k1,k2,k3,k4⟩:=hI;have hle:=k3.1;simp (disch:=omega) only [RR,List.length_set];have e1:(e.set k.toNat ((e).getD (k+1).toNat default)).set (k+1).toNat ((e).getD (k).toNat default)=swp e k (k+1):=rfl;rw [e1];refine⟨λg7=>⟨ah,ah,ah,ah,ah,ah,ah,ah,ah,ah,ah,ah,ah,ah,ah,ah,⟨ah,ah,k3.trans (I4 ah ah ah ah),λq hq=> ?_⟩,ah⟩,λg7=> ?_⟩
  .rw [uN ah ah ah ah hq,k4 _ ah,k4 _ ah,k4 _ hq]
   repeat' split
   all_goals first | rfl | (exfalso;omega) | (congr 2;omega)
  .have hk:k=i'-1:=by omega
   subst hk;refine⟨k3,λq hq hq2=> ?_,λq hq hq2=> ?_,λq r q1 q2 q3=> ?_⟩
   .rw [k4 q hq,if_neg ah,if_neg ah]
   .rw [k4 q ah]
    repeat' split
    .exact⟨q+1,ah,ah,rfl⟩
    .exact⟨a',ah,ah,rfl⟩
    .exact⟨q,ah,ah,rfl⟩
   .rw [k4 q ah,k4 r ah];by_cases c1:a'<=q/\q<i'-1
    .rw [if_pos c1];by_cases c2:a'<=r/\r<i'-1
     .rw [if_pos c2];exact hB _ _ ah ah ah
     .rw [if_neg c2];by_cases c3:r=i'-1
      .rw [if_pos c3];exact le_of_lt (g4 _ ah ah)
      .rw [if_neg c3];exact hB _ _ ah ah ah
    .rw [if_neg c1,if_neg (by omega:¬(a'<=r/\r<i'-1))];by_cases c3:q=i'-1
     .rw [if_pos c3];by_cases c4:r=i'-1
      .rw [if_pos c4];exact le_refl _
      .rw [if_neg c4];exact qz (g5 r ah ah)
     .rw [if_neg c3,if_neg ah];exact hB _ _ ah ah ah
 ·
  have hm:b=m+1:=by omega
  subst hm
  refine ak (λ(y:Int×Int×Int×List aj×Unit)=>y.1=m/\y.2.2.2.1=d/\a<=y.2.1/\y.2.1<=y.2.2.1/\y.2.2.1<=m/\(∀q,a<=q->q<y.2.1->¬dx ((d).getD (m).toNat default).atoms ((d).getD (q).toNat default).atoms<0)/\(∀q,y.2.2.1<=q->q<m->dx ((d).getD (m).toNat default).atoms ((d).getD (q).toNat default).atoms<0)) (λy=>(y.2.2.1-y.2.1).toNat)
   ⟨rfl,rfl,by simp,by simp;omega,by simp,λq g1 g2=>by dsimp only at g2;omega,λq g1 g2=>by dsimp only at g1;omega⟩ ?_
  rintro⟨(m':Int),(i:Int),(j:Int),(d':List aj),⟨⟩⟩ hI;dsimp only at hI ⊢;obtain⟨rfl,rfl,g1,g2,g3,g4,g5⟩:=hI;simp (disch:=omega) only [RR,half,U.hp _ _ (hs.at _),U.hf _ _ (hs.at _)];refine⟨λg6=>⟨ah,ah,ah,ah,ah,ah,ah,ah,ah,λg7=>⟨⟨ah,ah,ah,λq k1 k2=> ?_,g5⟩,ah⟩,λg7=>⟨⟨ah,ah,ah,g4,λq k1 k2=> ?_⟩,ah⟩⟩,λg6=> ?_⟩
  .intro g8;have:=hA q ((i+j)/2) k1 ah ah;apply g7;have h7:=jT g8 this;exact h7
  .exact jT g7 (hA ((i+j)/2) q ah ah k2)
  have hij:i=j:=by omega
  subst hij
  refine ak (λ(y:Int×Int×List aj×Unit)=>y.1=i/\i<=y.2.1/\y.2.1<=m'/\Sm d' y.2.2.1/\(∀k,0<=k->((y.2.2.1).getD (k).toNat default)=if y.2.1<k/\k<=m' then((d').getD (k-1).toNat default)else if k=y.2.1 then((d').getD (m').toNat default)else((d').getD (k).toNat default))) (λy=>(y.2.1-i).toNat)
   ⟨rfl,by simp;omega,by simp,Sm.refl _,λk hk=>by dsimp only;rw [if_neg ah];split;(· congr 2);(· rfl)⟩ ?_
  rintro⟨(i':Int),(k:Int),(e:List aj),⟨⟩⟩ hI;dsimp only at hI ⊢;obtain⟨rfl,k1,k2,k3,k4⟩:=hI;have hle:=k3.1;simp (disch:=omega) only [RR,List.length_set];have e1:(e.set k.toNat ((e).getD (k-1).toNat default)).set (k-1).toNat ((e).getD (k).toNat default)=swp e k (k-1):=rfl;rw [e1];refine⟨λg7=>⟨ah,ah,ah,ah,ah,ah,ah,ah,ah,ah,ah,ah,ah,ah,ah,ah,⟨ah,ah,k3.trans (I4 ah ah ah ah),λq hq=> ?_⟩,ah⟩,λg7=> ?_⟩
  .rw [uN ah ah ah ah hq,k4 _ ah,k4 _ ah,k4 _ hq]
   repeat' split
   all_goals first | rfl | (exfalso;omega) | (congr 2;omega)
  .have hk:k=i':=by omega
   subst hk;refine⟨k3,λq hq hq2=> ?_,λq hq hq2=> ?_,λq r q1 q2 q3=> ?_⟩
   .rw [k4 q hq,if_neg ah,if_neg ah]
   .rw [k4 q ah]
    repeat' split
    .exact⟨q-1,ah,ah,rfl⟩
    .exact⟨m',ah,ah,rfl⟩
    .exact⟨q,ah,ah,rfl⟩
   .rw [k4 q ah,k4 r ah];by_cases c1:k<q/\q<=m'
    .rw [if_pos c1,if_pos ah];exact hA _ _ ah ah ah
    .rw [if_neg c1];by_cases c3:q=k
     .rw [if_pos c3];by_cases c2:k<r/\r<=m'
      .rw [if_pos c2];exact le_of_lt (g5 _ ah ah)
      .rw [if_neg c2,if_pos ah];exact le_refl _
     .rw [if_neg c3];by_cases c2:k<r/\r<=m'
      .rw [if_pos c2];exact hA _ _ ah ah ah
      .rw [if_neg c2];by_cases c4:r=k
       .rw [if_pos c4];exact qz (g4 _ ah ah)
       .rw [if_neg c4];exact hA _ _ ah ah ah
 ·
  simp (disch:=omega) only [RR,half];refine⟨ah,λh7=> ?_,λh7=> ?_⟩
  .refine ak (λ(y:Int×Int×Int×Int×Int×Int×Int×Int×List aj×Unit)=>y.1=a/\y.2.1=m/\y.2.2.1=b/\y.2.2.2.1=(a+b)/2/\y.2.2.2.2.1=(a+b)/2+m/\y.2.2.2.2.2.2.2.1=(a+b)/2+m-1/\y.2.2.2.2.2.2.2.2.1=d/\(a+b)/2+m-b<=y.2.2.2.2.2.1/\y.2.2.2.2.2.1<=y.2.2.2.2.2.2.1/\y.2.2.2.2.2.2.1<=(a+b)/2
     /\(∀q,(a+b)/2+m-b<=q->q<y.2.2.2.2.2.1->¬dx ((d).getD ((a+b)/2+m-1-q).toNat default).atoms ((d).getD (q).toNat default).atoms<0)/\(∀q,y.2.2.2.2.2.2.1<=q->q< (a+b)/2->dx ((d).getD ((a+b)/2+m-1-q).toNat default).atoms ((d).getD (q).toNat default).atoms<0)) (λy=>(y.2.2.2.2.2.2.1-y.2.2.2.2.2.1).toNat)
    ⟨rfl,rfl,rfl,rfl,rfl,rfl,rfl,by simp,by simp;omega,by simp,λq g1 g2=>by dsimp only at g2;omega,λq g1 g2=>by dsimp only at g1;omega⟩ ?_
   rintro⟨(a':Int),(m':Int),(b':Int),(mid:Int),(n:Int),(i:Int),(j:Int),(r:Int),(d':List aj),⟨⟩⟩ hI;dsimp only at hI ⊢;obtain⟨rfl,rfl,rfl,hmid,hn,hr,rfl,g1,g2,g3,g4,g5⟩:=hI;rw [<-hmid]at g1 g3 g4 g5 h7;simp (disch:=omega) only [RR,half,U.hp _ _ (hs.at _),U.hf _ _ (hs.at _)];refine⟨λg6=>⟨ah,ah,ah,ah,ah,ah,ah,ah,ah,λg7=>⟨⟨hmid,hn,hr,ah,ah,ah,λq k1 k2=> ?_,by rw [<-hmid];exact g5⟩,ah⟩,λg7=>⟨⟨hmid,hn,hr,ah,ah,ah,by rw [<-hmid];exact g4,λq k1 k2=> ?_⟩,ah⟩⟩,λg6=> ?_⟩
   .rw [<-hmid]at k1 ⊢;intro g8;apply g7;rw [hr,<-hmid];exact dH (hB _ _ ah ah ah) (jT g8 (hA _ _ ah ah ah))
   .rw [<-hmid]at k2 ⊢;rw [hr,<-hmid]at g7;exact dH (hB _ _ ah ah ah) (jT g7 (hA _ _ ah ah ah))
   .have hij:i=j:=by omega
    subst hij;refine KR hp2 hf2 K hp3 hf3 a' m' b' mid i (n-i) d' ⟨hs,h1,h2,h3,h4,hA,hB⟩ hK hmid ah ah ah ah ah ah ah ?_ ?_
    .by_cases c:i=mid+m'-b'
     .first | exact Or.inl ah | exact Or.inr (Or.inl ah)
     .refine Or.inr (Or.inr ?_);have:=g4 (i-1) ah ah;rw [show mid+m'-1- (i-1)=n-i by omega]at this;exact qz this
    .by_cases c:i=mid
     .first | exact Or.inl ah | exact Or.inr (Or.inl ah)
     .refine Or.inr (Or.inr ?_);have:=g5 i ah ah;rw [show mid+m'-1-i=n-i-1 by omega]at this;exact le_of_lt this
  .refine ak (λ(y:Int×Int×Int×Int×Int×Int×Int×Int×List aj×Unit)=>y.1=a/\y.2.1=m/\y.2.2.1=b/\y.2.2.2.1=(a+b)/2/\y.2.2.2.2.1=(a+b)/2+m/\y.2.2.2.2.2.2.2.1=(a+b)/2+m-1/\y.2.2.2.2.2.2.2.2.1=d/\a<=y.2.2.2.2.2.1/\y.2.2.2.2.2.1<=y.2.2.2.2.2.2.1/\y.2.2.2.2.2.2.1<=m
     /\(∀q,a<=q->q<y.2.2.2.2.2.1->¬dx ((d).getD ((a+b)/2+m-1-q).toNat default).atoms ((d).getD (q).toNat default).atoms<0)/\(∀q,y.2.2.2.2.2.2.1<=q->q<m->dx ((d).getD ((a+b)/2+m-1-q).toNat default).atoms ((d).getD (q).toNat default).atoms<0)) (λy=>(y.2.2.2.2.2.2.1-y.2.2.2.2.2.1).toNat)
    ⟨rfl,rfl,rfl,rfl,rfl,rfl,rfl,by simp,by simp;omega,by simp,λq g1 g2=>by dsimp only at g2;omega,λq g1 g2=>by dsimp only at g1;omega⟩ ?_
   rintro⟨(a':Int),(m':Int),(b':Int),(mid:Int),(n:Int),(i:Int),(j:Int),(r:Int),(d':List aj),⟨⟩⟩ hI;dsimp only at hI ⊢;obtain⟨rfl,rfl,rfl,hmid,hn,hr,rfl,g1,g2,g3,g4,g5⟩:=hI;rw [<-hmid]at g4 g5 h7;simp (disch:=omega) only [RR,half,U.hp _ _ (hs.at _),U.hf _ _ (hs.at _)];refine⟨λg6=>⟨ah,ah,ah,ah,ah,ah,ah,ah,ah,λg7=>⟨⟨hmid,hn,hr,ah,ah,ah,λq k1 k2=> ?_,by rw [<-hmid];exact g5⟩,ah⟩,λg7=>⟨⟨hmid,hn,hr,ah,ah,ah,by rw [<-hmid];exact g4,λq k1 k2=> ?_⟩,ah⟩⟩,λg6=> ?_⟩
   .rw [<-hmid];intro g8;apply g7;rw [hr,<-hmid];exact dH (hB _ _ ah ah ah) (jT g8 (hA _ _ ah ah ah))
   .rw [<-hmid];rw [hr,<-hmid]at g7;exact dH (hB _ _ ah ah ah) (jT g7 (hA _ _ ah ah ah))
   .have hij:i=j:=by omega
    subst hij;refine KR hp2 hf2 K hp3 hf3 a' m' b' mid i (n-i) d' ⟨hs,h1,h2,h3,h4,hA,hB⟩ hK hmid ah ah ah ah ah ah ah ?_ ?_
    .by_cases c:i=a'
     .first | exact Or.inl ah | exact Or.inr (Or.inl ah)
     .refine Or.inr (Or.inr ?_);have:=g4 (i-1) ah ah;rw [show mid+m'-1- (i-1)=n-i by omega]at this;exact qz this
    .by_cases c:i=m'
     .first | exact Or.inl ah | exact Or.inr (Or.inl ah)
     .refine Or.inr (Or.inr ?_);have:=g5 i ah ah;rw [show mid+m'-1-i=n-i-1 by omega]at this;exact le_of_lt this
def wz{s a x:Int}(h:s ∣ a)(h1:a<x)(h2:x<a+s):¬s ∣ x:=λh3=>by
 have:=Int.le_of_dvd ah (Int.dvd_sub h3 h);omega
def lS.adj{d:List aj}{a b:Int}(h:∀p,a<=p->p+1<b->le ((d).getD (p).toNat default) ((d).getD (p+1).toNat default)):lS d a b:=by
 intro p q h1 h2 h3;obtain⟨n,hn⟩:∃n:Nat,q=p+n:=⟨(q-p).toNat,ah⟩;subst hn
 clear h2
 induction n with
 | zero=>rw [show p+((0:Nat):Int)=p by omega];exact le_refl _
 | succ n ih=>
  have:=h (p+n) ah ah;rw [show p+((n+1:Nat):Int)=p+n+1 by omega];exact(ih ah).trans this
def lS.at1{d:List aj}{a b p:Int}(h:lS d a b)(h1:a<=p)(h2:p+1<b):le ((d).getD (p).toNat default) ((d).getD (p+1).toNat default):=h p (p+1) h1 ah h2
def Bl(d:List aj)(s n:Int):Prop:=∀p,0<=p->p+1<n->¬s ∣ p+1->le ((d).getD (p).toNat default) ((d).getD (p+1).toNat default)
def aif{p:Int×Int×List aj×Unit->Bool}{f:Int×Int×List aj×Unit->List aj×Unit}
  (hp:∀(a b:Int) (d:List aj),Sh d->0<=a->a<=b->b<=d.length->p (a,b,d,())=true) (hf:∀(a b:Int) (d:List aj),Sh d->0<=a->a<=b->b<=d.length->Sm d (f (a,b,d,())).1/\Out d (f (a,b,d,())).1 a b/\lS (f (a,b,d,())).1 a b)
  {p3:Int×Int×Int×List aj×Unit->Bool} {f3:Int×Int×Int×List aj×Unit->List aj×Unit}
  (hp3:∀(a m b:Int) (d:List aj),Bo a m b d->p3 (a,m,b,d,())=true) (hf3:∀(a m b:Int) (d:List aj),Bo a m b d->Mrg d (f3 (a,m,b,d,())).1 a b)
  (n:Int) (d:List aj) (hd:Sh d) (hn:n=d.length):
  Pm.F (p,f,p3,f3,()) (n,d,()) (λy=>Sm d y.1/\lS y.1 0 n):=by
 have hlen:=hd.1;dsimp only [Pm,gm];simp (disch:=omega) only [RR]
 refine ak (λ(y:Int×Int×Int×Int×List aj×Unit)=>y.1=n/\y.2.1=20/\0<=y.2.2.1/\y.2.2.1<=n/\(20:Int) ∣ y.2.2.1/\y.2.2.2.1=y.2.2.1+20/\Sm d y.2.2.2.2.1/\Bl y.2.2.2.2.1 20 y.2.2.1) (λy=>(n+20-y.2.2.2.1).toNat)
  ⟨rfl,rfl,by simp,by simp;omega,⟨0,by simp⟩,rfl,Sm.refl _,λp h1 h2=>by dsimp only at h2;omega⟩ ?_
 rintro⟨(n':Int),(s:Int),(a:Int),(b:Int),(e:List aj),⟨⟩⟩ hI;dsimp only at hI ⊢;obtain⟨rfl,rfl,h1,h2,h3,rfl,h5,h6⟩:=hI;have hle:=h5.1;have hs:=h5.sh hd;simp (disch:=omega) only [RR];have bl:∀a c (e e':List aj),0<=a->(20:Int) ∣ a->c<=a+20->Bl e 20 a->Out e e' a c->lS e' a c->Bl e' 20 c:=by
  intro a c e e' c0 c1 c2 c3 c4 c5 q q1 q2 q3;by_cases k1:q+1<a
  .rw [c4 q q1 ah,c4 (q+1) ah ah];exact c3 q q1 k1 q3
  .exact c5.at1 ah q2
 refine⟨λh7=> ?_,λh7=> ?_⟩
 .obtain⟨t1,t2,t3⟩:=hf a (a+20) e hs h1 ah ah;exact⟨hp a (a+20) e hs h1 ah ah,⟨ah,ah,ah,h5.trans t1,bl a (a+20) _ _ h1 h3 ah h6 t2 t3⟩,ah⟩
 obtain⟨t1,t2,t3⟩:=hf a n' e hs h1 ah ah;refine⟨hp a n' e hs h1 ah ah,?_⟩;have t4:=bl a n' _ _ h1 h3 ah h6 t2 t3;generalize (f (a,n',e,())).1=e2 at t1 t2 t3 t4 ⊢;have u1:=h5.trans t1
 clear t1 t2 t3 h5 h6
 refine ak (λ(y:Int×Int×List aj×Unit)=>y.1=n'/\0<y.2.1/\(y.2.1<=20\/y.2.1<=2*n')/\Sm d y.2.2.1/\Bl y.2.2.1 y.2.1 n') (λy=>(n'-y.2.1).toNat)
  ⟨rfl,by simp,Or.inl (by simp),u1,t4⟩ ?_
 rintro⟨(n:Int),(s:Int),(e3:List aj),⟨⟩⟩ hI;dsimp only at hI ⊢;obtain⟨rfl,g1,g2,g3,g4⟩:=hI;simp (disch:=omega) only [RR];refine⟨λg5=> ?_,λg5=>⟨g3,lS.adj λq q1 q2=>g4 q q1 q2 (wz (a:=0) ⟨0,by simp⟩ ah ah)⟩⟩
 refine ak (λ(y:Int×Int×Int×Int×List aj×Unit)=>y.1=n/\y.2.1=s/\0<=y.2.2.1/\y.2.2.1<=n/\(2*s) ∣ y.2.2.1/\y.2.2.2.1=y.2.2.1+2*s/\Sm d y.2.2.2.2.1
   /\∀p,0<=p->p+1<n->¬(2*s) ∣ p+1->(p+1<y.2.2.1\/¬s ∣ p+1)->le ((y.2.2.2.2.1).getD (p).toNat default) ((y.2.2.2.2.1).getD (p+1).toNat default)) (λy=>(n+2*s-y.2.2.2.1).toNat)
  ⟨rfl,rfl,by simp,by simp;omega,⟨0,by simp⟩,by simp,g3,λq q1 q2 q3 q4=>g4 q q1 q2 (by dsimp only at q4;rcases q4 with q4 | q4;(· omega);(· exact q4))⟩ ?_
 rintro⟨(n':Int),(s':Int),(a:Int),(b:Int),(e4:List aj),⟨⟩⟩ hI;dsimp only at hI ⊢;obtain⟨rfl,rfl,k1,k2,k3,rfl,k5,k6⟩:=hI;have hle:=k5.1;have hs:=k5.sh hd;have ks:s' ∣ a:=Int.dvd_trans ⟨2,ah⟩ k3;simp (disch:=omega) only [RR];have blk:∀x,x<=n'->a+s'<x->x<=a+2*s'->Bo a (a+s') x e4:=λx x1 x2 x3=>
  ⟨hs,k1,ah,x2,ah,lS.adj λq q1 q2=>by
   refine k6 q ah ah (wz k3 ah ah) (Or.inr (wz ks ah ah)),
   lS.adj λq q1 q2=>by
   refine k6 q ah ah (wz k3 ah ah) (Or.inr (wz (Int.dvd_add ks (Int.dvd_refl s')) ah ah))⟩
 have stp:∀x e5,x<=n'->(x=a+2*s'\/x=n')->x<=a+2*s'->Mrg e4 e5 a x->∀p,0<=p->p+1<n'->¬(2*s') ∣ p+1->(p+1<x\/¬s' ∣ p+1)->le ((e5).getD (p).toNat default) ((e5).getD (p+1).toNat default):=by
  intro x e5 x1 x2 x3 m1 q q1 q2 q3 q4;by_cases c1:q+1<a
  .rw [m1.out q q1 ah,m1.out (q+1) ah ah];exact k6 q q1 q2 q3 (Or.inl c1)
  .by_cases c2:q+1=a
   .rw [c2]at q3;exact absurd k3 q3
   .by_cases c3:q+1<x
    .exact m1.srt.at1 ah c3
    .by_cases c4:q+1=x
     .exfalso;rcases x2 with x2 | x2
      .rw [c4,x2]at q3;exact q3 (Int.dvd_add k3 (Int.dvd_refl _))
      .omega
     .rw [m1.out q q1 ah,m1.out (q+1) ah ah];refine k6 q q1 q2 q3 (Or.inr ?_);rcases q4 with q4 | q4
      .omega
      .exact q4
 refine⟨λk7=> ?_,λk7=>⟨λk8=> ?_,λk8=> ?_⟩⟩
 .have pre:=blk (a+2*s') k7 ah ah;have m1:=hf3 _ _ _ _ pre;exact⟨hp3 _ _ _ _ pre,⟨ah,ah,Int.dvd_add k3 (Int.dvd_refl _),k5.trans m1.sm,stp _ _ k7 (Or.inl rfl) ah m1⟩,ah⟩
 .have pre:=blk n' ah k8 ah;have m1:=hf3 _ _ _ _ pre;refine⟨hp3 _ _ _ _ pre,⟨ah,Or.inr ah,k5.trans m1.sm,λq q1 q2 q3=> ?_⟩,ah⟩;exact stp _ _ ah (Or.inr rfl) ah m1 q q1 q2 (by rw [Int.mul_comm];exact q3) (Or.inl q2)
 .refine⟨⟨ah,Or.inr ah,k5,λq q1 q2 q3=> ?_⟩,ah⟩;rw [Int.mul_comm]at q3;by_cases c1:q+1<a
  .exact k6 q q1 q2 q3 (Or.inl c1)
  .by_cases c2:q+1=a
   .rw [c2]at q3;exact absurd k3 q3
   .exact k6 q q1 q2 q3 (Or.inr (wz ks ah ah))
def aii{p:Int×List aj×Unit->Bool}{f:Int×List aj×Unit->List aj×Unit}(hp:∀(n:Int) (d:List aj),Sh d->n=d.length->p (n,d,())=true)
  (hf:∀(n:Int) (d:List aj),Sh d->n=d.length->Sm d (f (n,d,())).1/\lS (f (n,d,())).1 0 n) (d:List aj) (hd:Sh d):
  Pn.F (p,f,()) (d,()) (λy=>Sm d y.1/\lS y.1 0 d.length):=by
 have:=hf _ d hd rfl;dsimp only [Pn,gm];exact⟨hp _ d hd rfl,this⟩
def cf(l:List aj)(k:List Int):Int:=(l.map λm=>if m.atoms=k then m.bC else 0).sum
theorem iM(k:List Int):cf [] k=0:=rfl
def aV(m:aj)(l:List aj)(k:List Int):cf (m::l) k=(if m.atoms=k then m.bC else 0)+cf l k:=by simp [cf]
def dz(a b:List aj)(k:List Int):cf (a++b) k=cf a k+cf b k:=by simp [cf]
def gF{k:List Int}:∀ {l:List aj},(∀m∈l,m.atoms≠k)->cf l k=0
 | [],_=>rfl
 | m::l,h=>by rw [aV,if_neg (h m (by simp)),gF (λm hm=>h m (by simp [hm]))];rfl
def Sm.cf{a b:List aj}(h:Sm a b)(k:List Int):cf b k=cf a k:=h.sum _
def lt(a b:aj):Prop:=dx a.atoms b.atoms<0
def lt.ne{a b:aj}(h:lt a b):a.atoms≠b.atoms:=λe=>by unfold lt at h;rw [e,gZ.2 rfl]at h;omega
structure Nf(o:List aj):Prop where
 ss:o.Pairwise lt
 co:∀m∈o,1<=m.bC/\m.bC<=65535
def R8:∀ {o1 o2:List aj},Nf o1->Nf o2->(∀k,cf o1 k=cf o2 k)->o1=o2
 | [],[],_,_,_=>rfl
 | [],m::o,_,h2,h=>by
  have:=h m.atoms;rw [aV,if_pos rfl,gF (λm' hm'=>((List.rel_of_pairwise_cons h2.ss hm').ne).symm),iM]at this;have:=(h2.co m (by simp));omega
 | m::o,[],h1,_,h=>by
  have:=h m.atoms;rw [aV,if_pos rfl,gF (λm' hm'=>((List.rel_of_pairwise_cons h1.ss hm').ne).symm),iM]at this;have:=(h1.co m (by simp));omega
 | m1::o1,m2::o2,h1,h2,h=>by
  have c1:=h1.co m1 (by simp);have c2:=h2.co m2 (by simp);have z1:cf o1 m1.atoms=0:=gF λm' hm'=>((List.rel_of_pairwise_cons h1.ss hm').ne).symm
  have z2:cf o2 m2.atoms=0:=gF λm' hm'=>((List.rel_of_pairwise_cons h2.ss hm').ne).symm
  have tr:∀ {a b c:aj},lt a b->lt b c->lt a c:=λg1 g2=>dH (le_of_lt g1) g2
  have e:m1.atoms=m2.atoms:=by
   by_cases g1:lt m1 m2
   .have:=h m1.atoms;rw [aV,if_pos rfl,z1,aV,if_neg (λe=>g1.ne e.symm),gF (λm' hm'=>((tr g1 (List.rel_of_pairwise_cons h2.ss hm')).ne).symm)]at this;omega
   .by_cases g2:lt m2 m1
    .have:=h m2.atoms;rw [aV,if_neg (λe=>g2.ne e.symm),gF (λm' hm'=>((tr g2 (List.rel_of_pairwise_cons h1.ss hm')).ne).symm),aV,if_pos rfl,z2]at this;omega
    .unfold lt at g1 g2;rw [jS]at g2;exact gZ.1 ah
  have ec:m1.bC=m2.bC:=by
   have:=h m1.atoms;rw [aV,if_pos rfl,z1,aV,if_pos e.symm,e,z2]at this;omega
  have em:m1=m2:=by cases m1;cases m2;simp_all
  subst em;refine congrArg _ (R8 ⟨h1.ss.tail,λm hm=>h1.co m (by simp [hm])⟩ ⟨h2.ss.tail,λm hm=>h2.co m (by simp [hm])⟩ (λk=>by
   have:=h k;rw [aV,aV]at this;omega))
noncomputable def nf (l:List aj):List aj:= @dite _ (∃o,Nf o/\∀k,cf o k=cf l k%65536) (Classical.propDecidable _) (λh=>Classical.choose h) (λ_=> [])
def EW{l o:List aj}(h:Nf o)(h2:∀k,cf o k=cf l k%65536):nf l=o:=by
 have he:∃o,Nf o/\∀k,cf o k=cf l k%65536:=⟨o,h,h2⟩;unfold nf;rw [dif_pos he];have:=Classical.choose_spec he;exact R8 this.1 h (λk=>(this.2 k).trans (h2 k).symm)
def KS{l l':List aj}(h:∀k,cf l k%65536=cf l' k%65536):nf l=nf l':=by
 unfold nf;have:(λo=>Nf o/\∀k,cf o k=cf l k%65536)=(λo=>Nf o/\∀k,cf o k=cf l' k%65536):=by funext o;simp only [h]
 have e:(∃o,Nf o/\∀k,cf o k=cf l k%65536)=(∃o,Nf o/\∀k,cf o k=cf l' k%65536):=congrArg Exists this;by_cases h1:∃o,Nf o/\∀k,cf o k=cf l k%65536
 .rw [dif_pos h1,dif_pos (e▸h1)];congr 1
 .rw [dif_neg h1,dif_neg (e▸h1)]
noncomputable def jZ (l:List aj):Bool×List aj:=(bp (aI (nf l)),if bp (aI (nf l))then nf l else [])
def Cb(l:List aj):Prop:=∀m∈l,0<=m.bC/\m.bC<=65535
def aox{p1 f1 p2 f2 p3 f3 p4 f4}(U1:Y7 p1 f1)(U2:Y11 p2 f2)(U3:Y10 p3 f3)(U4:Y12 p4 f4){p5:List aj×Unit->Bool}{f5:List aj×Unit->List aj×Unit}(hp5:∀d,Sh d->p5 (d,())=true)(hf5:∀d,Sh d->Sm d (f5 (d,())).1/\lS (f5 (d,())).1 0 d.length)(l:List aj)(hl:Sh l)(hc:Cb l):Yc.F (p1,f1,p2,f2,p3,f3,p4,f4,p5,f5,()) (l,()) (λy=>y.1=(jZ l).1/\y.2.2.1=(jZ l).2):=by
 obtain⟨s1,s2⟩:=hf5 l hl;dsimp only [Yc,gm];simp (disch:=omega) only [RR,hp5 l hl];generalize (f5 (l,())).1=d at s1 s2 ⊢;have hle:=s1.1;have hs:=s1.sh hl;have hlen:=hs.1;have hcd:Cb d:=λm hm=>hc m (s1.mem hm)
 refine ak (λ(y:Int×List aj×List aj×Unit)=>0<=y.1/\y.1<=d.length/\y.2.1=d/\Nf y.2.2.1/\y.2.2.1.length<=y.1/\(∀k,cf y.2.2.1 k=cf (d.take y.1.toNat) k%65536)/\(∀m∈y.2.2.1,m∈y.2.2.1->m.atoms.length<1000000000)
   /\(y.1<d.length->(∀m∈y.2.2.1,lt m ((d).getD (y.1).toNat default))/\(∀m∈d.take y.1.toNat,lt m ((d).getD (y.1).toNat default)))) (λy=>(d.length-y.1).toNat)
  ⟨by simp,by simp,rfl,⟨List.Pairwise.nil,λm hm=>absurd hm (by simp)⟩,by simp,λk=>by simp [cf],λm hm=>absurd hm (by simp),λ_=>⟨λm hm=>absurd hm (by simp),λm hm=>absurd hm (by simp)⟩⟩ ?_
 rintro⟨(i:Int),(d':List aj),(o:List aj),⟨⟩⟩ hI;dsimp only at hI ⊢;obtain⟨h1,h2,rfl,h4,h5,h6,h7,h8⟩:=hI;have ho:Sh o:=⟨ah,λm hm=>h7 m hm hm⟩;simp (disch:=omega) only [RR,U2.hp o ho,U2.hf o ho];refine⟨λh9=>⟨ah,ah,ah,ah,?_⟩,λh9=> ?_⟩
 .obtain⟨g1,g2⟩:=h8 h9;have z:cf (d'.take i.toNat) ((d').getD (i).toNat default).atoms=0:=gF λm hm=>(g2 m hm).ne
  refine ak (λ(y:Int×Int×List aj×aj×List aj×Unit)=>i<=y.1/\y.1<=d'.length/\y.2.2.1=d'/\y.2.2.2.1=((d').getD (i).toNat default)/\y.2.2.2.2.1=o/\y.2.1=cf (d'.take y.1.toNat) ((d').getD (i).toNat default).atoms%65536
    /\(∀k,k≠((d').getD (i).toNat default).atoms->cf (d'.take y.1.toNat) k=cf (d'.take i.toNat) k)/\(∀m∈d'.take y.1.toNat,lt m ((d').getD (i).toNat default)\/m.atoms=((d').getD (i).toNat default).atoms)) (λy=>(d'.length-y.1).toNat)
   ⟨by simp,by simp;omega,rfl,rfl,rfl,by rw [z];rfl,λk _=>rfl,λm hm=>Or.inl (g2 m hm)⟩ ?_
  rintro⟨(j:Int),(c:Int),(d'':List aj),(fi:aj),(o':List aj),⟨⟩⟩ hI;dsimp only at hI ⊢;obtain⟨k1,k2,rfl,rfl,rfl,k6,k7,k8⟩:=hI;have hc0:0<=c/\c<65536:=by omega
  have hcj:j<d''.length->0<=((d'').getD (j).toNat default).bC/\((d'').getD (j).toNat default).bC<=65535:=λh=>hcd _ (cO ah h)
  simp (disch:=omega) only [RR,U1.hp _ _ (hs.at _),U1.hf _ _ (hs.at _),U3.hp,U3.hf,U4.hp _ (Nat.le_trans (Nat.le_of_lt (hs.at _)) ah),U4.hf _ (Nat.le_trans (Nat.le_of_lt (hs.at _)) ah)];refine⟨ah,ah,ah,ah,λ⟨m1,m2⟩=> ?_,λm1=>⟨λm2=>⟨?_,?_,?_⟩,λm2=>⟨?_,?_⟩⟩⟩
  .have e:=gZ.1 m2;have:=hcj m1;rw [w64 ah ah];have ts:d''.take (j+1).toNat=d''.take j.toNat++ [((d'').getD (j).toNat default)]:=(bK ah m1 rfl).symm;refine⟨ah,ah,ah,ah,⟨ah,ah,?_,λk hk=> ?_,λm hm=> ?_⟩,ah⟩
   .rw [ts,dz,aV,if_pos e.symm,iM,k6];omega
   .rw [ts,dz,aV,if_neg (λh=>hk (by rw [e,h])),iM,k7 k hk];omega
   .rw [ts,List.mem_append,List.mem_singleton]at hm;rcases hm with hm | hm
    .exact k8 m hm
    .right;rw [hm,e]
  all_goals
   have hb:j<d''.length->lt ((d'').getD (i).toNat default) ((d'').getD (j).toNat default):=λhj=>by
    rw [decide_eq_true hj,Bool.true_and,decide_eq_false_iff_not]at m1;have:=s2 i j h1 k1 ah;unfold le at this;unfold lt;omega
   have hij:i<j:=by
    by_cases hj:j<d''.length
    .by_cases e:i=j
     .have:=(hb hj).ne;rw [e]at this;exact absurd rfl this
     .omega
    .omega
  .simp only [List.length_append,List.length_cons,List.length_nil];omega
  .have co:∀k,cf (o'++ [⟨c,((d'').getD (i).toNat default).atoms⟩]) k=cf (d''.take j.toNat) k%65536:=λk=>by
    rw [dz,aV,iM];dsimp only;by_cases hk:((d'').getD (i).toNat default).atoms=k
    .subst hk;rw [if_pos rfl,gF (λm hm=>(g1 m hm).ne),k6];omega
    .rw [if_neg hk,k7 k (λe=>hk e.symm),h6 k];omega
   refine⟨ah,ah,⟨?_,?_⟩,?_,co,?_,λhj=>⟨?_,?_⟩⟩
   .rw [List.pairwise_append];exact⟨h4.ss,List.pairwise_singleton _ _,λa ha b hb=>by rw [List.mem_singleton]at hb;subst hb;exact g1 a ha⟩
   .intro m hm;rw [List.mem_append,List.mem_singleton]at hm;rcases hm with hm | rfl
    .exact h4.co m hm
    .dsimp only;omega
   .simp only [List.length_append,List.length_cons,List.length_nil];omega
   .intro m hm _;rw [List.mem_append,List.mem_singleton]at hm;rcases hm with hm | rfl
    .exact h7 m hm hm
    .exact hs.at _
   .intro m hm;rw [List.mem_append,List.mem_singleton]at hm;rcases hm with hm | rfl
    .exact dH (le_of_lt (g1 m hm)) (hb hj)
    .exact hb hj
   .intro m hm;rcases k8 m hm with k | k
    .exact dH (le_of_lt k) (hb hj)
    .have:=hb hj;unfold lt at this ⊢;rw [k];exact this
  .omega
  .refine⟨ah,ah,h4,ah,λk=> ?_,h7,λhj=>⟨?_,?_⟩⟩
   .by_cases hk:((d'').getD (i).toNat default).atoms=k
    .subst hk;rw [gF (λm hm=>(g1 m hm).ne)];omega
    .rw [k7 k (λe=>hk e.symm),h6 k]
   .intro m hm;exact dH (le_of_lt (g1 m hm)) (hb hj)
   .intro m hm;rcases k8 m hm with k | k
    .exact dH (le_of_lt k) (hb hj)
    .have:=hb hj;unfold lt at this ⊢;rw [k];exact this
  .omega
 .have e:nf l=o:=EW h4 (λk=>by rw [h6 k,List.take_of_length_le ah,s1.cf k]);unfold jZ;rw [e];refine⟨λh=> ?_,λh=> ?_⟩
  .rw [h];exact⟨rfl,by simp⟩
  .rw [h];exact⟨rfl,by simp⟩
def aij(n:Int)(h1:0<=n)(h2:n<=1073741824):Po.F () (n,()) (λy=>y=([],())):=by
 dsimp only [Po,gm];simp (disch:=omega) only [RR];refine⟨λh=>by omega,λ_ h=> ?_⟩
 repeat' (refine And.intro ?_ ?_)
 all_goals first | omega | (rw [List.length_replicate];omega) | rfl
theorem aik{p:Int×Unit->Bool}{f:Int×Unit->List aj×Unit}(hp:∀n:Int,0<=n->n<=1073741824->p (n,())=true)(hf:∀n:Int,0<=n->n<=1073741824->f (n,())=([],()))
  (a b:List aj) (ha:a.length<=100000000) (hb:b.length<=100000000):Pp.F (p,f,()) ([a,b],()) (λy=>y=(a++b,())):=by
 dsimp only [Pp,gm]
 refine ak (λ(y:List (List aj)×Int×List (List aj)×Int×Int×Unit)=>y.1=[a,b]/\y.2.2.1=[a,b]/\y.2.2.2.1=2/\((y.2.2.2.2.1=0/\y.2.1=0)\/(y.2.2.2.2.1=1/\y.2.1=a.length)\/(y.2.2.2.2.1=2/\y.2.1=a.length+b.length))) (λy=>(2-y.2.2.2.2.1).toNat)
  ⟨rfl,rfl,rfl,Or.inl ⟨rfl,rfl⟩⟩ ?_
 rintro⟨(l:List (List aj)),(s:Int),(l2:List (List aj)),(n:Int),(i:Int),⟨⟩⟩ hI;dsimp only at hI ⊢;obtain⟨rfl,rfl,rfl,h⟩:=hI;simp (disch:=omega) only [RR];have g0: [a,b].getD (Int.toNat 0) default=a:=rfl;have g1: [a,b].getD (Int.toNat 1) default=b:=rfl;have gl:([a,b].length:Int)=2:=rfl;refine⟨λhi=> ?_,λhi=> ?_⟩
 .rcases h with⟨rfl,rfl⟩ | ⟨rfl,rfl⟩ | ⟨rfl,rfl⟩
  .rw [g0,w64 ah ah];exact⟨ah,ah,λh=>by omega,λh=>⟨Or.inr (Or.inl ⟨ah,ah⟩),ah⟩⟩
  .rw [g1,w64 ah ah];exact⟨ah,ah,λh=>by omega,λh=>⟨Or.inr (Or.inr ⟨ah,ah⟩),ah⟩⟩
  .omega
 .have hs:0<=s/\s<=200000000:=by omega
  refine⟨hp s ah ah,?_⟩;rw [hf s ah ah]
  refine ak (λ(y:List (List aj)×Int×Int×List aj×Unit)=>y.1=[a,b]/\y.2.1=2/\((y.2.2.1=0/\y.2.2.2.1=[])\/(y.2.2.1=1/\y.2.2.2.1=a)\/(y.2.2.1=2/\y.2.2.2.1=a++b))) (λy=>(2-y.2.2.1).toNat)
   ⟨rfl,rfl,Or.inl ⟨rfl,rfl⟩⟩ ?_
  rintro⟨(l:List (List aj)),(n:Int),(j:Int),(o:List aj),⟨⟩⟩ hI;dsimp only at hI ⊢;obtain⟨rfl,rfl,h3⟩:=hI;simp (disch:=omega) only [RR];refine⟨λhj=> ?_,λhj=> ?_⟩
  .rcases h3 with⟨rfl,rfl⟩ | ⟨rfl,rfl⟩ | ⟨rfl,rfl⟩
   .rw [g0];exact⟨ah,ah,by simp only [List.length_nil];omega,Or.inr (Or.inl ⟨ah,rfl⟩),ah⟩
   .rw [g1];exact⟨ah,ah,ah,Or.inr (Or.inr ⟨ah,rfl⟩),ah⟩
   .omega
  .rcases h3 with⟨rfl,rfl⟩ | ⟨rfl,rfl⟩ | ⟨rfl,rfl⟩
   .omega
   .omega
   .rfl
def Zd(n:Int)(h1:0<=n)(h2:n<=1073741824):Pq.F () (n,()) (λy=>y=([],())):=by
 dsimp only [Pq,gm];simp (disch:=omega) only [RR];refine⟨λh=>by omega,λ_ h=> ?_⟩
 repeat' (refine And.intro ?_ ?_)
 all_goals first | omega | (rw [List.length_replicate];omega) | rfl
theorem ail{p:Int×Unit->Bool}{f:Int×Unit->List Int×Unit}(hp:∀n:Int,0<=n->n<=1073741824->p (n,())=true)(hf:∀n:Int,0<=n->n<=1073741824->f (n,())=([],()))
  (a b:List Int) (ha:a.length<=100000000) (hb:b.length<=100000000):Pv.F (p,f,()) ([a,b],()) (λy=>y=(a++b,())):=by
 dsimp only [Pv,gm]
 refine ak (λ(y:List (List Int)×Int×List (List Int)×Int×Int×Unit)=>y.1=[a,b]/\y.2.2.1=[a,b]/\y.2.2.2.1=2/\((y.2.2.2.2.1=0/\y.2.1=0)\/(y.2.2.2.2.1=1/\y.2.1=a.length)\/(y.2.2.2.2.1=2/\y.2.1=a.length+b.length))) (λy=>(2-y.2.2.2.2.1).toNat)
  ⟨rfl,rfl,rfl,Or.inl ⟨rfl,rfl⟩⟩ ?_
 rintro⟨(l:List (List Int)),(s:Int),(l2:List (List Int)),(n:Int),(i:Int),⟨⟩⟩ hI;dsimp only at hI ⊢;obtain⟨rfl,rfl,rfl,h⟩:=hI;simp (disch:=omega) only [RR];have g0: [a,b].getD (Int.toNat 0) default=a:=rfl;have g1: [a,b].getD (Int.toNat 1) default=b:=rfl;have gl:([a,b].length:Int)=2:=rfl;refine⟨λhi=> ?_,λhi=> ?_⟩
 .rcases h with⟨rfl,rfl⟩ | ⟨rfl,rfl⟩ | ⟨rfl,rfl⟩
  .rw [g0,w64 ah ah];exact⟨ah,ah,λh=>by omega,λh=>⟨Or.inr (Or.inl ⟨ah,ah⟩),ah⟩⟩
  .rw [g1,w64 ah ah];exact⟨ah,ah,λh=>by omega,λh=>⟨Or.inr (Or.inr ⟨ah,ah⟩),ah⟩⟩
  .omega
 .have hs:0<=s/\s<=200000000:=by omega
  refine⟨hp s ah ah,?_⟩;rw [hf s ah ah]
  refine ak (λ(y:List (List Int)×Int×Int×List Int×Unit)=>y.1=[a,b]/\y.2.1=2/\((y.2.2.1=0/\y.2.2.2.1=[])\/(y.2.2.1=1/\y.2.2.2.1=a)\/(y.2.2.1=2/\y.2.2.2.1=a++b))) (λy=>(2-y.2.2.1).toNat)
   ⟨rfl,rfl,Or.inl ⟨rfl,rfl⟩⟩ ?_
  rintro⟨(l:List (List Int)),(n:Int),(j:Int),(o:List Int),⟨⟩⟩ hI;dsimp only at hI ⊢;obtain⟨rfl,rfl,h3⟩:=hI;simp (disch:=omega) only [RR];refine⟨λhj=> ?_,λhj=> ?_⟩
  .rcases h3 with⟨rfl,rfl⟩ | ⟨rfl,rfl⟩ | ⟨rfl,rfl⟩
   .rw [g0];exact⟨ah,ah,by simp only [List.length_nil];omega,Or.inr (Or.inl ⟨ah,rfl⟩),ah⟩
   .rw [g1];exact⟨ah,ah,ah,Or.inr (Or.inr ⟨ah,rfl⟩),ah⟩
   .omega
  .rcases h3 with⟨rfl,rfl⟩ | ⟨rfl,rfl⟩ | ⟨rfl,rfl⟩
   .omega
   .omega
   .rfl
def mOk.le{m:aj}(h:mOk m):m.atoms.length<=4:=h.2.1
def aI.at{p:List aj}(h:aI p){m:aj}(hm:m∈p):mOk m:=by
 obtain⟨i,hi,rfl⟩:=List.getElem_of_mem hm;have:=(h.1 i ah ah).1;rw [show(i:Int).toNat=i from rfl,getD_lt hi]at this;exact this
def aI.len{p:List aj}(h:aI p):p.length<=12:=h.2.1
noncomputable def kZ (a b:List aj):Bool×List aj:=if bp (aI a)&&bp (aI b)then jZ (a++b)else(false,[])
structure Y21(pp:List aj×Unit->Bool)(ff:List aj×Unit->Bool×List aj×List aj×Unit):Prop where
 hp:∀a,Sh a->Cb a->pp (a,())=true
 hf:∀a,Sh a->Cb a->(ff (a,())).1=(jZ a).1/\(ff (a,())).2.2.1=(jZ a).2
def aoy{p1 f1 p2 f2}(U1:Y11 p1 f1)(U2:Y21 p2 f2){p3:List (List aj)×Unit->Bool}{f3:List (List aj)×Unit->List aj×Unit}(hp3:∀a b:List aj,a.length<=100000000->b.length<=100000000->p3 ([a,b],())=true)(hf3:∀a b:List aj,a.length<=100000000->b.length<=100000000->f3 ([a,b],())=(a++b,()))(a b:List aj)(ha:Sh a)(hb:Sh b):Yd.F (p1,f1,p2,f2,p3,f3,()) (a,b,()) (λy=>y=((kZ a b).1,(kZ a b).2,())):=by
 dsimp only [Yd,gm];simp (disch:=omega) only [RR,U1.hp a ha,U1.hf a ha,U1.hp b hb,U1.hf b hb,aN,fT];unfold kZ;refine⟨λh=> ?_,λ⟨h1,h2⟩=> ?_⟩
 .rw [if_neg];rw [Bool.and_eq_true,aN,aN];rintro⟨g1,g2⟩;rcases h with h | h
  .exact h g1
  .exact h g2
 .have l1:=h1.len;have l2:=h2.len;rw [hp3 a b ah ah,hf3 a b ah ah];have hs:Sh (a++b):=⟨by rw [List.length_append];omega,λm hm=>by
   rw [List.mem_append]at hm;rcases hm with hm | hm
   .exact ha.2 m hm
   .exact hb.2 m hm⟩
  have hc:Cb (a++b):=λm hm=>by
   rw [List.mem_append]at hm;rcases hm with hm | hm
   .have:=(h1.at hm).1;omega
   .have:=(h2.at hm).1;omega
  obtain⟨g1,g2⟩:=U2.hf _ hs hc;refine⟨rfl,U2.hp _ hs hc,?_⟩;rw [if_pos (by rw [aU h1,aU h2];rfl),g1,g2]
def bW(l:List Int):List Int:=l.mergeSort λx y=>decide (x<=y)
def qA(l:List Int):(bW l).length=l.length:=List.length_mergeSort l
def mulM(m n:aj):aj:=⟨m.bC*n.bC%65536,bW (m.atoms++n.atoms)⟩
def prods(a b:List aj):List aj:=a.flatMap λm=>b.map (mulM m)
def EZ(a b:List aj)(m:aj):prods (a++ [m]) b=prods a b++b.map (mulM m):=by simp [prods]
noncomputable def kF (a b:List aj):Bool×List aj:=if bp (aI a)&&bp (aI b)then jZ (prods a b)else(false,[])
def I5{a b:Int}(h1:0<=a)(h2:a<=65535)(h3:0<=b)(h4:b<=65535):0<=a*b/\a*b<=65535*65535:=⟨Int.mul_nonneg h1 h3,Int.mul_le_mul h2 h4 h3 ah⟩
def aoz{p1 f1 p0 f0 p2 f2}(U1:Y11 p1 f1)(U0:Y10 p0 f0)(U2:Y21 p2 f2){p3:List (List Int)×Unit->Bool}{f3:List (List Int)×Unit->List Int×Unit}(hp3:∀a b:List Int,a.length<=100000000->b.length<=100000000->p3 ([a,b],())=true)(hf3:∀a b:List Int,a.length<=100000000->b.length<=100000000->f3 ([a,b],())=(a++b,())){p4:List Int×Unit->Bool}{f4:List Int×Unit->List Int×Unit}(hp4:∀a:List Int,a.length<=8->p4 (a,())=true)(hf4:∀a:List Int,a.length<=8->f4 (a,())=(bW a,()))(a b:List aj)(ha:Sh a)(hb:Sh b):Ye.F (p1,f1,p0,f0,p2,f2,p3,f3,p4,f4,()) (a,b,()) (λy=>y=((kF a b).1,(kF a b).2,())):=by
 dsimp only [Ye,gm];simp (disch:=omega) only [RR,U1.hp a ha,U1.hf a ha,U1.hp b hb,U1.hf b hb,aN,fT];unfold kF;refine⟨λh=> ?_,λ⟨h1,h2⟩=> ?_⟩
 .rw [if_neg];rw [Bool.and_eq_true,aN,aN];rintro⟨g1,g2⟩;rcases h with h | h
  .exact h g1
  .exact h g2
 have l1:=h1.len;have l2:=h2.len;rw [if_pos (by rw [aU h1,aU h2];rfl)];have mm:∀i j:Int,0<=i->i<a.length->0<=j->j<b.length->mOk ((a).getD (i).toNat default)/\mOk ((b).getD (j).toNat default):=λi j i1 i2 j1 j2=>⟨h1.at (cO i1 i2),h2.at (cO j1 j2)⟩
 refine ak (λ(y:List aj×Int×Int×List aj×List aj×Unit)=>y.1=a/\y.2.1=a.length/\0<=y.2.2.1/\y.2.2.1<=a.length/\y.2.2.2.1=b/\y.2.2.2.2.1=prods (a.take y.2.2.1.toNat) b/\y.2.2.2.2.1.length<=12*y.2.2.1/\Sh y.2.2.2.2.1/\Cb y.2.2.2.2.1) (λy=>(a.length-y.2.2.1).toNat)
  ⟨rfl,rfl,by simp,by simp,rfl,rfl,by simp,⟨by simp,λm hm=>absurd hm (by simp)⟩,λm hm=>absurd hm (by simp)⟩ ?_
 rintro⟨(a':List aj),(n:Int),(i:Int),(b':List aj),(o:List aj),⟨⟩⟩ hI;dsimp only at hI ⊢;obtain⟨rfl,rfl,h3,h4,rfl,h5,h6,h7,h8⟩:=hI;simp (disch:=omega) only [RR];refine⟨λh9=>⟨ah,ah,?_⟩,λh9=> ?_⟩
 .refine ak (λ(y:List aj×Int×Int×List aj×Int×Int×List aj×List aj×aj×Unit)=>y.1=a'/\y.2.1=a'.length/\y.2.2.1=i/\y.2.2.2.1=b'/\y.2.2.2.2.1=b'.length/\0<=y.2.2.2.2.2.1/\y.2.2.2.2.2.1<=b'.length/\y.2.2.2.2.2.2.1=b'/\y.2.2.2.2.2.2.2.2.1=((a').getD (i).toNat default)
    /\y.2.2.2.2.2.2.2.1=o++(b'.take y.2.2.2.2.2.1.toNat).map (mulM ((a').getD (i).toNat default))/\Sh y.2.2.2.2.2.2.2.1/\Cb y.2.2.2.2.2.2.2.1) (λy=>(b'.length-y.2.2.2.2.2.1).toNat)
   ⟨rfl,rfl,rfl,rfl,rfl,by simp,by simp,rfl,rfl,by simp,h7,h8⟩ ?_
  rintro⟨(a'':List aj),(n:Int),(i':Int),(b'':List aj),(nb:Int),(j:Int),(b3:List aj),(o':List aj),(m:aj),⟨⟩⟩ hI;dsimp only at hI ⊢;obtain⟨rfl,rfl,rfl,rfl,rfl,k1,k2,rfl,rfl,k3,k4,k5⟩:=hI;have lo:(o'.length:Int)<=12*i'+j:=by
   rw [k3,List.length_append,List.length_map];have:=List.length_take_le j.toNat b3;omega
  by_cases hj:j<b3.length
  .obtain⟨m1,m2⟩:=mm i' j h3 h9 k1 hj;have e1:=m1.le;have e2:=m2.le;have la:(((a'').getD (i').toNat default).atoms++((b3).getD (j).toNat default).atoms).length<=8:=by rw [List.length_append];omega
   have hm:=I5 (show 0<=((a'').getD (i').toNat default).bC by have:=m1.1;omega) (by have:=m1.1;omega) (show 0<=((b3).getD (j).toNat default).bC by have:=m2.1;omega) (by have:=m2.1;omega);simp (disch:=omega) only [RR,hp3 ((a'').getD (i').toNat default).atoms ((b3).getD (j).toNat default).atoms ah ah,hf3 ((a'').getD (i').toNat default).atoms ((b3).getD (j).toNat default).atoms ah ah,hp4 _ la,hf4 _ la,U0.hp,U0.hf];refine⟨λ_=>⟨ah,ah,by simp only [List.length_cons,List.length_nil];omega,⟨ah,ah,?_,⟨?_,?_⟩,?_⟩,ah⟩,λh=>by omega⟩
   .rw [<-bK (d:=default) k1 hj rfl,List.map_append,k3,List.append_assoc];rfl
   .rw [List.length_append];simp only [List.length_cons,List.length_nil];omega
   .intro m hm;rw [List.mem_append,List.mem_singleton]at hm;rcases hm with hm | rfl
    .exact k4.2 m hm
    .dsimp only;rw [qA];omega
   .intro m hm;rw [List.mem_append,List.mem_singleton]at hm;rcases hm with hm | rfl
    .exact k5 m hm
    .dsimp only;omega
  .simp (disch:=omega) only [RR];refine⟨λh=>absurd h hj,λ_=>⟨⟨ah,ah,?_,ah,k4,k5⟩,ah⟩⟩;rw [<-bK (d:=default) h3 h9 rfl,EZ,<-h5,k3,List.take_of_length_le ah]
 .obtain⟨g1,g2⟩:=U2.hf _ h7 h8;refine⟨U2.hp _ h7 h8,?_⟩;rw [g1,g2,h5,List.take_of_length_le ah]
noncomputable def gK (a:List aj) (n:Int):List aj:=if bp (aI a)&&inB n 0 65535 then(kF a (bS n)).2 else []
def Gx(n:Int):Sh (bS n):=by
 unfold bS;split
 .exact⟨by simp,λm hm=>by rw [List.mem_singleton]at hm;subst hm;simp⟩
 .exact⟨by simp,λm hm=>absurd hm (by simp)⟩
structure Y22(pp:Int×Unit->Bool)(ff:Int×Unit->List aj×Unit):Prop where
 hp:∀n,pp (n,())=true
 hf:∀n,ff (n,())=(bS n,())
structure Y23(pp:List aj×List aj×Unit->Bool)(ff:List aj×List aj×Unit->Bool×List aj×Unit):Prop where
 hp:∀a b,Sh a->Sh b->pp (a,b,())=true
 hf:∀a b,Sh a->Sh b->ff (a,b,())=((kF a b).1,(kF a b).2,())
def aoA{p1 f1 p2 f2 p3 f3 p4 f4}(U1:Y11 p1 f1)(U2:Y22 p2 f2)(U3:Y9 p3 f3)(U4:Y23 p4 f4)(a:List aj)(n:Int)(ha:Sh a):Yf.F (p1,f1,p2,f2,p3,f3,p4,f4,()) (a,n,()) (λy=>y=(gK a n,())):=by
 dsimp only [Yf,gm];simp (disch:=omega) only [RR,U1.hp a ha,U1.hf a ha,U2.hp,U2.hf,U3.hp,U3.hf,U4.hp a _ ha (Gx n),U4.hf a _ ha (Gx n)];unfold gK;refine⟨λh=> ?_,λ⟨h1,h2⟩=> ?_⟩
 .rw [if_neg];rw [Bool.and_eq_true];rintro⟨g1,g2⟩;rcases h with h | h
  .rw [g1]at h;cases h
  .rw [g2]at h;cases h
 .rw [h1,h2];rfl
noncomputable def uO (op:Int) (x y:List aj):List aj×Bool:=
 if(cB x).2&& (cB y).2 then(bS (wdo op (cB x).1 (cB y).1),true)
 else if eZ x y=0/\op=4 then(x,true)
 else if eZ x y=0 then([],true)
 else if(cB x).2 then
  (if op=4/\(cB x).1=0 then([],true)else if(op=4/\(cB x).1=65535)\/(op=5/\(cB x).1=0)then(y,true)else([],false))
 else if(cB y).2 then
  (if op=4/\(cB y).1=0 then([],true)else if(op=4/\(cB y).1=65535)\/(op=5/\(cB y).1=0)then(x,true)else([],false))
 else([],false)
noncomputable def fD (op:Int) (x y:List aj):List aj×Bool:=
 if op=1 then((kZ x y).2,(kZ x y).1)else if op=2 then((kZ x (gK y 65535)).2,(kZ x (gK y 65535)).1)else if op=3 then((kF x y).2,(kF x y).1)else uO op x y
def aI.sh{l:List aj}:aI l->Sh l:=λh=>⟨by have:=h.len;omega,λm hm=>by have:=(h.at hm).le;omega⟩
def adF(l:List aj):Sh (jZ l).2:=by
 unfold jZ;by_cases h:aI (nf l)
 .rw [aU h];exact h.sh
 .rw [aR h];exact⟨by simp,λm hm=>absurd hm (by simp)⟩
def nD:Sh []:=⟨by simp,λm hm=>absurd hm (by simp)⟩
def adG(a b:List aj):Sh (kF a b).2:=by unfold kF;split;exact adF _;exact nD
def wB(a:List aj)(n:Int):Sh (gK a n):=by unfold gK;split;exact adG _ _;exact nD
structure Y24(pp:Int×Int×Int×Unit->Bool)(ff:Int×Int×Int×Unit->Int×Unit):Prop where
 hp:∀op a b,pp (op,a,b,())=true
 hf:∀op a b,ff (op,a,b,())=(wdo op a b,())
structure Y25(pp:List aj×List aj×Unit->Bool)(ff:List aj×List aj×Unit->Bool×List aj×Unit):Prop where
 hp:∀a b,Sh a->Sh b->pp (a,b,())=true
 hf:∀a b,Sh a->Sh b->ff (a,b,())=((kZ a b).1,(kZ a b).2,())
structure Y26(pp:List aj×Int×Unit->Bool)(ff:List aj×Int×Unit->List aj×Unit):Prop where
 hp:∀a n,Sh a->pp (a,n,())=true
 hf:∀a n,Sh a->ff (a,n,())=(gK a n,())
structure Y27(pp:List aj×Unit->Bool)(ff:List aj×Unit->Int×Bool×Unit):Prop where
 hp:∀a,Sh a->pp (a,())=true
 hf:∀a,Sh a->ff (a,())=((cB a).1,(cB a).2,())
def aoB{p1 f1 p2 f2 p3 f3 p4 f4 p5 f5 p6 f6 p7 f7}(U1:Y14 p1 f1)(U2:Y22 p2 f2)(U3:Y24 p3 f3)(U4:Y25 p4 f4)(U5:Y23 p5 f5)(U6:Y26 p6 f6)(U7:Y27 p7 f7)(op:Int)(x y:List aj)(hx:Sh x)(hy:Sh y):Yh.F (p1,f1,p2,f2,p3,f3,p4,f4,p5,f5,p6,f6,p7,f7,()) (op,x,y,()) (λz=>z=((fD op x y).1,(fD op x y).2,())):=by
 dsimp only [Yh,gm];simp (disch:=omega) only [RR,U1.hp x y hx,U1.hf x y hx,U2.hp,U2.hf,U3.hp,U3.hf,U4.hp x y hx hy,U4.hf x y hx hy,U4.hp x _ hx (wB y 65535),U4.hf x _ hx (wB y 65535),U5.hp x y hx hy,U5.hf x y hx hy,U6.hp y _ hy,U6.hf y _ hy,U7.hp x hx,U7.hf x hx,U7.hp y hy,U7.hf y hy];unfold fD;refine⟨λh=>by rw [if_pos h],λh=>⟨λh1=>by rw [if_neg h,if_pos h1],λh1=>⟨λh2=>by rw [if_neg h,if_neg h1,if_pos h2],λh2=> ?_⟩⟩⟩;rw [if_neg h,if_neg h1,if_neg h2];unfold uO;generalize cB x=nx;generalize cB y=ny;obtain⟨n,bn⟩:=nx;obtain⟨m,bm⟩:=ny;dsimp only;by_cases e:eZ x y=0<;>by_cases o4:op=4<;>cases bn<;>cases bm<;>simp [e,o4]
 .by_cases c:m=0<;>by_cases c2:m=65535<;>simp [c,c2]
 .by_cases c:n=0<;>by_cases c2:n=65535<;>simp [c,c2]
 .by_cases c:op=5<;>by_cases c2:m=0<;>simp [c,c2]
 .by_cases c:op=5<;>by_cases c2:n=0<;>simp [c,c2]
noncomputable def tDo (t:List Atom) (op:Int) (x y:List aj):List Atom×List aj:=
 if(fD op x y).2 then(t,(fD op x y).1)else
 if op≠2/\0<eZ x y then(if(aT t ⟨4,op,y,x⟩).2<0 then([],[])else((aT t ⟨4,op,y,x⟩).1,dG (aT t ⟨4,op,y,x⟩).2))
 else(if(aT t ⟨4,op,x,y⟩).2<0 then([],[])else((aT t ⟨4,op,x,y⟩).1,dG (aT t ⟨4,op,x,y⟩).2))
noncomputable def tOk (t:List Atom) (op:Int) (x y:List aj):Bool:=(fD op x y).2 || !decide ((if op≠2/\0<eZ x y then(aT t ⟨4,op,y,x⟩).2 else(aT t ⟨4,op,x,y⟩).2)<0)
structure Y28(pp:Int×Unit->Bool)(ff:Int×Unit->List aj×Unit):Prop where
 hp:∀n,pp (n,())=true
 hf:∀n,ff (n,())=(dG n,())
def aoC{p1 f1 p4 f4}(U1:Y8 p1 f1){p2:Int×List aj×List aj×Unit->Bool}{f2:Int×List aj×List aj×Unit->List aj×Bool×Unit}(hp2:∀op x y,Sh x->Sh y->p2 (op,x,y,())=true)(hf2:∀op x y,Sh x->Sh y->f2 (op,x,y,())=((fD op x y).1,(fD op x y).2,())){p3:List Atom×Atom×Unit->Bool}{f3:List Atom×Atom×Unit->List Atom×Int×Unit}(hp3:∀t a,t.length<1000000000->ShA a->p3 (t,a,())=true)(hf3:∀t a,t.length<1000000000->ShA a->f3 (t,a,())=((aT t a).1,(aT t a).2,()))(U4:Y28 p4 f4)(t:List Atom)(op:Int)(x y:List aj)(ht:t.length<1000000000)(hx:Sh x)(hy:Sh y):Yi.F (p1,f1,p2,f2,p3,f3,p4,f4,()) (t,op,x,y,()) (λz=>z.1=(tDo t op x y).1/\z.2.1=(tDo t op x y).2/\z.2.2.1=tOk t op x y):=by
 have s1:ShA ⟨4,op,x,y⟩:=⟨hx,hy⟩;have s2:ShA ⟨4,op,y,x⟩:=⟨hy,hx⟩;dsimp only [Yi,gm];simp (disch:=omega) only [RR,U1.hp x y hx,U1.hf x y hx,hp2 op x y hx hy,hf2 op x y hx hy,hp3 t _ ht s1,hf3 t _ ht s1,hp3 t _ ht s2,hf3 t _ ht s2,U4.hp,U4.hf];unfold tDo tOk;refine⟨λh=>by rw [if_pos h,h];exact⟨rfl,rfl,rfl⟩,λh=> ?_⟩;rw [if_neg (by rw [h];simp),h,Bool.false_or];generalize aT t ⟨4,op,y,x⟩=r1;generalize aT t ⟨4,op,x,y⟩=r2;generalize eZ x y=o;by_cases c1:op=2<;>by_cases c2:0<o<;>by_cases c3:r1.2<0<;>by_cases c4:r2.2<0<;>simp [c1,c2,c3,c4]
noncomputable def afa (t:List Atom) (op:Int) (x y:List aj):List Atom×List aj:=
 @ite _ (aF t/\(1<=op/\op<=5)/\aI x/\aI y/\aX x t.length/\aX y t.length) (Classical.propDecidable _) (tDo t op x y) ([],[])
def adH:ShT []:=⟨by simp,λm hm=>absurd hm (by simp)⟩
structure Y29(pp:List Atom×Unit->Bool)(ff:List Atom×Unit->Bool×Unit):Prop where
 hp:∀a,ShT a->pp (a,())=true
 hf:∀a,ShT a->ff (a,())=(bp (aF a),())
structure Y30(pp:List Atom×Int×List aj×List aj×Unit->Bool)(ff:List Atom×Int×List aj×List aj×Unit->List Atom×List aj×Bool×Unit):Prop where
 hp:∀(t:List Atom) op x y,t.length<1000000000->Sh x->Sh y->pp (t,op,x,y,())=true
 hf:∀(t:List Atom) op x y,t.length<1000000000->Sh x->Sh y->(ff (t,op,x,y,())).1=(tDo t op x y).1/\(ff (t,op,x,y,())).2.1=(tDo t op x y).2/\(ff (t,op,x,y,())).2.2.1=tOk t op x y
structure Y31(pp:List Atom×Unit->Bool)(ff:List Atom×Unit->List Atom×Unit):Prop where
 hp:∀a,ShT a->pp (a,())=true
 hf:∀a,ShT a->ff (a,())=(a,())
def jy{α:Type}{d:α}{a b:List α}(h:a.length=b.length)(h2:All a.length (λi=>a.getD i.toNat d=b.getD i.toNat d)):a=b:=by
 refine List.ext_getElem h λi h3 h4=> ?_
 have:=h2 i ah ah;dsimp only at this;rw [show(i:Int).toNat=i from rfl,getD_lt h3,getD_lt h4]at this;exact this
structure Y32(pp:List Int×List Int×Unit->Bool)(ff:List Int×List Int×Unit->Bool×Unit):Prop where
 hp:∀a b,a.length<1000000000->pp (a,b,())=true
 hf:∀a b,a.length<1000000000->ff (a,b,())=(bp (a=b),())
structure Y33(pp:List aj×List aj×Unit->Bool)(ff:List aj×List aj×Unit->Bool×Unit):Prop where
 hp:∀a b,Sh a->pp (a,b,())=true
 hf:∀a b,Sh a->ff (a,b,())=(bp (a=b),())
def Ze{a b:Int}:or2 a b=0↔a=0/\b=0:=by unfold or2;split<;>omega
def Gy{a b:aj}:CV a b=0↔a=b:=by
 unfold CV;rw [Ze,gZ,jd];constructor
 .rintro⟨h1,h2⟩;cases a;cases b;simp_all
 .rintro rfl;exact⟨rfl,rfl⟩
def Ul(a b:aj):CV b a= -CV a b:=by
 unfold CV or2;rw [jS,wu];repeat' split<;>omega
def Gz:∀a b:List aj,wJ b a= -wJ a b
 | [],[]=>rfl | [],_::_=>rfl | _::_,[]=>rfl
 | a::az,b::bs=>by
  simp only [wJ,Ul a b,Gz az bs];split<;>split<;>omega
def GA:∀ {a b:List aj},a.length=b.length->wJ a b=0->a=b
 | [],[],_,_=>rfl | [],_::_,h,_=>by simp at h
 | _::_,[],h,_=>by simp at h
 | a::az,b::bs,hl,h=>by
  simp only [wJ]at h;split at h
  .exact absurd h (by assumption)
  .rename_i h1;rw [Gy.1 (Classical.not_not.1 h1),GA (by simpa using hl) h]
def GD:∀a:List aj,wJ a a=0
 | []=>rfl
 | a::az=>by simp only [wJ,Gy.2 rfl];simp [GD az]
def Bq(a b:List aj):eZ b a= -eZ a b:=by
 unfold eZ;rw [wu,Gz];repeat' split<;>omega
def fK{a b:List aj}:eZ a b=0↔a=b:=by
 unfold eZ;constructor
 .intro h;split at h
  .exact absurd h (by assumption)
  .rename_i h1;have:=jd.1 (Classical.not_not.1 h1);exact GA ah h
 .rintro rfl;rw [if_neg (by rw [jd.2 rfl];simp),GD]
def mJ{a b:Atom}:sw a b=true↔a=b:=by
 unfold sw;rw [Bool.and_eq_true,Bool.and_eq_true,Bool.and_eq_true,decide_eq_true_eq,decide_eq_true_eq,decide_eq_true_eq,decide_eq_true_eq,fK,fK];constructor
 .rintro⟨⟨⟨h1,h2⟩,h3⟩,h4⟩;cases a;cases b;simp_all
 .rintro rfl;exact⟨⟨⟨rfl,rfl⟩,rfl⟩,rfl⟩
def mI{α:Type}{d:α}{l:List α}{G:α->Prop}:All l.length (λi=>G (l.getD i.toNat d))↔∀m∈l,G m:=by
 constructor
 .intro h m hm;obtain⟨i,hi,rfl⟩:=List.getElem_of_mem hm;have:=h i ah ah;dsimp only at this;rw [show(i:Int).toNat=i from rfl,getD_lt hi]at this;exact this
 .intro h i h1 h2;exact h _ (cO h1 h2)
def bO{p:List aj}{n:Int}:aX p n↔∀m∈p,∀k∈m.atoms,k<n:=by
 unfold aX IW;rw [mI (d:=default) (G:=λm:aj=>All m.atoms.length (λi=>¬n<=m.atoms.getD i.toNat default))];refine forall_congr' λm=>forall_congr' λ_=> ?_
 rw [mI (d:=default) (G:=λk:Int=>¬n<=k)];exact forall_congr' λk=>forall_congr' λ_=>by omega
def dB{α:Type}{d:α}{R:α->α->Prop}(tr:∀ {a b c},R a b->R b c->R a c){l:List α}:l.Pairwise R↔∀i:Int,0<i->i<l.length->R (l.getD (i-1).toNat d) (l.getD i.toNat d):=by
 rw [List.pairwise_iff_getElem];constructor
 .intro h i h1 h2;rw [getD_lt ah,getD_lt ah];exact h _ _ ah ah ah
 .intro h i j hi hj hij;obtain⟨n,rfl⟩:∃n,j=i+1+n:=⟨j-i-1,ah⟩
  clear hij
  induction n with
  | zero=>
   have:=h (i+1:Nat) ah ah;rw [show(((i+1:Nat):Int)-1).toNat=i by omega,show(((i+1:Nat):Int)).toNat=i+1 by omega,getD_lt hi,getD_lt ah]at this;exact this
  | succ n ih=>
   have h1:=ih ah;have:=h (i+1+n+1:Nat) ah ah;rw [show(((i+1+n+1:Nat):Int)-1).toNat=i+1+n by omega,show(((i+1+n+1:Nat):Int)).toNat=i+1+n+1 by omega,getD_lt ah,getD_lt ah]at this;exact tr h1 this
def I6{l:List Int}:Srt l↔l.Pairwise (· <= ·):=by
 rw [dB (d:=default) (R:=λa b:Int=>a<=b) (λh1 h2=>Int.le_trans h1 h2)];unfold Srt;constructor
 .intro h i h1 h2;have:=h (i-1) ah ah;dsimp only at this;rw [show i-1+1=i by omega]at this;exact this
 .intro h i h1 h2;have:=h (i+1) ah ah;rw [show i+1-1=i by omega]at this;exact this
def eF{a b c:aj}(h1:lt a b)(h2:lt b c):lt a c:=dH (le_of_lt h1) h2
def aok(l:List Int):Prop:=l.Pairwise (· <= ·)/\∀k∈l,0<=k/\k<=199
def eH{p:List aj}:aI p↔Nf p/\p.length<=12/\∀m∈p,m.atoms.length<=4/\aok m.atoms:=by
 constructor
 .rintro⟨h1,h2,h3,h4⟩;have h1':∀m∈p,mOk m:=mI (d:=default) (G:=mOk).1 (λi g1 g2=>(h1 i g1 g2).1);have h4':∀m∈p,¬(0<m.atoms.length/\m.atoms.getD 0 default<0):=mI (d:=default) (G:=λm:aj=>¬(0<m.atoms.length/\m.atoms.getD 0 default<0)).1 h4;refine⟨⟨(dB (d:=default) (R:=lt) eF).2 λi g1 g2=>(h1 i ah g2).2 g1,λm hm=>(h1' m hm).1⟩,h2,λm hm=>⟨(h1' m hm).2.1,I6.1 (h1' m hm).2.2,λk hk=>⟨?_,by have:=bO.1 h3 m hm k hk;omega⟩⟩⟩;have hs:=I6.1 (h1' m hm).2.2;have hn:=h4' m hm;cases ha:m.atoms with
  | nil=>rw [ha]at hk;exact absurd hk (by simp)
  | cons b l=>
   rw [ha]at hk hs hn;simp at hn;rcases List.mem_cons.1 hk with rfl | hk
   .exact hn
   .have:=List.rel_of_pairwise_cons hs hk;omega
 .rintro⟨h1,h2,h3⟩;refine⟨λi g1 g2=>⟨⟨h1.co _ (cO g1 g2),(h3 _ (cO g1 g2)).1,I6.2 (h3 _ (cO g1 g2)).2.1⟩,λg3=>(dB (d:=default) (R:=lt) eF).1 h1.ss i g3 g2⟩,h2,bO.2 λm hm k hk=>by have:=((h3 m hm).2.2 k hk);omega,?_⟩;refine mI (d:=default) (G:=λm:aj=>¬(0<m.atoms.length/\m.atoms.getD 0 default<0)).2 λm hm=> ?_
  rintro⟨g1,g2⟩;have:=(h3 m hm).2.2 _ (cO (i:=0) (d:=default) (xs:=m.atoms) ah ah);rw [show Int.toNat 0=0 from rfl]at this;omega
def Zf{l:List aj}{k:List Int}(h:cf l k≠0):∃m∈l,m.atoms=k:=Classical.byContradiction λh2=>h (gF λm hm e=>h2 ⟨m,hm,e⟩)
def Nf.cf{o:List aj}(h:Nf o){m:aj}(hm:m∈o):cf o m.atoms=m.bC:=by
 induction o with
 | nil=>exact absurd hm (by simp)
 | cons a o ih=>
  rw [aV];rcases List.mem_cons.1 hm with rfl | hm
  .rw [if_pos rfl,gF (λm' hm'=>((List.rel_of_pairwise_cons h.ss hm').ne).symm)];omega
  .rw [if_neg (List.rel_of_pairwise_cons h.ss hm).ne,ih ⟨h.ss.tail,λm hm=>h.co m (by simp [hm])⟩ hm];omega
def Nf.from{o l:List aj}(h:Nf o)(h2:∀k,F.cf o k=F.cf l k%65536){m:aj}(hm:m∈o):∃m'∈l,m'.atoms=m.atoms:=by
 refine Zf λe=> ?_
 have:=h2 m.atoms;rw [h.cf hm,e]at this;have:=h.co m hm;omega
def Nf.bnd{o:List aj}(h:Nf o)(k:List Int):0<=F.cf o k/\F.cf o k<=65535:=by
 by_cases e:F.cf o k=0
 .omega
 .obtain⟨m,hm,rfl⟩:=Zf e;rw [h.cf hm];have:=h.co m hm;omega
def wC{o:List aj}(h:Nf o):nf o=o:=EW h λk=>by have:=h.bnd k;omega
def adI{l o:List aj}(h:Nf o)(h2:∀k,F.cf o k=F.cf l k%65536)(h3:∀m∈l,aok m.atoms):
  jZ l=(decide (o.length<=12/\∀m∈o,m.atoms.length<=4),if o.length<=12/\∀m∈o,m.atoms.length<=4 then o else []):=by
 unfold jZ;rw [EW h h2];by_cases c:o.length<=12/\∀m∈o,m.atoms.length<=4
 .have:aI o:=eH.2 ⟨h,c.1,λm hm=>⟨c.2 m hm,by obtain⟨m',g1,g2⟩:=h.from h2 hm;rw [<-g2];exact h3 m' g1⟩⟩;rw [aU this,decide_eq_true c,if_pos rfl,if_pos c]
 .have:¬aI o:=λg=>c ⟨(eH.1 g).2.1,λm hm=>((eH.1 g).2.2 m hm).1⟩
  rw [aR this,decide_eq_false c,if_neg (by simp),if_neg c]
def Zg(a b c:Int):Nb.F () (a,b,c,()) (λy=>y=(inB a b c,())):=by
 dsimp only [Nb,gm];simp (disch:=omega) only [RR];rfl
def Zh(a:Int):Na.F () (a,()) (λy=>y=(inB a 0 65535,())):=by
 dsimp only [Na,gm];simp (disch:=omega) only [RR];refine congrArg (λb=>(b,())) ?_;rw [Bool.eq_iff_iff,bM,Bool.and_eq_true,decide_eq_true_eq,decide_eq_true_eq];omega
def ain{p1 f1}(U1:Y1 p1 f1)(a:Int):
  NT.F (p1,f1,()) (a,()) (λy=>y=(bS a,())):=by
 dsimp only [NT,gm];simp (disch:=omega) only [RR,U1.hp,U1.hf,bM,jq];unfold bS;exact⟨λh=>by rw [if_neg ah],λh=>by rw [if_pos ah]⟩
def aio{p1 f1}(U1:Y1 p1 f1)(a:Int):
  Nu.F (p1,f1,()) (a,()) (λy=>y=(dG a,())):=by
 dsimp only [Nu,gm];simp (disch:=omega) only [RR,U1.hp,U1.hf,bM,jq];unfold dG;exact⟨λh=>by rw [if_neg ah],λh=>by rw [if_pos ah]⟩
def Zi(a:Int):a.tmod 65536=if 0<=a then a%65536 else- (-a%65536):=by
 split
 .rw [Int.tmod_eq_emod_of_nonneg ah]
 .have:=Int.neg_tmod (-a) 65536;rw [Int.neg_neg]at this;rw [this,Int.tmod_eq_emod_of_nonneg ah]
def Zj(a:Int):NU.F () (a,()) (λy=>y=(a%65536,())):=by
 dsimp only [NU,gm];simp only [YW];by_cases h:0<=a
 .rw [show a.tmod 65536=a%65536 by rw [Zi,if_pos h]];simp (disch:=omega) only [RR];refine⟨ah,λh2=> ?_⟩;exfalso;omega
 .rw [show a.tmod 65536= - (-a%65536) by rw [Zi,if_neg h]];simp (disch:=omega) only [RR];refine⟨ah,λh2=> ?_,λh2=> ?_⟩
  .rw [show-(-a%65536)+65536=a%65536 by omega]
  .rw [show-(-a%65536)=a%65536 by omega]
def Zk(a b:List Int)(ha:a.length<1000000000):Nw.F () (a,b,()) (λy=>y=(dx a b,())):=by
 dsimp only [Nw,gm];simp (disch:=omega) only [RR];refine⟨λh=>⟨λh1=> ?_,λh1=> ?_⟩,λh=> ?_⟩
 .rw [show dx a b= -1 by(have e:ig a.length b.length= -1:=by unfold ig;rw [if_pos h1]);unfold dx or2;rw [e];rfl]
 .rw [show dx a b=1 by(have e:ig a.length b.length=1:=by unfold ig;rw [if_neg h1,if_pos ah]);unfold dx or2;rw [e];rfl]
 have hl:a.length=b.length:=by omega
 have e0:dx a b=kE a b:=by unfold dx or2;rw [jd.2 ah,if_neg (by simp)]
 refine ak (λ(y:List Int×List Int×Int×Unit)=>y.1=a/\y.2.1=b/\0<=y.2.2.1/\y.2.2.1<=a.length/\dx a b=kE (a.drop y.2.2.1.toNat) (b.drop y.2.2.1.toNat)) (λy=>(a.length-y.2.2.1).toNat) ⟨rfl,rfl,by simp,by simp,by simpa using e0⟩ ?_;rintro⟨(l1:List Int),(l2:List Int),(i:Int),⟨⟩⟩ hI;dsimp only at hI ⊢;obtain⟨rfl,rfl,h1,h2,h3⟩:=hI;simp (disch:=omega) only [RR];refine⟨λh4=> ?_,λh4=> ?_⟩
 .have e:=Bj l1 l2 i.toNat ah ah;rw [getD_lt ah,getD_lt ah];refine⟨ah,ah,ah,ah,λh5=> ?_,λh5=>⟨ah,ah,ah,ah,λh6=> ?_,λh6=>⟨⟨ah,ah,?_⟩,ah⟩⟩⟩
  .rw [h3,e,show ig l1[i.toNat] l2[i.toNat]= -1 by unfold ig;rw [if_pos h5]];rfl
  .rw [h3,e,show ig l1[i.toNat] l2[i.toNat]=1 by unfold ig;rw [if_neg h5,if_pos h6]];rfl
  .rw [h3,e,show ig l1[i.toNat] l2[i.toNat]=0 by unfold ig;rw [if_neg h5,if_neg h6],show(i+1).toNat=i.toNat+1 by omega];rfl
 .rw [h3,List.drop_eq_nil_of_le ah,List.drop_eq_nil_of_le ah];rfl
def aip{p1 f1}(U1:Y1 p1 f1)(m:aj)(hm:m.atoms.length<1000000000):
  Ny.F (p1,f1,()) (m,()) (λy=>y=(bp ((1<=m.bC/\m.bC<=65535)/\m.atoms.length<=4/\aok m.atoms),())):=by
 dsimp only [Ny,gm];simp (disch:=omega) only [RR,U1.hp,U1.hf,bM,jq];refine⟨λh=> ?_,λ⟨h1,h2⟩=> ?_⟩
 .rw [aR];rintro⟨g1,g2,g3⟩;omega
 refine ak (λ(y:Int×aj×Unit)=>y.2.1=m/\0<=y.1/\y.1<=m.atoms.length/\All y.1 (λi=>(0<=m.atoms.getD i.toNat default/\m.atoms.getD i.toNat default<=199)/\(0<i->m.atoms.getD (i-1).toNat default<=m.atoms.getD i.toNat default))) (λy=>(m.atoms.length-y.1).toNat) ⟨rfl,by simp,by simp,All.zero⟩ ?_;rintro⟨(i:Int),(m':aj),⟨⟩⟩ hI;dsimp only at hI ⊢;obtain⟨rfl,h3,h4,h5⟩:=hI;simp (disch:=omega) only [RR,U1.hp,U1.hf,bM,jq];refine⟨λh6=>⟨ah,ah,by by_cases c:0<i;(· right;omega);(· left;simp [c]),by by_cases c:0<i;(· right;omega);(· left;simp [c]),ah,ah,λh7=> ?_,λh7=>⟨⟨ah,ah,h5.snoc ⟨h7.1,λc=> ?_⟩⟩,ah⟩⟩,λh6=> ?_⟩
 .rw [aR];rintro⟨g1,g2,g3,g4⟩;rcases h7 with h7 | ⟨h7,h8⟩
  .exact h7 (g4 _ (cO h3 h6))
  .have:=(dB (d:=default) (R:=λa b:Int=>a<=b) (λh1 h2=>Int.le_trans h1 h2)).1 g3 i h7 h6;omega
 .have:=h7.2;rw [decide_eq_true c,Bool.true_and,decide_eq_false_iff_not]at this;omega
 .have h8:=h5.le (by omega:(m'.atoms.length:Int)<=i);rw [aU];refine⟨ah,ah,(dB (d:=default) (R:=λa b:Int=>a<=b) (λh1 h2=>Int.le_trans h1 h2)).2 λj j1 j2=>(h8 j ah j2).2 j1,mI (d:=default) (G:=λk:Int=>0<=k/\k<=199).1 λj j1 j2=>(h8 j j1 j2).1⟩
def aiq{p4 f4}{p1:aj×Unit->Bool}{f1:aj×Unit->Bool×Unit}(hp1:∀m:aj,m.atoms.length<1000000000->p1 (m,())=true)(hf1:∀m:aj,m.atoms.length<1000000000->f1 (m,())=(bp ((1<=m.bC/\m.bC<=65535)/\m.atoms.length<=4/\aok m.atoms),()))(U4:Y7 p4 f4)(a:List aj)(ha:Sh a):Nz.F (p1,f1,p4,f4,()) (a,()) (λy=>y=(bp (aI a),())):=by
 have hlen:=ha.1;dsimp only [Nz,gm];simp (disch:=omega) only [RR];refine⟨λh=> ?_,λh=> ?_⟩
 .rw [aR (λh2=>by have:=h2.len;omega)]
 refine ak (λ(y:Int×List aj×Unit)=>y.2.1=a/\0<=y.1/\y.1<=a.length/\All y.1 (λi=>((1<=((a).getD (i).toNat default).bC/\((a).getD (i).toNat default).bC<=65535)/\((a).getD (i).toNat default).atoms.length<=4/\aok ((a).getD (i).toNat default).atoms)/\(0<i->lt ((a).getD (i-1).toNat default) ((a).getD (i).toNat default)))) (λy=>(a.length-y.1).toNat) ⟨rfl,by simp,by simp,All.zero⟩ ?_;rintro⟨(i:Int),(l':List aj),⟨⟩⟩ hI;dsimp only at hI ⊢;obtain⟨rfl,h1,h2,h3⟩:=hI;simp (disch:=omega) only [RR,hp1 _ (ha.at _),hf1 _ (ha.at _),U4.hp _ _ (ha.at _),U4.hf _ _ (ha.at _),aN,fT];refine⟨λh4=>⟨ah,ah,by by_cases c:0<i;(· right;omega);(· left;simp [c]),by by_cases c:0<i;(· right;omega);(· left;simp [c]),ah,ah,λh5=> ?_,λh5=>⟨⟨ah,ah,h3.snoc ⟨h5.1,λc=> ?_⟩⟩,ah⟩⟩,λh4=> ?_⟩
 .rw [aR (λh=> ?_)];obtain⟨g1,g2,g3⟩:=eH.1 h;rcases h5 with h5 | ⟨h5,h6⟩
  .exact h5 ⟨g1.co _ (cO h1 h4),g3 _ (cO h1 h4)⟩
  .have:=(dB (d:=default) (R:=lt) eF).1 g1.ss i h5 h4;unfold lt at this;omega
 .have:=h5.2;rw [decide_eq_true c,Bool.true_and,decide_eq_false_iff_not]at this;unfold lt;omega
 .have h8:=h3.le (by omega:(l'.length:Int)<=i);rw [aU];have h9:=mI (d:=default) (G:=λm:aj=>(1<=m.bC/\m.bC<=65535)/\m.atoms.length<=4/\aok m.atoms).1 λj j1 j2=>(h8 j j1 j2).1
  exact eH.2 ⟨⟨(dB (d:=default) (R:=lt) eF).2 λj j1 j2=>(h8 j ah j2).2 j1,λm hm=>(h9 m hm).1⟩,ah,λm hm=>(h9 m hm).2⟩
def Zl(a:List aj)(n:Int)(ha:Sh a):NC.F () (a,n,()) (λy=>y=(bp (aX a n),())):=by
 have hlen:=ha.1;dsimp only [NC,gm];simp (disch:=omega) only [RR];refine ak (λ(y:Int×Int×List aj×Unit)=>y.1=n/\y.2.2.1=a/\0<=y.2.1/\y.2.1<=a.length/\All y.2.1 (λi=>IW n ((a).getD (i).toNat default))) (λy=>(a.length-y.2.1).toNat) ⟨rfl,rfl,by simp,by simp,All.zero⟩ ?_;rintro⟨(n':Int),(i:Int),(l:List aj),⟨⟩⟩ hI;dsimp only at hI ⊢;obtain⟨rfl,rfl,h1,h2,h3⟩:=hI;simp (disch:=omega) only [RR];refine⟨λh4=> ?_,λh4=> ?_⟩
 .have h5:=ha.at i.toNat;refine ak (λ(y:Int×Int×Int×List aj×Unit)=>y.1=n'/\y.2.1=i/\y.2.2.2.1=l/\0<=y.2.2.1/\y.2.2.1<=((l).getD (i).toNat default).atoms.length/\All y.2.2.1 (λj=>¬n'<=((l).getD (i).toNat default).atoms.getD j.toNat default)) (λy=>(((l).getD (i).toNat default).atoms.length-y.2.2.1).toNat) ⟨rfl,rfl,rfl,by simp,by simp,All.zero⟩ ?_;rintro⟨(n'':Int),(i':Int),(j:Int),(l':List aj),⟨⟩⟩ hI;dsimp only at hI ⊢;obtain⟨rfl,rfl,rfl,g1,g2,g3⟩:=hI;simp (disch:=omega) only [RR];refine⟨ah,ah,λg4=>⟨ah,ah,ah,ah,λg5=> ?_,λg5=>⟨⟨ah,ah,g3.snoc g5⟩,ah⟩⟩,λg4=>⟨⟨ah,ah,h3.snoc (g3.le ah)⟩,ah⟩⟩;rw [aR (λh=>h i' h1 h4 j g1 g4 g5)]
 .rw [aU (show aX l n' from h3.le ah)]
theorem air{p4 f4}(U4:Y7 p4 f4)(a b:List aj)(ha:Sh a):NH.F (p4,f4,()) (a,b,()) (λy=>y=(eZ a b,())):=by
 have hlen:=ha.1;dsimp only [NH,gm];simp (disch:=omega) only [RR];refine⟨λh=>⟨λh1=> ?_,λh1=> ?_⟩,λh=> ?_⟩
 .rw [show eZ a b= -1 by(have e:ig a.length b.length= -1:=by unfold ig;rw [if_pos h1]);unfold eZ;rw [e];rfl]
 .rw [show eZ a b=1 by(have e:ig a.length b.length=1:=by unfold ig;rw [if_neg h1,if_pos ah]);unfold eZ;rw [e];rfl]
 have hl:a.length=b.length:=by omega
 have e0:eZ a b=wJ a b:=by unfold eZ;rw [jd.2 ah,if_neg (by simp)]
 refine ak (λ(y:Int×List aj×List aj×Unit)=>y.2.1=a/\y.2.2.1=b/\0<=y.1/\y.1<=a.length/\eZ a b=wJ (a.drop y.1.toNat) (b.drop y.1.toNat)) (λy=>(a.length-y.1).toNat) ⟨rfl,rfl,by simp,by simp,by simpa using e0⟩ ?_;rintro⟨(i:Int),(l:List aj),(l':List aj),⟨⟩⟩ hI;dsimp only at hI ⊢;obtain⟨rfl,rfl,h1,h2,h3⟩:=hI;simp (disch:=omega) only [RR,U4.hp _ _ (ha.at _),U4.hf _ _ (ha.at _)];refine⟨λh4=> ?_,λh4=> ?_⟩
 .have e:=Bn l l' i.toNat ah ah;rw [getD_lt ah,getD_lt ah];generalize hu:l[i.toNat]=u at e ⊢;generalize hv:l'[i.toNat]=v at e ⊢;have em:CV u v=if dx u.atoms v.atoms≠0 then dx u.atoms v.atoms else ig u.bC v.bC:=rfl
  refine⟨ah,ah,ah,ah,λh5=> ?_,λh5=>⟨ah,ah,ah,ah,λh6=>⟨ah,ah,ah,ah,λh7=> ?_,λh7=> ?_⟩,λh6=>⟨⟨ah,ah,?_⟩,ah⟩⟩⟩
  .rw [if_pos h5]at em;rw [h3,e,em,if_pos h5]
  .rw [if_neg (by simpa using h5),show ig u.bC v.bC= -1 by unfold ig;rw [if_pos h7]]at em;rw [h3,e,em];rfl
  .rw [if_neg (by simpa using h5),show ig u.bC v.bC=1 by unfold ig;rw [if_neg h7,if_pos ah]]at em;rw [h3,e,em];rfl
  .rw [if_neg (by simpa using h5),jd.2 h6]at em;rw [h3,e,em,show(i+1).toNat=i.toNat+1 by omega];rfl
 .rw [h3,List.drop_eq_nil_of_le ah];rfl
def Zm(a:Atom):NA.F () (a,()) (λy=>y=(bp (a.x=[]/\a.y=[]),())):=by
 dsimp only [NA,gm];simp (disch:=omega) only [RR];refine congrArg (λb=>(b,())) ?_;rw [Bool.eq_iff_iff,aN,Bool.and_eq_true,decide_eq_true_eq,decide_eq_true_eq];constructor
 .rintro⟨h1,h2⟩;exact⟨List.eq_nil_of_length_eq_zero ah,List.eq_nil_of_length_eq_zero ah⟩
 .rintro⟨h1,h2⟩;rw [h1,h2];exact⟨rfl,rfl⟩
def ais{p1 f1 p4 f4 p3 f3}(U1:Y1 p1 f1)(U4:Y11 p4 f4)(U3:Y6 p3 f3){p5:Atom×Unit->Bool}{f5:Atom×Unit->Bool×Unit}(hp5:∀a,p5 (a,())=true)(hf5:∀a,f5 (a,())=(bp (a.x=[]/\a.y=[]),()))(a:Atom)(n:Int)(ha:ShA a):
  ND.F (p1,f1,p4,f4,p3,f3,p5,f5,()) (a,n,()) (λy=>y=(bp (gq a n),())):=by
 obtain⟨hx,hy⟩:=ha;dsimp only [ND,gm];simp (disch:=omega) only [RR,U1.hp,U1.hf,hp5,hf5,U3.hp a.x n hx,U3.hf a.x n hx,U3.hp a.y n hy,U3.hf a.y n hy,U4.hp a.x hx,U4.hf a.x hx,U4.hp a.y hy,U4.hf a.y hy];unfold gq;have E:∀(b:Bool) (P:Prop),(b=true↔P)->(b,())=(bp P,()):=λb P h=>by
  rw [show b=bp P from Bool.eq_iff_iff.2 (h.trans aN.symm)]
 have T:∀ {P:Prop},¬P->(false,())=(bp P,()):=λh=>by rw [aR h]
 refine⟨λh=>E _ _ ?_,λh=>⟨λh1=>⟨λ_=>E _ _ ?_,λh'=>absurd h1 h'⟩,λh1=>⟨λh2=>E _ _ ?_,λh2=>⟨λh3=>E _ _ ?_,λh3=>T ?_⟩⟩⟩⟩
 .rw [if_neg ah,Bool.and_eq_true,bM,aN];constructor
  .rintro⟨g1,g2⟩;exact⟨g2,Or.inl ⟨h,g1⟩⟩
  .rintro⟨g2,⟨_,g1⟩ | ⟨g3,g1⟩⟩
   .exact⟨g1,g2⟩
   .omega
 .rw [if_neg ah,Bool.and_eq_true,bM,aN];constructor
  .rintro⟨g1,g2⟩;exact⟨g2,Or.inr ⟨Or.inl h1,g1⟩⟩
  .rintro⟨g2,⟨_,g1⟩ | ⟨g3,g1⟩⟩
   .omega
   .exact⟨g1,g2⟩
 .rw [if_neg ah,Bool.and_eq_true,bM,aN];constructor
  .rintro⟨g1,g2⟩;exact⟨g2,Or.inr ⟨Or.inr h2,g1⟩⟩
  .rintro⟨g2,⟨_,g1⟩ | ⟨g3,g1⟩⟩
   .omega
   .exact⟨g1,g2⟩
 .rw [if_pos h3];simp only [Bool.and_eq_true,bM,aN,and_assoc]
 .rw [if_neg h3];rintro⟨_,⟨g,_⟩ | ⟨g,_⟩⟩<;>omega
def ait{p1 f1}(U1:Y8 p1 f1)(a b:Atom)(ha:ShA a):
  NI.F (p1,f1,()) (a,b,()) (λy=>y=(sw a b,())):=by
 dsimp only [NI,gm];simp (disch:=omega) only [RR,U1.hp a.x b.x ha.1,U1.hf a.x b.x ha.1,U1.hp a.y b.y ha.2,U1.hf a.y b.y ha.2];rfl
def Zn(G:Int->Prop):∀n:Nat,∃r,Idx n G r
 | 0=>⟨-1,Or.inl ⟨rfl,All.zero⟩⟩
 | n+1=>by
  obtain⟨r,h⟩:=Zn G n;rcases h with⟨h1,h2⟩ | ⟨h1,h2,h3,h4⟩
  .by_cases g:G n
   .exact⟨n,Or.inr ⟨ah,ah,g,h2⟩⟩
   .exact⟨-1,Or.inl ⟨rfl,by have:=h2.snoc g;exact this.le ah⟩⟩
  .exact⟨r,Or.inr ⟨h1,ah,h3,h4⟩⟩
def P7(G:Int->Prop)(n:Nat):Idx n G (idxOf n G):=by
 obtain⟨r,h⟩:=Zn G n;rw [<-h.eq];exact h
def iV(t:List Atom)(a:Atom):Idx t.length (λi=>a=t.getD i.toNat default) (oG t a):=by
 have:=P7 (λi=>sw a (t.getD i.toNat default)=true) t.length;simp only [mJ]at this;unfold oG;simp only [mJ];exact this
def iL{t:List Atom}:aF t↔All t.length (λi=>gq (t.getD i.toNat default) i/\All i (λj=>¬t.getD i.toNat default=t.getD j.toNat default))/\t.length<=200:=by
 unfold aF;refine and_congr ⟨λh i h1 h2=>⟨(h i h1 h2).1,?_⟩,λh i h1 h2=>⟨(h i h1 h2).1,?_⟩⟩ Iff.rfl
 .have:=iV t (t.getD i.toNat default);rw [(h i h1 h2).2]at this;rcases this with⟨g1,_⟩ | ⟨_,_,_,g⟩
  .omega
  .exact g
 .exact((iV t (t.getD i.toNat default)).uniq (Or.inr ⟨h1,h2,rfl,(h i h1 h2).2⟩))
def aiu{p1 f1 p2 f2}(U1:Y18 p1 f1)(U2:Y15 p2 f2)(a:List Atom)(ha:ShT a):
  NJ.F (p1,f1,p2,f2,()) (a,()) (λy=>y=(bp (aF a),())):=by
 have hlen:=ha.1;dsimp only [NJ,gm];simp (disch:=omega) only [RR];refine⟨λh=> ?_,λh=> ?_⟩
 .rw [aR (λh2=>by have:=h2.2;omega)]
 refine ak (λ(y:Int×List Atom×Unit)=>y.2.1=a/\0<=y.1/\y.1<=a.length/\All y.1 (λi=>gq ((a).getD (i).toNat default) i/\All i (λj=>¬((a).getD (i).toNat default)=((a).getD (j).toNat default)))) (λy=>(a.length-y.1).toNat) ⟨rfl,by simp,by simp,All.zero⟩ ?_;rintro⟨(i:Int),(l:List Atom),⟨⟩⟩ hI;dsimp only at hI ⊢;obtain⟨rfl,h1,h2,h3⟩:=hI;simp (disch:=omega) only [RR,U1.hp _ _ (ha.at _),U1.hf _ _ (ha.at _),aN,fT];refine⟨λh4=>⟨ah,ah,λh5=> ?_,λh5=> ?_⟩,λh4=> ?_⟩
 .rw [aR (λh=>h5 (h.1 i h1 h4).1)]
 .refine ak (λ(y:Int×Int×List Atom×Unit)=>y.1=i/\y.2.2.1=l/\0<=y.2.1/\y.2.1<=i/\All y.2.1 (λj=>¬((l).getD (i).toNat default)=((l).getD (j).toNat default))) (λy=>(i-y.2.1).toNat) ⟨rfl,rfl,by simp,by simp;omega,All.zero⟩ ?_;rintro⟨(i':Int),(j:Int),(l':List Atom),⟨⟩⟩ hI;dsimp only at hI ⊢;obtain⟨rfl,rfl,g1,g2,g3⟩:=hI;simp (disch:=omega) only [RR,U2.hp _ _ (ha.at _),U2.hf _ _ (ha.at _)];refine⟨λg4=>⟨ah,ah,ah,ah,λg5=> ?_,λg5=>⟨⟨ah,ah,g3.snoc ?_⟩,ah⟩⟩,λg4=>⟨⟨ah,ah,h3.snoc ⟨h5,g3.le ah⟩⟩,ah⟩⟩
  .rw [aR (λh=>((iL.1 h).1 i' h1 h4).2 j g1 g4 (mJ.1 g5).symm)]
  .intro e;rw [mJ.2 e.symm]at g5;cases g5
 .rw [aU (iL.2 ⟨h3.le ah,ah⟩)]
def aiv{p1 f1 p2 f2}(U1:Y9 p1 f1)(U2:Y10 p2 f2)(op a b:Int):
  Ob.F (p2,f2,p1,f1,()) (op,a,b,()) (λy=>y=(wdo op a b,())):=by
 dsimp only [Ob,gm];simp (disch:=omega) only [RR,U1.hp,U1.hf,U2.hp,U2.hf,IX,Za,bM,jq];by_cases ha:(0<=a/\a<=65535)/\(0<=b/\b<=65535)
 .have hm:0<=a*b/\a*b<=65535*65535:=⟨Int.mul_nonneg ha.1.1 ha.2.1,Int.mul_le_mul ha.1.2 ha.2.2 ha.2.1 ah⟩;rw [w64 (x:=a+b) ah ah,w64 (x:=a-b) ah ah,w64 (x:=a*b) ah ah];unfold wdo;rw [if_pos ha];refine⟨λh=>absurd h ah,λ_=>⟨λh=> ?_,λh=>⟨λh1=> ?_,λh1=>⟨λh2=> ?_,λh2=>⟨λh3=> ?_,λh3=>⟨λh4=> ?_,λh4=> ?_⟩⟩⟩⟩⟩⟩<;>(subst_vars;first | rfl | simp only [if_true,if_false, *])
 .refine⟨λh=> ?_,λh=>absurd h ?_⟩
  .unfold wdo;rw [if_neg ha]
  .exact ha
theorem aiw{p1 f1}(U1:Y11 p1 f1)(a:List aj)(ha:Sh a):
  Oa.F (p1,f1,()) (a,()) (λy=>y=((cB a).1,(cB a).2,())):=by
 dsimp only [Oa,gm];simp (disch:=omega) only [RR,U1.hp a ha,U1.hf a ha];unfold cB;have z:Int.toNat 0=0:=rfl;rw [z];refine⟨λh=> ?_,λh=>⟨λh1=> ?_,λh1=>⟨ah,ah,λh2=> ?_,λh2=>⟨ah,ah,?_⟩⟩⟩⟩
 .rw [if_neg (by simpa using h)]
 .rw [if_pos h,if_pos ah]
 .rw [if_pos h,if_neg ah,if_neg ah]
 .rw [if_pos h,if_neg ah,if_pos ah]
def Zo(a:List aj)(ha:Sh a):NK.F () (a,()) (λy=>y=(a,())):=by
 have hlen:=ha.1;dsimp only [NK,gm];simp (disch:=omega) only [RR];refine ak (λ(y:List aj×Int×List aj×Unit)=>y.1=a/\y.2.2.1=a.take y.2.1.toNat/\0<=y.2.1/\y.2.1<=a.length) (λy=>(a.length-y.2.1).toNat) ⟨rfl,by simp,by simp,by simp⟩ ?_;rintro⟨(l:List aj),(i:Int),(o:List aj),⟨⟩⟩ hI;dsimp only at hI ⊢;obtain⟨rfl,rfl,h1,h2⟩:=hI;have h3:=ha.at i.toNat;have h4:=List.length_take_le' i.toNat l;simp (disch:=omega) only [RR];simp only [List.length_nil,List.nil_append,List.length_cons];refine⟨λh4=>⟨ah,ah,ah,ah,Or.inr ah,ah,ah,⟨bK h1 h4 rfl,ah,ah⟩,ah⟩,λh4=>by rw [List.take_of_length_le ah]⟩
def I7(l:List aj):Prop:=l.length<=12/\∀m∈l,m.atoms.length<=4
def aix{p1 f1}(U1:Y13 p1 f1)(a:List aj)(ha:Sh a):
  NW.F (p1,f1,()) (a,()) (λy=>y=(bp (I7 a),if bp (I7 a)then a else [],())):=by
 have hlen:=ha.1;dsimp only [NW,gm];simp (disch:=omega) only [RR];refine⟨λh=> ?_,λh=> ?_⟩
 .rw [aR (λh2=>by have:=h2.1;omega)];rfl
 refine ak (λ(y:List aj×Int×Unit)=>y.1=a/\0<=y.2.1/\y.2.1<=a.length/\All y.2.1 (λi=>((a).getD (i).toNat default).atoms.length<=4)) (λy=>(a.length-y.2.1).toNat) ⟨rfl,by simp,by simp,All.zero⟩ ?_;rintro⟨(l:List aj),(i:Int),⟨⟩⟩ hI;dsimp only at hI ⊢;obtain⟨rfl,h1,h2,h3⟩:=hI;simp (disch:=omega) only [RR,U1.hp l ha,U1.hf l ha];refine⟨λh4=>⟨ah,ah,λh5=> ?_,λh5=>⟨⟨ah,ah,h3.snoc ah⟩,ah⟩⟩,λh4=> ?_⟩
 .rw [aR (λh=>by have:=h.2 _ (cO (d:=default) h1 h4);omega)];rfl
 .rw [aU (show I7 l from⟨ah,mI (d:=default) (G:=λm:aj=>m.atoms.length<=4).1 (h3.le ah)⟩)];rfl
def aiy{p1 f1}(U1:Y13 p1 f1)(a:Atom)(ha:ShA a):
  NP.F (p1,f1,()) (a,()) (λy=>y=(a.kind,a.k,a.x,a.y,())):=by
 dsimp only [NP,gm];simp (disch:=omega) only [RR,U1.hp a.x ha.1,U1.hf a.x ha.1,U1.hp a.y ha.2,U1.hf a.y ha.2]
structure Y34(pp:Atom×Unit->Bool)(ff:Atom×Unit->Int×Int×List aj×List aj×Unit):Prop where
 hp:∀a,ShA a->pp (a,())=true
 hf:∀a,ShA a->ff (a,())=(a.kind,a.k,a.x,a.y,())
def aiz{p1 f1}(U1:Y34 p1 f1)(a:List Atom)(ha:ShT a):
  NQ.F (p1,f1,()) (a,()) (λy=>y=(a,())):=by
 have hlen:=ha.1;dsimp only [NQ,gm];simp (disch:=omega) only [RR];refine ak (λ(y:Int×List Atom×List Atom×Unit)=>y.2.1=a/\y.2.2.1=a.take y.1.toNat/\0<=y.1/\y.1<=a.length) (λy=>(a.length-y.1).toNat) ⟨rfl,by simp,by simp,by simp⟩ ?_;rintro⟨(i:Int),(l:List Atom),(o:List Atom),⟨⟩⟩ hI;dsimp only at hI ⊢;obtain⟨rfl,rfl,h1,h2⟩:=hI;simp (disch:=omega) only [RR,U1.hp _ (ha.at _),U1.hf _ (ha.at _)];have h5:=List.length_take_le' i.toNat l;refine⟨λh4=>⟨ah,ah,?_,⟨bK h1 h4 rfl,ah,ah⟩,ah⟩,λh4=>by rw [List.take_of_length_le ah]⟩;simp only [List.length_cons,List.length_nil];omega
def wD{p:List aj}{n m:Int}(h:aX p n)(h2:n<=m):aX p m:=bO.2 λa ha k hk=>by have:=bO.1 h a ha k hk;omega
def Zp{a:Atom}{n m:Int}(h:gq a n)(h2:n<=m):gq a m:=by
 unfold gq at h ⊢;split
 .rename_i h3;rw [if_pos h3]at h;exact⟨h.1,h.2.1,h.2.2.1,wD h.2.2.2.1 h2,wD h.2.2.2.2 h2⟩
 .rename_i h3;rw [if_neg h3]at h;exact h
def aiA{p1 f1 p2 f2 p3 f3}(U1:Y18 p1 f1)(U2:Y15 p2 f2)(U3:Y34 p3 f3)(a:Atom)(t:List Atom)(ha:ShA a)(ht:ShT t)(hok:aF t):NR.F (p1,f1,p2,f2,p3,f3,()) (a,t,()) (λy=>y=((aT t a).2,(aT t a).1,())):=by
 have hlen:=ht.1;dsimp only [NR,gm];simp (disch:=omega) only [RR,U1.hp _ _ ha,U1.hf _ _ ha,aN,fT];have hsp:=iV t a;refine⟨λh=> ?_,λh=> ?_⟩
 .have:oG t a= -1:=by
   rcases hsp with⟨g,_⟩ | ⟨g1,g2,g3,_⟩
   .exact g
   .exfalso;apply h;have:=(hok.1 _ g1 g2).1;rw [<-g3]at this;exact Zp this ah
  unfold aT;rw [this,if_neg ah,if_pos (Or.inl h)]
 refine ak (λ(y:Int×List Atom×Atom×Unit)=>y.2.1=t/\y.2.2.1=a/\0<=y.1/\y.1<=t.length/\All y.1 (λi=>¬a=t.getD i.toNat default)) (λy=>(t.length-y.1).toNat) ⟨rfl,rfl,by simp,by simp,All.zero⟩ ?_;rintro⟨(i:Int),(l:List Atom),(a':Atom),⟨⟩⟩ hI;dsimp only at hI ⊢;obtain⟨rfl,rfl,h1,h2,h3⟩:=hI;simp (disch:=omega) only [RR,U2.hp _ _ (ht.at _),U2.hf _ _ (ht.at _),U3.hp _ ha,U3.hf _ ha];refine⟨λh4=>⟨ah,ah,ah,ah,λh5=> ?_,λh5=>⟨⟨ah,ah,h3.snoc ?_⟩,ah⟩⟩,λh4=> ?_⟩
 .have e:=(mJ.1 h5).symm;have:oG l a'=i:=hsp.uniq (Or.inr ⟨h1,h4,e,h3⟩);unfold aT;rw [this,if_pos h1]
 .intro e;rw [mJ.2 e.symm]at h5;cases h5
 .have:oG l a'= -1:=hsp.uniq (Or.inl ⟨rfl,h3.le ah⟩);unfold aT;rw [this,if_neg ah];refine⟨λh5=> ?_,λh5=>⟨?_,?_⟩⟩
  .rw [if_pos (Or.inr ah)]
  .simp only [List.length_cons,List.length_nil];omega
  .rw [if_neg (by rintro(g | g);exact g h;omega),List.length_append];rw [w64 (by simp only [List.length_cons,List.length_nil];omega) (by simp only [List.length_cons,List.length_nil];omega)];simp only [List.length_cons,List.length_nil];rw [show(((l.length+(0+1):Nat):Int)-1)=l.length by omega]
def Cg(op n:Int)(y:List aj):List aj×Bool:=if op=4/\n=0 then([],true)else if(op=4/\n=65535)\/(op=5/\n=0)then(y,true)else([],false)
def aiB{p1 f1}(U1:Y13 p1 f1)(op n:Int)(y:List aj)(hy:Sh y):
  Oc.F (p1,f1,()) (op,n,y,()) (λz=>z=((Cg op n y).2,(Cg op n y).1,())):=by
 dsimp only [Oc,gm];simp (disch:=omega) only [RR,U1.hp y hy,U1.hf y hy];unfold Cg;by_cases c1:op=4<;>by_cases c2:n=0<;>by_cases c3:n=65535<;>by_cases c4:op=5<;>simp [c1,c2,c3,c4]<;>omega
def adJ(op:Int)(x y:List aj):uO op x y=if(cB x).2&& (cB y).2 then(bS (wdo op (cB x).1 (cB y).1),true)
  else if eZ x y=0 then(if op=4 then(x,true)else([],true))else if(cB x).2 then Cg op (cB x).1 y else if(cB y).2 then Cg op (cB y).1 x else([],false):=by
 unfold uO Cg;by_cases c1:eZ x y=0<;>by_cases c2:op=4<;>simp [c1,c2]
def aiC{p1 f1 p2 f2 p3 f3 p4 f4 p7 f7}(U1:Y8 p1 f1)(U2:Y13 p2 f2)(U3:Y24 p3 f3)(U4:Y22 p4 f4)(U7:Y27 p7 f7){p8:Int×Int×List aj×Unit->Bool}{f8:Int×Int×List aj×Unit->Bool×List aj×Unit}(hp8:∀op n y,Sh y->p8 (op,n,y,())=true)(hf8:∀op n y,Sh y->f8 (op,n,y,())=((Cg op n y).2,(Cg op n y).1,()))(op:Int)(x y:List aj)(hx:Sh x)(hy:Sh y):Od.F (p1,f1,p2,f2,p3,f3,p4,f4,p7,f7,p8,f8,()) (op,x,y,()) (λz=>z=((uO op x y).2,(uO op x y).1,())):=by
 dsimp only [Od,gm];simp (disch:=omega) only [RR,U1.hp x y hx,U1.hf x y hx,U2.hp x hx,U2.hf x hx,U3.hp,U3.hf,U4.hp,U4.hf,U7.hp x hx,U7.hf x hx,U7.hp y hy,U7.hf y hy,hp8 op _ y hy,hf8 op _ y hy,hp8 op _ x hx,hf8 op _ x hx];rw [adJ];generalize cB x=nx;generalize cB y=ny;obtain⟨n,bn⟩:=nx;obtain⟨m,bm⟩:=ny;dsimp only;by_cases e:eZ x y=0<;>by_cases o4:op=4<;>cases bn<;>cases bm<;>simp [e,o4]
noncomputable def E5 (op:Int) (x y:List aj):List aj×Bool:=
 if op=1 then((kZ x y).2,(kZ x y).1)else if op=2 then((kZ x (gK y 65535)).2,(kZ x (gK y 65535)).1)else if op=3 then((kF x y).2,(kF x y).1)else([],false)
def aiD{p5 f5 p4 f4 p6 f6}(U5:Y23 p5 f5)(U4:Y25 p4 f4)(U6:Y26 p6 f6)(op:Int)(x y:List aj)(hx:Sh x)(hy:Sh y):N9.F (p5,f5,p4,f4,p6,f6,()) (op,x,y,()) (λz=>z=((E5 op x y).2,(E5 op x y).1,())):=by
 dsimp only [N9,gm];simp (disch:=omega) only [RR,U4.hp x y hx hy,U4.hf x y hx hy,U4.hp x _ hx (wB y 65535),U4.hf x _ hx (wB y 65535),U5.hp x y hx hy,U5.hf x y hx hy,U6.hp y _ hy,U6.hf y _ hy];unfold E5;refine⟨λh=>by rw [if_pos h],λh=>⟨λh1=>by rw [if_neg h,if_pos h1],λh1=>⟨λh2=>by rw [if_neg h,if_neg h1,if_pos h2],λh2=>by rw [if_neg h,if_neg h1,if_neg h2]⟩⟩⟩
structure Y35(pp:Atom×List Atom×Unit->Bool)(ff:Atom×List Atom×Unit->Int×List Atom×Unit):Prop where
 hp:∀a t,ShA a->ShT t->aF t->pp (a,t,())=true
 hf:∀a t,ShA a->ShT t->aF t->ff (a,t,())=((aT t a).2,(aT t a).1,())
def aiE{p1 f1 p2 f2 p5 f5}(U1:Y28 p1 f1)(U2:Y8 p2 f2){p3:Int×List aj×List aj×Unit->Bool}{f3:Int×List aj×List aj×Unit->Bool×List aj×Unit}(hp3:∀op x y,Sh x->Sh y->p3 (op,x,y,())=true)(hf3:∀op x y,Sh x->Sh y->f3 (op,x,y,())=((E5 op x y).2,(E5 op x y).1,())){p4:Int×List aj×List aj×Unit->Bool}{f4:Int×List aj×List aj×Unit->Bool×List aj×Unit}(hp4:∀op x y,Sh x->Sh y->p4 (op,x,y,())=true)(hf4:∀op x y,Sh x->Sh y->f4 (op,x,y,())=((uO op x y).2,(uO op x y).1,()))(U5:Y35 p5 f5)(op:Int)(x y:List aj)(t:List Atom)(hop:1<=op/\op<=5)(hx:Sh x)(hy:Sh y)(ht:ShT t)(hok:aF t):Oe.F (p1,f1,p2,f2,p3,f3,p4,f4,p5,f5,()) (op,x,y,t,()) (λz=>z=((tDo t op x y).1,(tDo t op x y).2,())):=by
 have s1:ShA ⟨4,op,x,y⟩:=⟨hx,hy⟩;have s2:ShA ⟨4,op,y,x⟩:=⟨hy,hx⟩;dsimp only [Oe,gm];simp (disch:=omega) only [RR,U1.hp,U1.hf,U2.hp x y hx,U2.hf x y hx,hp3 op x y hx hy,hf3 op x y hx hy,hp4 op x y hx hy,hf4 op x y hx hy,U5.hp _ _ s1 ht hok,U5.hf _ _ s1 ht hok,U5.hp _ _ s2 ht hok,U5.hf _ _ s2 ht hok];have e1:(op=4\/op=5)->uO op x y=fD op x y:=λh=>by unfold fD;rw [if_neg ah,if_neg ah,if_neg ah]
 have e2:¬(op=4\/op=5)->E5 op x y=fD op x y:=λh=>by
  unfold fD E5;by_cases c1:op=1
  .rw [if_pos c1,if_pos c1]
  .rw [if_neg c1,if_neg c1];by_cases c2:op=2
   .rw [if_pos c2,if_pos c2]
   .rw [if_neg c2,if_neg c2,if_pos ah,if_pos ah]
 unfold tDo;by_cases c:op=4\/op=5
 .rw [e1 c];generalize aT t ⟨4,op,y,x⟩=r1;generalize aT t ⟨4,op,x,y⟩=r2;generalize eZ x y=o;generalize fD op x y=s;obtain⟨p,b⟩:=s;have c':¬op=2:=by omega
  cases b<;>by_cases c2:0<o<;>by_cases c3:r1.2<0<;>by_cases c4:r2.2<0<;>simp [c,c',c2,c3,c4]<;>omega
 .rw [e2 c];generalize aT t ⟨4,op,y,x⟩=r1;generalize aT t ⟨4,op,x,y⟩=r2;generalize eZ x y=o;generalize fD op x y=s;obtain⟨p,b⟩:=s;obtain⟨n4,n5⟩:=not_or.1 c;cases b<;>by_cases c1:op=2<;>by_cases c2:0<o<;>by_cases c3:r1.2<0<;>by_cases c4:r2.2<0<;>simp [n4,n5,c1,c2,c3,c4]
structure Plus(l:List aj)(m:aj)(o:List aj):Prop where
 nf:Nf o
 cf:∀k,cf o k=F.cf (l++ [m]) k%65536
 len:o.length<=l.length+1
def aiF{p1 f1 p2 f2}(U1:Y7 p1 f1)(U2:Y10 p2 f2)(l:List aj)(m:aj)(hl:l.length<1000000000)(hn:Nf l)(hm:1<=m.bC/\m.bC<=65535)(hma:m.atoms.length<1000000000):NV.F (p1,f1,p2,f2,()) (l,m,()) (λy=>Plus l m y.1):=by
  dsimp only [NV,gm]
  refine ak (λ(y:List aj×Bool×Int×aj×List aj×Unit)=>y.1=l/\y.2.2.2.1=m/\0<=y.2.2.1/\y.2.2.1<=l.length/\
      ((y.2.1=false/\y.2.2.2.2.1=l.take y.2.2.1.toNat/\∀x∈l.take y.2.2.1.toNat,lt x m)\/
       (y.2.1=true/\Nf y.2.2.2.2.1/\(∀k,cf y.2.2.2.2.1 k=cf (l.take y.2.2.1.toNat++ [m]) k%65536)/\(y.2.2.2.2.1.length:Int)<=y.2.2.1+1/\(y.2.2.1<l.length->lt m ((l).getD (y.2.2.1).toNat default)/\∀x∈y.2.2.2.2.1,lt x ((l).getD (y.2.2.1).toNat default))))) (λy=>(l.length-y.2.2.1).toNat)
    ⟨rfl,rfl,by simp,by simp,Or.inl ⟨rfl,by simp,by simp⟩⟩ ?_
  rintro⟨(l':List aj),(dn:Bool),(i:Int),(m':aj),(o:List aj),⟨⟩⟩ hI;dsimp only at hI ⊢;obtain⟨rfl,rfl,h1,h2,h3⟩:=hI;simp (disch:=omega) only [RR,U1.hp _ _ hma,U1.hf _ _ hma,U2.hp,U2.hf];have hss:=hn.ss;have nx:i+1<l'.length->lt ((l').getD (i).toNat default) ((l').getD (i+1).toNat default):=λh=>by
    have:=(dB (d:=default) (R:=lt) eF).1 hss (i+1) ah h;rw [show i+1-1=i by omega]at this;exact this
  have tk:i<l'.length->l'.take (i+1).toNat=l'.take i.toNat++ [((l').getD (i).toNat default)]:=λh=>(bK h1 h rfl).symm
  have bf:i<l'.length->∀x∈l'.take i.toNat,lt x ((l').getD (i).toNat default):=λh x hx=>by
    have:=hss;rw [<-List.take_append_drop i.toNat l',List.pairwise_append]at this;refine this.2.2 x hx _ ?_;rw [getD_lt ah,List.drop_eq_getElem_cons (show i.toNat<l'.length by omega)];exact List.mem_cons_self
  have lt0:=List.length_take_le' i.toNat l';have lt1:=List.length_take_le i.toNat l';have co:i<l'.length->1<=((l').getD (i).toNat default).bC/\((l').getD (i).toNat default).bC<=65535:=λh=>hn.co _ (cO h1 h)
  have ntk:Nf (l'.take i.toNat):=⟨List.Pairwise.sublist (List.take_sublist _ _) hss,λx hx=>hn.co x (List.mem_of_mem_take hx)⟩;have Zq:∀ {a:List aj} {x:aj},Nf a->(∀y∈a,lt y x)->1<=x.bC/\x.bC<=65535->Nf (a++ [x]):=λ{a x} g1 g2 g3=>⟨by
    rw [List.pairwise_append];exact⟨g1.ss,List.pairwise_singleton _ _,λy hy z hz=>by rw [List.mem_singleton]at hz;subst hz;exact g2 y hy⟩,λy hy=>by
    rw [List.mem_append,List.mem_singleton]at hy;rcases hy with hy | rfl
    · exact g1.co y hy
    · exact g3⟩
  have l1:∀(x:List aj) (y:aj),(x++ [y]).length=x.length+1:=λx y=>by rw [List.length_append];rfl
  have fin:∀o,i=l'.length->Nf o->(∀k,cf o k=cf (l'.take i.toNat++ [m']) k%65536)->(o.length:Int)<=i+1->Plus l' m' o:=λo e g1 g2 g3=>⟨g1,λk=>by rw [g2 k,List.take_of_length_le ah],ah⟩
  by_cases hi:i<l'.length
  · have nx:=nx;have tk:=tk hi;have bf:=bf hi;have co:=co hi;rw [tk];have hv:∀ {P:Prop},P->(∀x,x=((l').getD (i).toNat default)->P)->P:=λh _=>h
    generalize ((l').getD (i).toNat default)=v at nx tk bf co h3 ⊢;have cfs:∀k,cf (l'.take i.toNat++ [v]++ [m']) k=cf (l'.take i.toNat) k+(if v.atoms=k then v.bC else 0)+(if m'.atoms=k then m'.bC else 0):=λk=>by
      rw [dz,dz,aV,aV,iM];simp only [Int.add_zero]
    have cfm:∀k,cf (l'.take i.toNat++ [m']) k=cf (l'.take i.toNat) k+(if m'.atoms=k then m'.bC else 0):=λk=>by
      rw [dz,aV,iM,Int.add_zero]
    rcases h3 with⟨rfl,rfl,h4⟩ | ⟨rfl,h4,h5,h6,h7⟩
    ·
      simp (disch:=omega) only [RR,decide_true,Bool.not_false,Bool.true_and,decide_eq_true_eq,hi];by_cases c1:dx m'.atoms v.atoms<0
      · have c2:¬dx m'.atoms v.atoms=0:=by omega
        simp (disch:=omega) only [RR,c1,c2];have n1:=Zq ntk h4 hm;have b2:∀x∈l'.take i.toNat++ [m'],lt x v:=λx hx=>by
          rw [List.mem_append,List.mem_singleton]at hx;rcases hx with hx | rfl
          · exact bf x hx
          · exact c1
        have n2:=Zq n1 b2 co;refine⟨ah,by rw [show([m']:List aj).length=1 from rfl];omega,ah,by rw [l1,show([v]:List aj).length=1 from rfl];omega,⟨ah,ah,Or.inr ⟨n2,λk=> ?_,by rw [l1,l1];omega,λh=>⟨eF c1 (nx h),λx hx=> ?_⟩⟩⟩,ah⟩
        · have e1:=cfs k;have e2:=n2.bnd k;have e3:cf (l'.take i.toNat++ [m']++ [v]) k=cf (l'.take i.toNat++ [v]++ [m']) k:=by rw [e1,dz,cfm,aV,iM];omega
          rw [<-e3];omega
        · rw [List.mem_append,List.mem_singleton]at hx;rcases hx with hx | rfl
          · exact eF (b2 x hx) (nx h)
          · exact nx h
      · by_cases c2:dx m'.atoms v.atoms=0
        · have ev:=gZ.1 c2;simp (disch:=omega) only [RR,c1,c2,List.append_nil];have zz:cf (l'.take i.toNat) v.atoms=0:=gF λx hx=>(bf x hx).ne
          refine⟨ah,λh=>absurd h ah,λ_=>⟨ah,λc3=> ?_,λc3=> ?_⟩⟩
          · have n2:=Zq (x:=⟨(v.bC+m'.bC)%65536,v.atoms⟩) ntk bf ⟨by dsimp only;omega,by dsimp only;omega⟩;refine⟨ah,by simp only [List.length_cons,List.length_nil];omega,⟨ah,ah,Or.inr ⟨n2,λk=> ?_,by rw [l1];omega,λh=>⟨?_,λx hx=> ?_⟩⟩⟩,ah⟩
            · have e1:=cfs k;have e2:=n2.bnd k;rw [e1];rw [dz,aV,iM]at e2 ⊢;dsimp only at e2 ⊢;by_cases ek:v.atoms=k
              · rw [if_pos ek]at e2 ⊢;rw [if_pos ek,if_pos (ev.trans ek)];rw [<-ek,zz]at e2 ⊢;omega
              · rw [if_neg ek]at e2 ⊢;rw [if_neg ek,if_neg (λe=>ek (ev.symm.trans e))];omega
            · have:=nx h;unfold lt at this ⊢;rw [ev];exact this
            · rw [List.mem_append,List.mem_singleton]at hx;rcases hx with hx | rfl
              · exact eF (bf x hx) (nx h)
              · exact nx h
          · refine⟨⟨ah,ah,Or.inr ⟨ntk,λk=> ?_,ah,λh=>⟨?_,λx hx=>eF (bf x hx) (nx h)⟩⟩⟩,ah⟩
            · have e1:=cfs k;have e2:=ntk.bnd k;rw [e1];by_cases ek:v.atoms=k
              · rw [if_pos ek,if_pos (ev.trans ek),<-ek,zz];omega
              · rw [if_neg ek,if_neg (λe=>ek (ev.symm.trans e))];omega
            · have:=nx h;unfold lt at this ⊢;rw [ev];exact this
        · simp (disch:=omega) only [RR,c1,c2];refine⟨ah,ah,by simp only [List.length_cons,List.length_nil];omega,⟨ah,ah,Or.inl (λx hx=> ?_)⟩,ah⟩;rw [List.mem_append,List.mem_singleton]at hx;rcases hx with hx | rfl
          · exact h4 x hx
          · unfold lt;rw [jS];omega
    · have c3:=(h7 hi).1;have b2:=(h7 hi).2;have c1:dx m'.atoms v.atoms<0:=c3;have c2:¬dx m'.atoms v.atoms=0:=by omega
      simp (disch:=omega) only [RR,decide_true,Bool.not_true,Bool.false_and,decide_eq_true_eq,hi,c2];have n2:=Zq h4 b2 co;refine⟨ah,λh=>h.1.elim,ah,by simp only [List.length_cons,List.length_nil];omega,⟨ah,ah,Or.inr ⟨n2,λk=> ?_,by rw [l1];omega,λh=>⟨eF c3 (nx h),λx hx=> ?_⟩⟩⟩,ah⟩
      · have e1:=cfs k;have e2:=n2.bnd k;have e3:=h5 k;rw [cfm]at e3;rw [dz,aV,iM]at e2 ⊢;rw [e1];by_cases ek:v.atoms=k
        · rw [if_pos ek]at e2 ⊢;omega
        · rw [if_neg ek]at e2 ⊢;omega
      · rw [List.mem_append,List.mem_singleton]at hx;rcases hx with hx | rfl
        · exact eF (b2 x hx) (nx h)
        · exact nx h
  · have ei:i=l'.length:=by omega
    rcases h3 with⟨rfl,rfl,h4⟩ | ⟨rfl,h4,h5,h6,h7⟩
    · simp (disch:=omega) only [RR,decide_true,Bool.not_false,Bool.true_and,decide_eq_true_eq,hi];have n1:=Zq ntk h4 hm;refine⟨by simp only [List.length_cons,List.length_nil];omega,fin _ ei n1 (λk=> ?_) (by rw [l1];omega)⟩;have e2:=n1.bnd k;omega
    · simp (disch:=omega) only [RR,decide_true,Bool.not_true,Bool.false_and,decide_eq_true_eq,hi];exact fin _ ei h4 h5 h6
def nG{a o:List Int}(h:o.Pairwise (· <= ·))(hp:o.Perm a):o=bW a:=by
 refine List.Perm.eq_of_pairwise (le:=λx y:Int=>x<=y) (λa b _ _ h1 h2=>Int.le_antisymm h1 h2) h ?_ (hp.trans (List.mergeSort_perm a _).symm);have:=List.pairwise_mergeSort (le:=λx y:Int=>decide (x<=y)) (λa b c h1 h2=>by simp at*;omega) (λa b=>by simp;omega) a;exact this.imp (λh=>by simpa using h)
def Zr(a b:List Int)(ha:a.length<100000000)(hb:b.length<100000000)(sa:a.Pairwise (· <= ·))(sb:b.Pairwise (· <= ·)):
  N7.F () (a,b,()) (λy=>y=(bW (a++b),())):=by
 dsimp only [N7,gm];have sa':=(dB (d:=default) (R:=λa b:Int=>a<=b) (λh1 h2=>Int.le_trans h1 h2)).1 sa;have sb':=(dB (d:=default) (R:=λa b:Int=>a<=b) (λh1 h2=>Int.le_trans h1 h2)).1 sb
 let I:List Int->Int->Int->Prop:=λo i k=>0<=i/\i<=a.length/\0<=k/\k<=b.length/\o.Pairwise (· <= ·)/\o.Perm (a.take i.toNat++b.take k.toNat)/\(i<a.length->∀x∈o,x<=((a).getD (i).toNat default))/\(k<b.length->∀x∈o,x<=((b).getD (k).toNat default))
 have sn:∀ {o:List Int} {y:Int},o.Pairwise (· <= ·)->(∀x∈o,x<=y)->(o++ [y]).Pairwise (· <= ·):=λ{o y} g1 g2=>by
  rw [List.pairwise_append];exact⟨g1,List.pairwise_singleton _ _,λx hx z hz=>by rw [List.mem_singleton]at hz;subst hz;exact g2 x hx⟩
 have il:∀o i k,I o i k->(o.length:Int)=i+k:=λo i k ⟨h1,h2,h3,h4,_,h5,_⟩=>by
  have:=h5.length_eq;rw [List.length_append,List.length_take,List.length_take]at this;omega
 have stA:∀o i k,I o i k->i<a.length->(k<b.length->((a).getD (i).toNat default)<=((b).getD (k).toNat default))->I (o++ [((a).getD (i).toNat default)]) (i+1) k:=by
  rintro o i k ⟨h1,h2,h3,h4,h5,h6,h7,h8⟩ hi hk;refine⟨ah,ah,h3,h4,sn h5 (h7 hi),?_,λg x hx=> ?_,λg x hx=> ?_⟩
  .rw [<-bK (d:=default) h1 hi rfl];refine(h6.append_right _).trans ?_;rw [List.append_assoc,List.append_assoc];exact(List.perm_append_comm).append_left _
  .have:=sa' (i+1) ah g;rw [show i+1-1=i by omega]at this;rw [List.mem_append,List.mem_singleton]at hx;rcases hx with hx | rfl
   .exact Int.le_trans (h7 hi x hx) this
   .exact this
  .rw [List.mem_append,List.mem_singleton]at hx;rcases hx with hx | rfl
   .exact h8 g x hx
   .exact hk g
 have stB:∀o i k,I o i k->k<b.length->(i<a.length->((b).getD (k).toNat default)<=((a).getD (i).toNat default))->I (o++ [((b).getD (k).toNat default)]) i (k+1):=by
  rintro o i k ⟨h1,h2,h3,h4,h5,h6,h7,h8⟩ hk hi;refine⟨h1,h2,ah,ah,sn h5 (h8 hk),?_,λg x hx=> ?_,λg x hx=> ?_⟩
  .rw [<-bK (d:=default) h3 hk rfl,<-List.append_assoc];exact h6.append_right _
  .rw [List.mem_append,List.mem_singleton]at hx;rcases hx with hx | rfl
   .exact h7 g x hx
   .exact hi g
  .have:=sb' (k+1) ah g;rw [show k+1-1=k by omega]at this;rw [List.mem_append,List.mem_singleton]at hx;rcases hx with hx | rfl
   .exact Int.le_trans (h8 hk x hx) this
   .exact this
 refine ak (λ(y:List Int×List Int×Int×Int×List Int×Unit)=>y.1=a/\y.2.1=b/\I y.2.2.2.2.1 y.2.2.1 y.2.2.2.1) (λy=>(b.length-y.2.2.2.1).toNat)
  ⟨rfl,rfl,by simp,by simp,by simp,by simp,List.Pairwise.nil,by simp,λ_ x hx=>absurd hx (by simp),λ_ x hx=>absurd hx (by simp)⟩ ?_
 rintro⟨(a':List Int),(b':List Int),(i:Int),(k:Int),(o:List Int),⟨⟩⟩ hI;dsimp only at hI ⊢;obtain⟨rfl,rfl,hI⟩:=hI;have hb1:=hI.1;have hb2:=hI.2.1;have hb3:=hI.2.2.1;have hb4:=hI.2.2.2.1;have hol:=il _ _ _ hI;simp (disch:=omega) only [RR];refine⟨λh9=> ?_,λh9=> ?_⟩
 .refine ak (λ(y:List Int×List Int×Int×Int×List Int×Unit)=>y.1=a'/\y.2.1=b'/\y.2.2.2.1=k/\I y.2.2.2.2.1 y.2.2.1 k) (λy=>(a'.length-y.2.2.1).toNat) ⟨rfl,rfl,rfl,hI⟩ ?_;rintro⟨(a2:List Int),(b2:List Int),(i2:Int),(k2:Int),(o2:List Int),⟨⟩⟩ hI2;dsimp only at hI2 ⊢;obtain⟨rfl,rfl,rfl,hI2⟩:=hI2;have hc1:=hI2.1;have hc2:=hI2.2.1;have hol:=il _ _ _ hI2;simp (disch:=omega) only [RR];refine⟨ah,ah,ah,ah,λ⟨g1,g2⟩=>⟨ah,g1,by simp only [List.length_cons,List.length_nil];omega,stA _ _ _ hI2 g1 (λ_=>g2),ah⟩,λg=>⟨ah,h9,by simp only [List.length_cons,List.length_nil];omega,stB _ _ _ hI2 h9 (λg1=> ?_),ah⟩⟩;rw [decide_eq_true g1,Bool.true_and,decide_eq_false_iff_not]at g;omega
 .have e1:List.drop i.toNat (List.take ((a'.length:Int)).toNat a')=a'.drop i.toNat:=by rw [List.take_of_length_le ah]
  rw [e1];refine⟨ah,ah,ah,by rw [List.length_drop];omega,?_⟩;obtain⟨h1,h2,h3,h4,h5,h6,h7,h8⟩:=hI;rw [nG (a:=a'++b') (o:=o++a'.drop i.toNat)]
  .rw [List.pairwise_append];refine⟨h5,List.Pairwise.sublist (List.drop_sublist _ _) sa,λx hx y hy=> ?_⟩;by_cases hi:i<a'.length
   .refine Int.le_trans (h7 hi x hx) ?_;rw [List.drop_eq_getElem_cons (show i.toNat<a'.length by omega)]at hy;have hd:=List.Pairwise.sublist (List.drop_sublist i.toNat _) sa;rw [List.drop_eq_getElem_cons (show i.toNat<a'.length by omega)]at hd;rw [getD_lt (show i.toNat<a'.length by omega)];rcases List.mem_cons.1 hy with rfl | hy
    .exact Int.le_refl _
    .exact List.rel_of_pairwise_cons hd hy
   .rw [List.drop_eq_nil_of_le ah]at hy;exact absurd hy (by simp)
  .rw [List.take_of_length_le (show b'.length<=k.toNat by omega)]at h6;refine(h6.append_right _).trans ?_;rw [List.append_assoc];refine((List.perm_append_comm).append_left _).trans ?_;rw [<-List.append_assoc,List.take_append_drop]
def aI.nf{p:List aj}(h:aI p):Nf p:=(eH.1 h).1
def aI.aok{p:List aj}(h:aI p){m:aj}(hm:m∈p):m.atoms.length<=4/\F.aok m.atoms:=(eH.1 h).2.2 m hm
def I8{l o:List aj}(h:Nf o)(h2:∀k,cf o k=cf l k%65536)(h3:∀m∈l,aok m.atoms):(bp (I7 o),if bp (I7 o)then o else [])=((jZ l).1,(jZ l).2):=by
 rw [adI h h2 h3];by_cases c:I7 o
 .rw [aU c,if_pos rfl];dsimp only;rw [decide_eq_true (show o.length<=12/\∀m∈o,m.atoms.length<=4 from c),if_pos (show o.length<=12/\∀m∈o,m.atoms.length<=4 from c)]
 .rw [aR c,if_neg (by simp)];dsimp only;rw [decide_eq_false (show¬(o.length<=12/\∀m∈o,m.atoms.length<=4)from c),if_neg (show¬(o.length<=12/\∀m∈o,m.atoms.length<=4)from c)]
def Zt{o l:List aj}(h:Nf o)(h2:∀k,cf o k=cf l k%65536)(h3:∀m∈l,m.atoms.length<1000000000)(h4:o.length<1000000000):Sh o:=⟨h4,λm hm=>by
 obtain⟨m',g1,g2⟩:=h.from h2 hm;rw [<-g2];exact h3 m' g1⟩
structure Y36(pp:List aj×aj×Unit->Bool)(ff:List aj×aj×Unit->List aj×Unit):Prop where
 hp:∀(l:List aj) m,l.length<1000000000->Nf l->1<=m.bC/\m.bC<=65535->m.atoms.length<1000000000->pp (l,m,())=true
 hf:∀(l:List aj) m,l.length<1000000000->Nf l->1<=m.bC/\m.bC<=65535->m.atoms.length<1000000000->Plus l m (ff (l,m,())).1
structure Y37(pp:List aj×Unit->Bool)(ff:List aj×Unit->Bool×List aj×Unit):Prop where
 hp:∀a,Sh a->pp (a,())=true
 hf:∀a,Sh a->ff (a,())=(bp (I7 a),if bp (I7 a)then a else [],())
def aiG{p1 f1 p2 f2 p3 f3}(U1:Y11 p1 f1)(U2:Y36 p2 f2)(U3:Y37 p3 f3)(a b:List aj)(ha:Sh a)(hb:Sh b):NY.F (p1,f1,p2,f2,p3,f3,()) (a,b,()) (λy=>y=((kZ a b).1,(kZ a b).2,())):=by
 dsimp only [NY,gm];simp (disch:=omega) only [RR,U1.hp a ha,U1.hf a ha,U1.hp b hb,U1.hf b hb,aN,fT];unfold kZ;refine⟨λh=> ?_,λ⟨h1,h2⟩=> ?_⟩
 .rw [if_neg];rw [Bool.and_eq_true,aN,aN];rintro⟨g1,g2⟩;rcases h with h | h
  .exact h g1
  .exact h g2
 rw [if_pos (by rw [aU h1,aU h2];rfl)];have l1:=h1.len;have l2:=h2.len;have hl:∀m∈a++b,F.aok m.atoms/\m.atoms.length<1000000000:=λm hm=>by
  rw [List.mem_append]at hm;rcases hm with hm | hm
  .exact⟨(h1.aok hm).2,ha.2 m hm⟩
  .exact⟨(h2.aok hm).2,hb.2 m hm⟩
 refine ak (λ(y:List aj×Int×List aj×Unit)=>y.2.2.1=b/\0<=y.2.1/\y.2.1<=b.length/\Nf y.1/\(∀k,cf y.1 k=cf (a++b.take y.2.1.toNat) k%65536)/\(y.1.length:Int)<=12+y.2.1) (λy=>(b.length-y.2.1).toNat)
  ⟨rfl,by simp,by simp,h1.nf,λk=>by have:=h1.nf.bnd k;simp only [Int.toNat_zero,List.take_zero,List.append_nil];omega,by simp only;omega⟩ ?_
 rintro⟨(o:List aj),(i:Int),(b':List aj),⟨⟩⟩ hI;dsimp only at hI ⊢;obtain⟨rfl,h3,h4,h5,h6,h7⟩:=hI;have so:Sh o:=Zt h5 h6 (λm hm=>(hl m (by rw [List.mem_append]at hm ⊢;exact hm.imp id List.mem_of_mem_take)).2) ah;simp (disch:=omega) only [RR,U3.hp o so,U3.hf o so];refine⟨λh9=> ?_,λh9=> ?_⟩
 .have hm:=h2.nf.co _ (cO (d:=default) h3 h9);have pl:=U2.hf o ((b').getD (i).toNat default) so.1 h5 hm (hb.at _);refine⟨ah,ah,U2.hp o ((b').getD (i).toNat default) so.1 h5 hm (hb.at _),⟨ah,ah,pl.nf,λk=> ?_,by have:=pl.len;omega⟩,ah⟩;rw [pl.cf k,dz,h6 k,<-bK (d:=default) h3 h9 rfl,<-List.append_assoc,dz (a++_)];omega
 .have:=I8 h5 (λk=>by rw [h6 k,List.take_of_length_le ah]) (λm hm=>(hl m hm).1);exact congrArg (λz:Bool×List aj=>(z.1,z.2,())) this
def aiH{p1 f1 p0 f0 p2 f2 p3 f3}(U1:Y11 p1 f1)(U0:Y10 p0 f0)(U2:Y36 p2 f2){p4:List Int×List Int×Unit->Bool}{f4:List Int×List Int×Unit->List Int×Unit}(hp4:∀a b:List Int,a.length<100000000->b.length<100000000->a.Pairwise (· <= ·)->b.Pairwise (· <= ·)->p4 (a,b,())=true)(hf4:∀a b:List Int,a.length<100000000->b.length<100000000->a.Pairwise (· <= ·)->b.Pairwise (· <= ·)->f4 (a,b,())=(bW (a++b),()))(U3:Y37 p3 f3)(a b:List aj)(ha:Sh a)(hb:Sh b):N8.F (p1,f1,p0,f0,p2,f2,p4,f4,p3,f3,()) (a,b,()) (λy=>y=((kF a b).1,(kF a b).2,())):=by
 obtain⟨hp1,hf1⟩:=U1;obtain⟨hp0,hf0⟩:=U0;obtain⟨hp2,hf2⟩:=U2;obtain⟨hp3,hf3⟩:=U3;dsimp only [N8,gm];simp (disch:=omega) only [RR,hp1 a ha,hf1 a ha,hp1 b hb,hf1 b hb,aN,fT];unfold kF;refine⟨λh=> ?_,λ⟨h1,h2⟩=> ?_⟩
 .rw [if_neg];rw [Bool.and_eq_true,aN,aN];rintro⟨g1,g2⟩;rcases h with h | h
  .exact h g1
  .exact h g2
 rw [if_pos (by rw [aU h1,aU h2];rfl)];have l1:=h1.len;have l2:=h2.len;have am:∀m∈a,∀n∈b,aok (mulM m n).atoms/\(mulM m n).atoms.length<=8:=λm hm n hn=>by
  obtain⟨g1,g2⟩:=h1.aok hm;obtain⟨g3,g4⟩:=h2.aok hn;refine⟨⟨?_,λk hk=> ?_⟩,?_⟩
  .have:=List.pairwise_mergeSort (le:=λx y:Int=>decide (x<=y)) (λa b c h1 h2=>by simp at*;omega) (λa b=>by simp;omega) (m.atoms++n.atoms);exact this.imp (λh=>by simpa using h)
  .have:k∈m.atoms++n.atoms:=List.mem_mergeSort.1 hk;rw [List.mem_append]at this;rcases this with hk | hk
   .exact g2.2 k hk
   .exact g4.2 k hk
  .show(bW _).length<=8;rw [qA,List.length_append];omega
 have pm:∀m∈prods a b,aok m.atoms/\m.atoms.length<=8:=λm hm=>by
  unfold prods at hm;rw [List.mem_flatMap]at hm;obtain⟨x,hx,hm⟩:=hm;rw [List.mem_map]at hm;obtain⟨y,hy,rfl⟩:=hm;exact am x hx y hy
 let J:List aj->Int->Int->Prop:=λo i k=>Nf o/\(∀t,cf o t=cf (prods (a.take i.toNat) b++(b.take k.toNat).map (mulM ((a).getD (i).toNat default))) t%65536)/\(o.length:Int)<=12*i+k
 refine ak (λ(y:Int×List aj×List aj×List aj×Unit)=>y.2.1=a/\y.2.2.1=b/\0<=y.1/\y.1<=a.length/\J y.2.2.2.1 y.1 0) (λy=>(a.length-y.1).toNat)
  ⟨rfl,rfl,by simp,by simp,⟨⟨List.Pairwise.nil,λm hm=>absurd hm (by simp)⟩,λk=>by simp [cf,prods],by simp⟩⟩ ?_
 rintro⟨(i:Int),(a':List aj),(b':List aj),(o:List aj),⟨⟩⟩ hI;dsimp only at hI ⊢;obtain⟨rfl,rfl,h3,h4,hJ⟩:=hI;have hJ1:=hJ.2.2;have so:Sh o:=Zt (l:=prods (a'.take i.toNat) b') hJ.1 (λt=>by rw [hJ.2.1 t];simp) (λm hm=>by
  have:m∈prods a' b':=by
   unfold prods at hm ⊢;rw [List.mem_flatMap]at hm ⊢;obtain⟨x,hx,hm⟩:=hm;exact⟨x,List.mem_of_mem_take hx,hm⟩
  have:=(pm m this).2;omega) ah
 simp (disch:=omega) only [RR,hp3 o so,hf3 o so];refine⟨λh9=> ?_,λh9=> ?_⟩
 .refine ak (λ(y:Int×Int×List aj×List aj×List aj×Unit)=>y.1=i/\y.2.2.1=a'/\y.2.2.2.1=b'/\0<=y.2.1/\y.2.1<=b'.length/\J y.2.2.2.2.1 i y.2.1) (λy=>(b'.length-y.2.1).toNat) ⟨rfl,rfl,rfl,by simp,by simp,hJ⟩ ?_;rintro⟨(i':Int),(k:Int),(a2:List aj),(b2:List aj),(o2:List aj),⟨⟩⟩ hI;dsimp only at hI ⊢;obtain⟨rfl,rfl,rfl,g1,g2,hK⟩:=hI;have hK1:=hK.2.2;by_cases g3:k<b2.length
  .have ma:((a2).getD (i').toNat default)∈a2:=cO h3 h9;have mb:((b2).getD (k).toNat default)∈b2:=cO g1 g3;have ca:=h1.nf.co _ ma;have cb:=h2.nf.co _ mb;obtain⟨q1,q2⟩:=h1.aok ma;obtain⟨q3,q4⟩:=h2.aok mb;have hm:=I5 (show 0<=((a2).getD (i').toNat default).bC by omega) ah (show 0<=((b2).getD (k).toNat default).bC by omega) ah;have am':=(am _ ma _ mb).2;simp (disch:=omega) only [RR,hp0,hf0,hp4 _ _ (show((a2).getD (i').toNat default).atoms.length<100000000 by omega) (show((b2).getD (k).toNat default).atoms.length<100000000 by omega) q2.1 q4.1,hf4 _ _ (show((a2).getD (i').toNat default).atoms.length<100000000 by omega) (show((b2).getD (k).toNat default).atoms.length<100000000 by omega) q2.1 q4.1];have tk:prods (a2.take i'.toNat) b2++(b2.take (k+1).toNat).map (mulM ((a2).getD (i').toNat default))=prods (a2.take i'.toNat) b2++(b2.take k.toNat).map (mulM ((a2).getD (i').toNat default))++ [mulM ((a2).getD (i').toNat default) ((b2).getD (k).toNat default)]:=by
    rw [<-bK (d:=default) g1 g3 rfl,List.map_append,List.append_assoc];rfl
   refine⟨λ_=>⟨ah,ah,ah,ah,λg4=> ?_,λg4=>⟨⟨ah,ah,hK.1,λt=> ?_,ah⟩,ah⟩⟩,λh=>absurd g3 h⟩
   .have aoD:(⟨((a2).getD (i').toNat default).bC*((b2).getD (k).toNat default).bC%65536,bW (((a2).getD (i').toNat default).atoms++((b2).getD (k).toNat default).atoms)⟩:aj).atoms.length<1000000000:=by have:(bW (((a2).getD (i').toNat default).atoms++((b2).getD (k).toNat default).atoms)).length<=8:=am';dsimp only;omega
    have cc:1<=(⟨((a2).getD (i').toNat default).bC*((b2).getD (k).toNat default).bC%65536,bW (((a2).getD (i').toNat default).atoms++((b2).getD (k).toNat default).atoms)⟩:aj).bC/\(⟨((a2).getD (i').toNat default).bC*((b2).getD (k).toNat default).bC%65536,bW (((a2).getD (i').toNat default).atoms++((b2).getD (k).toNat default).atoms)⟩:aj).bC<=65535:=by dsimp only;omega
    have pl:=hf2 o2 _ ah hK.1 cc aoD;refine⟨ah,ah,ah,ah,hp2 o2 _ ah hK.1 cc aoD,⟨ah,ah,pl.nf,λt=> ?_,by have:=pl.len;omega⟩,ah⟩;rw [pl.cf t,dz,hK.2.1 t,tk,dz (prods _ _++_)];show(_+cf [mulM ((a2).getD (i').toNat default) ((b2).getD (k).toNat default)] t)%65536=_;omega
   .rw [tk,dz,hK.2.1 t];have:cf [mulM ((a2).getD (i').toNat default) ((b2).getD (k).toNat default)] t=0:=by
     rw [aV,iM];have:(mulM ((a2).getD (i').toNat default) ((b2).getD (k).toNat default)).bC=0:=by show((a2).getD (i').toNat default).bC*((b2).getD (k).toNat default).bC%65536=0;omega
     rw [this];split<;>rfl
    rw [this];omega
  .simp (disch:=omega) only [RR];refine⟨λh=>absurd h g3,λ_=>⟨⟨ah,ah,hK.1,λt=> ?_,ah⟩,ah⟩⟩;rw [hK.2.1 t,List.take_of_length_le (show b2.length<=k.toNat by omega),<-EZ,bK (d:=default) h3 h9 rfl];simp
 .have:=I8 hJ.1 (l:=prods a' b') (λt=>by rw [hJ.2.1 t,List.take_of_length_le (show a'.length<=i.toNat by omega)];simp) (λm hm=>(pm m hm).1);exact congrArg (λz:Bool×List aj=>(z.1,z.2,())) this
end Go.TX.F
