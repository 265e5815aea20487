/- Part 2 of a proof: what the last part needs. No condition. -/
import Derived.Test.YthiiicchooeapaaGreatZa
set_option maxHeartbeats 1000000
set_option linter.all false
set_option linter.unusedSectionVars false
set_option linter.unusedVariables false
set_option linter.unusedSimpArgs false
namespace Go.AE
open Go
variable [aQ]
section
variable {E:Tab} {G:fO} {ops:Array Oper} {K:St->Prop} {s0:St} {c0:Ctx} {w0:World} {h0:Heap} {pre:List Nat} {lm:Option Nat} {suf:List dK} {s:St} {hs:List Held}
 {val:Nat->Option PV} {pb:Nat->Nat} {L:Array Bool} {c:Ctx} {w:World} {a:Act}
def EH(ops:List Oper)(suf:List dK):Prop:=∀x rs cs r,suf=(x,rs,cs)::r->bK ops x=2\/bK ops x=3
theorem ace(op:Op):kindOf op<=3:=by unfold kindOf;grind
theorem DI.aif(D:DI E G ops K s0 c0 w0 h0 pre lm suf s hs val pb L c w a)(hap:dG ops.toList=true):
  ∃pre' lm' Vo s' hs' val',DI E G ops K s0 c0 w0 h0 pre' lm' Vo s' hs' val' pb L c w a/\EH ops.toList Vo:=by
 obtain⟨ale,lm3,alf,s3,hs3,alg,D3,hh3⟩:=DI.adv hap suf D;refine⟨_,_,_,_,_,_,D3,λx rs cs r' e=> ?_⟩;have:=hh3 x rs cs r' e;subst e;have C3:=mJ D3.chk;have hxo:ops.toList[x]? =some (ops.toList[x]'C3.lt):=List.getElem?_eq_getElem C3.lt;have hk':=zK hxo
 grind [ace]
theorem Vp{ops:List Oper}{x:Nat}{r:List dK}(hn:CV ops (mD (masks ops)) x r=true):EH ops r:=λy rs cs r' e=>by grind [CV]
theorem DI.no(D:DI E G ops K s0 c0 w0 h0 pre lm suf s hs val pb L c w a){i:Nat}{o:Oper}(ho:ops.toList[i]? =some o)(hd:∀e∈o.after.toList,Region.binds .any e=true->Lst L e.on)
  {q:Nat} (h1:q∈suf.map (·.1)) (h2:bK ops.toList q=3) (h3:mD (masks ops.toList) i q=true):False:=by
 have hl:=om D.closed (lY h3) (λo' ho'=>by simp_all);rcases D.only q hl with h | h
 .exact SN (anc:=λ_ _=>true) D.chk h1 h
 .omega
theorem DI.toM(hap:dG ops.toList=true){i:Nat}{o:Oper}(ho:ops.toList[i]? =some o)(hk:bK ops.toList i=3)(hd:∀e∈o.after.toList,Region.binds .any e=true->Lst L e.on):
  ∀(suf:List dK) {pre:List Nat} {lm:Option Nat} {s:St} {val:Nat->Option PV} {c:Ctx},DI E G ops K s0 c0 w0 h0 pre lm suf s hs val pb L c w a->EH ops.toList suf->i∈suf.map (·.1)->
  ∃pre' lm' rs cs r s' val' c',DI E G ops K s0 c0 w0 h0 pre' lm' ((i,rs,cs)::r) s' hs val' pb L c' w a
 | [],_,_,_,_,_,_,_,hq=>by cases hq
 | (x,rs,cs)::r,pre,lm,s,val,c,D,hh,hq=>by
  have C:=mJ D.chk;by_cases e:i=x
  .subst e;exact⟨pre,lm,rs,cs,r,s,val,c,D⟩
  .have hq':i∈r.map (·.1):=by
    simp only [List.map_cons,List.mem_cons]at hq;exact hq.resolve_left e
   rcases hh x rs cs r rfl with hx | hx
   .have hn:=(C.two hx).1;rcases MZ hk C.rest hq' hn with h1 | ⟨q,h1,h2,h3⟩
    .have hl:=om D.closed (lY h1) (λo' ho'=>by rw [ho]at ho';cases ho';exact hd);obtain⟨s',val',c',D'⟩:=D.reg hap hx hl;exact DI.toM hap ho hk hd r D' (Vp hn) hq'
    .exact(D.no ho hd (by simp only [List.map_cons,List.mem_cons];exact .inr h1) h2 h3).elim
   .rcases DN ah C.rest hq' with⟨q,h1,h2,h3⟩ | h1
    .exact(D.no ho hd (by simp only [List.map_cons,List.mem_cons];exact .inr h1) h2 h3).elim
    .rw [if_pos hx]at h1;exact(D.no ho hd (by simp) hx (h1 x rfl)).elim
theorem DI.fin(hap:dG ops.toList=true)(hall:∀i,i<ops.size->Lst L i):∀(suf:List dK) {pre:List Nat} {lm:Option Nat} {s:St} {val:Nat->Option PV} {c:Ctx},DI E G ops K s0 c0 w0 h0 pre lm suf s hs val pb L c w a->
  ∃c' s',Grow c0 w0 h0 c' w s'.h/\jR E s' c' w a/\K s'
 | [],pre,lm,s,val,c,D=>by
  refine⟨c,s,D.grow,⟨⟨λr v hv=> ?_,D.heap,D.glob⟩,D.cn,D.defers,D.oq⟩,D.run⟩;by_cases e:∃j,gslot ops.toList j=some r
  .obtain⟨j,hj⟩:=e;have lj:j<ops.size:=by grind [Nat.lt_or_ge,gslot,List.getElem?_eq_none]
   have hp:j∈pre:=(D.cov j lj).resolve_right (by simp);exact D.s1 j r v hj (hall j lj) hp (by rw [<-D.t1 j r hj hp];exact hv)
  .have hno:∀j,gslot ops.toList j≠some r:=λj hj=>e ⟨j,hj⟩
   exact D.s2 r v (λj hj=>absurd hj (hno j)) (by rw [<-D.t2 r (λj hj=>absurd hj (hno j))];exact hv)
 | (x,rs,cs)::r,pre,lm,s,val,c,D=>by
  have C:=mJ D.chk;have hl:=hall x (by simpa using C.lt);have hk:=(D.only x hl).resolve_left C.new;obtain⟨s',val',c',D'⟩:=D.reg hap hk hl;exact DI.fin hap hall r D'
def cnt(n:Nat)(L:Array Bool):Nat:=((List.range n).filter λi=> !L.getD i false).length
theorem filter_lt{p q:Nat->Bool}(hpq:∀x,q x=true->p x=true){i:Nat}(hp:p i=true)(hq:q i=false):∀ {l:List Nat},i∈l->(l.filter q).length< (l.filter p).length:=by
 have hle:∀l:List Nat,(l.filter q).length<=(l.filter p).length:=by
  intro l
  induction l with
  | nil=>simp
  | cons x l ih=>grind
 intro l hi
 induction l with
 | nil=>cases hi
 | cons x l ih=>grind
theorem SX{n:Nat}{L:Array Bool}{i:Nat}(hi:i<n)(hs:L.size=n)(hn:¬Lst L i):cnt n (L.setIfInBounds i true)<cnt n L:=by
 have key:∀j,Lst (L.setIfInBounds i true) j↔j=i\/Lst L j:=λj=>bE ah
 refine filter_lt (i:=i) (λx hx=> ?_) ?_ ?_ (List.mem_range.2 hi)
 .simp only [Bool.not_eq_true']at hx ⊢;cases hl:L.getD x false with
  | false=>rfl
  | true=>
   have:Lst (L.setIfInBounds i true) x:=(key x).2 (.inr hl)
   grind [Lst]
 all_goals grind [Bool.not_eq_true',absurd,Lst]
theorem Po(htop:ab7 ops.toList=true)(hs:L.size=ops.size)(hr:Region.ready .any ops L=[]):∀n i,i<n->i<ops.size->Lst L i:=by
 intro n
 induction n with
 | zero=>intro i h;omega
 | succ n ih=>
  intro i hin hi;by_cases hl:Lst L i
  .exact hl
  .exfalso;have hmem:i∈Region.ready .any ops L:=by
    rw [mem_ready];refine⟨?_,ops[i],Array.getElem?_eq_getElem hi,λe he hb=> ?_⟩
    .grind [Lst,Array.getD_eq_getD_getElem?,Array.getElem?_eq_getElem]
    .unfold ab7 at htop;rw [List.all_eq_true]at htop;have h1:=htop i (List.mem_range.2 (by simpa using hi));have h2:ops.toList[i]? =some ops[i]:=by simp [hi]
     rw [h2]at h1;simp only [List.all_eq_true,Bool.or_eq_true,Bool.not_eq_true',decide_eq_true_eq]at h1;rcases h1 e (by simpa using he)with h | h
     .simp_all
     .exact ih e.on ah ah
   simp_all
theorem acf(hE:aR E)(hG:jZ E G)(hap:dG ops.toList=true)(htop:ab7 ops.toList=true)(hal:∀(i:Nat) (o:Oper) (ty:TypeId) (d:Nat),ops.toList[i]? =some o->o.op= .alloc ty->o.dst=some d->d<s0.m/\∃y,E.ty ty=some y){Q:Exit->St->Prop}(hK:K=Q .normal):∀(fuel:Nat) (L:Array Bool) (a:Act) (w:World),
  cnt ops.size L<=fuel->(∃pre lm suf s hs val pb c,DI E G ops K s0 c0 w0 h0 pre lm suf s hs val pb L c w a/\EH ops.toList suf)->wpAny E.P .any ops (vD E c0 w0 h0 Q) fuel L a w:=by
 have fin:∀(L:Array Bool) (a:Act) (w:World),(∃pre lm suf s hs val pb c,DI E G ops K s0 c0 w0 h0 pre lm suf s hs val pb L c w a/\EH ops.toList suf)->(∀i,i<ops.size->Lst L i)->vD E c0 w0 h0 Q .normal a w:=by
  rintro L a w ⟨pre,lm,suf,s,hs,val,pb,c,D,_⟩ hall;obtain⟨c',s',h1,h2,h3⟩:=D.fin hap hall suf;exact⟨c',s',h1,h2,by simp_all⟩
 intro fuel
 induction fuel with
 | zero=>
  intro L a w hc hD;have hall:∀i,i<ops.size->Lst L i:=λi hi=>by
   by_cases hl:Lst L i
   .exact hl
   .obtain⟨pre,lm,suf,s,hs,val,pb,c,D,_⟩:=hD;have:=SX hi D.size hl;omega
  refine⟨?_,fin L a w hD hall⟩;cases hr:Region.ready .any ops L with
  | nil=>rfl
  | cons i r=>
   exfalso;have hi:i∈Region.ready .any ops L:=by rw [hr];simp
   grind [mem_ready,Array.getElem?_eq_some_iff,Lst,Array.getD_eq_getD_getElem?,Array.getElem?_eq_getElem]
 | succ fuel ih=>
  intro L a w hc hD;refine⟨λhr=> ?_,λi hi=> ?_⟩
  .obtain⟨pre,lm,suf,s,hs,val,pb,c,D,hh⟩:=hD;exact fin L a w ⟨pre,lm,suf,s,hs,val,pb,c,D,hh⟩ (λi hi=>Po htop D.size hr (i+1) i (Nat.lt_succ_self _) hi)
  .obtain⟨pre,lm,suf,s,hs,val,pb,c,D,hh⟩:=hD;obtain⟨h1,o,h2,hd'⟩:=mem_ready.1 hi;have hlt:=(Array.getElem?_eq_some_iff.1 h2).1;have hnl:¬Lst L i:=by grind [Lst,Array.getD_eq_getD_getElem?,Array.getElem?_eq_getElem]
   have ho:ops.toList[i]? =some o:=by simpa using h2
   have hd:∀e∈o.after.toList,Region.binds .any e=true->Lst L e.on:=λe he hb=>hd' e (by simpa using he) hb
   have hc':cnt ops.size (L.setIfInBounds i true)<=fuel:=by have:=SX hlt D.size hnl;omega
   have hko:=zK ho;unfold wpOp;simp only [h2];rcases Nat.lt_or_ge 1 (bK ops.toList i)with hk | hk
   .by_cases hk2:bK ops.toList i=2
    ·
     have hp:i∉pre:=λhp=>hnl (D.done i hp hk)
     have hin:i∈suf.map (·.1):=(D.cov i hlt).resolve_left hp;obtain⟨d,hdst,hg⟩:∃d,o.dst=some d/\o.guard=none:=by
      have:∀(suf:List dK) (pre:List Nat) (lm:Option Nat),uE ops.toList (mD (masks ops.toList)) pre lm suf=true->i∈suf.map (·.1)->∃d,o.dst=some d/\o.guard=none:=by
       intro suf
       induction suf with
       | nil=>simp_all
       | cons x r ihr=>
        obtain⟨x,rs,cs⟩:=x;intro pre lm hck hin;have C:=mJ hck;simp only [List.map_cons,List.mem_cons]at hin;rcases hin with rfl | hin
        .have q1:=(C.two hk2).2;have q2:=C.guard ah ah;simp_all [bN,Option.isSome_iff_exists,zI]
        .exact ihr _ _ C.rest hin
      exact this suf pre lm D.chk hin
     have hwant:Region.wanted o (yielded ops a.tmps)=true:=by simp [Region.wanted,hg]
     rw [if_pos hwant];obtain⟨ty,hop⟩:∃ty,o.op= .alloc ty:=by
      have hkk:kindOf o.op=2:=by omega
      unfold kindOf at hkk
      grind
     obtain⟨hm,y,hy⟩:=hal i o ty d ho hop hdst;obtain⟨w',vs,Et,hrun,g,H,hb,hz⟩:=G8 hE D.heap o hop hy a.eval;refine .inl ?_;unfold Oper.wp;rw [hrun,Oper.upon_value];exact ih _ _ _ hc' ⟨_,_,_,_,_,_,_,_,D.made hap ho hp hnl hd hdst (by rw [D.sm];exact hm) hop hy g H hb hz,hh⟩
    ·
     have hk3:bK ops.toList i=3:=by
      have:kindOf o.op<=3:=by unfold kindOf;grind
      omega
     have hp:i∉pre:=λhp=>hnl (D.done i hp hk)
     have hin:i∈suf.map (·.1):=(D.cov i hlt).resolve_left hp;obtain⟨pre',lm',rs,cs,r,s',val',c',D'⟩:=D.toM hap ho hk3 hd suf hh hin;have C:=mJ D'.chk;have hrun:=D'.run;unfold aZ at hrun;rw [ho]at hrun;obtain⟨hm,hrun⟩:=hrun;have h3:kindOf o.op=3:=by omega
     rw [h3]at hrun;simp only at hrun;have next:∀lm2 s2 aii c2 w2 u,DI E G ops K s0 c0 w0 h0 (i::pre') lm2 r s2 hs aii pb (L.setIfInBounds i true) c2 w2 (a.put o.dst u)->wpAny E.P .any ops (vD E c0 w0 h0 Q) fuel (L.setIfInBounds i true) (a.put o.dst u) w2:=by
      intro lm2 s2 aii c2 w2 u D2;obtain⟨ale,lm3,alf,s3,hs3,alg,D3,hh3⟩:=D2.aif hap
      grind
     cases hgd:o.guard with
     | none=>
      rw [hgd]at hrun;simp only at hrun;have hwant:Region.wanted o (yielded ops a.tmps)=true:=by simp [Region.wanted,hgd]
      rw [if_pos hwant];exact .inl (D'.mut hE hG hap hk3 ho hd hm hrun next)
     | some g=>
      obtain⟨j,want⟩:=g;rw [hgd]at hrun;simp only at hrun;cases hdj:gslot ops.toList j with
      | none=>rw [hdj]at hrun;exact hrun.elim
      | some d=>
      rw [hdj]at hrun;simp only [vC]at hrun;have alh:¬Lst L i:=hnl;have A:=D'.src ho alh hd (D'.rd C.new C.rd) s'.h D'.heap;have skip:aZ E G ops.toList r hs K (s'.put o.dst (some nC))->wpAny E.P .any ops (vD E c0 w0 h0 Q) fuel (L.setIfInBounds i true) (a.put o.dst undef) w:=λhr=>
       next _ _ _ c' w undef (D'.step hap hk3 ho hd hm (h':=s'.h) (k':=s'.k) (.refl _ _ _) D'.heap D'.cn (JK _ _) (λ_ _ _ _ _ _ _ _ q=>q) hr)
      rcases pW hrun with⟨f,b,hv,hT,hF⟩ | ⟨hv,hF⟩
      .obtain⟨u,hu,hr⟩:=A.slot d _ hv;have:=jv hr;subst this;have hw:Region.wanted o (yielded ops a.tmps)=(b==want):=by grind [Region.wanted,yj]
       by_cases e:b=want
       .rw [if_pos (by simp_all)];exact .inl (D'.mut hE hG hap hk3 ho hd hm (hT e) next)
       simp_all
      .obtain⟨u,hu,hr⟩:=A.slot d _ hv;have hw:Region.wanted o (yielded ops a.tmps)=false:=by
        have hj:(ops[j]?).bind (·.dst)=some d:=by simpa [gslot]using hdj
        have hun:∀b,u≠ .bool b:=by
         intro b e;subst e;cases hr
        grind [Region.wanted,yielded]
       simp_all
   ·
    have hp:i∈pre:=by
     rcases D.cov i hlt with h | h
     .exact h
     .obtain⟨q,q1,q2,q3⟩:=IV hk D.chk h hh;exact(D.no ho hd q1 q2 q3).elim
    obtain⟨o',t,p1,p2,p3,p4⟩:=D.pend i hp hnl;rw [ho]at p1;cases p1;have A:=D.src ho hnl hd p3 s.h D.heap;rcases p4 with⟨q1,q2,q3⟩ | ⟨q1,q2,q3⟩
    .have hmo:CW o.op=false:=ED (by rw [q1];decide);rcases MR hE A (ops:=ops) q3 with⟨hw,u,v,hrun,hrel,hv⟩ | ⟨hw,hv⟩
     .rw [if_pos hw];refine .inl ?_;unfold Oper.wp;rw [hrun,Oper.upon_value];exact ih _ _ _ hc' ⟨_,_,_,_,_,_,_,_,D.listed hap ho hp hnl hmo hd p2 (.refl _ _ _) D.heap rfl (λv' hv'=>by simp_all),hh⟩
     .rw [if_neg (by rw [hw];simp)];exact ih _ _ _ hc' ⟨_,_,_,_,_,_,_,_,D.listed hap ho hp hnl hmo hd p2 (.refl _ _ _) D.heap rfl (λv' hv'=>by rw [<-hv]at hv';cases hv';exact JK _ _),hh⟩
    .have hwant:Region.wanted o (yielded ops a.tmps)=true:=by simp [Region.wanted,q2]
     rw [if_pos hwant];refine .inl ?_;unfold Oper.wp;have WH:(∃u w',(execOp a.eval o).run E.P w= .ok (.value u) w'/\∃c',DI E G ops K s0 c0 w0 h0 pre lm suf s hs val pb (L.setIfInBounds i true) c' w' (a.put o.dst u))->Oper.upon E.P o a (wpAny E.P .any ops (vD E c0 w0 h0 Q) fuel (L.setIfInBounds i true)) (vD E c0 w0 h0 Q) ((execOp a.eval o).run E.P w):=by grind [Oper.upon_value]
     by_cases hpl:EA o.op=true
     .rw [zH hpl]at q3;obtain⟨u,c',w',v,hrun,g,H,hn,hrel,hv⟩:=Vg hE A o q3;have hmo:CW o.op=false:=by
       cases ho':o.op<;>rw [ho']at hpl<;>first | rfl | cases hpl
      exact WH ⟨u,w',hrun,c',D.listed hap ho hp hnl hmo hd p2 g H hn (λv' hv'=>by simp_all)⟩
     .cases hop:o.op
      case makeMap ty r=>
       rw [hop]at q3;obtain⟨u,w',hrun,DD⟩:=D.mkM hap ho hp hnl hd p2 hop q3
       grind
      case insert ty x k v=>
       obtain⟨w',hrun,DD⟩:=D.ald hap ho hp hnl hd p2 A hop q3;rw [hrun,Oper.upon_skip,(D.ms.ins i o ty x k v ho hop).1];exact ih _ _ _ hc' ⟨_,_,_,_,_,_,_,_,DD,hh⟩
      case move x=>
       rw [hop]at q3;obtain⟨u,w',hrun,DD⟩:=D.mvM hap ho hp hnl hd p2 hop q3.1 q3.2
       grind
      case lookup ty x q ok=>
       cases q with
       | tmp q=>
        obtain⟨u,w',hrun,DD⟩:=D.lkM hap ho hp hnl hd p2 A hop q3
        grind
       | _=>rw [hop]at hpl;exact absurd rfl hpl
      all_goals (rw [hop]at hpl;exact absurd rfl hpl)
end
def EI(E:Tab)(m:Nat):List Oper->Prop
 | []=>True
 | o::r=>(match o.op with | .alloc ty=>dOK m o.dst/\aD (E.ty ty) λ_=>True | _=>True)/\EI E m r
theorem CX{E:Tab}{m:Nat}:∀ {l:List Oper},EI E m l->∀(i:Nat) (o:Oper) (ty:TypeId) (d:Nat),l[i]? =some o->o.op= .alloc ty->o.dst=some d->d<m/\∃y,E.ty ty=some y
 | [],_,i,o,ty,d,h,_,_=>by simp at h
 | x::r,hl,i,o,ty,d,h,ho,hd=>by
  cases i with
  | zero=>
   simp at h;subst h;have:=hl.1;rw [ho]at this;simp only at this;rw [hd]at this;obtain⟨y,hy,_⟩:=aO this.2;exact⟨this.1,y,hy⟩
  | succ i=>exact CX hl.2 i o ty d (by simpa using h) ho hd
def zN(E:Tab)(m:Nat):List Oper->Bool
 | []=>true
 | o::r=>(match o.op with | .alloc ty=>(match o.dst with | some d=>decide (d<m) | none=>true)&& (E.ty ty).isSome | _=>true)&&zN E m r
theorem EJ{E:Tab}{m:Nat}:∀ {l:List Oper},zN E m l=true->EI E m l
 | [],_=>trivial
 | o::r,h=>by
  unfold zN at h;simp only [Bool.and_eq_true]at h;refine⟨?_,EJ h.2⟩;have h1:=h.1;split
  .rename_i ty ho;rw [ho]at h1;simp only [Bool.and_eq_true]at h1;refine⟨?_,?_⟩
   .grind [dOK]
   .cases hy:E.ty ty with
    | none=>simp_all
    | some y=>exact trivial
  .exact trivial
def Static(E:Tab)(tbl:Nat->List dK)(id:Nat)(ops:Array Oper)(m:Nat):Prop:=(JU ops.toList (tbl id)&&zN E m ops.toList&&JW E.P ops.toList)=true
def drA(E:Tab)(G:fO)(tbl:Nat->List dK):jI:=λid ops K s=>
 Static E tbl id ops s.m/\aZ E G ops.toList (tbl id) [] K s
theorem Pp{E:Tab}(hE:aR E){G:fO}(hG:jZ E G)(hm:E.P.follows .mixedOrders=true)(tbl:Nat->List dK):Eo E (drA E G tbl):=by
 rintro id ops Q s c0 w0 h0 c w a A g ⟨hc,hrun⟩;unfold Static JU at hc;simp only [Bool.and_eq_true]at hc;obtain⟨⟨⟨⟨⟨htop,hap⟩,am8⟩,hgo⟩,hal⟩,hmc⟩:=hc
 replace hal:=EJ hal
 refine wp_region_any hm ?_;have hnl:∀i,¬Lst (Array.replicate ops.size false) i:=λi h=>by
  unfold Lst at h;simp only [Array.getD_eq_getD_getElem?,Array.getElem?_replicate]at h
  grind
 have gd:=Grow.drawn c w s.h (w.drawn+1)
 have D:DI E G ops (Q .normal) s c0 w0 h0 [] none (tbl id) s [] (λ_=>none) (λ_=>0) (Array.replicate ops.size false) c {w with drawn:=w.drawn+1} a:={
  run:=hrun
  chk:=hgo
  cov:=λi hi=>by simp_all
  done:=λi h=>by cases h
  only:=λi h=>absurd h (hnl i)
  closed:=λi o h=>absurd h (hnl i)
  size:=by simp
  s1:=λj r v _ h=>absurd h (hnl j)
  s2:=λr v _ h=>let⟨u,h1,h2⟩:=A.abs.slot r v h;⟨u,h1,h2.grow A.abs.heap gd⟩
  t1:=λj r _ h=>by cases h
  t2:=λr _=>rfl
  pend:=λi h=>by cases h
  sj:=λi h=>absurd h (hnl i)
  dist:=λi j h=>absurd h (hnl i)
  heap:=A.abs.heap.drawn _
  glob:=A.abs.glob.grow A.abs.heap gd
  grow:=g.trans gd
  cn:=A.n
  defers:=A.defers
  oq:=A.size
  sn:=rfl,sm:=rfl
  ms:=Vk hmc
  mp:=λm _ hl=>absurd hl (hnl m)}
 obtain⟨pre',lm',Vo,s',hs',val',D',hh⟩:=D.aif hap;refine acf hE hG hap htop (CX hal) rfl _ _ _ _ ?_ ⟨_,_,_,_,_,_,_,_,D',hh⟩
 grind [cnt,Nat.le_trans,List.length_filter_le]
end Go.AE
namespace Go.TX
open Go Go.AE
@[ext] structure Ins where
 op:Int
 d:Int
 a:Int
 k:Int
 deriving DecidableEq,Inhabited
structure Form where
 d:Bool
 a:Bool
 most:Int
 words:List ByteArray
 deriving Inhabited
@[ext] structure ak where
 bL:Int
 atoms:List Int
 deriving DecidableEq,Inhabited
@[ext] structure Atom where
 kind:Int
 k:Int
 x:List ak
 y:List ak
 deriving DecidableEq,Inhabited
@[ext] structure IOp where
 kind:Int
 x:Int
 y:Int
 k:Int
 at_:Int
 deriving DecidableEq,Inhabited
@[ext] structure Blk where
 pc:Int
 len:Int
 ops:List IOp
 fin:Int
 x:Int
 y:Int
 k:Int
 deriving DecidableEq,Inhabited
@[ext] structure jk where
 regs:List Int
 pc:Int
 mem:List Int
 save:Int
 G9:Bool
 waits:Bool
 halt:Int
 ins:List Int
 outs:List Int
 count:Int
 deriving DecidableEq,Inhabited
@[ext] structure Ev where
 kind:Int
 at_:Int
 x:List ak
 y:List ak
 regs:List (List ak)
 deriving DecidableEq,Inhabited
@[ext] structure Sym where
 events:List Ev
 regs:List (List ak)
 fin:Int
 x:List ak
 y:List ak
 k:Int
 deriving DecidableEq,Inhabited
@[ext] structure Cac where
 words:List Int
 blk:Blk
 deriving DecidableEq,Inhabited
@[ext] structure Cer where
 base:Blk
 made:Blk
 deriving DecidableEq,Inhabited
@[ext] structure Ask where
 own:Bool
 bytes:List Int
 deriving DecidableEq,Inhabited
@[ext] structure Eng where
 lK:jk
 cache:List Cac
 M0:List Cer
 deriving DecidableEq,Inhabited
inductive Co where
 | i64 | u8 | bool | str | ins | form | mono | poly | atom | tab | iop | blk | lK | ev | sym | cac | cer | ask | eng | ints
 deriving DecidableEq,Inhabited,Repr
inductive Sh where
 | int (k:IntKind) | bool | str | rows (c:Co)
 deriving DecidableEq,Inhabited
abbrev Sh.i:Sh:= .int .i64
def WI:List Sh:=[.i,.i,.rows .iop,.i,.i,.i,.i]
def adz:List Sh:=[.rows .i64,.i,.rows .i64,.i,.bool,.bool,.i,.rows .i64,.rows .i64,.i]
abbrev Co.fields:Co->List Sh
 | .i64=> [.i] | .u8=> [.int .u8] | .bool=> [.bool] | .str=> [.str]
 | .ins=> [.i,.i,.i,.i]
 | .form=> [.bool,.bool,.i,.rows .str]
 | .mono=> [.i,.rows .i64]
 | .poly=> [.rows .mono]
 | .atom=> [.i,.i,.rows .mono,.rows .mono]
 | .tab=> [.rows .atom]
 | .iop=> [.i,.i,.i,.i,.i]
 | .blk=>WI
 | .lK=>adz
 | .ev=> [.i,.i,.rows .mono,.rows .mono,.rows .poly]
 | .sym=> [.rows .ev,.rows .poly,.i,.rows .mono,.rows .mono,.i]
 | .cac=> .rows .i64::WI
 | .cer=>WI++WI
 | .ask=> [.bool,.rows .u8]
 | .eng=>adz++ [.rows .cac,.rows .cer]
 | .ints=> [.rows .i64]
abbrev Co.den:Co->Type
 | .i64=>Int | .u8=>Int | .bool=>Bool | .str=>ByteArray
 | .ins=>Ins | .form=>Form | .mono=>ak | .poly=>List ak | .atom=>Atom | .tab=>List Atom | .iop=>IOp
 | .blk=>Blk | .lK=>jk | .ev=>Ev | .sym=>Sym | .cac=>Cac | .cer=>Cer | .ask=>Ask | .eng=>Eng | .ints=>List Int
instance (c:Co):Inhabited c.den:=match c with
 | .i64=>inferInstanceAs (Inhabited Int) | .u8=>inferInstanceAs (Inhabited Int) | .bool=>inferInstanceAs (Inhabited Bool) | .str=>inferInstanceAs (Inhabited ByteArray)
 | .ins=>inferInstanceAs (Inhabited Ins) | .form=>inferInstanceAs (Inhabited Form) | .mono=>inferInstanceAs (Inhabited ak) | .poly=>inferInstanceAs (Inhabited (List ak))
 | .atom=>inferInstanceAs (Inhabited Atom) | .tab=>inferInstanceAs (Inhabited (List Atom)) | .iop=>inferInstanceAs (Inhabited IOp) | .blk=>inferInstanceAs (Inhabited Blk)
 | .lK=>inferInstanceAs (Inhabited jk) | .ev=>inferInstanceAs (Inhabited Ev) | .sym=>inferInstanceAs (Inhabited Sym) | .cac=>inferInstanceAs (Inhabited Cac)
 | .cer=>inferInstanceAs (Inhabited Cer) | .ask=>inferInstanceAs (Inhabited Ask) | .eng=>inferInstanceAs (Inhabited Eng)
 | .ints=>inferInstanceAs (Inhabited (List Int))
inductive LTy where
 | i | b | s | l (c:Co) | x (c:Co)
 deriving DecidableEq,Inhabited
abbrev Sh.lty:Sh->LTy
 | .int _=> .i | .bool=> .b | .str=> .s | .rows c=> .l c
def Co.flat(c:Co):Bool:=c.fields.all λs=>match s with | .rows _=>false | _=>true
abbrev Co.su(c:Co):List LTy:=c.fields.map Sh.lty
structure Car where
 I:Type
 B:Type
 S:Type
 L:Co->Type
 X:Co->Type
abbrev LT(A:Car):LTy->Type
 | .i=>A.I | .b=>A.B | .s=>A.S | .l c=>A.L c | .x c=>A.X c
abbrev Tup(A:Car):List LTy->Type
 | []=>Unit
 | t::r=>LT A t×Tup A r
inductive LV (A:Car) where
 | i (x:A.I) | b (x:A.B) | s (x:A.S) | l (c:Co) (x:A.L c) | x (c:Co) (v:A.X c)
def aij(A:Car):(t:LTy)->LT A t->LV A
 | .i,x=> .i x | .b,x=> .b x | .s,x=> .s x | .l c,x=> .l c x | .x c,x=> .x c x
def unpack(A:Car):(ts:List LTy)->Tup A ts->List (LV A)
 | [],_=> []
 | t::r,x=>aij A t x.1::unpack A r x.2
def afg(A:Car):(t:LTy)->LV A->Option (LT A t)
 | .i,.i x=>some x | .b,.b x=>some x | .s,.s x=>some x
 | .l c,.l c' x=>if h:c'=c then some (h▸x)else none
 | .x c,.x c' x=>if h:c'=c then some (h▸x)else none
 | _,_=>none
def pack(A:Car):(ts:List LTy)->List (LV A)->Option (Tup A ts)
 | [],[]=>some ()
 | t::r,v::vs=>match afg A t v with
  | some a=>match pack A r vs with | some b=>some (a,b) | none=>none
  | none=>none
 | _,_=>none
structure Alg extends aC:Car where
 M:Type->Type
 lit:Int->I
 bl:Bool->B
 st:ByteArray->S
 arith:BinOp->IntKind->I->I->I
 cmp:BinOp->I->I->B
 addN:I->I->I
 M5:I->I->I
 neg:IntKind->I->I
 conv:IntKind->I->I
 Pq:I->I->I
 kZ:I->I->I
 yx:B->B
 M6:B->B->B
 orB:B->B->B
 eqB:B->B->B
 eqS:S->S->B
 Pv:L .u8->S
 Pw:B->I->I->I
 JY:B->B->B->B
 Px:B->(c:Co)->L c->L c->L c
 Vq:B->(c:Co)->X c->X c->X c
 len:(c:Co)->L c->I
 EK:(c:Co)->L c
 get:(c:Co)->L c->I->X c
 set:(c:Co)->L c->I->X c->L c
 app:(c:Co)->L c->L c->L c
 sub:(c:Co)->L c->I->I->L c
 rep:(c:Co)->I->X c->L c
 lst:(c:Co)->List (X c)->L c
 glob:Nat->(c:Co)->L c
 fI:(c:Co)->Nat->X c->I
 fB:(c:Co)->Nat->X c->B
 fS:(c:Co)->Nat->X c->S
 fL:(c:Co)->Nat->(c':Co)->X c->L c'
 mkX:(c:Co)->Tup aC c.su->X c
 eqX:(c:Co)->X c->X c->B
 ret:(ts:List LTy)->Tup aC ts->M (Tup aC ts)
 uP: {ρ:Type}->(ts:List LTy)->Tup aC ts->(Tup aC ts->M ρ)->M ρ
 fail: {ρ:Type}->M ρ
 chk: {ρ:Type}->B->M ρ->M ρ
 cond: {ρ:Type}->B->M ρ->M ρ->M ρ
 bind: {ρ:Type}->(ts:List LTy)->M (Tup aC ts)->(Tup aC ts->M ρ)->M ρ
 vK: {ρ:Type}->(ts:List LTy)->M (Sum (Tup aC ts) ρ)->(Tup aC ts->M ρ)->M ρ
 inl: {ρ:Type}->(ts:List LTy)->Tup aC ts->M (Sum (Tup aC ts) ρ)
 inr: {ρ:Type}->(ts:List LTy)->M ρ->M (Sum (Tup aC ts) ρ)
 iter: {ρ:Type}->(ts:List LTy)->(Tup aC ts->M (Sum (Tup aC ts) ρ))->Tup aC ts->M ρ
inductive Leaf (A:Car) where
 | int (k:IntKind) (x:A.I) | bool (x:A.B) | str (x:A.S) | rows (c:Co) (xs:A.L c)
inductive TC (A:Car) where
 | d (f:Bool) (x:Leaf A)
 | nil
 | clip (f:Bool) (c:Co) (xs:A.L c)
 | own (l:Nat)
 | os (l:Nat) (lo n:A.I)
 | pb (l sz j:Nat)
 | pr (l:Nat) (i:A.I) (j:Nat)
 | rp (f:Bool) (c:Co) (xs:A.L c) (i:A.I) (j:Nat)
 | gp (g:Nat) (c:Co)
 | fn (g:FuncId) (caps:List (Nat×Nat))
 | np
inductive TV (A:Car) where
 | c (x:TC A)
 | agg (cs:List (TC A))
 | sv (f:Bool) (c:Co) (x:A.X c)
 | tup (vs:List (TV A))
inductive fP (A:Car) where
 | box (v:TV A)
 | rows (f:Bool) (c:Co) (xs:A.L c)
 | gone (c:Co) (n:A.I)
structure XT where
 ty:TypeId->Option TY
 co:TypeId->Option Co
 glob:Nat->Option Co
 ieq:TypeId->Option Co
section
variable (A:Alg)
def afh(c:Co)(j:Nat)(x:A.X c):Sh->Leaf A.aC
 | .int k=> .int k (A.fI c j x)
 | .bool=> .bool (A.fB c j x)
 | .str=> .str (A.fS c j x)
 | .rows c'=> .rows c' (A.fL c j c' x)
def dM(c:Co)(x:A.X c):Nat->List Sh->List (Leaf A.aC)
 | _,[]=> []
 | j,s::r=>afh A c j x s::dM c x (j+1) r
def rz(f:Bool)(c:Co)(x:A.X c):List (TC A.aC):=(dM A c x 0 c.fields).map (.d f)
def dH:TV A.aC->List (TC A.aC)
 | .c x=> [x]
 | .agg cs=>cs
 | .sv f c x=>rz A f c x
 | .tup _=> []
def Leaf.lv{A:Car}:Leaf A->LV A
 | .int _ x=> .i x | .bool x=> .b x | .str x=> .s x | .rows c xs=> .l c xs
def Leaf.flag{A:Car}(f:Bool):Leaf A->Bool
 | .rows _ _=>f | _=>true
def kU{A:Car}:Leaf A->Sh
 | .int k _=> .int k | .bool _=> .bool | .str _=> .str | .rows c _=> .rows c
def gY(h:List (fP A.aC))(s:Sh)(x:TC A.aC):Option (Bool×LV A.aC×List Nat):=
 match x with
 | .d f y=>if kU y=s then some (y.flag f,y.lv,[])else none
 | .nil=>match s with | .rows c=>some (true,.l c (A.EK c),[]) | _=>none
 | .clip f c xs=>if Sh.rows c=s then some (f,.l c xs,[])else none
 | .own l=>match h[l]? with | some (.rows f c xs)=>if Sh.rows c=s then some (f,.l c xs,[l])else none | _=>none
 | _=>none
def aT(h:List (fP A.aC)):List Sh->List (TC A.aC)->Option (Bool×List (LV A.aC)×List Nat)
 | [],[]=>some (true,[],[])
 | s::r,x::xs=>match gY A h s x with
  | some (f,y,l)=>match aT h r xs with | some (g,ys,ls)=>if l.all λi=> !ls.contains i then some (f&&g,y::ys,l++ls)else none | none=>none
  | none=>none
 | _,_=>none
def toX(h:List (fP A.aC))(c:Co)(v:TV A.aC):Option (Bool×A.X c×List Nat):=
 match v with
 | .sv f c' x=>if e:c'=c then some (f || c.flat,e▸x,[])else none
 | .tup _=>none
 | v=>match aT A h c.fields (dH A v)with
  | some (f,ys,ls)=>match pack A.aC c.su ys with | some t=>some (f,A.mkX c t,ls) | none=>none
  | none=>none
def bR:TV A.aC->Bool | .agg _ | .sv .. =>true | _=>false
def lZ(y:TY)(j:Nat)(whole:TV A.aC)(cs:List (TC A.aC)):Option (TV A.aC):=
 if y.desc.agg then
  (if(j==0)&& (y.size==cs.length)&&bR A whole then some whole else if Nat.ble (j+y.size) cs.length then some (.agg ((cs.drop j).take y.size))else none)
 else match cs[j]? with
  | some x=>(match y.desc with
   | .int k=>(match x with | .d _ (.int k' _)=>if k=k' then some (.c x)else none | _=>none)
   | _=>some (.c x))
  | none=>none
abbrev PR:=Option (List A.B×TV A.aC)
def okV(v:TV A.aC):PR A:=some ([],v)
def okI(k:IntKind)(x:A.I):PR A:=some ([],.c (.d true (.int k x)))
def okB(x:A.B):PR A:=some ([],.c (.d true (.bool x)))
def M8(v:Option (TV A.aC)):PR A:=match v with | some v=>some ([],v) | none=>none
def evX(X:XT)(e:Nat->Option (TV A.aC)):Operand->Option (TV A.aC)
 | .tmp i=>e i
 | .const v=>match v with
  | .int k n=>some (.c (.d true (.int k (A.lit n))))
  | .bool b=>some (.c (.d true (.bool (A.bl b))))
  | .string s=>some (.c (.d true (.str (A.st s))))
  | .slice none 0 0=>some (.c .nil)
  | .pointer none=>some (.c .np)
  | _=>none
 | .global g=>match X.glob g with | some c=>some (.c (.gp g c)) | none=>none
 | .func f=>some (.c (.fn f []))
def Na(X:XT)(h:List (fP A.aC))(ty:TypeId)(p:TV A.aC):PR A:=
 match X.ty ty with
 | none=>none
 | some y=>match p with
  | .c (.pb l sz j)=>match h[l]? with
   | some (.box v)=>if(dH A v).length==sz then M8 A (lZ A y j v (dH A v))else none
   | _=>none
  | .c (.pr l i j)=>match h[l]? with
   | some (.rows f c xs)=>match lZ A y j (.sv f c (A.get c xs i)) (rz A f c (A.get c xs i))with
    | some v=>some ([A.cmp .leq (A.lit 0) i,A.cmp .lss i (A.len c xs)],v)
    | none=>none
   | _=>none
  | .c (.rp f c xs i j)=>M8 A (lZ A y j (.sv f c (A.get c xs i)) (rz A f c (A.get c xs i)))
  | .c (.gp g c)=>match y.desc with | .slice _=>some ([],.c (.d false (.rows c (A.glob g c)))) | _=>none
  | _=>none
def JZ:BinOp->Bool
 | .add | .sub | .mul | .quo | .rem | .and | .or | .xor | .shl | .shr=>true
 | _=>false
def WJ:BinOp->Bool
 | .eql | .neq | .lss | .leq | .gtr | .geq=>true
 | _=>false
def afi(X:XT)(op:BinOp)(ty:TypeId)(a b:TV A.aC):PR A:=
  match a,b with
  | .c (.d _ (.int k x)),.c (.d _ (.int k' y))=>
    if k=k'\/Sw op=true then
      (match op with
       | .quo | .rem=>some ([A.cmp .neq y (A.lit 0)],.c (.d true (.int k (A.arith op k x y))))
       | .shl | .shr=>some ([A.cmp .leq (A.lit 0) y],.c (.d true (.int k (A.arith op k x y))))
       | op=>if JZ op then okI A k (A.arith op k x y)else if WJ op then okB A (A.cmp op x y)else none)
    else none
  | .c (.d _ (.bool x)),.c (.d _ (.bool y))=>match X.ty ty with
    | some z=>match z.desc with
      | .bool=>(match op with | .eql=>okB A (A.eqB x y) | .neq=>okB A (A.yx (A.eqB x y)) | _=>none)
      | _=>none
    | none=>none
  | .c (.d _ (.str x)),.c (.d _ (.str y))=>match X.ty ty with
    | some z=>match z.desc with
      | .str=>(match op with | .eql=>okB A (A.eqS x y) | .neq=>okB A (A.yx (A.eqS x y)) | _=>none)
      | _=>none
    | none=>none
  | .c (.os _ _ m),.c .nil=>match X.ty ty with
    | some z=>match z.desc with
      | .slice _=>(match op with
        | .eql=>some ([A.cmp .neq m (A.lit 0)],.c (.d true (.bool (A.bl false))))
        | .neq=>some ([A.cmp .neq m (A.lit 0)],.c (.d true (.bool (A.bl true))))
        | _=>none)
      | _=>none
    | none=>none
  | .c (.d _ (.rows c xs)),.c .nil=>match X.ty ty with
    | some z=>match z.desc with
      | .slice _=>(match op with
        | .eql=>some ([A.cmp .neq (A.len c xs) (A.lit 0)],.c (.d true (.bool (A.bl false))))
        | .neq=>some ([A.cmp .neq (A.len c xs) (A.lit 0)],.c (.d true (.bool (A.bl true))))
        | _=>none)
      | _=>none
    | none=>none
  | v,w=>match X.ieq ty with
    | some c=>match toX A [] c v,toX A [] c w with
      | some (_,x,_),some (_,y,_)=>(match op with | .eql=>okB A (A.eqX c x y) | .neq=>okB A (A.yx (A.eqX c x y)) | _=>none)
      | _,_=>none
    | none=>none
def afj(h:List (fP A.aC))(v:TV A.aC):TV A.aC:=match v with
 | .c (.own l)=>(match h[l]? with | some (.rows _ c xs)=> .c (.os l (A.lit 0) (A.len c xs)) | _=>v)
 | _=>v
def unX(op:UnOp)(a:TV A.aC):PR A:=
 match op,a with
 | .not,.c (.d _ (.bool b))=>okB A (A.yx b)
 | .neg,.c (.d _ (.int k n))=>okI A k (A.neg k n)
 | _,_=>none
def WK(X:XT)(src dst:TypeId)(a:TV A.aC):PR A:=
 match X.ty src,X.ty dst with
 | some z,some y=>match y.desc,a with
  | .int k,.c (.d _ (.int _ n))=>okI A k (A.conv k n)
  | .str,.c (.d _ (.rows .u8 xs))=>(match z.desc with
   | .slice e=>(match X.ty e with
    | some t=>(match t.desc with | .int .u8=>some ([],.c (.d true (.str (A.Pv xs)))) | _=>none)
    | none=>none)
   | _=>none)
  | _,_=>none
 | _,_=>none
def yB(X:XT)(s:TypeId)(a:TV A.aC)(f:Nat):PR A:=
 match X.ty s with
 | some y=>match y.desc with
  | .struct fs=>match fs[f]? with
   | some (off,ft)=>match X.ty ft with
    | some z=>if z.size==0 then none else(match a with
     | .c (.pb l sz j)=>okV A (.c (.pb l sz (j+off)))
     | .c (.pr l i j)=>okV A (.c (.pr l i (j+off)))
     | .c (.rp g c xs i j)=>okV A (.c (.rp g c xs i (j+off)))
     | _=>none)
    | none=>none
   | none=>none
  | _=>none
 | none=>none
def Py(X:XT)(s:TypeId)(a:TV A.aC)(f:Nat):PR A:=
 match X.ty s with
 | some y=>match y.desc with
  | .struct fs=>match fs[f]? with
   | some (off,ft)=>match X.ty ft with
    | some z=>if bR A a&&Nat.ble (off+z.size) (dH A a).length then
      (if z.desc.agg then okV A (.agg (((dH A a).drop off).take z.size))else match (dH A a)[off]? with | some x=>okV A (.c x) | none=>none)
     else none
    | none=>none
   | none=>none
  | _=>none
 | none=>none
def mK(X:XT)(e:TypeId)(c:Co):Bool:=match X.ty e with | some z=>z.size==c.fields.length | none=>false
def yC(X:XT)(h:List (fP A.aC))(t:TypeId)(a ix:TV A.aC):PR A:=
 match X.ty t with
 | some y=>match y.desc,ix with
  | .slice e,.c (.d _ (.int _ i))=>match a with
   | .c (.d f (.rows c xs))=>if mK X e c then some ([A.cmp .leq (A.lit 0) i,A.cmp .lss i (A.len c xs)],.c (.rp f c xs i 0))else none
   | .c (.clip f c xs)=>if mK X e c then some ([A.cmp .leq (A.lit 0) i,A.cmp .lss i (A.len c xs)],.c (.rp f c xs i 0))else none
   | .c (.own l)=>match h[l]? with
    | some (.rows _ c xs)=>if mK X e c then some ([A.cmp .leq (A.lit 0) i,A.cmp .lss i (A.len c xs)],.c (.pr l i 0))else none
    | _=>none
   | .c (.os l lo n)=>match h[l]? with
    | some (.rows _ c _)=>if mK X e c then some ([A.cmp .leq (A.lit 0) i,A.cmp .lss i n,A.cmp .leq (A.lit 0) lo],.c (.pr l (A.addN lo i) 0))else none
    | _=>none
   | _=>none
  | _,_=>none
 | none=>none
def afk(h:List (fP A.aC))(a:TV A.aC):PR A:=
 match a with
 | .c (.d _ (.rows c xs))=>okI A .i64 (A.len c xs)
 | .c (.clip _ c xs)=>okI A .i64 (A.len c xs)
 | .c (.own l)=>match h[l]? with | some (.rows _ c xs)=>okI A .i64 (A.len c xs) | _=>none
 | .c (.os _ _ n)=>okI A .i64 n
 | .c .nil=>okI A .i64 (A.lit 0)
 | _=>none
def afl(a:TV A.aC):PR A:=
 match a with
 | .c (.pb l s j)=>okV A (.c (.pb l s j))
 | .c (.pr l i j)=>okV A (.c (.pr l i j))
 | .c (.rp f c xs i j)=>okV A (.c (.rp f c xs i j))
 | _=>none
def J2(X:XT)(e:Nat->Option (TV A.aC))(o:Option Operand)(dflt:A.I):Option A.I:=
 match o with
 | none=>some dflt
 | some x=>match evX A X e x with | some (.c (.d _ (.int _ n)))=>some n | _=>none
def Pz(X:XT)(e:Nat->Option (TV A.aC))(h:List (fP A.aC))(ty:TypeId)(a:TV A.aC)(lo hi mx:Option Operand):PR A:=
 match X.ty ty with
 | some y=>match y.desc with
  | .slice el=>match J2 A X e lo (A.lit 0)with
   | some l=>match a with
    | .c (.d f (.rows c xs))=>if mK X el c then
      match J2 A X e hi (A.len c xs)with
      | some r=>match mx with
       | none=>some ([A.cmp .leq (A.lit 0) l,A.cmp .leq l r,A.cmp .leq r (A.len c xs)],.c (.d f (.rows c (A.sub c xs l r))))
       | some _=>match J2 A X e mx (A.lit 0)with
        | some m=>if hi.isSome then some ([A.cmp .leq (A.lit 0) l,A.cmp .leq l r,A.cmp .leq r (A.len c xs),A.cmp .eql m r],.c (.clip f c (A.sub c xs l r)))else none
        | none=>none
      | none=>none
     else none
    | .c (.own w)=>match h[w]?,mx with
     | some (.rows _ c xs),none=>if mK X el c then
       match J2 A X e hi (A.len c xs)with
       | some r=>some ([A.cmp .leq (A.lit 0) l,A.cmp .leq l r,A.cmp .leq r (A.len c xs)],.c (.os w l (A.M5 r l)))
       | none=>none
      else none
     | _,_=>none
    | .c (.os w l0 n)=>match h[w]?,mx with
     | some (.rows _ c _),none=>if mK X el c then
       match J2 A X e hi n with
       | some r=>some ([A.cmp .leq (A.lit 0) l,A.cmp .leq l r,A.cmp .leq r n,A.cmp .leq (A.lit 0) l0],.c (.os w (A.addN l0 l) (A.M5 r l)))
       | none=>none
      else none
     | _,_=>none
    | .c .nil=>match mx,J2 A X e hi (A.lit 0)with
     | none,some r=>if(X.ty el).isSome then some ([A.cmp .eql l (A.lit 0),A.cmp .eql r (A.lit 0)],.c .nil)else none
     | _,_=>none
    | _=>none
   | none=>none
  | _=>none
 | none=>none
def Nb(X:XT)(e:Nat->Option (TV A.aC))(fs:List (Nat×TypeId)):List (Nat×Operand)->List (TC A.aC)->Option (List (TC A.aC))
 | [],cs=>some cs
 | (i,x)::rest,cs=>match fs[i]? with
  | some (off,ft)=>match X.ty ft,evX A X e x with
   | some z,some v=>if((dH A v).length==z.size)&& !(z.size==0)&&Nat.ble (off+z.size) cs.length then
    Nb X e fs rest (cs.take off++dH A v++cs.drop (off+(dH A v).length))else none
   | _,_=>none
  | none=>none
def SY:Cell->Option (TC A.aC)
 | .d true (.int k n)=>some (.d true (.int k (A.lit n)))
 | .d true (.bool b)=>some (.d true (.bool (A.bl b)))
 | .d true (.str s)=>some (.d true (.str (A.st s)))
 | .nil=>some .nil
 | .np=>some .np
 | _=>none
def lM:List Cell->Option (List (TC A.aC))
 | []=>some []
 | x::r=>match SY A x,lM r with | some y,some ys=>some (y::ys) | _,_=>none
def PD(X:XT)(e:Nat->Option (TV A.aC))(ty:TypeId)(parts:List (Nat×Operand)):PR A:=
 match X.ty ty with
 | some y=>match y.desc with
  | .struct fs=>if fs.all λft=>(X.ty ft.2).isSome then
    match lM A y.zero with
    | some z=>match Nb A X e fs parts z with | some cs=>okV A (.agg cs) | none=>none
    | none=>none
   else none
  | _=>none
 | none=>none
def Nc(X:XT)(e:Nat->Option (TV A.aC)):List Operand->Option (List (Nat×Nat))
 | []=>some []
 | x::r=>match evX A X e x with
  | some (.c (.pb l sz 0))=>match Nc X e r with | some ys=>some ((l,sz)::ys) | none=>none
  | _=>none
def WL(b:A.B):TC A.aC->TC A.aC->Option (TC A.aC)
 | .d f (.int k x),.d g (.int k' y)=>if k=k' then some (.d (f&&g) (.int k (A.Pw b x y)))else none
 | .d f (.bool x),.d g (.bool y)=>some (.d (f&&g) (.bool (A.JY b x y)))
 | .d f (.rows c xs),.d g (.rows c' ys)=>if e:c'=c then some (.d (f&&g) (.rows c (A.Px b c xs (e▸ys))))else none
 | _,_=>none
def PE(b:A.B):TV A.aC->TV A.aC->Option (TV A.aC)
 | .c x,.c y=>match WL A b x y with | some z=>some (.c z) | none=>none
 | _,_=>none
def EM(X:XT)(e:Nat->Option (TV A.aC))(h:List (fP A.aC))(c:Call):PR A:=
 match c.callee with
 | .builtin .len=>match c.args.toList,c.argTypes.toList with
  | [x],[ty]=>match X.ty ty,evX A X e x with
   | some y,some v=>(match y.desc with | .slice _=>afk A h v | _=>none)
   | _,_=>none
  | _,_=>none
 | .builtin .cap=>match c.args.toList,c.argTypes.toList with
  | [x],[ty]=>match X.ty ty,evX A X e x with
   | some y,some (.c .nil)=>(match y.desc with | .slice _=>okI A .i64 (A.lit 0) | _=>none)
   | _,_=>none
  | _,_=>none
 | .builtin .min=>match c.args.toList with
  | [x,y]=>match evX A X e x,evX A X e y with
   | some (.c (.d _ (.int k m))),some (.c (.d _ (.int _ n)))=>okI A k (A.Pq m n)
   | _,_=>none
  | _=>none
 | .builtin .max=>match c.args.toList with
  | [x,y]=>match evX A X e x,evX A X e y with
   | some (.c (.d _ (.int k m))),some (.c (.d _ (.int _ n)))=>okI A k (A.kZ m n)
   | _,_=>none
  | _=>none
 | _=>none
def zO(v:Option (TV A.aC))(K:TV A.aC->PR A):PR A:=match v with | some v=>K v | none=>none
def S9(X:XT)(e:Nat->Option (TV A.aC))(h:List (fP A.aC))(op:Op):PR A:=
 match op with
 | .move x | .assign x=>zO A (evX A X e x) λv=>okV A v
 | .load ty p=>zO A (evX A X e p) λv=>Na A X h ty v
 | .nilCheck x=>zO A (evX A X e x) λv=>afl A v
 | .binOp op ty x y _=>zO A (evX A X e x) λa=>zO A (evX A X e y) λb=>afi A X op ty (afj A h a) b
 | .unOp op _ x=>zO A (evX A X e x) λa=>unX A op a
 | .convert s d x=>zO A (evX A X e x) λa=>WK A X s d a
 | .fieldAddr s x f=>zO A (evX A X e x) λa=>yB A X s a f
 | .field s x f=>zO A (evX A X e x) λa=>Py A X s a f
 | .indexAddr ty x i=>zO A (evX A X e x) λa=>zO A (evX A X e i) λb=>yC A X h ty a b
 | .slice ty x lo hi mx=>zO A (evX A X e x) λa=>Pz A X e h ty a lo hi mx
 | .extract x i=>zO A (evX A X e x) λa=>match a with | .tup vs=>M8 A vs[i]? | _=>none
 | .build ty parts=>PD A X e ty parts.toList
 | .makeFunc fn first caps=>match fn with
  | .func g=>if first.toList.isEmpty then(match Nc A X e caps.toList with | some cs=>okV A (.c (.fn g cs)) | none=>none)else none
  | _=>none
 | .call c=>EM A X e h c
 | _=>none
structure HR where
 chk:List A.B
 v:TV A.aC
 h:List (fP A.aC)
 touched:List Nat
def bJ(h:List (fP A.aC)):List Nat->List (fP A.aC)
 | []=>h
 | l::r=>bJ (match h[l]? with | some (.rows _ c xs)=>h.set l (.gone c (A.len c xs)) | _=>h) r
def kZ:Int:=1073741824
def zdB(l:List Cell):Bool:=l.all λx=>match x with | .d _ _=>true | .nil=>true | _=>false
def afm(h:List (fP A.aC))(c:Co)(zx:Option (A.X c))(v:TV A.aC):Option (Bool×A.L c):=
 match v with
 | .c (.d _ (.int _ n))=>match zx with | some x=>some (true,A.rep c n x) | none=>none
 | .c .nil=>some (true,A.EK c)
 | .c (.d f (.rows c' xs))=>if e:c'=c then some (f,e▸xs)else none
 | .c (.clip f c' xs)=>if e:c'=c then some (f,e▸xs)else none
 | .c (.own l)=>match h[l]? with | some (.rows f c' xs)=>if e:c'=c then some (f,e▸xs)else none | _=>none
 | .c (.os l lo n)=>match h[l]? with | some (.rows f c' xs)=>if e:c'=c then some (f,e▸A.sub c' xs lo (A.addN lo n))else none | _=>none
 | _=>none
def mO(h:List (fP A.aC))(v:TV A.aC):List A.B:=
 match v with
 | .c (.os l lo n)=>match h[l]? with
  | some (.rows _ c' xs)=> [A.cmp .leq (A.lit 0) lo,A.cmp .leq (A.lit 0) n,A.cmp .leq (A.addN lo n) (A.len c' xs)]
  | _=> []
 | .c (.d _ (.int _ n))=> [A.cmp .leq (A.lit 0) n,A.cmp .leq n (A.lit kZ)]
 | _=> []
def EN(X:XT)(t2:TypeId)(v:TV A.aC):Bool:=
 match X.ty t2 with
 | some y2=>(match y2.desc,v with | .slice _,.c (.d _ (.int ..))=>false | .slice _,.c _=>true | .int _,.c (.d _ (.int ..))=>true | _,_=>false)
 | none=>false
def Tc(z:TY)(c:Co):Option (A.X c):=
 match lM A z.zero with
 | some zs=>(match toX A [] c (.agg zs)with | some (_,x,_)=>some x | none=>none)
 | none=>none
def J3(X:XT)(h:List (fP A.aC))(ty t2:TypeId)(a b:TV A.aC):Option (HR A):=
 match X.ty ty with
 | some y=>match y.desc with
  | .slice e=>match X.ty e,X.co e with
   | some z,some c=>if mK X e c&& !(z.size==0)&&Nat.ble z.bytes 1024&&EN A X t2 b&&zdB z.zero then
     match (afm A h c (Tc A z c) b).map λp=>(p.1 || c.flat,p.2)with
     | some (f2,ds)=>match a with
      | .c .nil=>some ⟨mO A h b++ [A.cmp .leq (A.len c ds) (A.lit kZ)],.c (.own h.length),h++ [.rows f2 c ds],[]⟩
      | .c (.own l)=>match h[l]? with
       | some (.rows f1 c1 xs)=>if q:c1=c then
         some ⟨mO A h b++ [A.cmp .leq (A.addN (A.len c1 xs) (A.len c ds)) (A.lit kZ)],.c (.own h.length),
          h.set l (.gone c1 (A.len c1 xs))++ [.rows (f1&&f2) c (A.app c (q▸xs) ds)],[l]⟩
        else none
       | _=>none
      | .c (.os l lo n)=>match h[l]? with
       | some (.rows f1 c1 xs)=>if q:c1=c then
         some ⟨mO A h b++ [A.cmp .eql lo (A.lit 0),A.cmp .leq (A.lit 0) n,A.cmp .leq n (A.len c1 xs),A.cmp .leq (A.addN n (A.len c ds)) (A.lit kZ)],.c (.own h.length),
          h.set l (.gone c1 (A.len c1 xs))++ [.rows (f1&&f2) c (A.app c (A.sub c (q▸xs) (A.lit 0) n) ds)],[l]⟩
        else none
       | _=>none
      | .c (.clip f1 c1 xs)=>if q:c1=c then
        some ⟨mO A h b++ [A.orB (A.cmp .lss (A.lit 0) (A.len c ds)) (A.cmp .eql (A.len c1 xs) (A.lit 0)),A.cmp .leq (A.addN (A.len c1 xs) (A.len c ds)) (A.lit kZ)],.c (.own h.length),
         h++ [.rows (f1&&f2) c (A.app c (q▸xs) ds)],[]⟩
       else none
      | _=>none
     | none=>none
    else none
   | _,_=>none
  | _=>none
 | none=>none
def tK(X:XT)(e:Nat->Option (TV A.aC))(c:Co):List (fP A.aC)->List (Nat×Operand)->Option (Bool×List (A.X c)×List (fP A.aC)×List Nat)
 | h,[]=>some (true,[],h,[])
 | h,(_,x)::r=>match evX A X e x with
  | some v=>match toX A h c v with
   | some (f,y,ls)=>match tK X e c (bJ A h ls) r with
    | some (g,ys,h',ls')=>some (f&&g,y::ys,h',ls++ls')
    | none=>none
   | none=>none
  | none=>none
def Ng(c:Co)(cs:List (LV A.aC))(j:Nat)(ys:List (LV A.aC)):Option (A.X c):=
 match pack A.aC c.su (cs.take j++ys++cs.drop (j+ys.length))with | some t=>some (A.mkX c t) | none=>none
def vL(X:XT)(h:List (fP A.aC))(ty:TypeId)(p v:TV A.aC):Option (HR A):=
 match X.ty ty with
 | some y=>if(y.size==0) || !((dH A v).length==y.size)then none else match p with
  | .c (.pb l sz j)=>match h[l]? with
   | some (.box w)=>
    if(j==0)&& ((dH A v).length==(dH A w).length)&& ((dH A w).length==sz)&& (bR A v==bR A w)then some ⟨[],.tup [],h.set l (.box v),[l]⟩
    else if Nat.ble (j+(dH A v).length) (dH A w).length&& ((dH A w).length==sz)then
     some ⟨[],.tup [],h.set l (.box (.agg ((dH A w).take j++dH A v++(dH A w).drop (j+(dH A v).length)))),[l]⟩
    else none
   | _=>none
  | .c (.pr l i j)=>match h[l]? with
   | some (.rows f c xs)=>
    if(j==0)&& (y.size==c.fields.length)then
     match toX A h c v with
     | some (g,x,ls)=>if ls.contains l then none else
      some ⟨[A.cmp .leq (A.lit 0) i,A.cmp .lss i (A.len c xs)],.tup [],(bJ A h ls).set l (.rows (f&&g) c (A.set c xs i x)),l::ls⟩
     | none=>none
    else match aT A h ((c.fields.drop j).take y.size) (dH A v)with
     | some (g,ys,ls)=>if ls.contains l || !Nat.ble (j+y.size) c.fields.length then none else
      match Ng A c ((dM A c (A.get c xs i) 0 c.fields).map Leaf.lv) j ys with
      | some z=>some ⟨[A.cmp .leq (A.lit 0) i,A.cmp .lss i (A.len c xs)],.tup [],(bJ A h ls).set l (.rows (f&&g) c (A.set c xs i z)),l::ls⟩
      | none=>none
     | none=>none
   | _=>none
  | _=>none
 | none=>none
def PI(X:XT)(h:List (fP A.aC))(ty:TypeId)(v:TV A.aC):Option (HR A):=
 match X.ty ty with
 | some y=>match y.desc with
  | .slice e=>match X.ty e,X.co e with
   | some z,some c=>match lM A z.zero with
    | some zs=>match toX A [] c (.agg zs)with
     | some (_,x,_)=>if mK X e c&& !(z.size==0)then
      match v with
      | .c .nil=>some ⟨[],.tup [],h,[]⟩
      | .c (.own l)=>match h[l]? with
       | some (.rows f c1 xs)=>if c1=c then some ⟨[],.tup [],h.set l (.rows f c (A.rep c (A.len c1 xs) x)),[l]⟩else none
       | _=>none
      | .c (.os l lo n)=>match h[l]? with
       | some (.rows f c1 xs)=>if q:c1=c then
         some ⟨mO A h v,.tup [],h.set l (.rows f c (A.app c (A.app c (A.sub c (q▸xs) (A.lit 0) lo) (A.rep c n x)) (A.sub c (q▸xs) (A.addN lo n) (A.len c1 xs)))),[l]⟩
        else none
       | _=>none
      | _=>none
      else none
     | none=>none
    | none=>none
   | _,_=>none
  | _=>none
 | none=>none
def EP(X:XT)(e:Nat->Option (TV A.aC))(h:List (fP A.aC))(op:Op):Option (HR A):=
 match op with
 | .alloc ty=>match X.ty ty with
  | some y=>match lM A y.zero with
   | some [x]=>if y.desc.agg then some ⟨[],.c (.pb h.length y.size 0),h++ [.box (.agg [x])],[]⟩else some ⟨[],.c (.pb h.length y.size 0),h++ [.box (.c x)],[]⟩
   | some (x::r)=>some ⟨[],.c (.pb h.length y.size 0),h++ [.box (.agg (x::r))],[]⟩
   | _=>none
  | none=>none
 | .box _ x=>match evX A X e x with
  | some v=>if(dH A v).length==0 then none else some ⟨[],.c (.pb h.length (dH A v).length 0),h++ [.box v],[]⟩
  | none=>none
 | .buildSlice ty len parts=>match X.ty ty with
  | some y=>match y.desc with
   | .slice el=>match X.ty el,X.co el with
    | some z,some c=>if mK X el c&& !(z.size==0)&& (parts.toList.map (·.1)==List.range len)&&Nat.ble (len*z.size) 16777216 then
      match tK A X e c h parts.toList with
      | some (f,xs,h',ls)=>some ⟨[],.c (.own h'.length),h'++ [.rows f c (A.lst c xs)],ls⟩
      | none=>none
     else none
    | _,_=>none
   | _=>none
  | none=>none
 | .makeSlice ty l cp=>match X.ty ty with
  | some y=>match y.desc with
   | .slice el=>match X.ty el,X.co el with
    | some z,some c=>match lM A z.zero,evX A X e l,evX A X e cp with
     | some zs,some (.c (.d _ (.int _ m))),some (.c (.d _ (.int _ m')))=>match toX A [] c (.agg zs)with
      | some (_,x,_)=>if mK X el c&& !(z.size==0)&&Nat.ble z.bytes 1024 then
        some ⟨[A.cmp .eql m' m,A.cmp .leq (A.lit 0) m,A.cmp .leq m (A.lit kZ)],.c (.own h.length),h++ [.rows true c (A.rep c m x)],[]⟩
       else none
      | none=>none
     | _,_,_=>none
    | _,_=>none
   | _=>none
  | none=>none
 | .store ty p x=>match evX A X e p,evX A X e x with
  | some pv,some v=>vL A X h ty pv v
  | _,_=>none
 | .call c=>match c.callee,c.args.toList,c.argTypes.toList with
  | .builtin .append,[a,b],[ty,t2]=>match evX A X e a,evX A X e b with
   | some av,some bv=>J3 A X h ty t2 av bv
   | _,_=>none
  | .builtin .clear,[a],[ty]=>match evX A X e a with
   | some av=>PI A X h ty av
   | none=>none
  | _,_,_=>none
 | _=>none
end
end Go.TX
namespace Go.TX
open Go Go.AE
variable [aQ]
inductive SkC where
 | int (k:IntKind) | bool | str | rows (f:Bool) (c:Co) | nil | own (l:Nat) | pb (l sz j:Nat) | pr (l j:Nat) | rp (f:Bool) (c:Co) (j:Nat) | gp (g:Nat) (c:Co)
 | fn (g:FuncId) (caps:List (Nat×Nat)) | np | clip (f:Bool) (c:Co)
 deriving DecidableEq,Inhabited,Repr
inductive SkV where
 | c (x:SkC) | agg (cs:List SkC) | sv (f:Bool) (c:Co)
 deriving DecidableEq,Inhabited,Repr
inductive SkO where
 | box (v:SkV) | rows (f:Bool) (c:Co) | gone
 deriving DecidableEq,Inhabited,Repr
structure j6 where
 slots:List (Nat×SkV)
 objs:List SkO
 deriving DecidableEq,Inhabited
abbrev SkC.tys:SkC->List LTy
 | .int _=> [.i] | .bool=> [.b] | .str=> [.s] | .rows _ c=> [.l c] | .pr _ _=> [.i] | .rp _ c _=> [.l c,.i] | .clip _ c=> [.l c] | _=> []
abbrev SkC.sw:List SkC->List LTy
 | []=> []
 | x::r=>x.tys++SkC.sw r
abbrev SkV.tys:SkV->List LTy
 | .c x=>x.tys | .agg cs=>SkC.sw cs | .sv _ q=> [.x q]
abbrev SkV.sw:List SkV->List LTy
 | []=> []
 | x::r=>x.tys++SkV.sw r
abbrev SkO.tys:SkO->List LTy
 | .box v=>v.tys | .rows _ c=> [.l c] | .gone=> []
abbrev SkO.sw:List SkO->List LTy
 | []=> []
 | x::r=>x.tys++SkO.sw r
abbrev j6.tys(k:j6):List LTy:=SkV.sw (k.slots.map (·.2))++SkO.sw k.objs
structure Sig where
 args:List SkV
 objs:List SkO
 res:List SkV
 fV:List SkO
 deriving DecidableEq,Inhabited
abbrev Sig.inp(s:Sig):List LTy:=SkV.sw s.args++SkO.sw s.objs
abbrev Sig.out(s:Sig):List LTy:=SkV.sw s.res++SkO.sw s.fV
def SkC.fresh:SkC->Bool | .rows f _=>f | .clip f _=>f | .rp f _ _=>f | .gp _ _=>false | _=>true
def SkV.fresh:SkV->Bool | .c x=>x.fresh | .agg cs=>cs.all SkC.fresh | .sv f q=>f || q.flat
def SkO.fresh:SkO->Bool | .box v=>v.fresh | .rows f _=>f | .gone=>true
def Sig.fresh(s:Sig):Bool:=s.res.all SkV.fresh&&s.fV.all SkO.fresh
structure Ct(A:Car)(s:Sig) where
 pre:Tup A s.inp->A.B
 fn:Tup A s.inp->Tup A s.out
abbrev Calls(A:Car):=FuncId->List (Sigma (Ct A))
inductive Ann where
 | u | seq (a b:Ann) | cond (a b:Ann) | block (a:Ann) | loop (k:j6) (a:Ann) | cut (k:j6) (a:Ann)
 deriving Inhabited
section
variable (A:Alg)
structure ES where
 ren:List (Option (Option Nat))
 fro:List (Nat×Bool)
 tr:List (Nat×A.I×A.I)
 ck:List A.B
 lv:List (LV A.aC)
def ES.push(s:ES A)(x:LV A.aC):ES A:={s with lv:=x::s.lv}
def tL(s:ES A)(i:Nat)(v:Option Nat):Option (ES A):=
 match s.ren[i]? with
 | some none=>some {s with ren:=s.ren.set i (some v)}
 | some (some w)=>if w=v then some s else none
 | none=>none
def extC(h:List (fP A.aC))(k:SkC)(v:TC A.aC)(s:ES A):Option (ES A):=
 match k with
 | .int k=>match v with | .d _ (.int k' x)=>if k=k' then some (s.push A (.i x))else none | _=>none
 | .bool=>match v with | .d _ (.bool x)=>some (s.push A (.b x)) | _=>none
 | .str=>match v with | .d _ (.str x)=>some (s.push A (.s x)) | _=>none
 | .rows f c=>match v with
  | .os l lo n=>match h[l]? with
   | some (.rows g c' xs)=>if c=c'/\(!f || g)then some {(s.push A (.l c' (A.sub c' xs lo (A.addN lo n))))with fro:=(l,f)::s.fro,ck:=mO A h (.c v)++s.ck}else none
   | _=>none
  | v=>match gY A h (.rows c) v with
   | some (g,x,ls)=>if !f || g then some {(s.push A x)with fro:=ls.map (λl=>(l,f))++s.fro}else none
   | none=>none
 | .nil=>match v with | .nil=>some s | _=>none
 | .own i=>match v with
  | .own l=>if s.tr.any (·.1==i)then none else tL A s i (some l)
  | .nil=>tL A s i none
  | .os l lo n=>match s.ren[i]?,h[l]? with
   | some none,some (.rows _ c xs)=>some {s with ren:=s.ren.set i (some (some l)),tr:=(i,lo,n)::s.tr,ck:=[A.cmp .leq (A.lit 0) lo,A.cmp .leq (A.lit 0) n,A.cmp .leq (A.addN lo n) (A.len c xs)]++s.ck}
   | _,_=>none
  | _=>none
 | .pb i sz j=>match v with | .pb l sz' j'=>if sz=sz'/\j=j'/\ !(s.tr.any (·.1==i))then tL A s i (some l)else none | _=>none
 | .pr i j=>match v with | .pr l x j'=>if j=j'/\ !(s.tr.any (·.1==i))then(match tL A s i (some l)with | some s=>some (s.push A (.i x)) | none=>none)else none | _=>none
 | .rp f c j=>match v with | .rp g c' xs x j'=>if c=c'/\j=j'/\(!f || g)then some ((s.push A (.l c' xs)).push A (.i x))else none | _=>none
 | .gp g c=>match v with | .gp g' c'=>if g=g'/\c=c' then some s else none | _=>none
 | .fn g caps=>match v with
  | .fn g' qN=>if g=g'/\caps.map (·.2)=qN.map (·.2)/\caps.all (λp=> !(s.tr.any (·.1==p.1)))then
    (caps.zip qN).foldlM (λs p=>tL A s p.1.1 (some p.2.1)) s else none
  | _=>none
 | .np=>match v with | .np=>some s | _=>none
 | .clip f c=>match v with | .clip g c' xs=>if c=c'/\(!f || g)then some (s.push A (.l c' xs))else none | _=>none
def ER(h:List (fP A.aC)):List SkC->List (TC A.aC)->ES A->Option (ES A)
 | [],[],s=>some s
 | k::r,v::vs,s=>match extC A h k v s with | some s=>ER h r vs s | none=>none
 | _,_,_=>none
def Hg(h:List (fP A.aC))(k:SkV)(v:TV A.aC)(s:ES A):Option (ES A):=
 match k with
 | .c k=>match v with | .c x=>extC A h k x s | _=>none
 | .agg ks=>if bR A v then ER A h ks (dH A v) s else none
 | .sv f c=>if bR A v then match toX A h c v with
  | some (g,x,ls)=>if !f || g then some {(s.push A (.x c x))with fro:=ls.map (λl=>(l,f))++s.fro}else none
  | none=>none
  else none
def qO(h:List (fP A.aC)):List SkV->List (TV A.aC)->ES A->Option (ES A)
 | [],[],s=>some s
 | k::r,v::vs,s=>match Hg A h k v s with | some s=>qO h r vs s | none=>none
 | _,_,_=>none
def kV(s:ES A)(i:Nat):Option (A.I×A.I):=match s.tr.find? (·.1==i)with | some x=>some x.2 | none=>none
def PK(h:List (fP A.aC))(i:Nat)(k:SkO)(s:ES A):Option (ES A):=
 match k,s.ren[i]? with
 | .gone,_=>some s
 | .box k,some (some (some l))=>match h[l]? with | some (.box v)=>Hg A h k v s | _=>none
 | .rows f c,some (some (some l))=>match h[l]? with
  | some (.rows g c' xs)=>if c=c'/\(!f || g || c.flat)then some (s.push A (.l c' (match kV A s i with | some p=>A.sub c' xs p.1 (A.addN p.1 p.2) | none=>xs)))else none
  | _=>none
 | .rows _ c,some (some none)=>some (s.push A (.l c (A.EK c)))
 | _,_=>none
def zP(h:List (fP A.aC)):Nat->List SkO->ES A->Option (ES A)
 | _,[],s=>some s
 | i,k::r,s=>match PK A h i k s with | some s=>zP h (i+1) r s | none=>none
def bS:List (Option (Option Nat))->List Nat
 | []=> []
 | some (some l)::r=>l::bS r
 | _::r=>bS r
def distinct:List Nat->Bool
 | []=>true
 | x::r=> !r.contains x&&distinct r
def tN:Option SkO->Bool | some .gone=>true | _=>false
def sD:List SkO->List (Option (Option Nat))->Bool
 | .gone::os,some _::_=>false
 | _::os,_::r=>sD os r
 | _,_=>true
def WM(h:List (fP A.aC))(l:Nat):Bool:=match h[l]? with | some (.rows ..)=>true | _=>false
def ES.fine(h:List (fP A.aC))(s:ES A)(os:List SkO):Bool:=distinct (bS s.ren)&& (s.fro.all λp=> !(bS s.ren).contains p.1&&WM A h p.1)&&sD os s.ren
def es0(k:Nat)(os:List SkO):ES A:={ren:=(List.range os.length).map λi=>if Nat.blt i k&& !tN os[i]? then some (some i)else none,fro:=[],tr:=[],ck:=[],lv:=[]}
end
section
variable (A:Car)
def WO(nm:Nat->Nat):SkC->List (LV A)->Option (TC A×List (LV A))
 | .int k,.i x::r=>some (.d true (.int k x),r)
 | .bool,.b x::r=>some (.d true (.bool x),r)
 | .str,.s x::r=>some (.d true (.str x),r)
 | .rows f _,.l c x::r=>some (.d f (.rows c x),r)
 | .nil,r=>some (.nil,r)
 | .own i,r=>some (.own (nm i),r)
 | .pb i sz j,r=>some (.pb (nm i) sz j,r)
 | .pr i j,.i x::r=>some (.pr (nm i) x j,r)
 | .rp f _ j,.l c x:: .i y::r=>some (.rp f c x y j,r)
 | .gp g c,r=>some (.gp g c,r)
 | .fn g caps,r=>some (.fn g (caps.map λp=>(nm p.1,p.2)),r)
 | .np,r=>some (.np,r)
 | .clip f _,.l c x::r=>some (.clip f c x,r)
 | _,_=>none
def J4(nm:Nat->Nat):List SkC->List (LV A)->Option (List (TC A)×List (LV A))
 | [],r=>some ([],r)
 | k::ks,r=>match WO A nm k r with
  | some (x,r)=>match J4 nm ks r with | some (xs,r)=>some (x::xs,r) | none=>none
  | none=>none
def zQ(nm:Nat->Nat):SkV->List (LV A)->Option (TV A×List (LV A))
 | .c k,r=>match WO A nm k r with | some (x,r)=>some (.c x,r) | none=>none
 | .agg ks,r=>match J4 A nm ks r with | some (xs,r)=>some (.agg xs,r) | none=>none
 | .sv f _,.x c x::r=>some (.sv f c x,r)
 | _,_=>none
def oI(nm:Nat->Nat):List SkV->List (LV A)->Option (List (TV A)×List (LV A))
 | [],r=>some ([],r)
 | k::ks,r=>match zQ A nm k r with
  | some (x,r)=>match oI nm ks r with | some (xs,r)=>some (x::xs,r) | none=>none
  | none=>none
def WQ(nm:Nat->Nat)(old:fP A):SkO->List (LV A)->Option (fP A×List (LV A))
 | .box k,r=>match zQ A nm k r with | some (v,r)=>some (.box v,r) | none=>none
 | .rows f _,.l c x::r=>some (.rows f c x,r)
 | .gone,r=>some (old,r)
 | _,_=>none
def vM(nm:Nat->Nat)(old:Nat->fP A):Nat->List SkO->List (LV A)->Option (List (fP A)×List (LV A))
 | _,[],r=>some ([],r)
 | i,k::ks,r=>match WQ A nm (old i) k r with
  | some (x,r)=>match vM nm old (i+1) ks r with | some (xs,r)=>some (x::xs,r) | none=>none
  | none=>none
end
section
variable (A:Alg)
structure SV where
 tag:Option Nat
 v:TV A.aC
structure GE where
 slot:Option Nat
 want:Bool
 par:Option Nat
 g:A.B
 dead:Bool
structure RSt where
 t:List (Nat×SV A)
 gs:List (GE A)
 h:List (fP A.aC)
 m:Nat
 deriving Inhabited
def eP:List (Nat×SV A)->Nat->Option (SV A)
 | [],_=>none
 | (i,v)::r,j=>if i==j then some v else eP r j
def oQ(d:Nat)(e:GE A):GE A:=match e.slot with | some x=>if x==d then {e with slot:=none}else e | none=>e
def RSt.put(s:RSt A)(d:Option Nat)(tag:Option Nat)(v:TV A.aC):RSt A:=
 match d with | none=>s | some d=> {s with t:=(d,⟨tag,v⟩)::s.t,gs:=s.gs.map (oQ A d)}
def RSt.del(s:RSt A)(d:Option Nat):RSt A:=
 match d with | none=>s | some d=> {s with t:=s.t.filter λp=> !(p.1==d),gs:=s.gs.map (oQ A d)}
def Td(m:Nat):Option Nat->Bool | none=>true | some d=>Nat.blt d m
def PN(gs:List (GE A)):Nat->Option Nat->List Nat
 | 0,_=> []
 | _,none=> []
 | f+1,some t=>t::(match gs[t]? with | some e=>PN gs f e.par | none=> [])
def gu(gs:List (GE A))(t:Option Nat):List Nat:=PN A gs (gs.length+1) t
def jJ:List (GE A)->Nat->Bool->Nat->Option Nat
 | [],_,_,_=>none
 | e::r,d,w,i=>if(e.slot==some d)&& (e.want==w)then some i else jJ r d w (i+1)
def iO(lk:Nat->Option (SV A))(al:List Nat)(i:Nat):Option (TV A.aC):=
 match lk i with
 | some ⟨none,v⟩=>some v
 | some ⟨some t,v⟩=>if al.contains t then some v else none
 | none=>none
inductive GR where
 | bad | skip | run (gs:List (GE A)) (t:Nat) (g:A.B)
def ET(lk:Nat->Option (SV A))(gs:List (GE A))(d:Nat)(want:Bool):GR A:=
 match lk d with
 | none=> .bad
 | some ⟨tg,v⟩=>match jJ A gs d want 0 with
  | some t=>match gs[t]? with | some e=>if e.dead then .skip else .run gs t e.g | none=> .bad
  | none=>match v with
   | .c (.d _ (.bool b))=>
    let g0:=if want then b else A.yx b
    match tg with
    | none=> .run (gs++ [⟨some d,want,none,g0,false⟩]) gs.length g0
    | some t'=>match gs[t']? with
     | some e=> .run (gs++ [⟨some d,want,some t',A.M6 e.g g0,false⟩]) gs.length (A.M6 e.g g0)
     | none=> .bad
   | .tup []=>match tg with | none=> .skip | some _=> .bad
   | _=> .bad
def zR(gs:List (GE A))(t:Nat):List (GE A):=match gs[t]? with | some e=>gs.set t {e with dead:=true} | none=>gs
def vN(X:XT)(lk:Nat->Option (SV A))(gs:List (GE A))(h:List (fP A.aC))(cur:Option Nat)(op:Op):PR A:=
 let al:=gu A gs cur
 match op with
 | .pick c a b=>match evX A X (iO A lk al) c with
  | some (.c (.d _ (.bool q)))=>
   let alt (w:Bool):List Nat:=match c with
    | .tmp d=>(match jJ A gs d w 0 with | some t=>gu A gs (some t)++al | none=>al)
    | _=>al
   match evX A X (iO A lk (alt true)) a,evX A X (iO A lk (alt false)) b with
   | some (.tup []),some y=>some ([A.yx q],y)
   | some x,some (.tup [])=>some ([q],x)
   | some x,some y=>M8 A (PE A q x y)
   | _,_=>none
  | _=>none
 | op=>S9 A X (iO A lk al) h op
def Nh(X:XT)(e:Nat->Option (TV A.aC)):List Operand->Option (List (TV A.aC))
 | []=>some []
 | x::r=>match evX A X e x with | some v=>(match Nh X e r with | some vs=>some (v::vs) | none=>none) | none=>none
def newNames:List (Option (Option Nat))->Nat->Nat->List Nat
 | _,_,0=> []
 | [],n,k+1=>n::newNames [] (n+1) k
 | some (some l)::r,n,k+1=>l::newNames r n k
 | _::r,n,k+1=>n::newNames r (n+1) k
def vO(h:List (fP A.aC))(l:Nat):fP A.aC:=
 match h[l]? with | some (.rows _ c xs)=> .gone c (A.len c xs) | some (.gone c n)=> .gone c n | _=> .gone .i64 (A.lit 0)
def jl(h:List (fP A.aC)):List Nat->List (fP A.aC)->List (fP A.aC)
 | l::ls,o::os=>jl (if Nat.blt l h.length then h.set l o else h++ [o]) ls os
 | _,_=>h
def aik:List (TV A.aC)->TV A.aC | [v]=>v | vs=> .tup vs
structure CR where
 ck:List A.B
 ts:List LTy
 y:Tup A.aC ts
 k:Tup A.aC ts->Option (TV A.aC×List (fP A.aC))
 touched:List Nat
 pure:Bool
def kg(h:List (fP A.aC))(s:Sig)(ct:Ct A.aC s)(args:List (TV A.aC)):Option (CR A):=
  match qO A h s.args args (es0 A 0 s.objs)with
  | some e=>match zP A h 0 s.objs e with
    | some e=>if ES.fine A h e s.objs&&e.tr.isEmpty then match pack A.aC s.inp e.lv.reverse with
      | some x=>
        let br:=s.fresh&&e.fro.all λp=> !p.2
        some { ck := e.ck ++ [ct.pre x], ts := s.out, y := ct.fn x, touched := bS e.ren ++ (if br then [] else e.fro.map (·.1)), pure := s.objs.isEmpty && s.fV.isEmpty && (br || e.fro.isEmpty)
               k:=λy=>
                 let h1:=if br then h else bJ A h (e.fro.map (·.1))
                 let nms:=newNames e.ren h1.length s.fV.length
                 let nm:=λi=>nms.getD i 0
                 match oI A.aC nm s.res (unpack A.aC s.out y)with
                 | some (vs,r)=>match vM A.aC nm (λi=>vO A h1 (nm i)) 0 s.fV r with
                   | some (os,_)=>some (aik A vs,jl A h1 nms os)
                   | none=>none
                 | none=>none}
      | none=>none
      else none
    | none=>none
  | none=>none
def zS(h:List (fP A.aC))(args:List (TV A.aC)):List (Sigma (Ct A.aC))->Option (CR A)
 | []=>none
 | ⟨s,ct⟩::r=>match kg A h s ct args with | some x=>some x | none=>zS h args r
def Te(X:XT)(C:Calls A.aC)(e:Nat->Option (TV A.aC))(h:List (fP A.aC))(op:Op):Option (CR A):=
 match op with
 | .call c=>match c.callee with
  | .value f=>match evX A X e f,Nh A X e c.args.toList with
   | some (.c (.fn g caps)),some vs=>zS A h (vs++caps.map λp=> .c (.pb p.1 p.2 0)) (C g)
   | _,_=>none
  | _=>none
 | _=>none
def Vr(X:XT)(C:Calls A.aC)(e:Nat->Option (TV A.aC))(h:List (fP A.aC))(op:Op):Option (CR A):=
 match bQ op with
 | 1=>match op with
  | .store ty p x=>match evX A X e p,evX A X e x with
   | some pv,some v=>match vL A X h ty pv v with
    | some r=>match v with
     | .c (.d f (.int q n))=>some {ck:=r.chk,ts:=[.i],y:=(n,()),k:=λy=>(match vL A X h ty pv (.c (.d f (.int q y.1)))with | some r=>some (r.v,r.h) | none=>none),touched:=r.touched,pure:=false}
     | .c (.d f (.bool n))=>some {ck:=r.chk,ts:=[.b],y:=(n,()),k:=λy=>(match vL A X h ty pv (.c (.d f (.bool y.1)))with | some r=>some (r.v,r.h) | none=>none),touched:=r.touched,pure:=false}
     | .c (.d f (.rows c n))=>some {ck:=r.chk,ts:=[.l c],y:=(n,()),k:=λy=>(match vL A X h ty pv (.c (.d f (.rows c y.1)))with | some r=>some (r.v,r.h) | none=>none),touched:=r.touched,pure:=false}
     | .sv f c n=>some {ck:=r.chk,ts:=[.x c],y:=(n,()),k:=λy=>(match vL A X h ty pv (.sv f c y.1)with | some r=>some (r.v,r.h) | none=>none),touched:=r.touched,pure:=false}
     | _=>some {ck:=r.chk,ts:=[],y:=(),k:=λ_=>some (r.v,r.h),touched:=r.touched,pure:=false}
    | none=>none
   | _,_=>none
  | _=>match EP A X e h op with
   | some r=>match r.v with
    | .c (.own l)=>match r.h[l]? with
     | some (.rows f c xs)=>some {ck:=r.chk,ts:=[.l c],y:=(xs,()),k:=λy=>some (r.v,r.h.set l (.rows f c y.1)),touched:=r.touched,pure:=false}
     | _=>none
    | _=>some {ck:=r.chk,ts:=[],y:=(),k:=λ_=>some (r.v,r.h),touched:=r.touched,pure:=false}
   | none=>none
 | _=>Te A X C e h op
def Tf{ρ:Type}(op:Op)(v:TV A.aC)(K:TV A.aC->A.M ρ):A.M ρ:=
 match op with
 | .assign _=>match v with
  | .c (.d f (.int k x))=>A.uP [.i] (x,()) λy=>K (.c (.d f (.int k y.1)))
  | .c (.d f (.bool x))=>A.uP [.b] (x,()) λy=>K (.c (.d f (.bool y.1)))
  | .c (.d f (.rows c x))=>A.uP [.l c] (x,()) λy=>K (.c (.d f (.rows c y.1)))
  | v=>K v
 | _=>K v
def jc{ρ:Type}:List A.B->A.M ρ->A.M ρ
 | [],m=>m
 | b::r,m=>A.chk b (jc r m)
def under(g:A.B)(ps:List A.B):List A.B:=ps.map λp=>A.orB (A.yx g) p
def uF{ρ:Type}(r:CR A)(K:TV A.aC->List (fP A.aC)->A.M ρ):A.M ρ:=
 match r.ts,r.y,r.k with
 | [],y,k=>(match k y with | some (v,h)=>K v h | none=>A.fail)
 | ts,y,k=>A.uP ts y λy=>match k y with | some (v,h)=>K v h | none=>A.fail
def gH{ρ:Type}(X:XT)(C:Calls A.aC)(ops:List Oper):List Oper->(RSt A->A.M ρ)->RSt A->A.M ρ
 | [],K,s=>K s
 | o::r,K,s=>if Td s.m o.dst then match o.guard with
  | none=>if bQ o.op==0 then match vN A X (eP A s.t) s.gs s.h none o.op with
    | some (ps,v)=>jc A ps (Tf A o.op v λv=>gH X C ops r K (s.put A o.dst none v))
    | none=>A.fail
   else match Vr A X C (iO A (eP A s.t) []) s.h o.op with
    | some cr=>jc A cr.ck (uF A cr λv h=>gH X C ops r K (RSt.put A {s with h:=h} o.dst none v))
    | none=>A.fail
  | some (j,want)=>match gslot ops j with
   | some d=>match ET A (eP A s.t) s.gs d want with
    | .skip=>gH X C ops r K (s.put A o.dst none (.tup []))
    | .run gs t g=>if bQ o.op==0 then match vN A X (eP A s.t) gs s.h (some t) o.op with
      | some (ps,v)=>jc A (under A g ps) (gH X C ops r K (RSt.put A {s with gs:=gs} o.dst (some t) v))
      | none=>A.fail
     else match Vr A X C (iO A (eP A s.t) (gu A gs (some t))) s.h o.op with
      | some cr=>if cr.pure then jc A (under A g cr.ck) (uF A cr λv _=>gH X C ops r K (RSt.put A {s with gs:=gs} o.dst (some t) v))
       else A.cond g (jc A cr.ck (uF A cr λv h=>gH X C ops r K (RSt.put A {s with h:=h,gs:=gs} o.dst none v)))
        (gH X C ops r K (RSt.put A {s with gs:=zR A gs t} o.dst none (.tup [])))
      | none=>A.fail
    | .bad=>A.fail
   | none=>A.fail
  else A.fail
def vP:TV A.aC->List Nat
 | .c (.pb l _ _)=> [l] | .c (.pr l _ _)=> [l] | _=> []
def iV(X:XT)(e:Nat->Option (TV A.aC)):Op->List Nat
 | .load _ x=>match evX A X e x with | some v=>vP A v | none=> []
 | _=> []
def J5(hs:List (Nat×List Nat))(touched:List Nat)(j:Nat):Bool:=hs.any λp=>(p.1==j)&&p.2.all λl=> !touched.contains l
def qc(hs:List (Nat×List Nat))(touched:List Nat):List (Nat×List Nat):=hs.filter λp=>p.2.all λl=> !touched.contains l
def zX(X:XT)(e:Nat->Option (TV A.aC))(h:List (fP A.aC))(op:Op):PR A:=
 match op with
 | .buildSlice ty len parts=>match X.ty ty with
  | some y=>match y.desc with
   | .slice el=>match X.ty el,X.co el with
    | some z,some c=>if mK X el c&& !(z.size==0)&& (parts.toList.map (·.1)==List.range len)&&Nat.ble (len*z.size) 16777216 then
      match tK A X e c h parts.toList with
      | some (f,xs,_,[])=>some ([],.c (.clip f c (A.lst c xs)))
      | _=>none
     else none
    | _,_=>none
   | _=>none
  | none=>none
 | _=>none
def DR(e:Nat->Option (TV A.aC))(k:A.I):List (Int×Nat)->Option A.B
 | []=>some (A.bl false)
 | (k',r)::rest=>match e r with
  | some (.c (.d _ (.bool b)))=>(match DR e k rest with | some q=>some (A.JY (A.cmp .eql k (A.lit k')) b q) | none=>none)
  | _=>none
def PO(X:XT)(ops:List Oper)(e:Nat->Option (TV A.aC))(h:List (fP A.aC))(op:Op):Option (Option (List A.B×TV A.aC)):=
 match op with
 | .makeMap .. =>some none
 | .insert _ _ _ v=>(match v with | .tmp r=>(match e r with | some _=>some none | none=>none) | _=>none)
 | .move x=>if nS x then some none else none
 | .lookup _ _ (.tmp q) _=>(match e q with
  | some (.c (.d _ (.int .i64 n)))=>(match DR A e n (nN ops)with | some b=>some (some ([],.c (.d true (.bool b)))) | none=>none)
  | _=>none)
 | op=>(match zX A X e h op with | some r=>some (some r) | none=>none)
def jK{ρ:Type}(X:XT)(C:Calls A.aC)(ops:List Oper):List dK->List (Nat×List Nat)->(RSt A->A.M ρ)->RSt A->A.M ρ
 | [],_,K,s=>K s
 | (i,rs,cs)::r,hs,K,s=>match ops[i]? with
  | none=>A.fail
  | some o=>if Td s.m o.dst then
   let lk:=λi=>if rs.contains i then eP A s.t i else none
   match kindOf o.op with
   | 0=>if hs.any λp=>p.1==i then A.fail else match o.guard with
    | none=>match vN A X lk s.gs s.h none o.op with
     | some (ps,v)=>jc A ps (Tf A o.op v λv=>jK X C ops r ((i,iV A X (iO A lk []) o.op)::hs) K (s.put A o.dst none v))
     | none=>A.fail
    | some (j,want)=>match gslot ops j with
     | some d=>match ET A lk s.gs d want with
      | .skip=>jK X C ops r ((i,[])::hs) K (s.put A o.dst none (.tup []))
      | .run gs t g=>match vN A X lk gs s.h (some t) o.op with
       | some (ps,v)=>jc A (under A g ps) (jK X C ops r ((i,iV A X (iO A lk (gu A gs (some t))) o.op)::hs) K (RSt.put A {s with gs:=gs} o.dst (some t) v))
       | none=>A.fail
      | .bad=>A.fail
     | none=>A.fail
   | 1=>match PO A X ops (iO A lk []) s.h o.op with
    | some (some (ps,v))=>jc A ps (jK X C ops r hs K (s.put A o.dst none v))
    | some none=>jK X C ops r hs K (s.del A o.dst)
    | none=>A.fail
   | 2=>match EP A X (λ_=>none) s.h o.op with
    | some hr=>jc A hr.chk (jK X C ops r hs K (RSt.put A {s with h:=hr.h} o.dst none hr.v))
    | none=>A.fail
   | _=>match o.guard with
    | none=>match Vr A X C (iO A lk []) s.h o.op with
     | some cr=>
      if cs.all (J5 hs cr.touched)then jc A cr.ck (uF A cr λv h=>jK X C ops r (qc hs cr.touched) K (RSt.put A {s with h:=h} o.dst none v))else A.fail
     | none=>A.fail
    | some (j,want)=>match gslot ops j with
     | some d=>match ET A lk s.gs d want with
      | .skip=>jK X C ops r hs K (s.put A o.dst none (.tup []))
      | .run gs t g=>match Vr A X C (iO A lk (gu A gs (some t))) s.h o.op with
       | some cr=>if cs.all (J5 hs cr.touched)then
         if cr.pure then jc A (under A g cr.ck) (uF A cr λv _=>jK X C ops r hs K (RSt.put A {s with gs:=gs} o.dst (some t) v))
         else A.cond g (jc A cr.ck (uF A cr λv h=>jK X C ops r (qc hs cr.touched) K (RSt.put A {s with h:=h,gs:=gs} o.dst none v)))
          (jK X C ops r hs K (RSt.put A {s with gs:=zR A gs t} o.dst none (.tup [])))
        else A.fail
       | none=>A.fail
      | .bad=>A.fail
     | none=>A.fail
   else A.fail
def vQ(t:List (Nat×SV A))(h:List (fP A.aC)):List (Nat×SkV)->ES A->Option (ES A)
 | [],e=>some e
 | p::r,e=>match eP A t p.1 with
  | some ⟨none,v⟩=>(match Hg A h p.2 v e with | some e=>vQ t h r e | none=>none)
  | _=>none
def Bu(k:Nat)(sk:j6)(s:RSt A):Option (List A.B×Tup A.aC sk.tys):=
 if !Nat.ble k sk.objs.length then none else match vQ A s.t s.h sk.slots (es0 A k sk.objs)with
 | some e=>match zP A s.h 0 sk.objs e with
  | some e=>if ES.fine A s.h e sk.objs then(match pack A.aC sk.tys e.lv.reverse with | some x=>some (e.ck,x) | none=>none)else none
  | none=>none
 | none=>none
def qd(sk:j6)(m:Nat)(x:Tup A.aC sk.tys):RSt A:=
 match oI A.aC (λi=>i) (sk.slots.map (·.2)) (unpack A.aC sk.tys x)with
 | some (vs,r)=>match vM A.aC (λi=>i) (λ_=> .gone .i64 (A.lit 0)) 0 sk.objs r with
  | some (os,_)=> {t:=(sk.slots.map (·.1)).zip (vs.map λv=>⟨none,v⟩),gs:=[],h:=os,m:=m}
  | none=>default
 | none=>default
def plain:Code->Bool
 | .skip=>true | .region .. =>true | .seq a b=>plain a&&plain b | .cond _ x y=>plain x&&plain y
 | _=>false
def PU{ρ:Type}(k:Nat)(sk:j6)(pl:Bool)(s:RSt A)(K:Exit->RSt A->A.M ρ)(W: {σ:Type}->(Exit->RSt A->A.M σ)->A.M σ):A.M ρ:=
 if pl then A.bind sk.tys (W λe s'=>match e with
  | .normal=>(match Bu A k sk s' with | some (ck,t)=>jc A ck (A.ret sk.tys t) | none=>A.fail)
  | _=>A.fail) λt=>K .normal (qd A sk s.m t)
 else A.vK sk.tys (W λe s'=>match e with
  | .normal=>(match Bu A k sk s' with | some (ck,t)=>jc A ck (A.inl sk.tys t) | none=>A.fail)
  | e=>A.inr sk.tys (K e s')) λt=>K .normal (qd A sk s.m t)
def bM(X:XT)(C:Calls A.aC)(ord:Nat->List dK)(chk:Nat->Array Oper->Nat->Bool)(k:Nat): {ρ:Type}->Ann->Code->RSt A->(Exit->RSt A->A.M ρ)->A.M ρ
 | _,_,.skip,s,K=>K .normal s
 | _,an,.region id ops draw,s,K=>
  let W: {σ:Type}->(Exit->RSt A->A.M σ)->A.M σ:=λK=>
   if draw then(if chk id ops s.m then jK A X C ops.toList (ord id) [] (λs=>K .normal s) s else A.fail)
   else gH A X C ops.toList ops.toList (λs=>K .normal s) s
  match an with
  | .cut sk .u=>PU A k sk true s K W
  | _=>W K
 | _,an,.seq x y,s,K=>match an with
  | .seq a b=>bM X C ord chk k a x s λe s'=>match e with | .normal=>bM X C ord chk k b y s' K | e=>K e s'
  | .u=>bM X C ord chk k .u x s λe s'=>match e with | .normal=>bM X C ord chk k .u y s' K | e=>K e s'
  | _=>A.fail
 | _,an,.cond c x y,s,K=>match evX A X (iO A (eP A s.t) []) c with
  | some (.c (.d _ (.bool b)))=>match an with
   | .cond a1 a2=>A.cond b (bM X C ord chk k a1 x s K) (bM X C ord chk k a2 y s K)
   | .u=>A.cond b (bM X C ord chk k .u x s K) (bM X C ord chk k .u y s K)
   | .cut sk (.cond a1 a2)=>PU A k sk (plain x&&plain y) s K λK'=>A.cond b (bM X C ord chk k a1 x s K') (bM X C ord chk k a2 y s K')
   | _=>A.fail
  | _=>A.fail
 | _,an,.block id b,s,K=>match an with
  | .block a=>bM X C ord chk k a b s λe s'=>match e with | .exit i=>if i==id then K .normal s' else K (.exit i) s' | e=>K e s'
  | .u=>bM X C ord chk k .u b s λe s'=>match e with | .exit i=>if i==id then K .normal s' else K (.exit i) s' | e=>K e s'
  | .cut sk (.block a)=>PU A k sk false s K λK'=>bM X C ord chk k a b s λe s'=>match e with | .exit i=>if i==id then K' .normal s' else K' (.exit i) s' | e=>K' e s'
  | _=>A.fail
 | _,.loop sk a,.loop b,s,K=>match Bu A k sk s with
  | some (ck,x0)=>jc A ck (A.iter sk.tys (λx=>bM X C ord chk k a b (qd A sk s.m x) λe s'=>match e with
    | .normal=>(match Bu A k sk s' with | some (ck,t)=>jc A ck (A.inl sk.tys t) | none=>A.fail)
    | e=>A.inr sk.tys (K e s')) x0)
  | none=>A.fail
 | _,_,.exit id,s,K=>K (.exit id) s
 | _,_,.ret,s,K=>K .ret s
 | _,_,_,_,_=>A.fail
def PW(X:XT)(s:RSt A):List ResultVar->Option (List (TV A.aC))
 | []=>some []
 | .tmp t::r=>match eP A s.t t with
  | some ⟨none,v⟩=>(match PW X s r with | some vs=>some (v::vs) | none=>none)
  | _=>none
 | .cell t ty::r=>match eP A s.t t with
  | some ⟨none,p⟩=>match Na A X s.h ty p with
   | some ([],v)=>(match PW X s r with | some vs=>some (v::vs) | none=>none)
   | _=>none
  | _=>none
def Vt(X:XT)(sg:Sig)(fn:Func)(s:RSt A):A.M (Tup A.aC sg.out):=
 match PW A X s fn.results.toList with
  | some rs=>match qO A s.h sg.res rs (es0 A sg.objs.length sg.fV)with
   | some e=>match zP A s.h 0 sg.fV e with
    | some e=>if ES.fine A s.h e sg.fV then(match pack A.aC sg.out e.lv.reverse with | some y=>jc A e.ck (A.ret sg.out y) | none=>A.fail)else A.fail
    | none=>A.fail
   | none=>A.fail
  | none=>A.fail
def J6(X:XT)(C:Calls A.aC)(ord:Nat->List dK)(chk:Nat->Array Oper->Nat->Bool)(an:Ann)(sg:Sig)(fn:Func)(code:Code)(x:Tup A.aC sg.inp):A.M (Tup A.aC sg.out):=
 if !Nat.ble sg.objs.length sg.fV.length then A.fail else match oI A.aC (λi=>i) sg.args (unpack A.aC sg.inp x)with
 | some (vs,r)=>match vM A.aC (λi=>i) (λ_=> .gone .i64 (A.lit 0)) 0 sg.objs r with
  | some (os,_)=>
   bM A X C ord chk sg.objs.length an code {t:=(List.range vs.length).zip (vs.map λv=>⟨none,v⟩),gs:=[],h:=os,m:=vs.length+(fn.ntmps-vs.length)} λe s=>
    match e with
    | .ret | .normal=>Vt A X sg fn s
    | _=>A.fail
  | none=>A.fail
 | none=>A.fail
end
end Go.TX
namespace Go.TX
open Go Go.AE
abbrev aJ:Car:={I:=Int,B:=Bool,S:=ByteArray,L:=λc=>List c.den,X:=Co.den}
def acg(b:Blk):List (LV aJ):=[.i b.pc,.i b.len,.l .iop b.ops,.i b.fin,.i b.x,.i b.y,.i b.k]
def adA(m:jk):List (LV aJ):=[.l .i64 m.regs,.i m.pc,.l .i64 m.mem,.i m.save,.b m.G9,.b m.waits,.i m.halt,.l .i64 m.ins,.l .i64 m.outs,.i m.count]
def Co.yD:(c:Co)->c.den->List (LV aJ)
 | .i64,n=> [.i n] | .u8,n=> [.i n] | .bool,b=> [.b b] | .str,s=> [.s s]
 | .ins,i=> [.i i.op,.i i.d,.i i.a,.i i.k]
 | .form,f=> [.b f.d,.b f.a,.i f.most,.l .str f.words]
 | .mono,m=> [.i m.bL,.l .i64 m.atoms]
 | .poly,p=> [.l .mono p]
 | .atom,a=> [.i a.kind,.i a.k,.l .mono a.x,.l .mono a.y]
 | .tab,t=> [.l .atom t]
 | .iop,o=> [.i o.kind,.i o.x,.i o.y,.i o.k,.i o.at_]
 | .blk,b=>acg b
 | .lK,m=>adA m
 | .ev,e=> [.i e.kind,.i e.at_,.l .mono e.x,.l .mono e.y,.l .poly e.regs]
 | .sym,s=> [.l .ev s.events,.l .poly s.regs,.i s.fin,.l .mono s.x,.l .mono s.y,.i s.k]
 | .cac,c=> .l .i64 c.words::acg c.blk
 | .cer,c=>acg c.base++acg c.made
 | .ask,a=> [.b a.own,.l .u8 a.bytes]
 | .eng,e=>adA e.lK++ [.l .cac e.cache,.l .cer e.M0]
 | .ints,t=> [.l .i64 t]
abbrev iR:=Tup aJ
def Co.mk:(c:Co)->iR c.su->c.den
 | .i64,t=>t.1 | .u8,t=>t.1 | .bool,t=>t.1 | .str,t=>t.1
 | .ins,t=>⟨t.1,t.2.1,t.2.2.1,t.2.2.2.1⟩
 | .form,t=>⟨t.1,t.2.1,t.2.2.1,t.2.2.2.1⟩
 | .mono,t=>⟨t.1,t.2.1⟩
 | .poly,t=>t.1
 | .atom,t=>⟨t.1,t.2.1,t.2.2.1,t.2.2.2.1⟩
 | .tab,t=>t.1
 | .iop,t=>⟨t.1,t.2.1,t.2.2.1,t.2.2.2.1,t.2.2.2.2.1⟩
 | .blk,t=>⟨t.1,t.2.1,t.2.2.1,t.2.2.2.1,t.2.2.2.2.1,t.2.2.2.2.2.1,t.2.2.2.2.2.2.1⟩
 | .lK,t=>⟨t.1,t.2.1,t.2.2.1,t.2.2.2.1,t.2.2.2.2.1,t.2.2.2.2.2.1,t.2.2.2.2.2.2.1,t.2.2.2.2.2.2.2.1,t.2.2.2.2.2.2.2.2.1,t.2.2.2.2.2.2.2.2.2.1⟩
 | .ev,t=>⟨t.1,t.2.1,t.2.2.1,t.2.2.2.1,t.2.2.2.2.1⟩
 | .sym,t=>⟨t.1,t.2.1,t.2.2.1,t.2.2.2.1,t.2.2.2.2.1,t.2.2.2.2.2.1⟩
 | .cac,t=>⟨t.1,⟨t.2.1,t.2.2.1,t.2.2.2.1,t.2.2.2.2.1,t.2.2.2.2.2.1,t.2.2.2.2.2.2.1,t.2.2.2.2.2.2.2.1⟩⟩
 | .cer,t=>⟨⟨t.1,t.2.1,t.2.2.1,t.2.2.2.1,t.2.2.2.2.1,t.2.2.2.2.2.1,t.2.2.2.2.2.2.1⟩,
  ⟨t.2.2.2.2.2.2.2.1,t.2.2.2.2.2.2.2.2.1,t.2.2.2.2.2.2.2.2.2.1,t.2.2.2.2.2.2.2.2.2.2.1,t.2.2.2.2.2.2.2.2.2.2.2.1,t.2.2.2.2.2.2.2.2.2.2.2.2.1,t.2.2.2.2.2.2.2.2.2.2.2.2.2.1⟩⟩
 | .ask,t=>⟨t.1,t.2.1⟩
 | .eng,t=>⟨⟨t.1,t.2.1,t.2.2.1,t.2.2.2.1,t.2.2.2.2.1,t.2.2.2.2.2.1,t.2.2.2.2.2.2.1,t.2.2.2.2.2.2.2.1,t.2.2.2.2.2.2.2.2.1,t.2.2.2.2.2.2.2.2.2.1⟩,t.2.2.2.2.2.2.2.2.2.2.1,t.2.2.2.2.2.2.2.2.2.2.2.1⟩
 | .ints,t=>t.1
def bytesOf(l:List UInt8):ByteArray:=⟨l.toArray⟩
def afn:List Form:=[
 ⟨false,false,3,[bytesOf [115,116,111,112],bytesOf [114,101,116,117,114,110],bytesOf [108,101,116],bytesOf [107,101,101,112]]⟩,
 ⟨true,false,255,[bytesOf [115,101,116]]⟩,⟨true,true,0,[bytesOf [109,111,118,101]]⟩,⟨true,true,3,[bytesOf [97,100,100]]⟩,⟨true,true,3,[bytesOf [115,117,98]]⟩,
 ⟨true,true,3,[bytesOf [109,117,108]]⟩,⟨true,true,3,[bytesOf [97,110,100]]⟩,⟨true,true,3,[bytesOf [120,111,114]]⟩,⟨true,true,15,[bytesOf [115,104,105,102,116]]⟩,
 ⟨true,true,255,[bytesOf [108,111,97,100]]⟩,⟨true,true,255,[bytesOf [115,116,111,114,101]]⟩,⟨true,true,255,[bytesOf [115,97,109,101]]⟩,⟨true,true,255,[bytesOf [108,101,115,115]]⟩,
 ⟨false,true,0,[bytesOf [103,111]]⟩,⟨true,false,0,[bytesOf [111,117,116]]⟩,⟨true,false,0,[bytesOf [105,110]]⟩]
def WR:(c:Co)->List c.den
 | .form=>afn
 | _=> []
def Dr{α ρ:Type}(k:α->(ρ->Prop)->Prop)(Q:ρ->Prop):α ⊕ ρ->Prop
 | .inl x=>k x Q
 | .inr r=>Q r
def itW{α ρ:Type}:Nat->(α->(α ⊕ ρ->Prop)->Prop)->α->(ρ->Prop)->Prop
 | 0,_,_,_=>False
 | n+1,f,x,Q=>f x (Dr (itW n f) Q)
def Tg{α ρ:Type}(f:α->(α ⊕ ρ->Prop)->Prop)(x:α)(Q:ρ->Prop):Prop:=
 ∃(I:α->Prop) (μ:α->Nat),I x/\∀y,I y->f y (Dr (λz _=>I z/\μ z<μ y) Q)
def lN(op:BinOp)(k:IntKind)(x y:Int):Int:=
 match op with
 | .add=>k.wrap (x+y) | .sub=>k.wrap (x-y) | .mul=>k.wrap (x*y) | .quo=>k.wrap (x.tdiv y) | .rem=>x.tmod y
 | .and=>xW .and k x y | .or=>xW .or k x y | .xor=>xW .xor k x y
 | .shl=>k.wrap (x*2^ (min y.toNat k.bits)) | .shr=>x.fdiv (2^ (min y.toNat k.bits))
 | _=>0
def bP(op:BinOp)(x y:Int):Bool:=
 match op with
 | .eql=>decide (x=y) | .neq=> !decide (x=y) | .lss=>decide (x<y) | .leq=>decide (x<=y) | .gtr=>decide (y<x) | .geq=>decide (y<=x)
 | _=>false
def WS(x y:Ins):Bool:=decide (x=y)
def WT(x y:IOp):Bool:=decide (x=y)
def ali:(c:Co)->c.den->c.den->Bool
 | .ins,x,y=>WS x y | .iop,x,y=>WT x y | _,_,_=>false
def mE(c:Co)(j:Nat)(x:c.den):Int:=match (c.yD x)[j]? with | some (.i n)=>n | _=>0
def ail(c:Co)(j:Nat)(x:c.den):Bool:=match (c.yD x)[j]? with | some (.b n)=>n | _=>false
def alj(c:Co)(j:Nat)(x:c.den):ByteArray:=match (c.yD x)[j]? with | some (.s n)=>n | _=>default
def rA(c:Co)(j:Nat)(c':Co)(x:c.den):List c'.den:=match (c.yD x)[j]? with | some (.l q xs)=>if e:q=c' then e▸xs else [] | _=> []
abbrev std(N:Nat):Alg where
 aC:=aJ
 M:=fun ρ=>(ρ->Prop)->Prop
 lit:=λn=>(n:Int)
 bl:=λb=>(b:Bool)
 st:=λs=>(s:ByteArray)
 arith:=lN
 cmp:=bP
 addN:=λ(x y:Int)=>x+y
 M5:=λ(x y:Int)=>x-y
 neg:=λk (x:Int)=>k.wrap (0-x)
 conv:=λk (x:Int)=>k.wrap x
 Pq:=λ(m n:Int)=>if n<m then n else m
 kZ:=λ(m n:Int)=>if m<n then n else m
 yx:=λ(b:Bool)=> !b
 M6:=λ(a b:Bool)=>a&&b
 orB:=λ(a b:Bool)=>a || b
 eqB:=λ(a b:Bool)=>a==b
 eqS:=λ(a b:ByteArray)=>a.toList==b.toList
 Pv:=λ(xs:List Int)=>strOfNums xs
 Pw:=λ(b:Bool) (x y:Int)=>bif b then x else y
 JY:=λ(b:Bool) (x y:Bool)=>bif b then x else y
 Px:=λ(b:Bool) c (x y:List c.den)=>(bif b then x else y:List c.den)
 Vq:=λ(b:Bool) _ x y=>bif b then x else y
 len:=λc (xs:List c.den)=>(xs.length:Int)
 EK:=λc=>([]:List c.den)
 get:=λc (xs:List c.den) (i:Int)=>xs.getD i.toNat default
 set:=λc (xs:List c.den) (i:Int) x=>xs.set i.toNat x
 app:=λc (xs ys:List c.den)=>xs++ys
 sub:=λc (xs:List c.den) (lo hi:Int)=>(xs.take hi.toNat).drop lo.toNat
 rep:=λc (n:Int) x=>List.replicate n.toNat x
 lst:=λc (xs:List c.den)=>xs
 glob:=λ_ c=>WR c
 fI:=mE
 fB:=ail
 fS:=alj
 fL:=rA
 mkX:=Co.mk
 eqX:=ali
 ret:=λ_ t Q=>Q t
 fail:=λ_=>False
 uP:=λ_ t k=>k t
 chk:=λ(b:Bool) m Q=>b=true/\m Q
 cond:=λ(b:Bool) x y Q=>(b=true->x Q)/\(b=false->y Q)
 bind:=λ_ m k Q=>m λt=>k t Q
 vK:=λ_ m k Q=>m (Dr k Q)
 inl:=λ_ t Q=>Q (.inl t)
 inr:=λ_ m Q=>m λr=>Q (.inr r)
 iter:=λ_ f x Q=>Tg f x Q
abbrev Co.size(c:Co):Nat:=c.fields.length
def WU(n:Int):List D:=[.int .i64 n]
def vR(xs:List Int):D:= .rows 1 (xs.map WU)
def kQ(m:ak):List D:=[.int .i64 m.bL,vR m.atoms]
def bW(p:List ak):D:= .rows 2 (p.map kQ)
def jA(p:List ak):List D:=[bW p]
def iG(a:Atom):List D:=[.int .i64 a.kind,.int .i64 a.k,bW a.x,bW a.y]
def Ni(o:IOp):List D:=[.int .i64 o.kind,.int .i64 o.x,.int .i64 o.y,.int .i64 o.k,.int .i64 o.at_]
def ain(s:ByteArray):List D:=[.str s]
def u8R(n:Int):List D:=[.int .u8 n]
def oJ(b:Blk):List D:=[.int .i64 b.pc,.int .i64 b.len,.rows 5 (b.ops.map Ni),.int .i64 b.fin,.int .i64 b.x,.int .i64 b.y,.int .i64 b.k]
def adB(m:jk):List D:=[vR m.regs,.int .i64 m.pc,vR m.mem,.int .i64 m.save,.bool m.G9,.bool m.waits,.int .i64 m.halt,vR m.ins,vR m.outs,.int .i64 m.count]
def evR(e:Ev):List D:=[.int .i64 e.kind,.int .i64 e.at_,bW e.x,bW e.y,.rows 1 (e.regs.map jA)]
def aio(c:Cac):List D:=vR c.words::oJ c.blk
def aip(c:Cer):List D:=oJ c.base++oJ c.made
def Co.row:(c:Co)->c.den->List D
 | .i64,n=>WU n | .u8,n=>u8R n | .bool,b=> [.bool b] | .str,s=>ain s
 | .ins,i=> [.int .i64 i.op,.int .i64 i.d,.int .i64 i.a,.int .i64 i.k]
 | .form,f=> [.bool f.d,.bool f.a,.int .i64 f.most,.rows 1 (f.words.map ain)]
 | .mono,m=>kQ m | .poly,p=>jA p | .atom,a=>iG a | .tab,t=> [.rows 4 (t.map iG)] | .iop,o=>Ni o
 | .blk,b=>oJ b | .lK,m=>adB m | .ev,e=>evR e
 | .sym,s=> [.rows 5 (s.events.map evR),.rows 1 (s.regs.map jA),.int .i64 s.fin,bW s.x,bW s.y,.int .i64 s.k]
 | .cac,c=>aio c | .cer,c=>aip c | .ask,a=> [.bool a.own,.rows 1 (a.bytes.map u8R)]
 | .eng,e=>adB e.lK++ [.rows 8 (e.cache.map aio),.rows 14 (e.M0.map aip)]
 | .ints,t=> [vR t]
def aW(c:Co)(xs:List c.den):List (List D):=xs.map c.row
def l5:Leaf aJ->D
 | .int k x=> .int k x | .bool b=> .bool b | .str s=> .str s | .rows c xs=> .rows c.size (aW c xs)
def lvD:Sh->LV aJ->D
 | .int k,.i n=> .int k n
 | _,.i n=> .int .i64 n
 | _,.b b=> .bool b
 | _,.s s=> .str s
 | _,.l c xs=> .rows c.size (aW c xs)
 | _,.x _ _=> .bool false
def WW(c:Co)(x:c.den):c.row x=List.zipWith lvD c.fields (c.yD x):=by cases c<;>rfl
theorem tO(c:Co)(x:c.den):(c.row x).length=c.size:=by cases c<;>rfl
def WX(c:Co)(x:c.den):(c.yD x).length=c.size:=by cases c<;>rfl
def nO(N:Nat)(c:Co)(x:c.den):(dM (std N) c x 0 c.fields).map l5=c.row x:=by cases c<;>rfl
def Bv(N:Nat)(c:Co)(x:c.den):(dM (std N) c x 0 c.fields).map kU=c.fields:=by cases c<;>rfl
def IW(N:Nat)(c:Co)(x:c.den):(dM (std N) c x 0 c.fields).map Leaf.lv=c.yD x:=by cases c<;>rfl
def Vu{t:LTy}{v:LV aJ}{a:LT aJ t}(h:afg aJ t v=some a):aij aJ t a=v:=by
 cases t<;>cases v<;>simp only [afg,reduceCtorEq]at h<;>(try (cases h;rfl))
 all_goals
  split at h
  .rename_i e;subst e;cases h;rfl
  .cases h
def unpack_pack:∀ {ts:List LTy} {vs:List (LV aJ)} {t:iR ts},pack aJ ts vs=some t->unpack aJ ts t=vs
 | [],[],_,_=>rfl
 | [],_::_,_,h=>by simp [pack]at h
 | _::_,[],_,h=>by simp [pack]at h
 | t::r,v::vs,x,h=>by
  unfold pack at h;split at h
  .rename_i a ha;split at h
   .rename_i b hb;cases h;simp only [unpack];rw [Vu ha,unpack_pack hb]
   .cases h
  .cases h
def Ti(c:Co)(t:iR c.su):c.yD (c.mk t)=unpack aJ c.su t:=by cases c<;>rfl
abbrev SC:=TC aJ
abbrev SVal:=TV aJ
abbrev aU:=fP aJ
abbrev NM:=Nat->Option (Nat×Nat)
def Leaf.scalar:Leaf aJ->Bool | .rows _ _=>false | _=>true
inductive RC (N:NM):Cell->SC->Prop
 | d {f g:Bool} {x:D} {y:Leaf aJ}:x=l5 y->(g=true->f=true\/y.scalar=true)->RC N (.d f x) (.d g y)
 | nil:RC N .nil .nil
 | clip {f g:Bool} {c:Co} {xs:List c.den}:(g=true->f=true)->RC N (.clip f c.size (aW c xs)) (.clip g c xs)
 | own {l sz n:Nat}:N l=some (sz,n)->RC N (.os l sz 0 n) (.own l)
 | os {l sz lo n m:Nat}:N l=some (sz,m)->RC N (.os l sz lo n) (.os l (lo:Int) (n:Int))
 | pb {l sz j:Nat}:RC N (.ptr l sz 0 j) (.pb l sz j)
 | pr {l sz i j m:Nat}:N l=some (sz,m)->RC N (.ptr l sz i j) (.pr l (i:Int) j)
 | rp {f g:Bool} {c:Co} {xs:List c.den} {i j:Nat}:(g=true->f=true)->i<xs.length->RC N (.rp f c.size (aW c xs) i j) (.rp g c xs (i:Int) j)
 | gp {g:Nat} {c:Co}:RC N (.rp false 1 [[.rows c.size (aW c (WR c))]] 0 0) (.gp g c)
 | fn {g:FuncId} {caps:List (Nat×Nat)}:RC N (.fn g (caps.map λp=> .ptr p.1 p.2 0 0)) (.fn g caps)
 | np:RC N .np .np
def cellsS(v:SVal):List SC:=dH (std 0) v
def PX(n:Nat)(c:Co)(x:c.den):∀(l:List Sh) (j:Nat),dM (std n) c x j l=dM (std 0) c x j l
 | [],_=>rfl
 | s::r,j=>by simp_all
def Nj(n:Nat)(f:Bool)(c:Co)(x:c.den):rz (std n) f c x=rz (std 0) f c x:=congrArg (List.map (TC.d f)) (PX n c x _ _)
def eU(n:Nat)(v:SVal):dH (std n) v=cellsS v:=by
 cases v with
 | sv f c x=>exact Nj n f c x
 | _=>rfl
inductive PV0 (N:NM):PV->SVal->Prop
 | c {x:Cell} {y:SC}:RC N x y->PV0 N (.c x) (.c y)
 | agg {cs:List Cell} {v:SVal}:bR (std 0) v=true->F2 (RC N) cs (cellsS v)->PV0 N (.agg cs) v
inductive PVR (N:NM):PV->SVal->Prop
 | one {p:PV} {v:SVal}:PV0 N p v->PVR N p v
 | tup {ps:List PV} {vs:List SVal}:F2 (PV0 N) ps vs->PVR N (.tup ps) (.tup vs)
def nmh(h:List aU):NM:=λl=>match h[l]? with
 | some (.rows _ c xs)=>some (c.size,(xs:List c.den).length)
 | some (.gone c n)=>some (c.size,(n:Int).toNat)
 | _=>none
inductive OR (N:NM):dx->aU->Prop
 | box {cs:List Cell} {v:SVal}:F2 (RC N) cs (cellsS v)->OR N (.box cs) (.box v)
 | rows {f g:Bool} {c:Co} {xs:List c.den}:(g=true->f=true)->OR N (.rows f c.size (aW c xs)) (.rows g c xs)
 | gone {c:Co} {n:Int}:OR N .gone (.gone c n)
structure gy(h':Heap)(h:List aU):Prop where
 old:∀l o,h[l]? =some o->∃o',AE.look h' l=some o'/\OR (nmh h) o' o
 new:∀l,h.length<=l->AE.look h' l=none
def RC.mono{N M:NM}(hN:∀l x,N l=some x->M l=some x){x:Cell}{y:SC}(h:RC N x y):RC M x y:=by
 cases h with
 | d h1 h2=>exact .d h1 h2
 | nil=>exact .nil
 | clip h=>exact .clip h
 | own h=>exact .own (hN _ _ h)
 | os h=>exact .os (hN _ _ h)
 | pb=>exact .pb
 | pr h=>exact .pr (hN _ _ h)
 | rp h h'=>exact .rp h h'
 | gp=>exact .gp
 | fn=>exact .fn
 | np=>exact .np
def PV0.mono{N M:NM}(hN:∀l x,N l=some x->M l=some x){x:PV}{y:SVal}(h:PV0 N x y):PV0 M x y:=by
 cases h with
 | c h=>exact .c (h.mono hN)
 | agg h1 h2=>exact .agg h1 (h2.mono λ_ _ h=>h.mono hN)
def PVR.mono{N M:NM}(hN:∀l x,N l=some x->M l=some x){x:PV}{y:SVal}(h:PVR N x y):PVR M x y:=by
 cases h with
 | one h=>exact .one (h.mono hN)
 | tup h=>exact .tup (h.mono λ_ _ h=>h.mono hN)
def OR.mono{N M:NM}(hN:∀l x,N l=some x->M l=some x){x:dx}{y:aU}(h:OR N x y):OR M x y:=by
 cases h with
 | box h=>exact .box (h.mono λ_ _ h=>h.mono hN)
 | rows h=>exact .rows h
 | gone=>exact .gone
def PVR.cell{N:NM}{p:PV}{y:SC}(h:PVR N p (.c y)):∃x,p= .c x/\RC N x y:=by
 cases h with | one h=>cases h with
  | c h=>exact⟨_,rfl,h⟩
  | agg h _=>simp [bR]at h
def PVR.ofC{N:NM}{x:Cell}{y:SC}(h:RC N x y):PVR N (.c x) (.c y):= .one (.c h)
theorem RC.int{N:NM}{x:Cell}{f:Bool}{k:IntKind}{n:Int}(h:RC N x (.d f (.int k n))):∃g,x= .d g (.int k n):=by
 cases h with | d h1 h2=>exact⟨_,by rw [h1];rfl⟩
theorem RC.bool{N:NM}{x:Cell}{f:Bool}{b:Bool}(h:RC N x (.d f (.bool b))):∃g,x= .d g (.bool b):=by
 cases h with | d h1 h2=>exact⟨_,by rw [h1];rfl⟩
theorem PVR.int{N:NM}{p:PV}{f:Bool}{k:IntKind}{n:Int}(h:PVR N p (.c (.d f (.int k n)))):∃g,p= .c (.d g (.int k n)):=by
 obtain⟨x,rfl,hc⟩:=h.cell;grind [RC.int]
theorem PVR.bool{N:NM}{p:PV}{f:Bool}{b:Bool}(h:PVR N p (.c (.d f (.bool b)))):∃g,p= .c (.d g (.bool b)):=by
 obtain⟨x,rfl,hc⟩:=h.cell;grind [RC.bool]
def PVR.ci{N:NM}(k:IntKind)(n:Int)(f:Bool):PVR N (ci k n) (.c (.d f (.int k n))):= .ofC (.d rfl λ_=> .inl rfl)
def PVR.cb{N:NM}(b f:Bool):PVR N (AE.cb b) (.c (.d f (.bool b))):= .ofC (.d rfl λ_=> .inl rfl)
def PVR.cells{N:NM}{p:PV}{v:SVal}(h:PVR N p v):F2 (RC N) (aI p) (cellsS v):=by
 cases h with
 | one h=>cases h with
  | c h=>exact .cons h .nil
  | agg _ h=>exact h
 | tup h=>exact .nil
def PVR.len{N:NM}{p:PV}{v:SVal}(h:PVR N p v):(aI p).length=(cellsS v).length:=h.cells.length
def F2.adC{N:NM}{f g:Bool}(hf:g=true->f=true):∀(ys:List (Leaf aJ)),F2 (RC N) ((ys.map l5).map (.d f)) (ys.map (.d g))
 | []=> .nil
 | _::ys=> .cons (.d rfl λh=> .inl (hf h)) (F2.adC hf ys)
def Vv{N:NM}(n:Nat){f g:Bool}(hf:g=true->f=true)(c:Co)(x:c.den):F2 (RC N) ((c.row x).map (.d f)) (rz (std n) g c x):=by
 unfold rz;rw [<-nO n c x];exact F2.adC hf _
structure XOK(X:XT)(E:Tab):Prop where
 ty:X.ty=E.ty
 glob:∀g c,X.glob g=some c->E.glob g=some (.rows c.size (aW c (WR c)))
 ieq:∀t c,X.ieq t=some c->(c= .ins/\E.ieq t=some 4)\/(c= .iop/\E.ieq t=some 5)
def Gv(T:(PV->Prop)->Prop)(N:NM)(v:SVal):Prop:=∃pv,PVR N pv v/\∀K,K pv->T K
def EvR(X:XT)(E:Tab)(n:Nat)(N:NM)(t:Slots)(e:Nat->Option SVal):Prop:=∀i v,e i=some v->∃pv,aA t i=some pv/\PVR N pv v
def fE{X:XT}{E:Tab}(hX:XOK X E){n:Nat}{N:NM}{t:Slots}{e:Nat->Option SVal}(he:EvR X E n N t e){x:Operand}{v:SVal}(h:evX (std n) X e x=some v):
  ∃pv,ev E t x=some pv/\PVR N pv v:=by
 cases x with
 | tmp i=>exact he i v h
 | const c=>
  simp only [evX]at h;split at h<;>cases h
  .exact⟨_,rfl,.ci _ _ _⟩
  .exact⟨_,rfl,.cb _ _⟩
  .exact⟨_,rfl,.ofC (.d rfl λ_=> .inl rfl)⟩
  .exact⟨_,rfl,.ofC .nil⟩
  .exact⟨_,rfl,.ofC .np⟩
 | global g=>
  simp only [evX]at h;split at h
  .rename_i c hc;cases h;refine⟨_,by simp only [ev,hX.glob g c hc,Option.map_some],.ofC .gp⟩
  .cases h
 | func f=>cases h;exact⟨_,rfl,.ofC (RC.fn (caps:=[]))⟩
theorem jB{o:Option PV}{pv:PV}(h:o=some pv)(K:PV->Prop):K pv->aB o K:=by rw [h];exact id
def PY{d:iU}(h:d.agg=true):∃fs,d= .struct fs:=by cases d<;>simp [iU.agg]at h;exact⟨_,rfl⟩
def CY(n:Nat)(w:SVal):bR (std n) w=bR (std 0) w:=by cases w<;>rfl
def WY{n:Nat}{N:NM}{f g:Bool}(hf:g=true->f=true){c:Co}{x:c.den}{y:TY}{j:Nat}{v:SVal}
  (h:lZ (std n) y j (.sv g c x) (rz (std n) g c x)=some v):Gv (nW f y (c.row x) j) N v:=by
 have hrc:=Vv (N:=N) n hf c x;have hl:(rz (std n) g c x).length=(c.row x).length:=by have:=hrc.length;simp_all
 unfold lZ at h;split at h
 .rename_i hagg;obtain⟨fs,hfs⟩:=PY hagg;have key:∀v,F2 (RC N) ((((c.row x).drop j).take y.size).map (.d f)) (cellsS v)->bR (std 0) v=true->j+y.size<=(c.row x).length->Gv (nW f y (c.row x) j) N v:=by
   intro v h1 h2 h3;refine⟨_,.one (.agg h2 h1),λK hk=> ?_⟩
   grind [nW]
  split at h
  .rename_i h0;simp only [Bool.and_eq_true,beq_iff_eq]at h0;obtain⟨⟨rfl,hs⟩,_⟩:=h0;cases h;refine key _ ?_ rfl ah;have:((c.row x).drop 0).take y.size=c.row x:=by simp_all
   rw [this];have:=hrc;rw [Nj]at this;exact this
  .split at h
   .rename_i h1;cases h;have h1:=Nat.le_of_ble_eq_true h1;refine key _ ?_ rfl ah;rw [List.map_take,List.map_drop];exact(hrc.drop j).take y.size
   .cases h
 .rename_i hagg;split at h
  .rename_i q hq;obtain⟨a,ha,hra⟩:=hrc.get hq;rw [List.getElem?_map]at ha;cases hd:(c.row x)[j]? with
   | none=>simp_all
   | some d=>
   rw [hd]at ha;simp at ha;subst ha;split at h
   .rename_i k hk;split at h
    .rename_i f' k' m;split at h
     .rename_i e;subst e;cases h;obtain⟨g',hg'⟩:=RC.int hra;cases hg';exact⟨_,.ci k m _,λK hK=>by grind [nW]⟩
     .cases h
    .cases h
   .rename_i hni;cases h;refine⟨_,.ofC hra,λK hK=> ?_⟩
    grind [List.getElem?_eq_some_iff,nW,iU.agg,absurd,bool]
  .cases h
def Tj{n:Nat}{N:NM}{f g:Bool}(hf:g=true->f=true){c:Co}{xs:List c.den}{y:TY}{i j:Nat}{v:SVal}(hi:i<xs.length)
  (h:lZ (std n) y j (.sv g c (xs.getD i default)) (rz (std n) g c (xs.getD i default))=some v):Gv (D8 f (aW c xs) i j y) N v:=by
 obtain⟨pv,h1,h2⟩:=WY (N:=N) hf h;refine⟨pv,h1,λK hK=>⟨by simpa [aW]using hi,λrow hr=> ?_⟩⟩
 grind [aW,List.getElem?_eq_getElem,Option.some.injEq,default,List.getD]
def ach{n:Nat}{N:NM}{cs:List Cell}{w v:SVal}{y:TY}{j:Nat}(hc:F2 (RC N) cs (cellsS w))(h:lZ (std n) y j w (dH (std n) w)=some v):Gv (mh cs j y) N v:=by
 have hl:(dH (std n) w).length=cs.length:=by rw [eU];exact hc.length.symm
 unfold lZ at h;split at h
 .rename_i hagg;split at h
  .rename_i h0;simp only [Bool.and_eq_true,beq_iff_eq]at h0;obtain⟨⟨rfl,hs⟩,hw⟩:=h0;cases h;refine⟨.agg ((cs.drop 0).take y.size),.one (.agg ah ?_),λK hK=> ?_⟩
   all_goals grind [List.take_of_length_le,mh]
  .split at h
   .rename_i h1;cases h;have h1:=Nat.le_of_ble_eq_true h1;refine⟨.agg ((cs.drop j).take y.size),.one (.agg rfl ?_),λK hK=>by grind [mh]⟩;have:=(hc.drop j).take y.size;rw [<-eU n]at this;exact this
   .cases h
 .rename_i hagg;split at h
  .rename_i q hq;rw [eU]at hq;obtain⟨a,ha,hra⟩:=hc.get hq;have hv:v= .c q:=by
    split at h
    .split at h
     all_goals simp_all
    .cases h;rfl
   subst hv;exact⟨_,.ofC hra,λK hK=>by unfold mh;rw [if_neg hagg,ha];exact hK⟩
  .cases h
def Nk{X:XT}{E:Tab}(hX:XOK X E){n:Nat}{h':Heap}{h:List aU}(H:gy h' h){ty:TypeId}{p:PV}{q v:SVal}{ps:List Bool}(hp:PVR (nmh h) p q)
  (hk:Na (std n) X h ty q=some (ps,v)) (hps:∀b∈ps,b=true):Gv (fF E h' ty p) (nmh h) v:=by
 unfold Na at hk;rw [hX.ty]at hk;cases hy:E.ty ty with
 | none=>simp_all
 | some y=>
 rw [hy]at hk;simp only at hk;have lift:∀ {T:(PV->Prop)->Prop},Gv T (nmh h) v->(∀K,T K->fF E h' ty p K)->Gv (fF E h' ty p) (nmh h) v:=λ⟨pv,h1,h2⟩ f=>⟨pv,h1,λK hK=>f K (h2 K hK)⟩
 split at hk
 .rename_i l sz j;obtain⟨x,rfl,hc⟩:=hp.cell;cases hc;split at hk
  .rename_i w hw;split at hk
   .obtain⟨o',ho',hO⟩:=H.old l _ hw;cases hO with | box hF=>
    unfold M8 at hk;split at hk
    .rename_i u hu;cases hk;refine lift (ach hF hu) λK hT=> ?_
     unfold fF;rw [hy];simp only [aD];rw [ho'];exact⟨rfl,hT⟩
    .cases hk
   .cases hk
  .cases hk
 .rename_i l i j;obtain⟨x,rfl,hc⟩:=hp.cell;cases hc with | pr hN=>
  rename_i sz i m;split at hk
  .rename_i f c xs hw;obtain⟨o',ho',hO⟩:=H.old l _ hw;cases hO with | rows hf=>
   split at hk
   .rename_i u hu;cases hk;have h2:=hps ((std n).cmp .lss (i:Int) ((std n).len c xs)) (by simp);have hi:i< (xs:List c.den).length:=by grind [bP]
    have hs:sz=c.size:=by grind [nmh,Option.some.injEq,Prod.mk.injEq]
    refine lift (Tj (n:=n) hf hi (by simpa [std]using hu)) λK hT=> ?_
    unfold fF;rw [hy];simp only [aD];rw [ho'];exact⟨hs,hT⟩
   .cases hk
  .cases hk
 .rename_i f c xs i j;obtain⟨x,rfl,hc⟩:=hp.cell;cases hc with | rp hf hi=>
  unfold M8 at hk;split at hk
  .rename_i u hu;cases hk;refine lift (Tj (n:=n) hf hi (by simpa [std]using hu)) λK hT=> ?_
   unfold fF;rw [hy];exact hT
  .cases hk
 .rename_i g c;obtain⟨x,rfl,hc⟩:=hp.cell;cases hc;split at hk
  .rename_i e he;cases hk;refine⟨_,.ofC (.d (f:=false) rfl (λh=>by cases h)),λK hK=> ?_⟩;unfold fF;rw [hy];simp only [aD];refine⟨by simp,λrow hr=> ?_⟩;simp at hr;subst hr;unfold nW;rw [he];exact⟨by simp,λx hx=>by simp at hx;subst hx;exact hK⟩
  .cases hk
 .cases hk
def WZ{n:Nat}{N:NM}{p:PV}{q v:SVal}{ps:List Bool}(hp:PVR N p q)(hk:afl (std n) q=some (ps,v)):Gv (Me p) N v:=by
 unfold afl at hk;split at hk
 .cases hk;obtain⟨x,rfl,hc⟩:=hp.cell;cases hc;exact⟨_,.ofC .pb,λK hK=>hK⟩
 .cases hk;obtain⟨x,rfl,hc⟩:=hp.cell;cases hc with | pr h=>exact⟨_,.ofC (.pr h),λK hK=>hK⟩
 .cases hk;obtain⟨x,rfl,hc⟩:=hp.cell;cases hc with | rp h h'=>exact⟨_,.ofC (.rp h h'),λK hK=>hK⟩
 .cases hk
def aiq{n:Nat}{N:NM}{op:UnOp}{p:PV}{q v:SVal}{ps:List Bool}(hp:PVR N p q)(hk:unX (std n) op q=some (ps,v)):Gv (unA op p) N v:=by
 unfold unX at hk;split at hk
 .cases hk;obtain⟨g,rfl⟩:=hp.bool;exact⟨_,.cb _ _,λK hK=>hK⟩
 .cases hk;obtain⟨g,rfl⟩:=hp.int;exact⟨_,.ci _ _ _,λK hK=>hK⟩
 .cases hk
def IX:∀xs:List Int,Mf (aW .u8 xs)=some xs
 | []=>rfl
 | x::r=>by
  have ih:=IX r;show(match ae9 (Co.row .u8 x),Mf (aW .u8 r)with | some n,some l=>some (n::l) | _,_=>none)=_;rw [ih];rfl
def aci{X:XT}{E:Tab}(hX:XOK X E){n:Nat}{N:NM}{s d:TypeId}{p:PV}{q v:SVal}{ps:List Bool}(hp:PVR N p q)(hk:WK (std n) X s d q=some (ps,v)):Gv (Ea E s d p) N v:=by
 unfold WK at hk;rw [hX.ty]at hk;split at hk
 .rename_i y1 y2 h1 h2;split at hk
  .rename_i k f k' m hd;cases hk;obtain⟨g,rfl⟩:=hp.int;refine⟨_,.ci _ _ _,λK hK=> ?_⟩
   grind [Ea,aD]
  .rename_i f xs hd;split at hk
   .rename_i e hs;split at hk
    .rename_i t ht;split at hk
     .rename_i hte;cases hk;obtain⟨x,rfl,hc⟩:=hp.cell;have hc':∃g,x= .d g (.rows Co.u8.size (aW .u8 xs)):=by cases hc with | d e1 _=>exact⟨_,by rw [e1];rfl⟩
      obtain⟨g,rfl⟩:=hc';refine⟨.c (.d true (.str (strOfNums xs))),.ofC (.d rfl λ_=> .inl rfl),λK hK=> ?_⟩;unfold Ea;rw [h2];simp only [aD];rw [hd];simp only;rw [h1];simp only;rw [hs];simp only;rw [ht];simp only;refine⟨hte,?_⟩;rw [IX];exact hK
     .cases hk
    .cases hk
   .cases hk
  .cases hk
 .cases hk
def J7{X:XT}{E:Tab}(hX:XOK X E){n:Nat}{N:NM}{s:TypeId}{i:Nat}{p:PV}{q v:SVal}{ps:List Bool}(hp:PVR N p q)(hk:yB (std n) X s q i=some (ps,v)):Gv (bF E s p i) N v:=by
 unfold yB at hk;rw [hX.ty]at hk;split at hk
 .rename_i y hy;split at hk
  .rename_i fs hd;split at hk
   .rename_i off ft hf;split at hk
    .rename_i z hz;split at hk
     .cases hk
     .rename_i hne;have hne:z.size≠0:=by simpa using hne
      have fin:∀K,(match p with | .c (.ptr l sz i j)=>K (.c (.ptr l sz i (j+off))) | .c (.rp r sz es i j)=>K (.c (.rp r sz es i (j+off))) | _=>False)->bF E s p i K:=by grind [bF,aD]
      split at hk
      .cases hk;obtain⟨x,rfl,hc⟩:=hp.cell;cases hc;exact⟨_,.ofC .pb,λK hK=>fin K hK⟩
      .cases hk;obtain⟨x,rfl,hc⟩:=hp.cell;cases hc with | pr h=>exact⟨_,.ofC (.pr h),λK hK=>fin K hK⟩
      .cases hk;obtain⟨x,rfl,hc⟩:=hp.cell;cases hc with | rp h h'=>exact⟨_,.ofC (.rp h h'),λK hK=>fin K hK⟩
      .cases hk
    .cases hk
   .cases hk
  .cases hk
 .cases hk
def PVR.struct{N:NM}{p:PV}{v:SVal}(h:PVR N p v)(hs:bR (std 0) v=true):∃cs,p= .agg cs/\F2 (RC N) cs (cellsS v):=by
 cases h with
 | one h=>cases h with
  | c _=>simp [bR]at hs
  | agg _ h=>exact⟨_,rfl,h⟩
 | tup _=>simp [bR]at hs
def W9{X:XT}{E:Tab}(hX:XOK X E){n:Nat}{N:NM}{s:TypeId}{i:Nat}{p:PV}{q v:SVal}{ps:List Bool}(hp:PVR N p q)(hk:Py (std n) X s q i=some (ps,v)):Gv (nJ E s p i) N v:=by
 unfold Py at hk;rw [hX.ty]at hk;split at hk
 .rename_i y hy;split at hk
  .rename_i fs hd;split at hk
   .rename_i off ft hf;split at hk
    .rename_i z hz;split at hk
     .rename_i hc;simp only [Bool.and_eq_true]at hc;obtain⟨hst,hle⟩:=hc;have hle:=Nat.le_of_ble_eq_true hle;obtain⟨cs,rfl,hF⟩:=hp.struct ah;have hl:(dH (std n) q).length=cs.length:=by rw [eU];exact hF.length.symm
      have fin:∀K,(if z.desc.agg then K (.agg ((cs.drop off).take z.size))else nD cs[off]? λx=>K (.c x))->nJ E s (.agg cs) i K:=by grind [nJ,aD]
      split at hk
      .rename_i hagg;cases hk;refine⟨.agg ((cs.drop off).take z.size),.one (.agg rfl ?_),λK hK=>fin K (by simp_all)⟩;have:=(hF.drop off).take z.size;rw [<-eU n]at this;exact this
      .rename_i hagg;split at hk
       .rename_i x hx;cases hk;rw [eU]at hx;obtain⟨a,ha,hra⟩:=hF.get hx;exact⟨_,.ofC hra,λK hK=>fin K (by rw [if_neg hagg,ha];exact hK)⟩
       .cases hk
     .cases hk
    .cases hk
   .cases hk
  .cases hk
 .cases hk
def Vw{N:NM}{op:BinOp}{k:IntKind}{x y:Int}{v:SVal}{ps:List Bool}{n:Nat}
    (hk:(match op with
       | .quo | .rem=>some ([(std n).cmp .neq y ((std n).lit 0)],.c (.d true (.int k ((std n).arith op k x y))))
       | .shl | .shr=>some ([(std n).cmp .leq ((std n).lit 0) y],.c (.d true (.int k ((std n).arith op k x y))))
       | op=>if JZ op then okI (std n) k ((std n).arith op k x y)else if WJ op then okB (std n) ((std n).cmp op x y)else none:PR (std n))=some (ps,v))
    (hps:∀b∈ps,b=true):Gv (iB op k x y) N v:=by
  cases op<;>simp only [JZ,WJ,okI,okB,if_true,Bool.false_eq_true,if_false,Option.some.injEq,Prod.mk.injEq,reduceCtorEq]at hk<;>
    first
    | exact hk.elim
    | (obtain⟨rfl,rfl⟩:=hk;exact⟨_,.ci _ _ _,λK hK=>hK⟩)
    | (obtain⟨rfl,rfl⟩:=hk;exact⟨_,.cb _ _,λK hK=>hK⟩)
    | (obtain ⟨rfl, rfl⟩ := hk
       have h:=hps _ (List.mem_singleton.2 rfl);refine⟨_,.ci _ _ _,λK hK=>⟨?_,hK⟩⟩;simpa [bP]using h)
def F2.J8{N:NM}:∀ {cs:List Cell} {ys:List SC},F2 (RC N) cs ys->∀(ns:List Int),(∃fs:List Bool,ys=List.zipWith (λf n=>TC.d f (.int .i64 n)) fs ns/\fs.length=ns.length)->jh cs=some ns
 | [],_,h,ns,⟨fs,e,hl⟩=>by
  cases h;cases ns with
  | nil=>rfl
  | cons a b=>simp_all
 | _::_,_,.cons h1 h2,ns,⟨fs,e,hl⟩=>by
  cases ns with
  | nil=>simp_all
  | cons a b=>cases fs with
   | nil=>simp at hl
   | cons c d=>
    simp only [List.zipWith_cons_cons,List.cons.injEq]at e;obtain⟨rfl,rfl⟩:=e;obtain⟨g,rfl⟩:=RC.int h1;have:=F2.J8 h2 b ⟨d,rfl,by simpa using hl⟩;simp [jh,OO,this]
def uG{n:Nat}{h:List aU}:∀ {ss:List Sh} {ys:List SC} {f:Bool} {vs:List (LV aJ)} {ls:List Nat},(∀s∈ss,s=Sh.i)->aT (std n) h ss ys=some (f,vs,ls)->
  ∃ns:List Int,vs=ns.map LV.i/\∃fs:List Bool,ys=List.zipWith (λf n=>TC.d f (.int .i64 n)) fs ns/\fs.length=ns.length
 | [],[],f,vs,ls,_,hk=>by simp_all [aT]
 | [],_::_,_,_,_,_,hk=>by simp [aT]at hk
 | _::_,[],_,_,_,_,hk=>by simp [aT]at hk
 | s::ss,y::ys,f,vs,ls,hs,hk=>by
  unfold aT at hk;split at hk
  .rename_i f1 y1 l1 h1;split at hk
   .rename_i g ys1 ls1 h2;split at hk<;>cases hk
    obtain⟨ns,rfl,fs,rfl,hl⟩:=uG (λs hs'=>hs s (List.mem_cons_of_mem _ hs')) h2;have:=hs s (by simp);subst this;unfold gY at h1;split at h1
    .rename_i f0 lf;split at h1
     .rename_i e;cases lf with
      | int k x=>simp [kU,Sh.i]at e;subst e;cases h1;exact⟨x::ns,rfl,f0::fs,rfl,by simp [hl]⟩
      | bool x=>simp [kU,Sh.i]at e
      | str x=>simp [kU,Sh.i]at e
      | rows c x=>simp [kU,Sh.i]at e
     .cases h1
    .simp_all
    .simp_all
    .split at h1
     all_goals simp_all
    .cases h1
   .cases hk
  .cases hk
theorem Nl(x:Ins):Co.yD .ins x=[x.op,x.d,x.a,x.k].map LV.i:=rfl
theorem Nn(x:IOp):Co.yD .iop x=[x.kind,x.x,x.y,x.k,x.at_].map LV.i:=rfl
def Vx{a b:List Int}(h:a.map (LV.i (A:=aJ))=b.map LV.i):a=b:=by
 induction a generalizing b with
 | nil=>cases b<;>simp_all
 | cons x a ih=>cases b with
  | nil=>simp at h
  | cons y b=>grind
theorem zT{n:Nat}{N:NM}{c:Co}(hc:∀s∈c.fields,s=Sh.i){q:SVal}{p:PV}{f:Bool}{x:c.den}{ls:List Nat}(hp:PVR N p q)(hk:toX (std n) [] c q=some (f,x,ls))(ns:List Int)(hns:c.yD x=ns.map LV.i):
  jh (aI p)=some ns:=by
 unfold toX at hk;split at hk
 .rename_i f' c' x';split at hk
  .rename_i e;subst e;cases hk;have h:=hp.cells;have hx:cellsS (.sv f' c' x')=(dM (std 0) c' x' 0 c'.fields).map (.d f'):=rfl;rw [hx]at h;refine F2.J8 h ns ?_;have h1:=IW 0 c' x';have h2:=Bv 0 c' x';rw [hns]at h1
   revert h1 h2
   generalize dM (std 0) c' x' 0 c'.fields=lv;intro h1 h2;have h3:∀y∈lv,kU y=Sh.i:=λy hy=>hc _ (by grind)
   clear h2 hns hp h hx hc
   induction lv generalizing ns with
   | nil=>simp_all
   | cons y lv ih=>cases ns with
    | nil=>simp at h1
    | cons a b=>
     simp only [List.map_cons,List.cons.injEq]at h1;obtain⟨fs,e,hl⟩:=ih b h1.2 (λy hy=>h3 y (List.mem_cons_of_mem _ hy));have hy:=h3 y (by simp);cases y with
     | int k x=>simp [kU,Sh.i]at hy;subst hy;simp [Leaf.lv]at h1;exact⟨f'::fs,by simp [e,h1.1],by simp [hl]⟩
     | bool x=>grind [kU]
     | str x=>grind [kU]
     | rows c x=>grind [kU]
  .cases hk
 .cases hk
 .split at hk
  .rename_i f1 ys ls1 h1;split at hk
   .rename_i t ht;cases hk;obtain⟨ms,rfl,fs,hy,hl⟩:=uG hc h1;rw [eU]at hy;have h2:c.yD (c.mk t)=ms.map LV.i:=by rw [Ti,unpack_pack ht]
    rw [show(std n).mkX c t=c.mk t from rfl]at hns;rw [h2]at hns;have:=Vx hns;subst this;exact F2.J8 hp.cells ms ⟨fs,hy,hl⟩
   .cases hk
  .cases hk
def EU{N:NM}{p:PV}{q:SVal}(hp:PVR N p q){ns:List Int}(h:jh (aI p)=some ns)(hl:2<=ns.length):∃cs,p= .agg cs/\jh cs=some ns:=by
 cases p with
 | c x=>grind [aI,jh]
 | agg cs=>exact⟨cs,rfl,h⟩
 | tup vs=>grind [aI,jh]
def air{x y:Ins}:([x.op,x.d,x.a,x.k]==[y.op,y.d,y.a,y.k])=WS x y:=by
 unfold WS;rw [Bool.eq_iff_iff];cases x;cases y;simp
def ais{x y:IOp}:([x.kind,x.x,x.y,x.k,x.at_]==[y.kind,y.x,y.y,y.k,y.at_])=WT x y:=by
 unfold WT;rw [Bool.eq_iff_iff];cases x;cases y;simp
theorem bA(c:Co)(xs:List c.den):(aW c xs).length=xs.length:=by simp [aW]
def afo{X:XT}{E:Tab}(hX:XOK X E){n:Nat}{N:NM}{op:BinOp}{ty:TypeId}{p p':PV}{a b v:SVal}{ps:List Bool}(hp:PVR N p a)(hp':PVR N p' b)
  (hk:afi (std n) X op ty a b=some (ps,v)) (hps:∀b∈ps,b=true):Gv (mq E op ty p p') N v:=by
 unfold afi at hk;split at hk
 .rename_i f k x f' k' y;obtain⟨g,rfl⟩:=hp.int;obtain⟨g',rfl⟩:=hp'.int;split at hk
  .rename_i e;obtain⟨pv,h1,h2⟩:=Vw (N:=N) hk hps;exact⟨pv,h1,λK hK=>⟨e,h2 K hK⟩⟩
  .cases hk
 .rename_i f x f' y;obtain⟨g,rfl⟩:=hp.bool;obtain⟨g',rfl⟩:=hp'.bool;rw [hX.ty]at hk;split at hk
  .rename_i z hz;split at hk
   .rename_i hd;split at hk
    .cases hk;exact⟨_,.cb _ _,λK hK=>by unfold mq;simp only;rw [hz];exact⟨hd,hK⟩⟩
    .cases hk;exact⟨_,.cb _ _,λK hK=>by unfold mq;simp only;rw [hz];exact⟨hd,hK⟩⟩
    .cases hk
   .cases hk
  .cases hk
 .rename_i f x f' y;have str:∀ {p:PV} {f:Bool} {s:ByteArray},PVR N p (.c (.d f (.str s)))->∃g,p= .c (.d g (.str s)):=λh=>by
   obtain⟨x,rfl,hc⟩:=h.cell;cases hc with | d e1 _=>exact⟨_,by rw [e1];rfl⟩
  obtain⟨g,rfl⟩:=str hp;obtain⟨g',rfl⟩:=str hp';rw [hX.ty]at hk;split at hk
  .rename_i z hz;split at hk
   .rename_i hd;split at hk
    .cases hk;exact⟨_,.cb _ _,λK hK=>by unfold mq;simp only;rw [hz];exact⟨hd,hK⟩⟩
    .cases hk;exact⟨_,.cb _ _,λK hK=>by unfold mq;simp only;rw [hz];exact⟨hd,hK⟩⟩
    .cases hk
   .cases hk
  .cases hk
 .rename_i l lo m;obtain⟨x,rfl,hr⟩:=hp.cell;obtain⟨x',rfl,hr'⟩:=hp'.cell;rw [hX.ty]at hk;split at hk
  .rename_i z hz;split at hk
   .rename_i el hd;cases hr with
    | @os l sz lo n0 m0 hN=>
    cases hr';have ne:(!decide ((n0:Int)=0))=true->n0≠0:=λh e=>by simp_all
    split at hk
    .cases hk;exact⟨_,.cb _ _,λK hK=>⟨ne (hps _ (List.mem_singleton.2 rfl)),by rw [hz];exact⟨⟨el,hd⟩,hK⟩⟩⟩
    .cases hk;exact⟨_,.cb _ _,λK hK=>⟨ne (hps _ (List.mem_singleton.2 rfl)),by rw [hz];exact⟨⟨el,hd⟩,hK⟩⟩⟩
    .cases hk
   .cases hk
  .cases hk
 .rename_i f c xs;obtain⟨x,rfl,hr⟩:=hp.cell;obtain⟨x',rfl,hr'⟩:=hp'.cell;rw [hX.ty]at hk;split at hk
  .rename_i z hz;split at hk
   .rename_i el hd;cases hr with
    | d e1 _=>
    cases hr';subst e1;have ne:(!decide ((xs.length:Int)=0))=true->aW c xs≠ []:=λh e=>by grind [bA,Bool.not_eq_true',decide_eq_false_iff_not]
    split at hk
    .cases hk;exact⟨_,.cb _ _,λK hK=>⟨ne (hps _ (List.mem_singleton.2 rfl)),by rw [hz];exact⟨⟨el,hd⟩,hK⟩⟩⟩
    .cases hk;exact⟨_,.cb _ _,λK hK=>⟨ne (hps _ (List.mem_singleton.2 rfl)),by rw [hz];exact⟨⟨el,hd⟩,hK⟩⟩⟩
    .cases hk
   .cases hk
  .cases hk
 .split at hk
  .rename_i c hc;split at hk
   .rename_i f1 x l1 f2 y l2 hx hy;have main:∀(m:Nat) (xs ys:List Int),E.ieq ty=some m->xs.length=m->ys.length=m->2<=m->jh (aI p)=some xs->jh (aI p')=some ys->(xs==ys)=(std n).eqX c x y->Gv (mq E op ty p p') N v:=by
     intro m xs ys he hlx hly h2 hax hay hq;obtain⟨cs,rfl,hcs⟩:=EU hp hax ah;obtain⟨ds,rfl,hds⟩:=EU hp' hay ah;split at hk
     .cases hk;exact⟨_,.cb _ _,λK hK=>by grind [mq,uV]⟩
     .cases hk;exact⟨_,.cb _ _,λK hK=>by grind [mq,uV]⟩
     .cases hk
    rcases hX.ieq ty c hc with⟨rfl,he⟩ | ⟨rfl,he⟩
    .exact main 4 _ _ he rfl rfl ah (zT (by decide) hp hx _ (Nl x)) (zT (by decide) hp' hy _ (Nl y)) air
    .exact main 5 _ _ he rfl rfl ah (zT (by decide) hp hx _ (Nn x)) (zT (by decide) hp' hy _ (Nn y)) ais
   .cases hk
  .cases hk
def iJ{X:XT}{E:Tab}(hX:XOK X E){e:TypeId}{c:Co}(h:mK X e c=true):∃z,E.ty e=some z/\z.size=c.size:=by
 unfold mK at h;rw [hX.ty]at h
 grind
theorem eZ{h:List aU}{l:Nat}{f:Bool}{c:Co}{xs:List c.den}(hl:h[l]? =some (.rows f c xs)):nmh h l=some (c.size,xs.length):=by simp only [nmh,hl]
def acj{n:Nat}{h:List aU}{p:PV}{v:SVal}(hp:PVR (nmh h) p v):PVR (nmh h) p (afj (std n) h v):=by
 unfold afj;split
 .rename_i l;split
  .rename_i f c xs hl;obtain⟨x,rfl,hr⟩:=hp.cell;cases hr with
   | @own l sz m hN=>
    have e:=eZ hl;rw [hN]at e;cases e;exact .ofC (.os hN)
  .exact hp
 .exact hp
def J9{X:XT}{E:Tab}(hX:XOK X E){n:Nat}{h:List aU}{t:TypeId}{p p':PV}{a b v:SVal}{ps:List Bool}(hp:PVR (nmh h) p a)(hp':PVR (nmh h) p' b)
  (hk:yC (std n) X h t a b=some (ps,v)) (hps:∀b∈ps,b=true):Gv (bV E t p p') (nmh h) v:=by
 unfold yC at hk;rw [hX.ty]at hk;split at hk
 .rename_i y hy;split at hk
  .rename_i e f k i hd;obtain⟨i,rfl⟩:∃i':Int,i'=i:=⟨i,rfl⟩;obtain⟨g,rfl⟩:=hp'.int
   have fin:∀z,E.ty e=some z->∀K,(match p with
     | .c (.d f (.rows sz es))=>(es≠ []->sz=z.size)/\0<=i/\i<es.length/\K (.c (.rp f sz es i.toNat 0))
     | .c (.clip f sz es)=>(es≠ []->sz=z.size)/\0<=i/\i<es.length/\K (.c (.rp f sz es i.toNat 0))
     | .c (.os l sz lo n)=>sz=z.size/\0<=i/\i<n/\K (.c (.ptr l sz (lo+i.toNat) 0))
     | _=>False)->bV E t p (.c (.d g (.int k i))) K:=by
    intro z hz K hK;unfold bV;rw [hy];simp only [aD];rw [hd];simp only;rw [hz];exact hK
   split at hk
   .rename_i f0 c xs;split at hk
    .rename_i hs;cases hk;obtain⟨z,hz,hzs⟩:=iJ hX hs;obtain⟨x,rfl,hc⟩:=hp.cell;cases hc with | d hx hf=>
     subst hx;have h0:(0:Int)<=i:=by simp_all [bP]
     have h1:i< (xs:List c.den).length:=by simp_all [bP]
     refine⟨_,.ofC (x:= .rp _ c.size (aW c xs) i.toNat 0) (by
      grind [RC.rp,nmh,Leaf.scalar,Int.toNat_of_nonneg]),λK hK=>fin z hz K ⟨λ_=>hzs.symm,h0,by rw [bA];omega,hK⟩⟩
    .cases hk
   .rename_i f0 c xs;split at hk
    .rename_i hs;cases hk;obtain⟨z,hz,hzs⟩:=iJ hX hs;obtain⟨x,rfl,hc⟩:=hp.cell;cases hc with | clip hf=>
     have h0:(0:Int)<=i:=by simp_all [bP]
     have h1:i< (xs:List c.den).length:=by simp_all [bP]
     refine⟨_,.ofC (x:= .rp _ c.size (aW c xs) i.toNat 0) (by
      grind [RC.rp,nmh,Int.toNat_of_nonneg]),λK hK=>fin z hz K ⟨λ_=>hzs.symm,h0,by rw [bA];omega,hK⟩⟩
    .cases hk
   .rename_i l;split at hk
    .rename_i f1 c xs hl;split at hk
     .rename_i hs;cases hk;obtain⟨z,hz,hzs⟩:=iJ hX hs;obtain⟨x,rfl,hc⟩:=hp.cell;cases hc with | own hN=>
      have hN':=hN;rw [eZ hl]at hN';cases hN';have h0:(0:Int)<=i:=by simp_all [bP]
      have h1:i< (xs:List c.den).length:=by simp_all [bP]
      refine⟨_,.ofC (x:= .ptr l c.size (0+i.toNat) 0) (by
       grind [RC.pr,nmh,Int.toNat_of_nonneg]),λK hK=>fin z hz K ⟨hzs.symm,h0,h1,hK⟩⟩
     .cases hk
    .cases hk
   .rename_i l lo n;split at hk
    .rename_i f1 c xs hl;split at hk
     .rename_i hs;cases hk;obtain⟨z,hz,hzs⟩:=iJ hX hs;obtain⟨x,rfl,hc⟩:=hp.cell;cases hc with | os hN=>
      rename_i sz lo n m;have hN':=hN;rw [eZ hl]at hN';cases hN';have h0:(0:Int)<=i:=by simp_all [bP]
      have h1:i< (n:Int):=by simp_all [bP]
      refine⟨_,.ofC (x:= .ptr l c.size (lo+i.toNat) 0) (by
       have:=RC.pr (N:=nmh h) (i:=lo+i.toNat) (j:=0) hN
       grind),λK hK=>fin z hz K ⟨hzs.symm,h0,h1,hK⟩⟩
     .cases hk
    .cases hk
   .cases hk
  .cases hk
 .cases hk
def afp{n:Nat}{h:List aU}{p:PV}{q v:SVal}{ps:List Bool}(hp:PVR (nmh h) p q)(hk:afk (std n) h q=some (ps,v)):Gv (oW p) (nmh h) v:=by
 unfold afk at hk;split at hk
 .cases hk;obtain⟨x,rfl,hc⟩:=hp.cell;cases hc with | d hx _=>subst hx;exact⟨_,.ci _ _ _,λK hK=>by grind [oW,l5,bA]⟩
 .cases hk;obtain⟨x,rfl,hc⟩:=hp.cell;cases hc with | clip _=>exact⟨_,.ci _ _ _,λK hK=>by grind [oW,bA]⟩
 .obtain⟨x,rfl,hc⟩:=hp.cell;cases hc with | own hN=>
  split at hk
  .rename_i f c xs hl;cases hk;rw [eZ hl]at hN;cases hN;exact⟨_,.ci _ _ _,λK hK=>hK⟩
  .cases hk
 .cases hk;obtain⟨x,rfl,hc⟩:=hp.cell;cases hc;exact⟨_,.ci _ _ _,λK hK=>hK⟩
 .cases hk;obtain⟨x,rfl,hc⟩:=hp.cell;cases hc;exact⟨_,.ci _ _ _,λK hK=>hK⟩
 .cases hk
def tQ{X:XT}{E:Tab}(hX:XOK X E){n:Nat}{N:NM}{t:Slots}{e:Nat->Option SVal}(he:EvR X E n N t e){o:Option Operand}{d m:Int}(hk:J2 (std n) X e o d=some m){K:Int->Prop}(h:K m):zu E t o d K:=by
 cases o with
 | none=>simp only [J2,Option.some.injEq]at hk;subst hk;exact h
 | some x=>
  simp only [J2]at hk;split at hk
  .rename_i f k m' hx;cases hk;obtain⟨pv,h1,h2⟩:=fE hX he hx;obtain⟨g,rfl⟩:=h2.int;unfold zu;simp only;rw [h1];exact h
  .cases hk
theorem wO(c:Co)(xs:List c.den)(l r:Nat):((aW c xs).take r).drop l=aW c ((xs.take r).drop l):=by simp [aW,List.map_take,List.map_drop]
def Xa{X:XT}{E:Tab}(hX:XOK X E){n:Nat}{h:List aU}{t:Slots}{e:Nat->Option SVal}(he:EvR X E n (nmh h) t e){ty:TypeId}{p:PV}{q v:SVal}{lo hi mx:Option Operand}{ps:List Bool}(hp:PVR (nmh h) p q)
    (hk:Pz (std n) X e h ty q lo hi mx=some (ps,v)) (hps:∀b∈ps,b=true):Gv (uW E t ty p lo hi mx) (nmh h) v:=by
  unfold Pz at hk;rw [hX.ty]at hk;split at hk
  · rename_i y hy;split at hk
    · rename_i el hd;split at hk
      · rename_i l hl;obtain⟨l,rfl⟩:∃l':Int,l'=l:=⟨l,rfl⟩
        have fin:∀z,E.ty el=some z->∀K,(match p with
          | .c (.d f (.rows sz es))=>(es≠ []->sz=z.size)/\(zu E t hi es.length λh=>0<=l/\l<=h/\h<=es.length/\
              (match mx with
               | none=>K (.c (.d f (.rows sz ((es.take h.toNat).drop l.toNat))))
               | some _=>zu E t mx 0 λm=>hi.isSome=true/\m=h/\K (.c (.clip f sz ((es.take h.toNat).drop l.toNat)))))
          | .c (.os b sz lo0 n)=>sz=z.size/\mx=none/\(zu E t hi n λh=>0<=l/\l<=h/\h<=n/\K (.c (.os b sz (lo0+l.toNat) (h.toNat-l.toNat))))
          | .c .nil=>mx=none/\(zu E t hi 0 λh=>l=0/\h=0/\K (.c .nil))
          | _=>False)->uW E t ty p lo hi mx K:=by
          intro z hz K hK;unfold uW;rw [hy];simp only [aD];rw [hd];simp only;rw [hz];exact tQ hX he hl hK
        split at hk
        · rename_i f0 c xs;split at hk
          · rename_i hs;obtain⟨z,hz,hzs⟩:=iJ hX hs;obtain⟨x,rfl,hc⟩:=hp.cell;cases hc with | d hx hf=>
            subst hx;split at hk
            · rename_i r hr;obtain⟨r,rfl⟩:∃l':Int,l'=r:=⟨r,rfl⟩;split at hk
              · rename_i hm;cases hk;have h0:(0:Int)<=l:=by simpa [bP]using hps (bP .leq 0 l) (by simp)
                have h1:l<=r:=by simpa [bP]using hps (bP .leq l r) (by simp)
                have h2:r<=(xs:List c.den).length:=by simpa [bP]using hps (bP .leq r ((xs:List c.den).length:Int)) (by simp)
                refine⟨_,.ofC (.d (y:= .rows c ((xs.take r.toNat).drop l.toNat)) rfl hf),λK hK=>fin z hz K ⟨λ_=>hzs.symm,?_⟩⟩;rw [bA];refine tQ hX he hr ⟨h0,h1,h2,?_⟩;simp only [wO];exact hK
              · rename_i mo hm;split at hk
                · rename_i m hmm;obtain⟨m,rfl⟩:∃l':Int,l'=m:=⟨m,rfl⟩;split at hk
                  · rename_i hsome;cases hk;have h0:(0:Int)<=l:=by simpa [bP]using hps (bP .leq 0 l) (by simp)
                    have h1:l<=r:=by simpa [bP]using hps (bP .leq l r) (by simp)
                    have h2:r<=(xs:List c.den).length:=by simpa [bP]using hps (bP .leq r ((xs:List c.den).length:Int)) (by simp)
                    have h3:m=r:=by simpa [bP]using hps (bP .eql m r) (by simp)
                    refine⟨_,.ofC (.clip (c:=c) (xs:=((xs.take r.toNat).drop l.toNat)) (λh=>(hf h).resolve_right (by simp [Leaf.scalar]))),λK hK=>fin z hz K ⟨λ_=>hzs.symm,?_⟩⟩;rw [bA];refine tQ hX he hr ⟨h0,h1,h2,?_⟩;simp only [wO];exact tQ hX he hmm ⟨hsome,h3,hK⟩
                  · cases hk
                · cases hk
            · cases hk
          · cases hk
        · rename_i w;split at hk
          · rename_i f1 c xs hw;split at hk
            · rename_i hs;obtain⟨z,hz,hzs⟩:=iJ hX hs;obtain⟨x,rfl,hc⟩:=hp.cell;cases hc with | own hN=>
              have hN':=hN;rw [eZ hw]at hN';cases hN';split at hk
              · rename_i r hr;cases hk;obtain⟨r,rfl⟩:∃l':Int,l'=r:=⟨r,rfl⟩;have h0:(0:Int)<=l:=by simpa [bP]using hps (bP .leq 0 l) (by simp)
                have h1:l<=r:=by simpa [bP]using hps (bP .leq l r) (by simp)
                have h2:r<=(xs:List c.den).length:=by simpa [bP]using hps (bP .leq r ((xs:List c.den).length:Int)) (by simp)
                refine⟨_,.ofC (x:= .os w c.size (0+l.toNat) (r.toNat-l.toNat)) (by
                  have:=RC.os (N:=nmh h) (lo:=0+l.toNat) (n:=r.toNat-l.toNat) hN;rw [show((0+l.toNat:Nat):Int)=l by omega,show((r.toNat-l.toNat:Nat):Int)=r-l by omega]at this;exact this),λK hK=>fin z hz K ⟨hzs.symm,rfl,?_⟩⟩
                exact tQ hX he hr ⟨h0,h1,h2,hK⟩
              · cases hk
            · cases hk
          · cases hk
        · rename_i w l0 n0;split at hk
          · rename_i f1 c xs hw;split at hk
            · rename_i hs;obtain⟨z,hz,hzs⟩:=iJ hX hs;obtain⟨x,rfl,hc⟩:=hp.cell;cases hc with | os hN=>
              rename_i sz l0 n0 m;have hN':=hN;rw [eZ hw]at hN';cases hN';split at hk
              · rename_i r hr;cases hk;obtain⟨r,rfl⟩:∃l':Int,l'=r:=⟨r,rfl⟩;have h0:(0:Int)<=l:=by simpa [bP]using hps (bP .leq 0 l) (by simp)
                have h1:l<=r:=by simpa [bP]using hps (bP .leq l r) (by simp)
                have h2:r<=(n0:Int):=by simpa [bP]using hps (bP .leq r (n0:Int)) (by simp)
                refine⟨_,.ofC (x:= .os w c.size (l0+l.toNat) (r.toNat-l.toNat)) (by
                  have:=RC.os (N:=nmh h) (lo:=l0+l.toNat) (n:=r.toNat-l.toNat) hN;rw [show((l0+l.toNat:Nat):Int)=(l0:Int)+l by omega,show((r.toNat-l.toNat:Nat):Int)=r-l by omega]at this;exact this),λK hK=>fin z hz K ⟨hzs.symm,rfl,?_⟩⟩
                exact tQ hX he hr ⟨h0,h1,h2,hK⟩
              · cases hk
            · cases hk
          · cases hk
        · split at hk
          · rename_i r hr;split at hk
            · rename_i hsm;cases hk;obtain⟨r,rfl⟩:∃l':Int,l'=r:=⟨r,rfl⟩;obtain⟨x,rfl,hc⟩:=hp.cell;cases hc;have h1:l=0:=by simpa [bP]using hps (bP .eql l 0) (by simp)
              have h2:r=0:=by simpa [bP]using hps (bP .eql r 0) (by simp)
              obtain⟨z,hz⟩:=Option.isSome_iff_exists.1 hsm;exact⟨_,.ofC .nil,λK hK=>fin z hz K ⟨rfl,tQ hX he hr ⟨h1,h2,hK⟩⟩⟩
            · cases hk
          · cases hk
        · cases hk
      · cases hk
    · cases hk
  · cases hk
def Xb{n:Nat}{N:NM}{x:Cell}{y:SC}(h:SY (std n) x=some y):RC N x y:=by
 unfold SY at h;split at h<;>first | (cases h;exact .d rfl λ_=> .inl rfl) | (cases h;exact .nil) | (cases h;exact .np) | cases h
def Bw{n:Nat}{N:NM}:∀ {xs:List Cell} {ys:List SC},lM (std n) xs=some ys->F2 (RC N) xs ys
 | [],ys,h=>by simp [lM]at h;subst h;exact .nil
 | x::xs,ys,h=>by
  simp only [lM]at h;split at h
  .rename_i y ys' h1 h2;cases h;exact .cons (Xb h1) (Bw h2)
  .cases h
def Tk{X:XT}{E:Tab}(hX:XOK X E){n:Nat}{N:NM}{t:Slots}{e:Nat->Option SVal}(he:EvR X E n N t e)(fs:List (Nat×TypeId)):
  ∀(parts:List (Nat×Operand)) {cs':List Cell} {cs out:List SC},F2 (RC N) cs' cs->Nb (std n) X e fs parts cs=some out->∃out',F2 (RC N) out' out/\∀K,K out'->jW E t (lD E fs) parts cs' K
 | [],cs',cs,out,hc,hk=>by simp only [Nb,Option.some.injEq]at hk;subst hk;exact⟨_,hc,λK hK=>hK⟩
 | (i,x)::rest,cs',cs,out,hc,hk=>by
  simp only [Nb]at hk;rw [hX.ty]at hk;split at hk
  .rename_i off ft hf;split at hk
   .rename_i z v hz hv;split at hk
    .rename_i hcond;simp only [Bool.and_eq_true,beq_iff_eq,Bool.not_eq_true',beq_eq_false_iff_ne,ne_eq]at hcond;obtain⟨⟨h1,h2⟩,h3⟩:=hcond;have h3:=Nat.le_of_ble_eq_true h3;obtain⟨pv,hp,hr⟩:=fE hX he hv;have hcells:=hr.cells;have hlen:(aI pv).length=(dH (std n) v).length:=by rw [eU];exact hcells.length
     have hcl:cs'.length=cs.length:=hc.length;rw [eU]at hk;have hnew:F2 (RC N) (splice cs' (aI pv) off) (cs.take off++cellsS v++cs.drop (off+(cellsS v).length)):=by
      unfold splice;rw [show(aI pv).length=(cellsS v).length from hcells.length];exact((hc.take off).append hcells).append (hc.drop _)
     obtain⟨out',ho,hK⟩:=Tk hX he fs rest hnew hk;refine⟨out',ho,λK hK'=> ?_⟩;unfold jW;have hpl:lD E fs i=some (off,z.size):=by grind [lD]
     rw [hpl];simp only;rw [hp];exact⟨ah,h2,ah,hK K hK'⟩
    .cases hk
   .cases hk
  .cases hk
def Xc{X:XT}{E:Tab}(hX:XOK X E){n:Nat}{N:NM}{t:Slots}{e:Nat->Option SVal}(he:EvR X E n N t e){ty:TypeId}{parts:List (Nat×Operand)}{v:SVal}{ps:List Bool}
  (hk:PD (std n) X e ty parts=some (ps,v)):Gv (jX E t ty parts) N v:=by
 unfold PD at hk;split at hk
 .rename_i y hy;rw [hX.ty]at hy;split at hk
  .rename_i fs hd;split at hk
   .rename_i hall;split at hk
    .rename_i z hz;split at hk
     .rename_i cs hcs;cases hk;obtain⟨out',ho,hK⟩:=Tk hX he fs parts (Bw hz) hcs;refine⟨_,.one (.agg rfl ho),λK hK'=> ?_⟩;unfold jX;rw [hy];simp only [aD];rw [hd];refine⟨λft hft=> ?_,hK _ hK'⟩;have:=List.all_eq_true.1 hall ft hft;rw [hX.ty]at this;exact this
     .cases hk
    .cases hk
   .cases hk
  .cases hk
 .cases hk
def Tm{X:XT}{E:Tab}(hX:XOK X E){n:Nat}{N:NM}{t:Slots}{e:Nat->Option SVal}(he:EvR X E n N t e):
  ∀(xs:List Operand) {cs:List (Nat×Nat)},Nc (std n) X e xs=some cs->∀K,K (cs.map λp=>Cell.ptr p.1 p.2 0 0)->uD E t xs K
 | [],cs,hk,K,hK=>by simp only [Nc,Option.some.injEq]at hk;subst hk;exact hK
 | x::r,cs,hk,K,hK=>by
  simp only [Nc]at hk;split at hk
  .rename_i l sz hx;split at hk
   .rename_i ys hys;cases hk;obtain⟨pv,h1,h2⟩:=fE hX he hx;obtain⟨c,rfl,hc⟩:=h2.cell;cases hc;unfold uD;rw [h1];exact Tm hX he r hys _ hK
   .cases hk
  .cases hk
def Np{n:Nat}{N:NM}{q:Bool}{x y z:SVal}{px py:PV}(hx:q=true->PVR N px x)(hy:q=false->PVR N py y)(hk:PE (std n) q x y=some z):PVR N (bif q then px else py) z:=by
 unfold PE at hk;split at hk
 .rename_i a b;split at hk
  .rename_i c hc;cases hk;unfold WL at hc;split at hc
   .rename_i f k m g k' m';split at hc
    .rename_i e;subst e;cases hc;cases q with
     | true=>obtain⟨g,rfl⟩:=(hx rfl).int;exact .ofC (.d rfl λ_=> .inr rfl)
     | false=>obtain⟨g,rfl⟩:=(hy rfl).int;exact .ofC (.d rfl λ_=> .inr rfl)
    .cases hc
   .cases hc;cases q with
    | true=>obtain⟨g,rfl⟩:=(hx rfl).bool;exact .ofC (.d rfl λ_=> .inr rfl)
    | false=>obtain⟨g,rfl⟩:=(hy rfl).bool;exact .ofC (.d rfl λ_=> .inr rfl)
   .rename_i f c xs g c' ys;split at hc
    .rename_i e;subst e;cases hc;cases q with
     | true=>
      obtain⟨u,rfl,h⟩:=(hx rfl).cell;cases h with | d h1 h2=>exact .ofC (.d h1 λh=> .inl ((h2 (by simp_all)).resolve_right (by simp [Leaf.scalar])))
     | false=>
      obtain⟨u,rfl,h⟩:=(hy rfl).cell;cases h with | d h1 h2=>exact .ofC (.d h1 λh=> .inl ((h2 (by simp_all)).resolve_right (by simp [Leaf.scalar])))
    .cases hc
   .cases hc
  .cases hk
 .cases hk
def Nq{X:XT}{E:Tab}(hX:XOK X E){n:Nat}{h':Heap}{h:List aU}{t:Slots}{e:Nat->Option SVal}(he:EvR X E n (nmh h) t e){c:Call}{v:SVal}{ps:List Bool}
  (hk:EM (std n) X e h c=some (ps,v)):Gv (aH E (.call c) t h') (nmh h) v:=by
 unfold EM at hk;split at hk
 .rename_i hb;split at hk
  .rename_i x ty hx hty;split at hk
   .rename_i y q hy hq;rw [hX.ty]at hy;split at hk
    .rename_i el hd;obtain⟨pv,h1,h2⟩:=fE hX he hq;obtain⟨pv',h3,h4⟩:=afp h2 hk;refine⟨pv',h3,λK hK=> ?_⟩;show lT E t c K
     grind [lT,aD,jB]
    .cases hk
   .cases hk
  .cases hk
 .rename_i hb;split at hk
  .rename_i x ty hx hty;split at hk
   .rename_i y hy hq;rw [hX.ty]at hy;split at hk
    .rename_i el hd;cases hk;obtain⟨pv,h1,h2⟩:=fE hX he hq;obtain⟨x',rfl,hc⟩:=h2.cell;cases hc;refine⟨_,.ci _ _ _,λK hK=> ?_⟩;show lT E t c K;unfold lT;rw [hb];simp only;rw [hx,hty];simp only;rw [hy];simp only [aD];rw [hd];exact⟨trivial,jB h1 _ hK⟩
    .cases hk
   .cases hk
  .cases hk
 .rename_i hb;split at hk
  .rename_i x y hx;split at hk
   .rename_i f k m g k' m' h1 h2;cases hk;obtain⟨p1,q1,r1⟩:=fE hX he h1;obtain⟨p2,q2,r2⟩:=fE hX he h2;obtain⟨_,rfl⟩:=r1.int;obtain⟨_,rfl⟩:=r2.int;refine⟨_,.ci _ _ _,λK hK=> ?_⟩;show lT E t c K;unfold lT;rw [hb];simp only;rw [hx];simp only;rw [q1];simp only [aB];rw [q2];exact hK
   .cases hk
  .cases hk
 .rename_i hb;split at hk
  .rename_i x y hx;split at hk
   .rename_i f k m g k' m' h1 h2;cases hk;obtain⟨p1,q1,r1⟩:=fE hX he h1;obtain⟨p2,q2,r2⟩:=fE hX he h2;obtain⟨_,rfl⟩:=r1.int;obtain⟨_,rfl⟩:=r2.int;refine⟨_,.ci _ _ _,λK hK=> ?_⟩;show lT E t c K;unfold lT;rw [hb];simp only;rw [hx];simp only;rw [q1];simp only [aB];rw [q2];exact hK
   .cases hk
  .cases hk
 .cases hk
def fQ{n:Nat}{v:Option SVal}{K:SVal->PR (std n)}{r:List Bool×SVal}(h:zO (std n) v K=some r):∃u,v=some u/\K u=some r:=by
 cases v with
 | none=>cases h
 | some u=>exact⟨u,rfl,h⟩
theorem Xd{X:XT}{E:Tab}(hX:XOK X E){n:Nat}{h':Heap}{h:List aU}(H:gy h' h){t:Slots}{e:Nat->Option SVal}(he:EvR X E n (nmh h) t e){op:Op}{v:SVal}{ps:List Bool}
  (hk:S9 (std n) X e h op=some (ps,v)) (hps:∀b∈ps,b=true):Gv (aH E op t h') (nmh h) v:=by
 have up1:∀ {x:Operand} {pv:PV} {T:PV->(PV->Prop)->Prop},ev E t x=some pv->Gv (T pv) (nmh h) v->(∀K,aH E op t h' K=aB (ev E t x) λa=>T a K)->Gv (aH E op t h') (nmh h) v:=
  λh1 ⟨pv',h2,h3⟩ hT=>⟨pv',h2,λK hK=>by rw [hT];exact jB h1 _ (h3 K hK)⟩
 have up2:∀ {x y:Operand} {p1 p2:PV} {T:PV->PV->(PV->Prop)->Prop},ev E t x=some p1->ev E t y=some p2->Gv (T p1 p2) (nmh h) v->(∀K,aH E op t h' K=aB (ev E t x) λa=>aB (ev E t y) λb=>T a b K)->Gv (aH E op t h') (nmh h) v:=
  λh1 h1' ⟨pv',h2,h3⟩ hT=>⟨pv',h2,λK hK=>by rw [hT];exact jB h1 _ (jB h1' _ (h3 K hK))⟩
 unfold S9 at hk;split at hk
 .obtain⟨u,hu,hk⟩:=fQ hk;cases hk;obtain⟨pv,h1,h2⟩:=fE hX he hu;exact⟨pv,h2,λK hK=>jB h1 _ hK⟩
 .obtain⟨u,hu,hk⟩:=fQ hk;cases hk;obtain⟨pv,h1,h2⟩:=fE hX he hu;exact⟨pv,h2,λK hK=>jB h1 _ hK⟩
 .obtain⟨u,hu,hk⟩:=fQ hk;obtain⟨pv,h1,h2⟩:=fE hX he hu;exact up1 h1 (Nk hX H h2 hk hps) λK=>rfl
 .obtain⟨u,hu,hk⟩:=fQ hk;obtain⟨pv,h1,h2⟩:=fE hX he hu;exact up1 (T:=Me) h1 (WZ h2 hk) λK=>rfl
 .obtain⟨u,hu,hk⟩:=fQ hk;obtain⟨w,hw,hk⟩:=fQ hk;obtain⟨pv,h1,h2⟩:=fE hX he hu;obtain⟨pv',h1',h2'⟩:=fE hX he hw;exact up2 h1 h1' (afo hX (acj h2) h2' hk hps) λK=>rfl
 .obtain⟨u,hu,hk⟩:=fQ hk;obtain⟨pv,h1,h2⟩:=fE hX he hu;exact up1 h1 (aiq h2 hk) λK=>rfl
 .obtain⟨u,hu,hk⟩:=fQ hk;obtain⟨pv,h1,h2⟩:=fE hX he hu;exact up1 h1 (aci hX h2 hk) λK=>rfl
 .obtain⟨u,hu,hk⟩:=fQ hk;obtain⟨pv,h1,h2⟩:=fE hX he hu;exact up1 (T:=λa K=>bF E _ a _ K) h1 (J7 hX h2 hk) λK=>rfl
 .obtain⟨u,hu,hk⟩:=fQ hk;obtain⟨pv,h1,h2⟩:=fE hX he hu;exact up1 (T:=λa K=>nJ E _ a _ K) h1 (W9 hX h2 hk) λK=>rfl
 .obtain⟨u,hu,hk⟩:=fQ hk;obtain⟨w,hw,hk⟩:=fQ hk;obtain⟨pv,h1,h2⟩:=fE hX he hu;obtain⟨pv',h1',h2'⟩:=fE hX he hw;exact up2 h1 h1' (J9 hX h2 h2' hk hps) λK=>rfl
 .obtain⟨u,hu,hk⟩:=fQ hk;obtain⟨pv,h1,h2⟩:=fE hX he hu;exact up1 (T:=λa K=>uW E t _ a _ _ _ K) h1 (Xa hX he h2 hk hps) λK=>rfl
 .obtain⟨u,hu,hk⟩:=fQ hk;obtain⟨pv,h1,h2⟩:=fE hX he hu;rename_i x i;split at hk
  .rename_i vs;unfold M8 at hk;split at hk
   .rename_i w hw;cases hk;cases h2 with
    | one h2=>cases h2 with
     | agg hs _=>simp [bR]at hs
    | tup hF=>
     obtain⟨a,ha,hra⟩:=hF.get hw;exact⟨a,.one hra,λK hK=>jB h1 _ (by unfold kY;simp only;rw [ha];exact hK)⟩
   .cases hk
  .cases hk
 .exact Xc hX he hk
 .rename_i fn first caps
  split at hk
  .rename_i g;split at hk
   .rename_i hf;split at hk
    .rename_i cs hcs;cases hk;refine⟨_,.ofC .fn,λK hK=> ?_⟩;exact⟨Array.ext' (by simpa using hf),Tm hX he _ hcs _ hK⟩
    .cases hk
   .cases hk
  .cases hk
 .exact Nq hX he hk
 .cases hk
def Gone(h:List aU)(l:Nat):Prop:=∃c n,h[l]? =some (.gone c n)
def Same(h k:List aU):Prop:=∀l x,nmh h l=some x->nmh k l=some x
def Same.refl(h:List aU):Same h h:=λ_ _ h=>h
def Same.trans{a b c:List aU}(h:Same a b)(k:Same b c):Same a c:=λl x hx=>k l x (h l x hx)
def gy.set{h':Heap}{h:List aU}(H:gy h' h){l:Nat}{o:aU}{o':dx}(hl:l<h.length)(hs:Same h (h.set l o))(ho:OR (nmh (h.set l o)) o' o):gy ((l,o')::h') (h.set l o) where
 old:=λk x hx=>by
  by_cases e:l=k
  .grind [List.getElem?_set_self,ay]
  .rw [List.getElem?_set_ne e]at hx;obtain⟨x',h1,h2⟩:=H.old k x hx;exact⟨x',by grind [aj],h2.mono hs⟩
 new:=λk hk=>by
  rw [List.length_set]at hk;rw [aj _ _ ah];exact H.new k hk
def Bz(h:List aU)(o:aU):Same h (h++ [o]):=λl x hx=>by grind [Nat.lt_or_ge,nmh,List.getElem?_eq_none,List.getElem?_append_left]
def gy.push{h':Heap}{h:List aU}(H:gy h' h){o:aU}{o':dx}(ho:OR (nmh (h++ [o])) o' o):gy ((h.length,o')::h') (h++ [o]) where
 old:=λk x hx=>by
  by_cases e:h.length=k
  .grind [ay]
  .have hk:k<h.length:=by grind
   rw [List.getElem?_append_left hk]at hx;obtain⟨x',h1,h2⟩:=H.old k x hx;exact⟨x',by grind [aj],h2.mono (Bz h o)⟩
 new:=λk hk=>by
  simp at hk;rw [aj _ _ ah];exact H.new k ah
theorem PZ{h:List aU}{l k:Nat}{o:aU}(e:l≠k):nmh (h.set l o) k=nmh h k:=by simp only [nmh,List.getElem?_set_ne e]
theorem nP{h:List aU}{l:Nat}{o o':aU}(ho:h[l]? =some o)(hq:nmh [o] 0=nmh [o'] 0):nmh (h.set l o')=nmh h:=by grind [List.getElem?_eq_some_iff,nmh,List.getElem?_set_self,PZ]
def gJ(h:List aU)(l:Nat):List aU:=match h[l]? with | some (.rows _ c xs)=>h.set l (.gone c ((xs:List c.den).length:Int)) | _=>h
def iL(n:Nat)(h:List aU)(l:Nat)(r:List Nat):bJ (std n) h (l::r)=bJ (std n) (gJ h l) r:=by
 rw [bJ];unfold gJ;split
 all_goals simp_all
def qg(n:Nat):∀(a b:List Nat) (h:List aU),bJ (std n) h (a++b)=bJ (std n) (bJ (std n) h a) b
 | [],_,_=>rfl
 | l::r,b,h=>by simp only [List.cons_append,iL];exact qg n r b _
def IY(h:List aU)(l:Nat):nmh (gJ h l)=nmh h:=by grind [gJ,nP,nmh]
def vS(n:Nat):∀(ls:List Nat) (h:List aU),nmh (bJ (std n) h ls)=nmh h
 | [],_=>rfl
 | l::r,h=>by rw [iL,vS n r,IY]
theorem wP{h:List aU}{l k:Nat}(e:l≠k):(gJ h l)[k]? =h[k]? :=by grind [gJ,List.getElem?_set_ne]
def l6(n:Nat):∀(ls:List Nat) (h:List aU) {k:Nat},k∉ls->(bJ (std n) h ls)[k]? =h[k]?
 | [],_,_,_=>rfl
 | l::r,h,k,hk=>by
  rw [iL,l6 n r _ (λh=>hk (List.mem_cons_of_mem _ h)),wP (λe=>hk (by simp [e]))]
theorem wQ(h:List aU)(l:Nat):(gJ h l).length=h.length:=by grind [gJ]
def qP(n:Nat):∀(ls:List Nat) (h:List aU),(bJ (std n) h ls).length=h.length
 | [],_=>rfl
 | l::r,h=>by rw [iL,qP n r,wQ]
theorem gy.gJ{h':Heap}{h:List aU}(H:gy h' h){l:Nat}{f:Bool}{c:Co}{xs:List c.den}(hl:h[l]? =some (.rows f c xs)):gy ((l,.gone)::h') (TX.gJ h l):=by
 have e:TX.gJ h l=h.set l (.gone c (xs.length:Int)):=by unfold TX.gJ;rw [hl]
 rw [e];exact H.set (List.getElem?_eq_some_iff.1 hl).1 (λk x hx=>by rw [nP hl (by simp [nmh])];exact hx) .gone
structure jC(h':Heap)(h:List aU)(h'':Heap)(k:List aU)(td:List Nat):Prop where
 same:Same h k
 len:h.length<=k.length
 gone:∀l,Gone h l->Gone k l
 keep:∀l,l<h.length->l∉td->k[l]? =h[l]? /\AE.look h'' l=AE.look h' l
def jC.refl(h':Heap)(h:List aU)(td:List Nat):jC h' h h' h td:=⟨.refl h,Nat.le_refl _,λ_ h=>h,λ_ _ _=>⟨rfl,rfl⟩⟩
def jC.trans{a' b' c':Heap}{a b c:List aU}{s t:List Nat}(x:jC a' a b' b s)(y:jC b' b c' c t):jC a' a c' c (s++t) where
 same:=x.same.trans y.same
 len:=Nat.le_trans x.len y.len
 gone:=λl h=>y.gone l (x.gone l h)
 keep:=λl hl hn=>by
  obtain⟨h1,h2⟩:=x.keep l hl (λh=>hn (List.mem_append_left _ h));obtain⟨h3,h4⟩:=y.keep l (Nat.lt_of_lt_of_le hl x.len) (λh=>hn (List.mem_append_right _ h));simp_all
def jC.mono{a' b':Heap}{a b:List aU}{s t:List Nat}(x:jC a' a b' b s)(h:∀l,l∈s->l∈t):jC a' a b' b t:=⟨x.same,x.len,x.gone,λl hl hn=>x.keep l hl (λhs=>hn (h l hs))⟩
theorem jC.gJ{h':Heap}{h:List aU}(l:Nat){o':dx}:jC h' h ((l,o')::h') (TX.gJ h l) [l] where
 same:=λk x hx=>by rw [IY];exact hx
 len:=by grind [wQ]
 gone:=λk ⟨c,m,hk⟩=>by
  unfold TX.gJ;split
  .rename_i f co xs hl;by_cases e:l=k
   .simp_all
   .exact⟨c,m,by simp_all⟩
  omega
 keep:=λk _ hn=>by grind [wP,aj]
def jC.push{h':Heap}{h:List aU}(o:aU)(o':dx)(td:List Nat):jC h' h ((h.length,o')::h') (h++ [o]) td where
 same:=Bz h o
 len:=by simp
 gone:=λk ⟨c,m,hk⟩=>⟨c,m,by grind⟩
 keep:=λl hl _=>⟨List.getElem?_append_left hl,aj _ _ ah⟩
def jC.set{h':Heap}{h:List aU}{l:Nat}{o:aU}{o':dx}(hs:Same h (h.set l o))(hg:¬Gone h l):jC h' h ((l,o')::h') (h.set l o) [l] where
 same:=hs
 len:=by simp
 gone:=λk ⟨c,m,hk⟩=>by
  by_cases e:l=k
  .simp_all
  .exact⟨c,m,by simp_all⟩
 keep:=λk _ hn=>by grind [List.getElem?_set_ne,aj]
theorem kH(y:Leaf aJ):(l5 y).bY=y.scalar:=by cases y<;>rfl
def EW(y:Leaf aJ):lvD (kU y) y.lv=l5 y:=by cases y<;>rfl
def Nr{n:Nat}{h':Heap}{h:List aU}{done:List Nat}(H:gy h' (bJ (std n) h done)){x:Cell}{y:SC}(hr:RC (nmh h) x y){s:Sh}{f:Bool}{v:LV aJ}{ls:List Nat}
  (hk:gY (std n) h s y=some (f,v,ls)) (hd:∀l∈ls,l∉done):
  ∃g h'',(f=true->g=true)/\gy h'' (bJ (std n) h (done++ls))/\jC h' (bJ (std n) h done) h'' (bJ (std n) h (done++ls)) ls/\∀K,K g (lvD s v) h''->zw h' x K:=by
 unfold gY at hk;split at hk
 .rename_i f0 lf;split at hk
  .rename_i e;cases hk;cases hr with | d hx hf=>
   rename_i g0 x0;subst hx;refine⟨g0 || (l5 lf).bY,h',λh=> ?_,by simp_all,by rw [List.append_nil];exact .refl _ _ _,λK hK=> ?_⟩
   .rw [kH];cases lf with
    | rows c xs=>grind [Leaf.flag,Leaf.scalar]
    | _=>simp [Leaf.scalar]
   .subst e;rw [EW]at hK;exact hK
  .cases hk
 .cases hr;split at hk
  .rename_i c;cases hk;exact⟨true,h',λ_=>rfl,by simp_all,by rw [List.append_nil];exact .refl _ _ _,λK hK=>⟨c.size,hK⟩⟩
  .cases hk
 .rename_i f0 c xs;cases hr with | clip hf=>
  split at hk
  .rename_i e;subst e;cases hk;exact⟨_,h',hf,by simp_all,by rw [List.append_nil];exact .refl _ _ _,λK hK=>hK⟩
  .cases hk
 .rename_i l;cases hr with | own hN=>
  split at hk
  .rename_i f0 c xs hl;split at hk
   .rename_i e;subst e;cases hk;rw [eZ hl]at hN;cases hN;have hl':(bJ (std n) h done)[l]? =some (.rows f c xs):=by rw [l6 n _ _ (hd l (by simp))];exact hl
    obtain⟨o',ho',hO⟩:=H.old l _ hl';cases hO with | rows hf=>
    rename_i g0;refine⟨g0,(l,.gone)::h',hf,by rw [qg,iL];exact H.gJ hl',by rw [qg,iL];exact jC.gJ l,λK hK=> ?_⟩;unfold zw;simp only;rw [ho'];refine⟨rfl,by rw [bA];omega,?_⟩;have:((aW c xs).drop 0).take xs.length=aW c xs:=by grind [List.take_of_length_le,bA]
    rw [this];exact hK
   .cases hk
  .cases hk
 .cases hk
def rC{n:Nat}{h:List aU}:∀ {ss:List Sh} {ys:List SC} {xs:List Cell} {h':Heap} {done:List Nat} (_:gy h' (bJ (std n) h done)) (_:F2 (RC (nmh h)) xs ys) {f:Bool} {vs:List (LV aJ)} {ls:List Nat},
  aT (std n) h ss ys=some (f,vs,ls)->(∀l∈ls,l∉done)->
  ∃g h'',(f=true->g=true)/\gy h'' (bJ (std n) h (done++ls))/\jC h' (bJ (std n) h done) h'' (bJ (std n) h (done++ls)) ls/\∀K,K g (List.zipWith lvD ss vs) h''->lJ h' xs K
 | [],[],xs,h',done,H,hF,f,vs,ls,hk,hd=>by
  simp [aT]at hk;obtain⟨rfl,rfl,rfl⟩:=hk;cases hF;exact⟨true,h',λ_=>rfl,by simp_all,by rw [List.append_nil];exact .refl _ _ _,λK hK=>hK⟩
 | [],_::_,_,_,_,_,_,_,_,_,hk,_=>by simp [aT]at hk
 | _::_,[],_,_,_,_,_,_,_,_,hk,_=>by simp [aT]at hk
 | s::ss,y::ys,xs,h',done,H,hF,f,vs,ls,hk,hd=>by
  cases hF with | cons h1 h2=>
  unfold aT at hk;split at hk
  .rename_i f1 v1 l1 hv1;split at hk
   .rename_i g2 vs2 ls2 hv2;split at hk
    .rename_i alk;cases hk;have alk:∀l∈ls2,l∉l1:=λl hl hl1=>by simp_all
     obtain⟨ga,ha,qa1,qa2,qa3,qa4⟩:=Nr H h1 hv1 (λl hl=>hd l (List.mem_append_left _ hl));obtain⟨gb,hb,qb1,qb2,qb3,qb4⟩:=rC (done:=done++l1) qa2 h2 hv2 (λl hl hm=>by simp_all);rw [List.append_assoc]at qb2 qb3;refine⟨ga&&gb,hb,λh=>by simp_all,qb2,qa3.trans qb3,λK hK=> ?_⟩;exact qa4 _ (qb4 _ hK)
    .cases hk
   .cases hk
  .cases hk
theorem zU(c:Co)(t:iR c.su){vs:List (LV aJ)}(h:pack aJ c.su vs=some t):List.zipWith lvD c.fields vs=c.row (c.mk t):=by
 rw [WW,Ti,unpack_pack h]
def xL{N:NM}:∀ {ys:List (Leaf aJ)} {xs:List Cell} {f:Bool},F2 (RC N) xs (ys.map (.d f))->∀(h':Heap),∃g,(f=true\/(∀y∈ys,y.scalar=true)->g=true)/\∀K,K g (ys.map l5) h'->lJ h' xs K
 | [],_,_,h,h'=>by cases h;exact⟨true,λ_=>rfl,λK hK=>hK⟩
 | y::ys,_,f,.cons h1 h2,h'=>by
  obtain⟨g,q1,q2⟩:=xL h2 h';cases h1 with | d hx hf=>
  rename_i g0 x0;subst hx;refine⟨(g0 || (l5 y).bY)&&g,λh=> ?_,λK hK=>q2 _ hK⟩
  grind [kH,List.mem_cons_of_mem]
theorem l7(c:Co)(h:c.flat=true)(x:c.den):∀y∈dM (std 0) c x 0 c.fields,y.scalar=true:=by
 intro y hy;have h1:=Bv 0 c x;have h2:kU y∈c.fields:=by grind
 have h3:=List.all_eq_true.1 h _ h2;cases y<;>simp_all [kU,Leaf.scalar]
theorem Xe{n:Nat}{h':Heap}{h:List aU}(H:gy h' h){p:PV}{q:SVal}(hp:PVR (nmh h) p q){c:Co}{f:Bool}{x:c.den}{ls:List Nat}(hk:toX (std n) h c q=some (f,x,ls)):
  ∃g h'',(f=true->g=true)/\gy h'' (bJ (std n) h ls)/\jC h' h h'' (bJ (std n) h ls) ls/\(aI p).length=c.size/\∀K,K g (c.row x) h''->lJ h' (aI p) K:=by
 unfold toX at hk;split at hk
 .rename_i f' c' x';split at hk
  .rename_i e;subst e;cases hk;have hF:=hp.cells;have hx:cellsS (.sv f' c' x')=(dM (std 0) c' x' 0 c'.fields).map (.d f'):=rfl;have hlen:(aI p).length=c'.size:=by
    rw [hF.length,hx,List.length_map];have:=congrArg List.length (Bv 0 c' x');simpa using this
   rw [hx]at hF;obtain⟨g,q1,q2⟩:=xL hF h';refine⟨g,h',λh=>q1 ?_,H,.refl _ _ _,hlen,λK hK=>q2 K (by rw [nO];exact hK)⟩
   grind [l7]
  .cases hk
 .cases hk
 .split at hk
  .rename_i f1 ys ls1 h1;split at hk
   .rename_i t ht;cases hk;have hF:=hp.cells;rw [eU]at h1;obtain⟨g,h'',q1,q2,q3,q4⟩:=rC (done:=[]) H hF h1 (λ_ _=>by simp);rw [List.nil_append]at q2 q3;refine⟨g,h'',q1,q2,q3,?_,λK hK=>q4 K (by grind [zU])⟩;have hl:=congrArg List.length (unpack_pack ht);have hl2:(cellsS q).length=c.fields.length:=by
     clear q2 q3 q4 hF ht hl q1
     revert h1
     generalize cellsS q=zs;generalize c.fields=ss;intro h1
     induction ss generalizing zs f ys ls with
     | nil=>grind [aT]
     | cons s ss ih=>cases zs with
      | nil=>simp [aT]at h1
      | cons z zs=>grind [aT]
    rw [hF.length,hl2]
   .cases hk
  .cases hk
def Hv{m:Nat}(T:(PV->Heap->Nat->Prop)->Prop)(n:Nat)(h':Heap)(h:List aU)(r:HR (std m)):Prop:=
 ∃pv h'' k',PVR (nmh r.h) pv r.v/\gy h'' r.h/\jC h' h h'' r.h r.touched/\r.h.length=nm n k'/\∀K,K pv h'' k'->T K
def Xf:∀ {l:List Cell},zdB l=true->∃ds,ZD l ds
 | [],_=>⟨[],.nil⟩
 | x::r,h=>by
  simp only [zdB,List.all_cons,Bool.and_eq_true]at h;obtain⟨ds,hd⟩:=Xf (l:=r) h.2;have h1:=h.1;cases x with
  | d f y=>exact⟨y::ds,.d f y hd⟩
  | nil=>exact⟨.rows 0 []::ds,.nl 0 hd⟩
  | _=>simp at h1
theorem EZ{α:Type}(l:List α)(lo n:Nat):(l.drop lo).take n=(l.take (lo+n)).drop lo:=by
 rw [List.drop_take];congr 1;omega
def CZ{n:Nat}:∀ {zc:List Cell} {zs:List SC} {ss:List Sh} {f:Bool} {vs:List (LV aJ)} {ls:List Nat},lM (std n) zc=some zs->aT (std n) [] ss zs=some (f,vs,ls)->ZD zc (List.zipWith lvD ss vs)
 | [],zs,ss,f,vs,ls,h1,h2=>by
  simp [lM]at h1;subst h1;cases ss with
  | nil=>simp [aT]at h2;obtain⟨_,rfl,_⟩:=h2;exact .nil
  | cons s ss=>simp [aT]at h2
 | x::zc,zs,ss,f,vs,ls,h1,h2=>by
  simp only [lM]at h1;split at h1
  .rename_i y ys hy hys;cases h1;cases ss with
   | nil=>simp [aT]at h2
   | cons s ss=>
    simp only [aT]at h2;split at h2
    .rename_i f1 v1 l1 hv;split at h2
     .rename_i g vs' ls' hvs;split at h2<;>cases h2
      have ih:=CZ hys hvs;simp only [List.zipWith_cons_cons];unfold SY at hy;split at hy
      .cases hy;simp only [gY]at hv;split at hv
       .rename_i e;cases hv;subst e;exact .d _ _ ih
       .cases hv
      .cases hy;simp only [gY]at hv;split at hv
       .rename_i e;cases hv;subst e;exact .d _ _ ih
       .cases hv
      .cases hy;simp only [gY]at hv;split at hv
       .rename_i e;cases hv;subst e;exact .d _ _ ih
       .cases hv
      .cases hy;simp only [gY]at hv;split at hv
       .cases hv;exact .nl _ ih
       .cases hv
      .cases hy;simp [gY]at hv
      .cases hy
     .cases h2
    .cases h2
  .cases h1
def Xg{n:Nat}{zc:List Cell}{zs:List SC}{c:Co}{f:Bool}{x:c.den}{ls:List Nat}(h1:lM (std n) zc=some zs)(h2:toX (std n) [] c (.agg zs)=some (f,x,ls)):ZD zc (c.row x):=by
 simp only [toX]at h2;split at h2
 .rename_i f1 ys l1 hl;split at h2
  .rename_i t ht;cases h2;have:=CZ h1 (by simpa [dH]using hl);rw [zU c t ht]at this;exact this
  .cases h2
 .cases h2
def acn{n:Nat}{h':Heap}{h:List aU}(H:gy h' h){c:Co}{p:PV}{v:SVal}{f:Bool}{ds:List c.den}(hp:PVR (nmh h) p v){zx:Option c.den}{zd:List D}(hzx:∀x,zx=some x->zd=c.row x)(hk:afm (std n) h c zx v=some (f,ds))
  (hps:∀b∈mO (std n) h v,b=true):∃g sz,(f=true->g=true)/\(aW c ds≠ []->sz=c.size)/\∀K,K g sz (aW c ds)->Ms h' zd p K:=by
 unfold afm at hk;split at hk
 .rename_i fq kq q;cases hxx:zx with
  | none=>rw [hxx]at hk;cases hk
  | some x=>
   rw [hxx]at hk;cases hk;obtain⟨g0,rfl⟩:=hp.int;have e:=hzx x hxx;have h1:(0:Int)<=q:=by simpa [bP]using hps (bP .leq 0 q) (by simp [mO])
   have h2:q<=kZ:=by simpa [bP]using hps (bP .leq q kZ) (by simp [mO])
   obtain⟨q,rfl⟩:∃w:Int,w=q:=⟨q,rfl⟩;refine⟨true,zd.length,λ_=>rfl,λ_=>by rw [e,tO],λK hK=> ?_⟩;unfold Ms;simp only;refine⟨h1,by simp only [kZ,gX]at h2 ⊢;omega,?_⟩;have er:aW c (List.replicate q.toNat x)=List.replicate q.toNat zd:=by rw [e];simp [aW]
   rw [<-er];exact hK
 .cases hk;obtain⟨x,rfl,hc⟩:=hp.cell;cases hc;exact⟨true,0,λ_=>rfl,λh=>absurd rfl h,λK hK=>hK⟩
 .rename_i f0 c' xs;split at hk
  .rename_i e;subst e;cases hk;obtain⟨x,rfl,hc⟩:=hp.cell;cases hc with | d hx hf=>
   subst hx;exact⟨_,c'.size,λh=>(hf h).resolve_right (by simp [Leaf.scalar]),λ_=>rfl,λK hK=>hK⟩
  .cases hk
 .rename_i f0 c' xs;split at hk
  .rename_i e;subst e;cases hk;obtain⟨x,rfl,hc⟩:=hp.cell;cases hc with | clip hf=>
   exact⟨_,c'.size,hf,λ_=>rfl,λK hK=>hK⟩
  .cases hk
 .rename_i l;split at hk
  .rename_i f0 c' xs hl;split at hk
   .rename_i e;subst e;cases hk;obtain⟨x,rfl,hc⟩:=hp.cell;cases hc with | own hN=>
    rw [eZ hl]at hN;cases hN;obtain⟨o',ho',hO⟩:=H.old l _ hl;cases hO with | rows hf=>
    refine⟨_,c'.size,hf,λ_=>rfl,λK hK=> ?_⟩;unfold Ms;simp only;rw [ho'];refine⟨rfl,by rw [bA];omega,?_⟩;rw [List.drop_zero,List.take_of_length_le (by rw [bA];exact Nat.le_refl _)];exact hK
   .cases hk
  .cases hk
 .rename_i l lo m;split at hk
  .rename_i f0 c' xs hl;split at hk
   .rename_i e;subst e;cases hk;obtain⟨x,rfl,hc⟩:=hp.cell;cases hc with | os hN=>
    rename_i sz lo m q;rw [eZ hl]at hN;cases hN;obtain⟨o',ho',hO⟩:=H.old l _ hl;cases hO with | rows hf=>
    simp only [mO,hl]at hps;have h3:(lo:Int)+(m:Int)<=(xs:List c'.den).length:=by
     have:=hps (bP .leq ((lo:Int)+(m:Int)) ((xs:List c'.den).length:Int)) (by simp);simpa [bP]using this
    refine⟨_,c'.size,hf,λ_=>rfl,λK hK=> ?_⟩;unfold Ms;simp only;rw [ho'];refine⟨rfl,by rw [bA];omega,?_⟩;have e:aW c' (((xs:List c'.den).take ((lo:Int)+(m:Int)).toNat).drop ((lo:Int)).toNat)=((aW c' xs).drop lo).take m:=by
     rw [EZ,<-wO]
     congr 2<;>omega
    rw [<-e];exact hK
   .cases hk
  .cases hk
 .cases hk
def IZ(c:Co)(xs ys:List c.den):aW c (xs++ys)=aW c xs++aW c ys:=by simp [aW]
def PVR.own{h:List aU}{l sz n:Nat}(hN:nmh h l=some (sz,n)):PVR (nmh h) (.c (.os l sz 0 n)) (.c (.own l)):= .ofC (.own hN)
def sF(h:List aU)(f:Bool)(c:Co)(xs:List c.den):nmh (h++ [.rows f c xs]) h.length=some (c.size,xs.length):=by
 simp [nmh]
def E5{h:List aU}{l:Nat}{f:Bool}{c:Co}{xs:List c.den}(hl:h[l]? =some (.rows f c xs)):¬Gone h l:=λ⟨_,_,h2⟩=>by rw [hl]at h2;cases h2
def Vy{X:XT}{E:Tab}(hX:XOK X E){m:Nat}{h':Heap}{h:List aU}(H:gy h' h){n k:Nat}(hn:h.length=nm n k){ty t2:TypeId}{pa pb:PV}{a b:SVal}(ha:PVR (nmh h) pa a)(hb:PVR (nmh h) pb b)
  {r:HR (std m)} (hk:J3 (std m) X h ty t2 a b=some r) (hps:∀b∈r.chk,b=true):
  Hv (λK=>aD (E.ty ty) λy=>match y.desc with
   | .slice e=>aD (E.ty e) λz=>(aD (E.ty t2) λy2=>rV y2.desc pb)/\wL h' n k z pa pb K
   | _=>False) n h' h r:=by
 unfold J3 at hk;rw [hX.ty]at hk;split at hk
 .rename_i y hy;split at hk
  .rename_i e hd;split at hk
   .rename_i z c hz hco;split at hk
    .rename_i hcond;simp only [Bool.and_eq_true,Bool.not_eq_true',beq_eq_false_iff_ne,ne_eq]at hcond;obtain⟨⟨⟨⟨hsz,hne⟩,hby⟩,hsrc⟩,hzd⟩:=hcond;have hby:=Nat.le_of_ble_eq_true hby;obtain⟨zd,hzd,hzx⟩:∃zd,ZD z.zero zd/\∀x,Tc (std m) z c=some x->zd=c.row x:=by
      cases hq:Tc (std m) z c with
      | none=>obtain⟨zd,hzd⟩:=Xf hzd;exact⟨zd,hzd,λx h=>by cases h⟩
      | some x=>
       unfold Tc at hq;split at hq
       .rename_i zs hzs;split at hq
        .rename_i fz x' lz hx;cases hq;exact⟨_,Xg hzs hx,λy h=>by cases h;rfl⟩
        .cases hq
       .cases hq
     obtain⟨z',hz',hzs⟩:=iJ hX hsz;rw [hz]at hz';cases hz';have hst:aD (E.ty t2) λy2=>rV y2.desc pb:=by
      unfold EN at hsrc;rw [hX.ty]at hsrc;split at hsrc
      .rename_i y2 hy2;rw [hy2];simp only [aD];split at hsrc
       .cases hsrc
       .rename_i e2 x hne2 he2;obtain⟨x',rfl,hc⟩:=hb.cell;unfold rV;cases hc with
        | d hx hf=>
         rename_i f g x0 y0;subst hx;cases y0 with
         | int k q=>exact absurd rfl (hne2 _ _ _)
         | _=>rw [he2];trivial
        | _=>rw [he2];trivial
       .rename_i kk fq kq q he2;obtain⟨g0,rfl⟩:=hb.int;unfold rV;rw [he2];trivial
       .cases hsrc
      .cases hsrc
     split at hk
     .rename_i f2 ds hds;obtain⟨⟨f0,ds0⟩,hds,he2⟩:=Option.map_eq_some_iff.1 hds;simp only [Prod.mk.injEq]at he2;obtain⟨hf2,he3⟩:=he2;have he3:=he3.symm;subst he3
      have main:(∀b'∈mO (std m) h b,b'=true)->∀(v:SVal) (k':List aU) (td:List Nat),(∀(g sz:_),(f2=true->g=true)->(aW c ds≠ []->sz=c.size)->∃pv h'' j,PVR (nmh k') pv v/\gy h'' k'/\jC h' h h'' k' td/\k'.length=nm n j/\
        ∀K:PV->Heap->Nat->Prop,K pv h'' j->vg h' n k z pa g (aW c ds) K)->r.h=k'->r.v=v->r.touched=td->Hv (λK=>aD (E.ty ty) λy=>match y.desc with
         | .slice e=>aD (E.ty e) λz=>(aD (E.ty t2) λy2=>rV y2.desc pb)/\wL h' n k z pa pb K
         | _=>False) n h' h r:=by
       intro hsc v k' td hm e1 e2 e3;obtain⟨g,sz,hg,hs,hK⟩:=acn H hb hzx hds hsc;obtain⟨pv,h'',j,q1,q2,q3,q4,q5⟩:=hm (g || nY (aW c ds)) sz (λh=>by
        rw [<-hf2]at h;rcases Bool.or_eq_true _ _▸h with h | h
        .simp [hg h]
        .have:nY (aW c ds)=true:=by
          unfold nY aW;simp only [List.all_map,List.all_eq_true,Function.comp_apply];intro x _ d hd;rw [<-nO 0]at hd;obtain⟨y,hy,rfl⟩:=List.mem_map.1 hd;rw [kH];exact l7 c h x y hy
         simp [this]) hs
       subst e1;subst e2;subst e3;refine⟨pv,h'',j,q1,q2,q3,q4,λK hKK=> ?_⟩;rw [hy];simp only [aD];rw [hd];simp only;rw [hz];exact⟨hst,zd,hzd,hne,hby,hK _ ⟨λh=>(hs h).trans hzs.symm,q5 K hKK⟩⟩
      split at hk
      .cases hk;obtain⟨x,rfl,hc⟩:=ha.cell;cases hc;refine main (λb hb=>hps b (by simp [hb])) _ _ _ (λg sz hg hs=> ?_) rfl rfl rfl;have hlen:(ds.length:Int)<=kZ:=by simpa [bP]using hps (bP .leq (ds.length:Int) kZ) (by simp)
       refine⟨_,(h.length,.rows g c.size (aW c ds))::h',k+1,.own (sF h f2 c ds),H.push (.rows hg),.push _ _ _,by simp [nm]at hn ⊢;omega,λK hK=> ?_⟩;refine⟨by rw [bA];simp [kZ,gX]at hlen ⊢;omega,?_⟩;rw [<-hn,hzs,bA];exact hK
      .rename_i l;split at hk
       .rename_i f1 c1 xs hl;split at hk
        .rename_i q;subst q;cases hk;obtain⟨x,rfl,hc⟩:=ha.cell;cases hc with | own hN=>
         rw [eZ hl]at hN;cases hN;obtain⟨o',ho',hO⟩:=H.old l _ hl;cases hO with | rows hf=>
         rename_i f';refine main (λb hb=>hps b (by simp [hb])) _ _ _ (λg sz hg hs=> ?_) rfl rfl rfl;have hlen:((xs:List c1.den).length:Int)+(ds.length:Int)<=kZ:=by simpa [bP]using hps (bP .leq ((xs.length:Int)+(ds.length:Int)) kZ) (by simp)
         have hG:=H.gJ hl;have eG:gJ h l=h.set l (.gone c1 (xs.length:Int)):=by unfold gJ;rw [hl]
         have hGl:(gJ h l).length=h.length:=wQ h l;have hP:=hG.push (o:= .rows (f1&&f2) c1 (xs++ds)) (o':= .rows (f'&&g) c1.size (aW c1 (xs++ds))) (.rows (λh=>by simp at h;simp [hf h.1,hg h.2]));rw [hGl]at hP;have hE:=(jC.gJ (h':=h') (h:=h) l (o':= .gone)).trans (jC.push (h':=(l,.gone)::h') (h:=gJ h l) (.rows (f1&&f2) c1 (xs++ds)) (.rows (f'&&g) c1.size (aW c1 (xs++ds))) []);rw [hGl]at hE;refine⟨.c (.os h.length c1.size 0 (xs++ds).length),_,k+1,?_,by rw [<-eG];exact hP,by rw [<-eG];exact hE,by simp [nm]at hn ⊢;omega,λK hK=> ?_⟩
         .have:=sF (gJ h l) (f1&&f2) c1 (xs++ds);rw [hGl]at this;rw [<-eG];exact .own this
         .unfold vg;simp only;rw [ho'];simp only [bZ];refine⟨by rw [bA,Nat.zero_add];exact Nat.le_refl _,by trivial,hzs.symm,by rw [bA];simp [kZ,gX]at hlen ⊢;omega,?_⟩;rw [List.drop_zero,List.take_of_length_le (by rw [bA];exact Nat.le_refl _),<-hn,hzs,bA,<-IZ,<-List.length_append];exact hK
        .cases hk
       .cases hk
      .rename_i l lo q0;split at hk
       .rename_i f1 c1 xs hl;split at hk
        .rename_i q;subst q;cases hk;obtain⟨x,rfl,hc⟩:=ha.cell;cases hc with | os hN=>
         rename_i sz lo q0 mm;rw [eZ hl]at hN;cases hN;obtain⟨o',ho',hO⟩:=H.old l _ hl;cases hO with | rows hf=>
         rename_i f';refine main (λb hb=>hps b (by simp [hb])) _ _ _ (λg sz hg hs=> ?_) rfl rfl rfl;have hlo:(lo:Int)=0:=by simpa [bP]using hps (bP .eql (lo:Int) 0) (by simp)
         have hq:(q0:Int)<=(xs:List c1.den).length:=by simpa [bP]using hps (bP .leq (q0:Int) (xs.length:Int)) (by simp)
         have hlen:(q0:Int)+(ds.length:Int)<=kZ:=by simpa [bP]using hps (bP .leq ((q0:Int)+(ds.length:Int)) kZ) (by simp)
         have hG:=H.gJ hl;have eG:gJ h l=h.set l (.gone c1 (xs.length:Int)):=by unfold gJ;rw [hl]
         have hGl:(gJ h l).length=h.length:=wQ h l;have es:(((xs:List c1.den).take ((q0:Int)).toNat).drop ((0:Int)).toNat)=xs.take q0:=by simp
         have hP:=hG.push (o:= .rows (f1&&f2) c1 (xs.take q0++ds)) (o':= .rows (f'&&g) c1.size (aW c1 (xs.take q0++ds))) (.rows (λh=>by simp at h;simp [hf h.1,hg h.2]));rw [hGl]at hP;have hE:=(jC.gJ (h':=h') (h:=h) l (o':= .gone)).trans (jC.push (h':=(l,.gone)::h') (h:=gJ h l) (.rows (f1&&f2) c1 (xs.take q0++ds)) (.rows (f'&&g) c1.size (aW c1 (xs.take q0++ds))) []);rw [hGl]at hE;have hgoal:(h.set l (.gone c1 (xs.length:Int))++ [fP.rows (f1&&f2) c1 ((((xs:List c1.den).take ((q0:Int)).toNat).drop ((0:Int)).toNat)++ds)])=gJ h l++ [.rows (f1&&f2) c1 (xs.take q0++ds)]:=by rw [es,eG]
         refine⟨.c (.os h.length c1.size 0 (xs.take q0++ds).length),_,k+1,?_,by show gy _ (h.set l (.gone c1 (xs.length:Int))++ [fP.rows (f1&&f2) c1 ((((xs:List c1.den).take ((q0:Int)).toNat).drop ((0:Int)).toNat)++ds)]);rw [hgoal];exact hP,
          by show jC _ _ _ (h.set l (.gone c1 (xs.length:Int))++ [fP.rows (f1&&f2) c1 ((((xs:List c1.den).take ((q0:Int)).toNat).drop ((0:Int)).toNat)++ds)]) _;rw [hgoal];exact hE,by simp [nm]at hn ⊢;omega,λK hK=> ?_⟩
         .have:=sF (gJ h l) (f1&&f2) c1 (xs.take q0++ds);rw [hGl]at this;show PVR (nmh (h.set l (.gone c1 (xs.length:Int))++ [fP.rows (f1&&f2) c1 ((((xs:List c1.den).take ((q0:Int)).toNat).drop ((0:Int)).toNat)++ds)])) _ _;rw [hgoal];exact .own this
         .unfold vg;simp only;rw [ho'];simp only [bZ];refine⟨by rw [bA];omega,by trivial,hzs.symm,by rw [bA];simp [kZ,gX]at hlen ⊢;omega,?_⟩;have hl0:lo=0:=by omega
          subst hl0;have e1:((aW c1 xs).drop 0).take q0++aW c1 ds=aW c1 (xs.take q0++ds):=by simp [aW,List.map_take]
          have e2:q0+ds.length=(xs.take q0++ds).length:=by simp;omega
          rw [<-hn,hzs,bA,e1,e2];exact hK
        .cases hk
       .cases hk
      .rename_i f1 c1 xs;split at hk
       .rename_i q;subst q;cases hk;obtain⟨x,rfl,hc⟩:=ha.cell;cases hc with | clip hf=>
        rename_i f';refine main (λb hb=>hps b (by simp [hb])) _ _ _ (λg sz hg hs=> ?_) rfl rfl rfl;have hor:(decide ((0:Int)< (ds.length:Int)) || decide (((xs:List c1.den).length:Int)=0))=true:=by
         have:=hps ((bP .lss 0 (ds.length:Int)) || (bP .eql (xs.length:Int) 0)) (by simp);simpa [bP]using this
        have hlen:((xs:List c1.den).length:Int)+(ds.length:Int)<=kZ:=by simpa [bP]using hps (bP .leq ((xs.length:Int)+(ds.length:Int)) kZ) (by simp)
        refine⟨.c (.os h.length c1.size 0 (xs++ds).length),(h.length,.rows (f'&&g) c1.size (aW c1 (xs++ds)))::h',k+1,.own (sF h (f1&&f2) c1 (xs++ds)),H.push (.rows (λh=>by simp at h;simp [hf h.1,hg h.2])),.push _ _ _,by simp [nm]at hn ⊢;omega,λK hK=> ?_⟩;refine⟨λ_=>hzs.symm,λhe=> ?_,by rw [bA,bA];simp [kZ,gX]at hlen ⊢;omega,?_⟩
        .simp only [Bool.or_eq_true,decide_eq_true_eq]at hor;rcases hor with h1 | h1
         .have:ds=[]:=by simpa [aW]using he
          subst this;simp at h1
         .have:xs=[]:=List.length_eq_zero_iff.1 ah;subst this;rfl
        .rw [<-hn,hzs,bA,bA,<-IZ,<-List.length_append];exact hK
       .cases hk
      .cases hk
     .cases hk
    .cases hk
   .cases hk
  .cases hk
 .cases hk
def Hv2(T:(PV->Heap->Nat->Prop)->Prop)(n:Nat)(h':Heap)(h:List aU)(v:SVal)(k:List aU)(td:List Nat):Prop:=
 ∃pv h'' j,PVR (nmh k) pv v/\gy h'' k/\jC h' h h'' k td/\k.length=nm n j/\∀K,K pv h'' j->T K
theorem rW{k:IntKind}:∀ {es:List (List D)} {l:List Int},nK k es=some l->l.map (ic k)=es
 | [],l,h=>by grind [nK]
 | e::r,l,h=>by
  unfold nK at h;split at h
  .rename_i hh;cases hh
  .rename_i k' n r' hh;cases hh;split at h
   .rename_i e;subst e;split at h
    .rename_i l' hl;cases h;simp [ic,rW hl]
    .cases h
   .cases h
  .cases h
theorem MG(d:iU)(es:List (List D)):ir d es=es:=by
 unfold ir
 grind [rW]
def Ns{X:XT}{E:Tab}(hX:XOK X E){n:Nat}{t:Slots}{e:Nat->Option SVal}{c:Co}:∀ {parts:List (Nat×Operand)} {h':Heap} {h:List aU} (_:gy h' h) (_:EvR X E n (nmh h) t e) {f:Bool} {xs:List c.den} {k:List aU} {ls:List Nat},
  tK (std n) X e c h parts=some (f,xs,k,ls)->
  ∃g h'',(f=true->g=true)/\gy h'' k/\jC h' h h'' k ls/\nmh k=nmh h/\k.length=h.length/\xs.length=parts.length/\∀K,K g (aW c xs) h''->uZ E t c.size h' parts K
 | [],h',h,H,he,f,xs,k,ls,hk=>by
  simp only [tK,Option.some.injEq,Prod.mk.injEq]at hk;obtain⟨rfl,rfl,rfl,rfl⟩:=hk;exact⟨true,h',λ_=>rfl,H,.refl _ _ _,rfl,rfl,rfl,λK hK=>hK⟩
 | (i,x)::r,h',h,H,he,f,xs,k,ls,hk=>by
  simp only [tK]at hk;split at hk
  .rename_i v hv;split at hk
   .rename_i f1 y l1 hy;split at hk
    .rename_i g1 ys k1 l2 hys;cases hk;obtain⟨pv,p1,p2⟩:=fE hX he hv;obtain⟨ga,ha,q1,q2,q3,q4,q5⟩:=Xe H p2 hy;have hnm:nmh (bJ (std n) h l1)=nmh h:=vS n l1 h;obtain⟨gb,hb,r1,r2,r3,r4,r5,r6,r7⟩:=Ns hX q2 (by rw [hnm];exact he) hys;refine⟨ga&&gb,hb,λh=>by simp_all,r2,q3.trans r3,r4.trans hnm,by rw [r5,qP],by simp [r6],λK hK=> ?_⟩;unfold uZ;rw [p1];exact⟨q4,q5 _ (r7 _ hK)⟩
    .cases hk
   .cases hk
  .cases hk
def P5(c:Co)(old:c.den){j n:Nat}{ys:List (LV aJ)}(hj:j+n<=c.fields.length)(hy:ys.length=n){t:iR c.su}(ht:pack aJ c.su ((c.yD old).take j++ys++(c.yD old).drop (j+ys.length))=some t):
  c.row (c.mk t)=cB (c.row old) (List.zipWith lvD ((c.fields.drop j).take n) ys) j:=by
 have h1:=zU c t ht;have hl:(c.yD old).length=c.fields.length:=WX c old;have hf:c.fields=c.fields.take j++(c.fields.drop j).take n++c.fields.drop (j+n):=by
  rw [List.append_assoc,<-List.drop_drop,List.take_append_drop,List.take_append_drop]
 have hz:(List.zipWith lvD ((c.fields.drop j).take n) ys).length=n:=by simp;omega
 unfold cB;rw [<-h1,WW c old,hz,List.take_zipWith,List.drop_zipWith]
 conv=>lhs;rw [hf]
 rw [List.zipWith_append (by simp;omega),List.zipWith_append (by simp;omega),hy]
def E8{m:Nat}{h:List aU}:∀ {ss:List Sh} {ys:List SC} {f:Bool} {vs:List (LV aJ)} {ls:List Nat},aT (std m) h ss ys=some (f,vs,ls)->vs.length=ss.length
 | [],[],_,_,_,hk=>by simp [aT]at hk;obtain⟨_,rfl,_⟩:=hk;rfl
 | [],_::_,_,_,_,hk=>by simp [aT]at hk
 | _::_,[],_,_,_,hk=>by simp [aT]at hk
 | s::ss,y::ys,f,vs,ls,hk=>by
  unfold aT at hk;split at hk
  .split at hk
   .rename_i hv2;split at hk
    .cases hk;simp [E8 hv2]
    .cases hk
   .cases hk
  .cases hk
def BA(h:Heap)(p v:PV)(K:Heap->Prop):Prop:=
 match p with
 | .c (.ptr l sz i j)=>bZ (AE.look h l) λo=>match o with
  | .box cs=>i=0/\j+(aI v).length<=cs.length/\K ((l,.box (splice cs (aI v) j))::h)
  | .rows f sz' es=>sz=sz'/\i<es.length/\lJ h (aI v) λg ds h'=>AE.look h' l=some (.rows f sz' es)/\j+ds.length<=sz/\
   ∀row,es[i]? =some row->K ((l,.rows (f&&g) sz (es.set i (if j=0/\ds.length=sz then ds else cB row ds j)))::h')
  | .grid sz' cs=>sz=sz'/\D9 cs[i]? λrow=>j+(aI v).length<=sz/\K ((l,.grid sz (cs.set i (splice row (aI v) j)))::h)
  | .gone=>False
 | _=>False
def Xh{X:XT}{E:Tab}(hX:XOK X E){m:Nat}{h':Heap}{h:List aU}(H:gy h' h){n k:Nat}(hn:h.length=nm n k){ty:TypeId}{pp pv:PV}{p v:SVal}(hp:PVR (nmh h) pp p)(hv:PVR (nmh h) pv v)
  {r:HR (std m)} (hk:vL (std m) X h ty p v=some r) (hps:∀b∈r.chk,b=true):
  Hv2 (λK=>aD (E.ty ty) λy=>dO h' y pp pv λh''=>K (.tup []) h'' k) n h' h r.v r.h r.touched:=by
 have Vz:∀N,PVR N (.tup []) (.tup []):=λN=> .tup .nil
 unfold vL at hk;rw [hX.ty]at hk;have hyy:∃y,E.ty ty=some y:=by grind
 obtain⟨y,hy⟩:=hyy;rw [hy]at hk;simp only at hk;split at hk
 .cases hk
 .rename_i hc0;simp only [Bool.or_eq_true,beq_iff_eq,Bool.not_eq_true',beq_eq_false_iff_ne,ne_eq,not_or,Decidable.not_not]at hc0;obtain⟨hne,hvl⟩:=hc0;have hcells:=hv.cells;have hcl:(aI pv).length=(cellsS v).length:=hcells.length;rw [eU]at hvl;have pre:∀ {td:List Nat} {k':List aU} {h'':Heap} {vv:SVal},PVR (nmh k') (.tup []) vv->gy h'' k'->jC h' h h'' k' td->k'.length=h.length->(∀K:PV->Heap->Nat->Prop,K (.tup []) h'' k->BA h' pp pv λh1=>K (.tup []) h1 k)->Hv2 (λK=>aD (E.ty ty) λy=>dO h' y pp pv λh''=>K (.tup []) h'' k) n h' h vv k' td:=by
   intro td k' h'' vv a0 a1 a2 a3 a4;refine⟨.tup [],h'',k,a0,a1,a2,by rw [a3,hn],λK hK=> ?_⟩;rw [hy];simp only [aD];exact⟨by rw [hcl,hvl],by simpa using hne,a4 K hK⟩
  split at hk
  .rename_i l sz j;split at hk
   .rename_i w hw;obtain⟨x,rfl,hc⟩:=hp.cell;cases hc;obtain⟨o',ho',hO⟩:=H.old l _ hw;cases hO with | box hF=>
    rename_i cs;have am9:cs.length=(cellsS w).length:=hF.length;have hll:l<h.length:=(List.getElem?_eq_some_iff.1 hw).1;have hng:¬Gone h l:=λ⟨_,_,h2⟩=>by simp_all
    have alm:∀w2,F2 (RC (nmh h)) (splice cs (aI pv) j) (cellsS w2)->j+(aI pv).length<=cs.length->Hv2 (λK=>aD (E.ty ty) λy=>dO h' y (.c (.ptr l sz 0 j)) pv λh''=>K (.tup []) h'' k) n h' h (.tup []) (h.set l (.box w2)) [l]:=by
     intro w2 hF2 hle;have hs:nmh (h.set l (.box w2))=nmh h:=nP hw (by simp [nmh]);refine pre (Vz _) (H.set hll (λk x hx=>by rw [hs];exact hx) (.box (by rw [hs];exact hF2))) (.set (λk x hx=>by rw [hs];exact hx) hng) (by simp) (λK hK=> ?_);unfold BA;simp only;rw [ho'];exact⟨by trivial,hle,hK⟩
    split at hk
    .rename_i hcond;cases hk;simp_all [eU,Bool.and_eq_true,beq_iff_eq,splice,aI,List.take_zero,List.drop_of_length_le]
    .split at hk
     .rename_i hcond;cases hk;simp only [eU,Bool.and_eq_true,beq_iff_eq]at hcond;obtain⟨h1,h2⟩:=hcond;have h1:=Nat.le_of_ble_eq_true h1;rw [show dH (std m) w=cellsS w from eU m w,show dH (std m) v=cellsS v from eU m v];refine alm (.agg _) ?_ ah;show F2 _ _ ((cellsS w).take j++cellsS v++(cellsS w).drop (j+(cellsS v).length));unfold splice;rw [hcl];exact((hF.take j).append hcells).append (hF.drop _)
     .cases hk
   .cases hk
  .rename_i l i j;split at hk
   .rename_i f c xs hw;obtain⟨x,rfl,hc⟩:=hp.cell;cases hc with | pr hN=>
    rename_i sz i mm;rw [eZ hw]at hN;cases hN;obtain⟨o',ho',hO⟩:=H.old l _ hw;cases hO with | rows hf=>
    rename_i f';have hll:l<h.length:=(List.getElem?_eq_some_iff.1 hw).1
    have hrows:∀(ls:List Nat) (g g':Bool) (h1:Heap) (z:c.den) (ds:List D),l∉ls->(g=true->g'=true)->gy h1 (bJ (std m) h ls)->jC h' h h1 (bJ (std m) h ls) ls->(i:Int)< (xs:List c.den).length->j+ds.length<=c.size->
      (∀K,K g' ds h1->lJ h' (aI pv) K)->(∀row,(aW c xs)[i]? =some row->(if j=0/\ds.length=c.size then ds else cB row ds j)=c.row z)->
      Hv2 (λK=>aD (E.ty ty) λy=>dO h' y (.c (.ptr l c.size i j)) pv λh''=>K (.tup []) h'' k) n h' h (.tup []) ((bJ (std m) h ls).set l (.rows (f&&g) c (xs.set i z))) (l::ls):=by
     intro ls g g' h1 z ds hnl hg R1 R2 hi hjd ait hrow;have hget:(bJ (std m) h ls)[l]? =some (.rows f c xs):=by rw [l6 m ls h hnl];exact hw
     have hs:nmh ((bJ (std m) h ls).set l (.rows (f&&g) c (xs.set i z)))=nmh (bJ (std m) h ls):=nP hget (by simp [nmh]);have aln:l< (bJ (std m) h ls).length:=by grind
     have hset:aW c (xs.set i z)=(aW c xs).set i (c.row z):=by simp [aW,List.map_set]
     refine pre (Vz _) (R1.set (o':= .rows (f'&&g') c.size (aW c (xs.set i z))) aln (λk x hx=>by rw [hs];exact hx) (.rows (λh=>by simp_all)))
      ((R2.trans (.set (λk x hx=>by rw [hs];exact hx) (E5 hget))).mono (λq hq=>by grind)) (by rw [List.length_set,qP]) (λK hK=> ?_)
     unfold BA;simp only;rw [ho'];refine⟨by trivial,by rw [bA];omega,ait _ ⟨?_,hjd,λrow hr=> ?_⟩⟩
     .rw [(R2.keep l hll hnl).2];exact ho'
     simp_all
    split at hk
    .rename_i hcond;simp only [Bool.and_eq_true,beq_iff_eq]at hcond;obtain⟨rfl,hys⟩:=hcond;split at hk
     .rename_i g x ls hx;split at hk
      .cases hk
      .rename_i hnl;cases hk;have hnl:l∉ls:=by simpa using hnl
       obtain⟨g',h1,q1,q2,q3,q4,q5⟩:=Xe H hv hx;have hi:(i:Int)< (xs:List c.den).length:=by simp_all [bP]
       exact hrows ls g g' h1 x (c.row x) hnl q1 q2 q3 hi (by rw [tO];omega) q5 (λrow hr=>by grind [tO])
     .cases hk
    .rename_i hcond;split at hk
     .rename_i g ys ls hyl;split at hk
      .cases hk
      .rename_i hnl;simp only [Bool.or_eq_true,Bool.not_eq_true',not_or]at hnl;obtain⟨hnl,hjb⟩:=hnl;have hnl:l∉ls:=by simpa using hnl
       have hjb:j+y.size<=c.fields.length:=Nat.le_of_ble_eq_true (by simpa using hjb);split at hk
       .rename_i z hz;cases hk;unfold Ng at hz;split at hz
        .rename_i t ht;cases hz;rw [IW]at ht;rw [eU]at hyl;have hyn:ys.length=y.size:=by rw [E8 hyl,List.length_take,List.length_drop];omega
         have H0:gy h' (bJ (std m) h []):=H;obtain⟨g',h1,q1,q2,q3,q4⟩:=rC (done:=[]) H0 hcells hyl (λ_ _=>by simp);rw [List.nil_append]at q2 q3;have hi:(i:Int)< (xs:List c.den).length:=by simpa [bP]using hps (bP .lss (i:Int) ((xs:List c.den).length:Int)) (by simp)
         have hds:(List.zipWith lvD ((c.fields.drop j).take y.size) ys).length=y.size:=by simp;omega
         refine hrows ls g g' h1 _ (List.zipWith lvD ((c.fields.drop j).take y.size) ys) hnl q1 q2 q3 hi (by rw [hds];exact hjb) q4 (λrow hr=> ?_);show _=c.row (c.mk t);rw [P5 c _ hjb hyn ht];have hi':i< (xs:List c.den).length:=by omega
         have hrow:row=c.row ((xs:List c.den).getD ((i:Int)).toNat default):=by
          simp only [aW,List.getElem?_map,List.getElem?_eq_getElem hi',Option.map_some,Option.some.injEq]at hr;subst hr;simp [List.getD,List.getElem?_eq_getElem hi']
         subst hrow;split
         .rename_i hh;rw [hds]at hh;exact absurd (by simp only [Bool.and_eq_true,beq_iff_eq];exact hh) hcond
         .rfl
        .cases hz
       .cases hk
     .cases hk
   .cases hk
  .cases hk
def Xi{X:XT}{E:Tab}(hX:XOK X E){m:Nat}{h':Heap}{h:List aU}(H:gy h' h){n k:Nat}(hn:h.length=nm n k){ty:TypeId}{pv:PV}{v:SVal}(hv:PVR (nmh h) pv v)
  {r:HR (std m)} (hk:PI (std m) X h ty v=some r) (hps:∀b∈r.chk,b=true):
  Hv2 (λK=>aD (E.ty ty) λy=>match y.desc with
   | .slice e=>aD (E.ty e) λz=>∃zd,ZD z.zero zd/\vk h' zd z pv λh''=>K (.tup []) h'' k
   | _=>False) n h' h r.v r.h r.touched:=by
 unfold PI at hk;rw [hX.ty]at hk;split at hk
 .rename_i y hy;split at hk
  .rename_i e hd;split at hk
   .rename_i z c hz hco;split at hk
    .rename_i zs hzs;split at hk
     .rename_i fx x lx hx;split at hk
      .rename_i hcond;simp only [Bool.and_eq_true,Bool.not_eq_true',beq_eq_false_iff_ne,ne_eq]at hcond;obtain⟨hsz,hne⟩:=hcond;obtain⟨z',hz',aco⟩:=iJ hX hsz;rw [hz]at hz';cases hz';have hZ:=Xg hzs hx;have Vz:∀N,PVR N (.tup []) (.tup []):=λN=> .tup .nil
       have pre:∀ {td:List Nat} {k':List aU} {h'':Heap} {vv:SVal},PVR (nmh k') (.tup []) vv->gy h'' k'->jC h' h h'' k' td->k'.length=h.length->(∀K:PV->Heap->Nat->Prop,K (.tup []) h'' k->vk h' (c.row x) z pv λh1=>K (.tup []) h1 k)->
         Hv2 (λK=>aD (E.ty ty) λy=>match y.desc with
          | .slice e=>aD (E.ty e) λz=>∃zd,ZD z.zero zd/\vk h' zd z pv λh''=>K (.tup []) h'' k
          | _=>False) n h' h vv k' td:=by
        intro td k' h'' vv a0 a1 a2 a3 a4;refine⟨.tup [],h'',k,a0,a1,a2,by rw [a3,hn],λK hK=> ?_⟩;rw [hy];simp only [aD];rw [hd];simp only;rw [hz];exact⟨_,hZ,a4 K hK⟩
       split at hk
       .cases hk;obtain⟨x',rfl,hc⟩:=hv.cell;cases hc;exact pre (Vz _) H (.refl _ _ _) rfl (λK hK=>hK)
       .rename_i l;split at hk
        .rename_i f c1 xs hl;split at hk
         .rename_i q;subst q;cases hk;obtain⟨x',rfl,hc⟩:=hv.cell;cases hc with | own hN=>
          rw [eZ hl]at hN;cases hN;obtain⟨o',ho',hO⟩:=H.old l _ hl;cases hO with | rows hf=>
          have hs:nmh (h.set l (.rows f c1 (List.replicate ((xs:List c1.den).length:Int).toNat x)))=nmh h:=nP hl (by simp [nmh]);refine pre (Vz _) (H.set (o':= .rows _ c1.size (aW c1 (List.replicate ((xs:List c1.den).length:Int).toNat x))) (List.getElem?_eq_some_iff.1 hl).1 (λk x hx=>by rw [hs];exact hx) (.rows hf)) (.set (λk x hx=>by rw [hs];exact hx) (E5 hl)) (by simp) (λK hK=> ?_);unfold vk;simp only;rw [ho'];refine⟨by trivial,aco.symm,by simpa using hne,by rw [bA];omega,?_⟩;simp_all [aW,List.replicate,List.take_zero,List.drop_of_length_le,bA]
         .cases hk
        .cases hk
       .rename_i l lo q0;split at hk
        .rename_i f c1 xs hl;split at hk
         .rename_i q;subst q;cases hk;obtain⟨x',rfl,hc⟩:=hv.cell;cases hc with | os hN=>
          rename_i sz lo q0 mm;rw [eZ hl]at hN;cases hN;obtain⟨o',ho',hO⟩:=H.old l _ hl;cases hO with | rows hf=>
          have h3:(lo:Int)+(q0:Int)<=(xs:List c1.den).length:=by simp_all [bP,mO]
          have e0:((((xs:List c1.den).take ((lo:Int)).toNat).drop ((0:Int)).toNat++List.replicate ((q0:Int)).toNat x)++(xs.take ((xs.length:Int)).toNat).drop ((lo:Int)+(q0:Int)).toNat)=xs.take lo++List.replicate q0 x++xs.drop (lo+q0):=by
           rw [show((lo:Int)+(q0:Int)).toNat=lo+q0 by omega,show((xs.length:Int)).toNat=xs.length by omega,List.take_length];simp
          show Hv2 _ _ _ _ _ (h.set l (.rows f c1 ((((xs:List c1.den).take ((lo:Int)).toNat).drop ((0:Int)).toNat++List.replicate ((q0:Int)).toNat x)++(xs.take ((xs.length:Int)).toNat).drop ((lo:Int)+(q0:Int)).toNat))) _;rw [e0];have hlen:(xs.take lo++List.replicate q0 x++xs.drop (lo+q0)).length=xs.length:=by simp;omega
          have hs:nmh (h.set l (.rows f c1 (xs.take lo++List.replicate q0 x++xs.drop (lo+q0))))=nmh h:=nP hl (by grind [nmh,List.getElem?_cons_zero]);refine pre (Vz _) (H.set (o':= .rows _ c1.size (aW c1 (xs.take lo++List.replicate q0 x++xs.drop (lo+q0)))) (List.getElem?_eq_some_iff.1 hl).1 (λk x hx=>by rw [hs];exact hx) (.rows hf)) (.set (λk x hx=>by rw [hs];exact hx) (E5 hl)) (by simp) (λK hK=> ?_);unfold vk;simp only;rw [ho'];refine⟨by trivial,aco.symm,by simpa using hne,by rw [bA];omega,?_⟩;simp_all [aW,List.replicate,List.map_take,List.map_drop]
         .cases hk
        .cases hk
       .cases hk
      .cases hk
     .cases hk
    .cases hk
   .cases hk
  .cases hk
 .cases hk
def acp{h:List aU}(o:aU){p:PV}{v:SVal}(hp:PVR (nmh h) p v):PVR (nmh (h++ [o])) p v:=hp.mono (Bz h o)
def Ka{X:XT}{E:Tab}(hX:XOK X E){m:Nat}{h':Heap}{h:List aU}(H:gy h' h){n k:Nat}(hn:h.length=nm n k){t:Slots}{e:Nat->Option SVal}(he:EvR X E m (nmh h) t e){op:Op}
  {r:HR (std m)} (hk:EP (std m) X e h op=some r) (hps:∀b∈r.chk,b=true):Hv2 (aX E op t h' n k) n h' h r.v r.h r.touched:=by
 have hpush:∀o:aU,(h++ [o]).length=nm n (k+1):=λo=>by simp [nm]at hn ⊢;omega
 unfold EP at hk;split at hk
 .rename_i ty;rw [hX.ty]at hk;split at hk
  .rename_i y hy;have main:∀(xs:List SC) (w:SVal),lM (std m) y.zero=some xs->xs≠ []->cellsS w=xs->r=⟨[],.c (.pb h.length y.size 0),h++ [.box w],[]⟩->Hv2 (aX E (.alloc ty) t h' n k) n h' h r.v r.h r.touched:=by
    intro xs w hz hne hw hr;subst hr;have hF:F2 (RC (nmh (h++ [.box w]))) y.zero (cellsS w):=by rw [hw];exact Bw hz
    refine⟨.c (.ptr h.length y.size 0 0),(h.length,.box y.zero)::h',k+1,.ofC .pb,H.push (.box hF),.push _ _ _,hpush _,λK hK=> ?_⟩;unfold aX;simp only;rw [hy];refine⟨λhz0=>hne ?_,by rw [<-hn];exact hK⟩;rw [hz0]at hz;simp [lM]at hz;exact hz
   split at hk
   .rename_i x hz;split at hk<;>cases hk
    .exact main _ (.agg [x]) hz (by simp) rfl rfl
    .exact main _ (.c x) hz (by simp) rfl rfl
   .rename_i x r' hsd hz;cases hk;exact main _ (.agg (x::r')) hz (by simp) rfl rfl
   .cases hk
  .cases hk
 .split at hk
  .rename_i v hv;split at hk
   .cases hk
   .rename_i hne;cases hk;obtain⟨pv,p1,p2⟩:=fE hX he hv;have hl:(aI pv).length=(dH (std m) v).length:=by rw [eU];exact p2.len
    refine⟨.c (.ptr h.length (dH (std m) v).length 0 0),(h.length,.box (aI pv))::h',k+1,.ofC .pb,H.push (.box (acp _ p2).cells),.push _ _ _,hpush _,λK hK=> ?_⟩;unfold aX;simp only;rw [p1];exact⟨by simpa [hl]using hne,by rw [<-hn,hl];exact hK⟩
  .cases hk
 .rename_i ty len parts;rw [hX.ty]at hk;split at hk
  .rename_i y hy;split at hk
   .rename_i el hd;split at hk
    .rename_i z c hz hco;split at hk
     .rename_i hcond;simp only [Bool.and_eq_true,Bool.not_eq_true',beq_iff_eq,beq_eq_false_iff_ne,ne_eq]at hcond;obtain⟨⟨⟨hsz,hne⟩,hrange⟩,hbig⟩:=hcond;have hbig:=Nat.le_of_ble_eq_true hbig;obtain⟨z',hz',hzs⟩:=iJ hX hsz;rw [hz]at hz';cases hz';split at hk
      .rename_i f xs k1 ls alo;cases hk;obtain⟨g,h'',q1,q2,q3,q4,q5,q6,q7⟩:=Ns hX H he alo;have hlen:xs.length=len:=by
        have:=congrArg List.length hrange;simp at this;rw [q6];simpa using this
       have hP:=q2.push (o:= .rows f c xs) (o':= .rows g c.size (aW c xs)) (.rows q1);have hE:=(q3.trans (jC.push (h':=h'') (h:=k1) (.rows f c xs) (.rows g c.size (aW c xs)) [])).mono (λl hl=>by simpa using hl);refine⟨.c (.os k1.length c.size 0 xs.length),_,k+1,.own (sF k1 f c xs),hP,hE,by simp [nm]at hn ⊢;omega,λK hK=> ?_⟩;unfold aX;simp only;rw [hy];simp only [aD];rw [hd];simp only;rw [hz];refine⟨hne,hrange,hbig,?_⟩;rw [hzs];refine q7 _ ?_;rw [MG,<-hn,<-q5,<-hlen];exact hK
      .cases hk
     .cases hk
    .cases hk
   .cases hk
  .cases hk
 .rename_i ty l cp;rw [hX.ty]at hk;split at hk
  .rename_i y hy;split at hk
   .rename_i el hd;split at hk
    .rename_i z c hz hco;split at hk
     .rename_i zs fl kl q fc kc q' hzs hl hc;split at hk
      .rename_i fx x lx hx;split at hk
       .rename_i hcond;cases hk;simp only [Bool.and_eq_true,Bool.not_eq_true',beq_eq_false_iff_ne,ne_eq]at hcond;obtain⟨⟨hsz,hne⟩,hby⟩:=hcond;have hby:=Nat.le_of_ble_eq_true hby;obtain⟨z',hz',aco⟩:=iJ hX hsz;rw [hz]at hz';cases hz';obtain⟨pl,l1,l2⟩:=fE hX he hl;obtain⟨pc,c1,c2⟩:=fE hX he hc;obtain⟨_,rfl⟩:=l2.int;obtain⟨_,rfl⟩:=c2.int;have h1:q'=q:=by simpa [bP]using hps (bP .eql q' q) (by simp)
        have h2:(0:Int)<=q:=by simpa [bP]using hps (bP .leq 0 q) (by simp)
        have h3:q<=kZ:=by simpa [bP]using hps (bP .leq q kZ) (by simp)
        obtain⟨q,rfl⟩:∃w:Int,w=q:=⟨q,rfl⟩;have hr:aW c (List.replicate q.toNat x)=List.replicate q.toNat (c.row x):=by simp [aW]
        refine⟨.c (.os h.length c.size 0 (List.replicate q.toNat x).length),(h.length,.rows true c.size (aW c (List.replicate q.toNat x)))::h',k+1,.own (sF h true c (List.replicate q.toNat x)),H.push (.rows λh=>h),.push _ _ _,hpush _,λK hK=> ?_⟩;unfold aX;simp only;rw [hy];simp only [aD];rw [hd];simp only;rw [hz];refine⟨_,Xg hzs hx,?_⟩;rw [l1];simp only [aB];rw [c1];refine⟨hne,hby,h1,h2,by simp only [kZ,gX]at h3 ⊢;omega,?_⟩;rw [<-hr,<-hn,aco];have:q.toNat=(List.replicate q.toNat x).length:=by simp
        rw [show(PV.c (.os h.length c.size 0 q.toNat))= .c (.os h.length c.size 0 (List.replicate q.toNat x).length)from by rw [<-this]];exact hK
       .cases hk
      .cases hk
     .cases hk
    .cases hk
   .cases hk
  .cases hk
 .rename_i ty p x;split at hk
  .rename_i pv v hp hv;obtain⟨pp,p1,p2⟩:=fE hX he hp;obtain⟨pv',v1,v2⟩:=fE hX he hv;obtain⟨a,b,c,q1,q2,q3,q4,q5⟩:=Xh hX H hn p2 v2 hk hps;refine⟨a,b,c,q1,q2,q3,q4,λK hK=> ?_⟩;have:=q5 K hK;unfold aX;simp only;cases hy:E.ty ty with
   | none=>rw [hy]at this;exact this.elim
   | some y=>
    rw [hy]at this;simp only [aD]at this ⊢;rw [p1];simp only [aB];rw [v1];exact this
  .cases hk
 .rename_i c;split at hk
  .rename_i a b ty t2 h1 h2 h3;split at hk
   .rename_i av bv ha hb;obtain⟨pa,a1,a2⟩:=fE hX he ha;obtain⟨pb,b1,b2⟩:=fE hX he hb;obtain⟨pv,h'',j,q1,q2,q3,q4,q5⟩:=Vy hX H hn a2 b2 hk hps;refine⟨pv,h'',j,q1,q2,q3,q4,λK hK=> ?_⟩;have:=q5 K hK;unfold aX;simp only;rw [h1,h2,h3];simp only;cases hy:E.ty ty with
    | none=>rw [hy]at this;exact this.elim
    | some y=>
     rw [hy]at this;simp only [aD]at this ⊢;split at this
     .rename_i e hd;cases hz:E.ty e with
      | none=>rw [hz]at this;exact this.elim
      | some z=>
       rw [hz]at this;simp only at this;rw [hd];simp only;rw [hz];simp only;rw [a1];simp only [aB];rw [b1];exact this
     .exact this.elim
   .cases hk
  .rename_i a ty h1 h2 h3;split at hk
   .rename_i av ha;obtain⟨pa,a1,a2⟩:=fE hX he ha;obtain⟨pv,h'',j,q1,q2,q3,q4,q5⟩:=Xi hX H hn a2 hk hps;refine⟨pv,h'',j,q1,q2,q3,q4,λK hK=> ?_⟩;have:=q5 K hK;unfold aX;simp only;rw [h1,h2,h3];simp only;cases hy:E.ty ty with
    | none=>rw [hy]at this;exact this.elim
    | some y=>
     rw [hy]at this;simp only [aD]at this ⊢;split at this
     .rename_i e hd;cases hz:E.ty e with
      | none=>rw [hz]at this;exact this.elim
      | some z=>
       rw [hz]at this;simp only at this;obtain⟨zd,hzd,this⟩:=this;rw [hd];simp only;rw [hz];simp only;refine⟨zd,hzd,?_⟩;rw [a1];exact this
     .exact this.elim
   .cases hk
  .cases hk
 .cases hk
structure ELe{m:Nat}(a b:ES (std m)):Prop where
 ren:∀(i:Nat) (v:Option Nat),a.ren[i]? =some (some v)->b.ren[i]? =some (some v)
 len:b.ren.length=a.ren.length
 fro:∀x,x∈a.fro->x∈b.fro
 ck:∀x,x∈a.ck->x∈b.ck
 tr:∀(i:Nat) (v:Option Nat),a.ren[i]? =some (some v)->kV (std m) b i=kV (std m) a i
def ELe.refl{m:Nat}(a:ES (std m)):ELe a a:=⟨λ_ _ h=>h,rfl,λ_ h=>h,λ_ h=>h,λ_ _ _=>rfl⟩
def ELe.trans{m:Nat}{a b c:ES (std m)}(h:ELe a b)(k:ELe b c):ELe a c:=
 ⟨λi v hv=>k.ren i v (h.ren i v hv),k.len.trans h.len,λx hx=>k.fro x (h.fro x hx),λx hx=>k.ck x (h.ck x hx),λi v hv=>(k.tr i v (h.ren i v hv)).trans (h.tr i v hv)⟩
def sG{m:Nat}{s s':ES (std m)}{i:Nat}{v:Option Nat}(h:tL (std m) s i v=some s'):
  s'.ren[i]? =some (some v)/\ELe s s'/\s'.lv=s.lv/\s'.tr=s.tr/\s'.fro=s.fro/\s'.ck=s.ck:=by
 unfold tL at h;split at h
 .rename_i hi;cases h;have hl:=(List.getElem?_eq_some_iff.1 hi).1;refine⟨by simp [hl],⟨λj w hj=> ?_,by simp,λ_ h=>h,λ_ h=>h,λ_ _ _=>rfl⟩,rfl,rfl,rfl,rfl⟩
  grind
 .rename_i w hi;split at h
  .rename_i e;subst e;cases h;exact⟨hi,.refl _,rfl,rfl,rfl,rfl⟩
  .cases h
 .cases h
def WC(c:Ctx)(w:World)(N:NM)(v:Value)(y:SC):Prop:=∃x,bB c w v x/\RC N x y
def E9(k:Nat)(p:Option (Nat×Nat)):Option (Nat×Nat):=p.map λq=>(q.1,q.2+k)
def l8(p:Option (Nat×Nat)):E9 0 p=p:=by cases p<;>rfl
def Tn(k:Nat)(p:Option (Nat×Nat)):(E9 k p).map (·.1)=p.map (·.1):=by cases p<;>rfl
def trK{m:Nat}(e:ES (std m))(h:List aU)(i l:Nat):Nat:=match kV (std m) e i,nmh h l with | some p,some q=>(p.1:Int).toNat*q.1 | _,_=>0
def qh{m:Nat}{e:ES (std m)}{h:List aU}{i l:Nat}(ht:kV (std m) e i=none):trK e h i l=0:=by unfold trK;rw [ht]
structure Ren{m:Nat}(e:ES (std m))(h:List aU)(c:Ctx)(nm:Nat->Nat)(fr:Bool)(c2:Ctx)(N2:NM):Prop where
 kt:∀b,c.K true b->c2.K true b
 kf:fr=false->∀b,c.K false b->c2.K false b
 sub:∀b,c.K true b->c.K false b
 aiu:∀b,c2.K true b->c2.K false b
 fro:∀l f,(l,f)∈e.fro->(f=true\/fr=false)->∀b,c.μ l=some b->c2.K f b
 name:∀(i l:Nat),e.ren[i]? =some (some (some l))->nm i<c2.n/\c2.ν (nm i)=E9 (trK e h i l) (c.ν l)
 names:∀(i l sz n:Nat),e.ren[i]? =some (some (some l))->nmh h l=some (sz,n)->N2 (nm i)=some (sz,match kV (std m) e i with | some p=>min ((p.1:Int)+(p.2:Int)).toNat n- (p.1:Int).toNat | none=>n)
 nil:∀(i:Nat),e.ren[i]? =some (some none)->nm i<c2.n/\c2.ν (nm i)=none/\∃sz,N2 (nm i)=some (sz,0)
def Tp{c:Ctx}{w:World}{h':Heap}(H:bC c w h'){l sz lo n:Nat}{v:Value}{f:Bool}{es:List (List D)}(ho:AE.look h' l=some (.rows f sz es))(hlen:lo+n<=es.length)(hv:bB c w v (.os l sz lo n))
  {K2:Nat->Prop} (hK:∀b,c.K f b->K2 b) (hb:∀b,c.μ l=some b->K2 b):dJ K2 w v (.rows sz ((es.drop lo).take n)):=by
 have hro:=(H.obj l _ ho).2;cases hv with
 | os0 a _ _ hl hm=>rw [List.take_zero];exact .none _ _ _
 | osE a _ _ _ b hl hm=>rw [List.take_zero];exact .none _ _ _
 | os _ _ _ _ cap b oo hl hm hn hroom=>
  simp only [gq,hm]at hro;obtain⟨cells,E,hbk,hrow⟩:=hro;obtain⟨u,hu⟩:=hrow.ab4;have hlen':((es.drop lo).take n).length=n:=by simp;omega
  have hg:∀i,i<n->((es.drop lo).take n).getD i []=es.getD (lo+i) []:=by grind
  refine .rows b (oo+lo*sz) cap sz n _ (λi j=>u (lo+i) j) (hb b (iA hm)) hlen'.symm hn ?_ ?_ ?_
  .intro i j hi hj;rw [hlen']at hi;have h1:=(hu (lo+i) j ah hj).1;rw [jw hbk];simpa only [mG,Nat.add_mul,Nat.add_assoc]using h1
  .intro i hi;rw [hlen']at hi;rw [hg i hi];exact(hrow (lo+i) ah).1
  .intro i j hi hj;rw [hlen']at hi;unfold gd;rw [hg i hi];exact((hu (lo+i) j ah hj).2).mono' hK
def bB.alp{c c2:Ctx}{w:World}{v:Value}{l l' sz lo n:Nat}(h:bB c w v (.os l sz lo n))(hl':l'<c2.n)(hm':c2.ν l'=c.ν l):bB c2 w v (.os l' sz lo n):=by
 have hu:c2.μ l'=c.μ l:=by unfold Ctx.μ;rw [hm']
 cases h with
 | os0 a _ _ hl hm=>exact .os0 a l' sz hl' (hu.trans hm)
 | osE a _ _ _ b hl hm=>exact .osE a l' sz lo b hl' (hu.trans hm)
 | os _ _ _ _ cap b o hl hm hn hroom=>exact .os l' sz lo n cap b o hl' (hm'.trans hm) hn hroom
def bB.aiv{c c2:Ctx}{w:World}{v:Value}{l l' sz lo n:Nat}(h:bB c w v (.os l sz lo n))(hl':l'<c2.n)(hm':c2.ν l'=E9 (lo*sz) (c.ν l)):bB c2 w v (.os l' sz 0 n):=by
 have hu:c2.μ l'=c.μ l:=by unfold Ctx.μ;rw [hm',Tn]
 cases h with
 | os0 a _ _ hl hm=>exact .os0 a l' sz hl' (hu.trans hm)
 | osE a _ _ _ b hl hm=>exact .osE a l' sz 0 b hl' (hu.trans hm)
 | os _ _ _ _ cap b o hl hm hn hroom=>
  rw [hm]at hm';have:=bB.os (c:=c2) (w:=w) l' sz 0 n cap b (o+lo*sz) hl' hm' hn (by simpa [Nat.add_mul,Nat.add_assoc]using hroom);simpa using this
def bB.Xj{c c2:Ctx}{w:World}{v:Value}{l l' sz i j:Nat}(h:bB c w v (.ptr l sz i j))(hl':l'<c2.n)(hm':c2.ν l'=c.ν l):bB c2 w v (.ptr l' sz i j):=by
 cases h with | ptr _ _ _ _ b o hl hm=>exact .ptr l' sz i j b o hl' (hm'.trans hm)
def Tq{m:Nat}{c:Ctx}{w:World}{h':Heap}{h:List aU}(H:bC c w h')(HR:gy h' h){s:Sh}{y:SC}{g:Bool}{x:LV aJ}{ls:List Nat}(hk:gY (std m) h s y=some (g,x,ls))
  {v:Value} (hv:WC c w (nmh h) v y) {f:Bool} {K2:Nat->Prop} (hf:f=true->g=true) (hK:∀b,c.K f b->K2 b) (hb:∀l∈ls,∀b,c.μ l=some b->K2 b):dJ K2 w v (lvD s x):=by
 have up:∀f',(f=true->f'=true)->∀b,c.K f' b->K2 b:=λf' hff b hb=>hK b (by
  cases f with
  | true=>simp_all
  | false=>cases f' with
   | true=>exact H.sub b hb
   | false=>exact hb)
 obtain⟨x0,hr,hc⟩:=hv;unfold gY at hk;split at hk
 .rename_i f0 lf;split at hk
  .rename_i e;subst e;cases hk;cases hc with | d hx hff=>
   rename_i f' x1;subst hx;rw [EW];cases hr with | d _ _ _ hd=>
   cases hs:lf.scalar with
   | true=>exact hd.bY _ (by rw [kH];exact hs)
   | false=>
    refine hd.mono' (up _ (λh=>(hff ?_).resolve_right (by simp [hs])));have:=hf h;cases lf<;>simp_all [Leaf.flag,Leaf.scalar]
  .cases hk
 .cases hc;split at hk
  .cases hk;cases hr;exact .none _ _ _
  .cases hk
 .rename_i f0 co xs;cases hc with | clip hff=>
  split at hk
  .rename_i e;subst e;cases hk;cases hr with | clip _ a n _ _ hd=>
   exact hd.mono' (up _ λh=>hff (hf h))
  .cases hk
 .rename_i l;cases hc with | own hN=>
  split at hk
  .rename_i f0 co xs hl;split at hk
   .rename_i e;subst e;cases hk;rw [eZ hl]at hN;cases hN;obtain⟨o',ho',hO⟩:=HR.old l _ hl;cases hO with | rows hff=>
    have:=Tp H ho' (by rw [bA];omega) hr (up _ λh=>hff (hf h)) (hb l (by simp));rw [List.drop_zero,List.take_of_length_le (by grind [bA])]at this;exact this
   .cases hk
  .cases hk
 .cases hk
def pz{c2:Ctx}{w:World}{N2:NM}{v:Value}{f:Bool}{y:Leaf aJ}(h:dJ (c2.K f) w v (l5 y)):WC c2 w N2 v (.d f y):=⟨.d f (l5 y),.d f v _ h,.d rfl λh=> .inl h⟩
def DT{m:Nat}{s s':ES (std m)}{i:Nat}(h:s.tr.any (·.1==i)=false)(e:s'.tr=s.tr):kV (std m) s' i=none:=by
 unfold kV;rw [e]
 grind [List.find?_eq_none,List.any_eq_true]
def Xk{c0 c2:Ctx}{w:World}{nm:Nat->Nat}{vs:List Value}{caps qN:List (Nat×Nat)}{i:Nat}(hi:i<caps.length)(hi':i<qN.length)(hsz:caps[i].2=qN[i].2)
  (h1:bB c0 w (vs.getD i undef) ((qN.map λp=>Cell.ptr p.1 p.2 0 0).getD i default)) (n1:nm caps[i].1<c2.n) (n2:c2.ν (nm caps[i].1)=c0.ν qN[i].1):
  bB c2 w (vs.getD i undef) (((caps.map λp=>(nm p.1,p.2)).map λp=>Cell.ptr p.1 p.2 0 0).getD i default):=by
 have h1':bB c0 w (vs.getD i undef) (.ptr qN[i].1 qN[i].2 0 0):=by simpa [List.getD,List.getElem?_eq_getElem hi']using h1
 have h3:=bB.Xj h1' n1 n2;rw [<-hsz]at h3;simpa [List.getD,List.getElem?_eq_getElem hi]using h3
def Nt{m:Nat}:∀ {ps:List ((Nat×Nat)×(Nat×Nat))} {s s':ES (std m)},ps.foldlM (λs p=>tL (std m) s p.1.1 (some p.2.1)) s=some s'->
  (∀p∈ps,s'.ren[p.1.1]? =some (some (some p.2.1)))/\ELe s s'/\s'.lv=s.lv/\s'.tr=s.tr
 | [],s,s',h=>by cases h;exact⟨λ_ h=>(by simp at h),.refl _,rfl,rfl⟩
 | p::ps,s,s',h=>by
  rw [List.foldlM_cons]at h;cases h1:tL (std m) s p.1.1 (some p.2.1)with
  | none=>simp_all
  | some s1=>
   rw [h1]at h;obtain⟨q1,q2,q3,q4⟩:=Nt (ps:=ps) h;obtain⟨r1,r2,r3,r4,_⟩:=sG h1;refine⟨λx hx=> ?_,r2.trans q2,q3.trans r3,q4.trans r4⟩;cases hx with
   | head=>exact q2.ren _ _ r1
   | tail _ hx=>exact q1 x hx
def ELe.push{m:Nat}(s:ES (std m))(x:LV aJ):ELe s (s.push (std m) x):=⟨λ_ _ h=>h,rfl,λ_ h=>h,λ_ h=>h,λ_ _ _=>rfl⟩
def VA{m:Nat}{h:List aU}{c:Co}{y:SC}{g:Bool}{x:LV aJ}{ls:List Nat}(hx:gY (std m) h (.rows c) y=some (g,x,ls)):∃xs:List c.den,x= .l c xs:=by
 unfold gY at hx;split at hx
 .rename_i f0 lf;split at hx
  .rename_i e;cases hx;cases lf with
   | rows c' xs=>simp only [kU,Sh.rows.injEq]at e;subst e;exact⟨xs,rfl⟩
   | _=>simp [kU]at e
  .cases hx
 .grind
 .split at hx
  .rename_i e;cases hx;simp only [Sh.rows.injEq]at e;subst e;exact⟨_,rfl⟩
  .cases hx
 .split at hx
  .split at hx
   .rename_i e;cases hx;simp only [Sh.rows.injEq]at e;subst e;exact⟨_,rfl⟩
   .cases hx
  .cases hx
 .cases hx
def Tt{m:Nat}{h:List aU}(nm:Nat->Nat){k:SkC}{y:SC}{s s':ES (std m)}(hk:extC (std m) h k y s=some s'):
  ∃new y2,s'.lv=new.reverse++s.lv/\ELe s s'/\(∀rest,WO aJ nm k (new++rest)=some (y2,rest))/\
   ∀ {c:Ctx} {w:World} {h':Heap} {e:ES (std m)} {fr:Bool} {c2:Ctx} {N2:NM} {v:Value},bC c w h'->gy h' h->ELe s' e->(∀b∈e.ck,b=true)->Ren e h c nm fr c2 N2->(fr=true->k.fresh=true)->
    WC c w (nmh h) v y->WC c2 w N2 v y2:=by
 cases k with
 | int k=>
  simp only [extC]at hk;split at hk
  .rename_i f k' x;split at hk
   .rename_i e;subst e;cases hk;refine⟨[.i x],.d true (.int k x),rfl,.push _ _,λrest=>rfl,λH HR he hck R hfr hv=> ?_⟩;obtain⟨x0,hr,hc⟩:=hv;obtain⟨g,rfl⟩:=RC.int hc;cases hr with | d _ _ _ hd=>exact pz (hd.bY _ rfl)
   .cases hk
  .cases hk
 | bool=>
  simp only [extC]at hk;split at hk
  .rename_i f x;cases hk;refine⟨[.b x],.d true (.bool x),rfl,.push _ _,λrest=>rfl,λH HR he hck R hfr hv=> ?_⟩;obtain⟨x0,hr,hc⟩:=hv;obtain⟨g,rfl⟩:=RC.bool hc;cases hr with | d _ _ _ hd=>exact pz (hd.bY _ rfl)
  .cases hk
 | str=>
  simp only [extC]at hk;split at hk
  .rename_i f x;cases hk;refine⟨[.s x],.d true (.str x),rfl,.push _ _,λrest=>rfl,λH HR he hck R hfr hv=> ?_⟩;obtain⟨x0,hr,hc⟩:=hv;cases hc with | d hx _=>
   subst hx;cases hr with | d _ _ _ hd=>exact pz (y:= .str x) (hd.bY _ rfl)
  .cases hk
 | rows f c=>
  simp only [extC]at hk;split at hk
  .rename_i l lo n;split at hk
   .rename_i g c' xs hl;split at hk
    .rename_i hcond;cases hk;obtain⟨rfl,hfg⟩:=hcond
     refine⟨[.l c ((((xs:List c.den).take ((lo:Int)+(n:Int)).toNat)).drop ((lo:Int)).toNat)],.d f (.rows c ((((xs:List c.den).take ((lo:Int)+(n:Int)).toNat)).drop ((lo:Int)).toNat)),rfl,
      ⟨λ_ _ h=>h,rfl,λx hx=>List.mem_cons_of_mem _ hx,λx hx=>List.mem_append_right _ hx,λ_ _ _=>rfl⟩,λrest=>rfl,λ{c0 w h' e fr c2 N2 v} H HR he hck R hfr hv=> ?_⟩
     obtain⟨x0,hr,hc⟩:=hv;cases hc with | os hN=>
     rename_i sz lo n mm;rw [eZ hl]at hN;cases hN;obtain⟨o',ho',hO⟩:=HR.old l _ hl;cases hO with | rows hff=>
     rename_i f';have alq:∀b∈mO (std m) h (.c (.os l (lo:Int) (n:Int))),b=true:=λb hb=>hck b (he.ck b (List.mem_append_left _ hb))
     simp only [mO,hl]at alq;have h3:(lo:Int)+(n:Int)<=(xs:List c.den).length:=by simp_all [bP]
     have vU:f=true\/fr=false:=by
      cases fr with
      | false=>exact .inr rfl
      | true=>exact .inl (hfr rfl)
     have hKf:∀b,c0.K f b->c2.K f b:=λb hb=>by
      cases f with
      | true=>exact R.kt b hb
      | false=>exact R.kf (vU.resolve_left (by simp)) b hb
     have hd:=Tp H ho' (lo:=lo) (n:=n) (by rw [bA];omega) hr (K2:=c2.K f) (λb hb=>hKf b (by
      cases f with
      | true=>simp_all
      | false=>cases f' with
       | true=>exact R.sub b hb
       | false=>exact hb)) (λb hb=>R.fro l f (he.fro _ (by simp)) vU b hb)
     have e1:aW c (((xs:List c.den).take ((lo:Int)+(n:Int)).toNat).drop ((lo:Int)).toNat)=((aW c xs).drop lo).take n:=by grind [EZ,wO]
     rw [<-e1]at hd;exact pz (y:= .rows c _) hd
    .cases hk
   .cases hk
  .split at hk
   .rename_i g x ls hx;split at hk
    .rename_i hfg;cases hk;have hxl:=VA hx;obtain⟨xs,rfl⟩:=hxl;refine⟨[.l c xs],.d f (.rows c xs),rfl,⟨λ_ _ h=>h,rfl,λx hx=>List.mem_append_right _ hx,λx hx=>hx,λ_ _ _=>rfl⟩,λrest=>rfl,λ{c0 w h' e fr c2 N2 v} H HR he hck R hfr hv=> ?_⟩;have vU:f=true\/fr=false:=by
      cases fr with
      | false=>exact .inr rfl
      | true=>exact .inl (hfr rfl)
     have hKf:∀b,c0.K f b->c2.K f b:=λb hb=>by
      cases f with
      | true=>exact R.kt b hb
      | false=>exact R.kf (vU.resolve_left (by simp)) b hb
     exact pz (y:= .rows c xs) (Tq H HR hx hv (λh=>by simp_all) hKf (λl hl b hb=>R.fro l f (he.fro _ (List.mem_append_left _ (List.mem_map.2 ⟨l,hl,rfl⟩))) vU b hb))
    .cases hk
   .cases hk
 | nil=>
  simp only [extC]at hk;split at hk
  .cases hk;refine⟨[],.nil,rfl,.refl _,λrest=>rfl,λH HR he hck R hfr hv=> ?_⟩;obtain⟨x0,hr,hc⟩:=hv;cases hc;cases hr;exact⟨.nil,.nil,.nil⟩
  .cases hk
 | own i=>
  simp only [extC]at hk;split at hk
  .rename_i l;split at hk
   .cases hk
   .rename_i htr;obtain⟨r1,r2,r3,r4,r5,r6⟩:=sG hk;refine⟨[],.own (nm i),by simpa using r3,r2,λrest=>rfl,λH HR he hck R hfr hv=> ?_⟩;obtain⟨x0,hr,hc⟩:=hv;cases hc with | own hN=>
    rename_i sz n;obtain⟨n1,n2⟩:=R.name i l (he.ren _ _ r1);have hn:=R.names i l sz n (he.ren _ _ r1) hN;have ht:kV (std m) s' i=none:=DT (by cases hq:s.tr.any (·.1==i)with | true=>exact absurd hq htr | false=>rfl) r4;rw [he.tr i _ r1,ht]at hn;rw [qh ((he.tr i _ r1).trans ht),l8]at n2;exact⟨_,bB.alp hr n1 n2,.own hn⟩
  .obtain⟨r1,r2,r3,r4,r5,r6⟩:=sG hk;refine⟨[],.own (nm i),by simpa using r3,r2,λrest=>rfl,λH HR he hck R hfr hv=> ?_⟩;obtain⟨x0,hr,hc⟩:=hv;cases hc;cases hr;obtain⟨n1,n2,sz,n3⟩:=R.nil i (he.ren _ _ r1);exact⟨.os (nm i) sz 0 0,.os0 none _ sz n1 (aia n2),.own n3⟩
  .rename_i l lo n;split at hk
   .rename_i f0 c xs hri hl;cases hk;have hil:=(List.getElem?_eq_some_iff.1 hri).1;refine⟨[],.own (nm i),rfl,⟨λj w hj=> ?_,by simp,λ_ h=>h,λx hx=>List.mem_append_right _ hx,λj w hj=> ?_⟩,λrest=>rfl,λ{c0 w h' e fr c2 N2 v} H HR he hck R hfr hv=> ?_⟩
    .grind
    .grind [kV]
    .obtain⟨x0,hr,hc⟩:=hv;cases hc with | os hN=>
     rename_i sz lo n mm;have r1:=he.ren i (some l) (by simp [hil]);have ht:=he.tr i (some l) (by simp [hil]);obtain⟨n1,n2⟩:=R.name i l r1;have hn:=R.names i l sz mm r1 hN;rw [ht]at hn;have hle:(lo:Int)+(n:Int)<=(xs:List c.den).length:=by
      have:=hck (bP .leq ((lo:Int)+(n:Int)) ((xs:List c.den).length:Int)) (he.ck _ (by simp));simpa [bP]using this
     have hmm:=hN;rw [eZ hl]at hmm;cases hmm;have hk0:trK e h i l=lo*c.size:=by unfold trK;rw [ht,eZ hl];simp [kV]
     rw [hk0]at n2;simp [kV]at hn;have hn':N2 (nm i)=some (c.size,n):=hn.trans (by show some (c.size,min ((lo:Int)+(n:Int)).toNat (List.length xs)-lo)=some (c.size,n);congr 2;omega);exact⟨_,bB.aiv hr n1 n2,.own hn'⟩
   .cases hk
  .cases hk
 | pb i sz j=>
  simp only [extC]at hk;split at hk
  .rename_i l sz' j';split at hk
   .rename_i hcond;obtain⟨rfl,rfl,htr⟩:=hcond;obtain⟨r1,r2,r3,r4,r5,r6⟩:=sG hk;refine⟨[],.pb (nm i) sz j,by simpa using r3,r2,λrest=>rfl,λH HR he hck R hfr hv=> ?_⟩;obtain⟨x0,hr,hc⟩:=hv;cases hc;obtain⟨n1,n2⟩:=R.name i l (he.ren _ _ r1);have ht:kV (std m) s' i=none:=DT (by simpa using htr) r4;rw [qh ((he.tr i _ r1).trans ht),l8]at n2;exact⟨_,bB.Xj hr n1 n2,.pb⟩
   .cases hk
  .cases hk
 | pr i j=>
  simp only [extC]at hk;split at hk
  .rename_i l x j';split at hk
   .rename_i hcond;obtain⟨rfl,htr⟩:=hcond;split at hk
    .rename_i s1 hs1;cases hk;obtain⟨r1,r2,r3,r4,r5,r6⟩:=sG hs1;refine⟨[.i x],.pr (nm i) x j,by simp [ES.push,r3],r2.trans (.push _ _),λrest=>rfl,λH HR he hck R hfr hv=> ?_⟩;obtain⟨x0,hr,hc⟩:=hv;cases hc with | pr hN=>
     rename_i sz i0 mm;have r1':=he.ren i (some l) r1;obtain⟨n1,n2⟩:=R.name i l r1';have ht:kV (std m) s1 i=none:=DT (by simpa using htr) r4;rw [qh ((he.tr i _ r1).trans ht),l8]at n2;exact⟨_,bB.Xj hr n1 n2,.pr (R.names i l sz mm r1' hN)⟩
    .cases hk
   .cases hk
  .cases hk
 | rp f c j=>
  simp only [extC]at hk;split at hk
  .rename_i g c' xs x j';split at hk
   .rename_i hcond;cases hk;obtain⟨rfl,rfl,hfg⟩:=hcond;refine⟨[.l c xs,.i x],.rp f c xs x j,rfl,(ELe.push _ _).trans (.push _ _),λrest=>rfl,λ{c0 w h' e fr c2 N2 v} H HR he hck R hfr hv=> ?_⟩;obtain⟨x0,hr,hc⟩:=hv;cases hc with | rp hff hi=>
    rename_i f' i0;have vU:f=true\/fr=false:=by
     cases fr with
     | false=>exact .inr rfl
     | true=>exact .inl (hfr rfl)
    have hKf:∀b,c0.K f' b->c2.K f b:=λb hb=>by
     cases f with
     | true=>have:=hff (by simpa using hfg);rw [this]at hb;exact R.kt b hb
     | false=>
      refine R.kf (vU.resolve_left (by simp)) b ?_;cases f' with
      | true=>exact R.sub b hb
      | false=>exact hb
    cases hr with | rp _ b off _ _ _ _ u hb h1 h2 h3 h4=>
    exact⟨.rp f c.size (aW c xs) i0 j,.rp f b off _ _ _ _ u (hKf b hb) h1 h2 (λi j hi hj=>(h3 i j hi hj).mono' hKf) h4,.rp (λh=>h) hi⟩
   .cases hk
  .cases hk
 | gp g c=>
  simp only [extC]at hk;split at hk
  .rename_i g' c';split at hk
   .rename_i hcond;cases hk;obtain⟨rfl,rfl⟩:=hcond;refine⟨[],.gp g c,rfl,.refl _,λrest=>rfl,λ{c0 w h' e fr c2 N2 v} H HR he hck R hfr hv=> ?_⟩;obtain⟨x0,hr,hc⟩:=hv;cases hc;have vU:fr=false:=by grind [SkC.fresh]
    cases hr with | rp _ b off _ _ _ _ u hb h1 h2 h3 h4=>
    exact⟨_,.rp false b off _ _ _ _ u (R.kf vU b hb) h1 h2 (λi j hi hj=>(h3 i j hi hj).mono' (R.kf vU)) h4,.gp⟩
   .cases hk
  .cases hk
 | fn g caps=>
  simp only [extC]at hk;split at hk
  .rename_i g' qN;split at hk
   .rename_i hcond;obtain⟨rfl,hsz,htr⟩:=hcond;obtain⟨q1,q2,q3,q4⟩:=Nt hk;refine⟨[],.fn g (caps.map λp=>(nm p.1,p.2)),by simpa using q3,q2,λrest=>rfl,λ{c0 w h' e fr c2 N2 v} H HR he hck R hfr hv=> ?_⟩;obtain⟨x0,hr,hc⟩:=hv;cases hc;cases hr with | fn _ vs _ hl hcs=>
    have hlen:caps.length=qN.length:=by have:=congrArg List.length hsz;simpa using this
    refine⟨.fn g ((caps.map λp=>(nm p.1,p.2)).map λp=> .ptr p.1 p.2 0 0),.fn g vs _ (by simp_all) (λi hi=> ?_),.fn⟩;simp at hi;have hi':i<qN.length:=by omega
    have h1:=hcs i (by simp;exact hi');have hz:(caps.zip qN)[i]? =some (caps[i],qN[i]):=by simp_all
    have h2:=q1 _ (List.mem_of_getElem? hz);obtain⟨n1,n2⟩:=R.name _ _ (he.ren _ _ h2);have ht:kV (std m) s' caps[i].1=none:=DT (by simpa using List.all_eq_true.1 htr caps[i] (List.getElem_mem _)) q4;rw [qh ((he.tr _ _ h2).trans ht),l8]at n2;exact Xk hi hi' (by have:=congrArg (λl=>l[i]?) hsz;grind) h1 n1 n2
   .cases hk
  .cases hk
 | np=>
  simp only [extC]at hk;split at hk
  .cases hk;refine⟨[],.np,rfl,.refl _,λrest=>rfl,λH HR he hck R hfr hv=> ?_⟩;obtain⟨x0,hr,hc⟩:=hv;cases hc;cases hr;exact⟨.np,.np,.np⟩
  .cases hk
 | clip f c=>
  simp only [extC]at hk;split at hk
  .rename_i g c' xs;split at hk
   .rename_i hcond;cases hk;obtain⟨rfl,hfg⟩:=hcond;refine⟨[.l c xs],.clip f c xs,rfl,.push _ _,λrest=>rfl,λ{c0 w h' e fr c2 N2 v} H HR he hck R hfr hv=> ?_⟩;obtain⟨x0,hr,hc⟩:=hv;cases hc with | clip hff=>
    rename_i f';have vU:f=true\/fr=false:=by
     cases fr with
     | false=>exact .inr rfl
     | true=>exact .inl (hfr rfl)
    have hKf:∀b,c0.K f' b->c2.K f b:=λb hb=>by
     cases f with
     | true=>have:=hff (by simpa using hfg);rw [this]at hb;exact R.kt b hb
     | false=>
      refine R.kf (vU.resolve_left (by simp)) b ?_;cases f' with
      | true=>exact R.sub b hb
      | false=>exact hb
    cases hr with | clip _ a n _ _ hd=>exact⟨.clip f c.size (aW c xs),.clip f a n _ _ (hd.mono' hKf),.clip λh=>h⟩
   .cases hk
  .cases hk
def Nu{m:Nat}{h:List aU}(nm:Nat->Nat):∀ {ks:List SkC} {ys:List SC} {s s':ES (std m)},ER (std m) h ks ys s=some s'->
  ∃new ys2,s'.lv=new.reverse++s.lv/\ELe s s'/\(∀rest,J4 aJ nm ks (new++rest)=some (ys2,rest))/\
   ∀ {c:Ctx} {w:World} {h':Heap} {e:ES (std m)} {fr:Bool} {c2:Ctx} {N2:NM} {us:List Value},bC c w h'->gy h' h->ELe s' e->(∀b∈e.ck,b=true)->Ren e h c nm fr c2 N2->(fr=true->ks.all SkC.fresh=true)->
    F2 (WC c w (nmh h)) us ys->F2 (WC c2 w N2) us ys2
 | [],[],s,s',hk=>by
  simp only [ER,Option.some.injEq]at hk;subst hk;exact⟨[],[],rfl,.refl _,λrest=>rfl,λ_ _ _ _ _ _ h=>by cases h;exact .nil⟩
 | [],_::_,s,s',hk=>by simp [ER]at hk
 | _::_,[],s,s',hk=>by simp [ER]at hk
 | k::ks,y::ys,s,s',hk=>by
  simp only [ER]at hk;split at hk
  .rename_i s1 h1;obtain⟨new1,y2,a1,a2,a3,a4⟩:=Tt nm h1;obtain⟨new2,ys2,b1,b2,b3,b4⟩:=Nu nm hk;refine⟨new1++new2,y2::ys2,by simp_all,a2.trans b2,λrest=> ?_,λH HR he hck R hfr hu=> ?_⟩
   .grind [J4,List.append_assoc]
   .cases hu with | cons u1 u2=>
    exact .cons (a4 H HR (b2.trans he) hck R (λh=>by simp_all) u1) (b4 H HR he hck R (λh=>by simp_all) u2)
  .cases hk
def I4{c c2:Ctx}{w:World}{N N2:NM}{f f':Bool}(hsub:∀b,c.K true b->c.K false b)(hK:∀b,c.K f b->c2.K f b):∀ {ys:List (Leaf aJ)} {us:List Value},(f=true->f'=true\/∀y∈ys,y.scalar=true)->
  F2 (WC c w N) us (ys.map (.d f'))->F2 (WC c2 w N2) us (ys.map (.d f))
 | [],us,_,h=>by cases h;exact .nil
 | y::ys,us,hf,h=>by
  cases h with | cons h1 h2=>
  refine .cons ?_ (I4 hsub hK (λh=>(hf h).imp id λq y hy=>q y (List.mem_cons_of_mem _ hy)) h2);obtain⟨x,hr,hc⟩:=h1;cases hc with | d hx hff=>
  rename_i g0 x0;subst hx;cases hr with | d _ _ _ hd=>
  cases hs:y.scalar with
  | true=>exact pz (hd.bY _ (by rw [kH];exact hs))
  | false=>
   refine pz (hd.mono' λb hb=>hK b ?_);cases f with
   | false=>cases g0 with
    | true=>exact hsub b hb
    | false=>exact hb
   | true=>simp_all
def Fa{c2:Ctx}{w:World}{N2:NM}{f:Bool}:∀ {ys:List (Leaf aJ)} {us:List Value},F2 (dJ (c2.K f) w) us (ys.map l5)->F2 (WC c2 w N2) us (ys.map (.d f))
 | [],us,h=>by cases h;exact .nil
 | y::ys,us,h=>by cases h with | cons h1 h2=>exact .cons (pz h1) (Fa h2)
def uH{m:Nat}{c:Ctx}{w:World}{h':Heap}{h:List aU}(H:bC c w h')(HR:gy h' h){f:Bool}{K2:Nat->Prop}(hK:∀b,c.K f b->K2 b):
  ∀ {ss:List Sh} {ys:List SC} {us:List Value} {g:Bool} {vs:List (LV aJ)} {ls:List Nat},aT (std m) h ss ys=some (g,vs,ls)->F2 (WC c w (nmh h)) us ys->(f=true->g=true)->(∀l∈ls,∀b,c.μ l=some b->K2 b)->
   F2 (dJ K2 w) us (List.zipWith lvD ss vs)
 | [],[],us,g,vs,ls,hk,hu,hf,hb=>by simp [aT]at hk;obtain⟨_,rfl,_⟩:=hk;cases hu;exact .nil
 | [],_::_,_,_,_,_,hk,_,_,_=>by simp [aT]at hk
 | _::_,[],_,_,_,_,hk,_,_,_=>by simp [aT]at hk
 | s::ss,y::ys,us,g,vs,ls,hk,hu,hf,hb=>by
  cases hu with | cons h1 h2=>
  unfold aT at hk;split at hk
  .rename_i f1 v1 l1 hv1;split at hk
   .rename_i g2 vs2 ls2 hv2;split at hk<;>cases hk
    refine .cons (Tq H HR hv1 h1 (λh=> ?_) hK λl hl=>hb l (List.mem_append_left _ hl)) (uH H HR hK hv2 h2 (λh=> ?_) λl hl=>hb l (List.mem_append_right _ hl))
    all_goals simp_all
   .cases hk
  .cases hk
def Nv{m:Nat}{c c2:Ctx}{w:World}{h':Heap}{h:List aU}{N2:NM}(H:bC c w h')(HR:gy h' h){f:Bool}(hK:∀b,c.K f b->c2.K f b){co:Co}{q:SVal}{g:Bool}{x:co.den}{ls:List Nat}
  (hk:toX (std m) h co q=some (g,x,ls)) {us:List Value} (hu:F2 (WC c w (nmh h)) us (cellsS q)) (hf:f=true->g=true) (hb:∀l∈ls,∀b,c.μ l=some b->c2.K f b):F2 (WC c2 w N2) us (cellsS (.sv f co x)):=by
 unfold toX at hk;split at hk
 .rename_i f' c' x';split at hk
  .rename_i e;subst e;cases hk;refine I4 H.sub hK (λh=> ?_) hu
   grind [l7]
  .cases hk
 .cases hk
 .split at hk
  .rename_i f1 ys ls1 h1;split at hk
   .rename_i t ht;cases hk;rw [eU]at h1;have:=uH H HR hK h1 hu hf hb;rw [zU co t ht,<-nO 0 co]at this;exact Fa this
   .cases hk
  .cases hk
def qQ:SVal->Bool | .tup _=>true | _=>false
theorem Tv{m:Nat}{h:List aU}(nm:Nat->Nat){k:SkV}{q:SVal}{s s':ES (std m)}(hk:Hg (std m) h k q s=some s'):
  qQ q=false/\∃new q2,s'.lv=new.reverse++s.lv/\ELe s s'/\(∀rest,zQ aJ nm k (new++rest)=some (q2,rest))/\qQ q2=false/\bR (std 0) q2=bR (std 0) q/\
   ∀ {c:Ctx} {w:World} {h':Heap} {e:ES (std m)} {fr:Bool} {c2:Ctx} {N2:NM} {us:List Value},bC c w h'->gy h' h->ELe s' e->(∀b∈e.ck,b=true)->Ren e h c nm fr c2 N2->(fr=true->k.fresh=true)->
    F2 (WC c w (nmh h)) us (cellsS q)->F2 (WC c2 w N2) us (cellsS q2):=by
 cases k with
 | c k=>
  simp only [Hg]at hk;split at hk
  .rename_i x;obtain⟨new,y2,a1,a2,a3,a4⟩:=Tt nm hk;refine⟨rfl,new,.c y2,a1,a2,λrest=>by grind [zQ],rfl,rfl,λH HR he hck R hfr hu=> ?_⟩;cases hu with | cons h1 h2=>cases h2;exact .cons (a4 H HR he hck R hfr h1) .nil
  .cases hk
 | agg ks=>
  simp only [Hg]at hk;split at hk
  .rename_i hst;rw [eU]at hk;obtain⟨new,y2,a1,a2,a3,a4⟩:=Nu nm hk;refine⟨by cases q<;>simp_all [bR,qQ],new,.agg y2,a1,a2,λrest=>by grind [zQ],rfl,by rw [CY m]at hst;rw [hst];rfl,λH HR he hck R hfr hu=>a4 H HR he hck R hfr hu⟩
  .cases hk
 | sv f co=>
  simp only [Hg]at hk;split at hk
  .rename_i hst;split at hk
   .rename_i g x ls hx;split at hk
    .rename_i hfg;cases hk;refine⟨by cases q<;>simp_all [bR,qQ],[.x co x],.sv f co x,rfl,⟨λ_ _ h=>h,rfl,λx hx=>List.mem_append_right _ hx,λx hx=>hx,λ_ _ _=>rfl⟩,λrest=>rfl,rfl,by rw [CY m]at hst;rw [hst];rfl,λ{c w h' e fr c2 N2 us} H HR he hck R hfr hu=> ?_⟩;by_cases Xl:co.flat=true
     ·
      have h1:F2 (WC {c2 with K:=λg b=>c2.K g b\/c.K g b\/∃l∈ls,c.μ l=some b} w N2) us (cellsS (.sv f co x)):=Nv H HR (λb hb=>Or.inr (Or.inl hb)) hx hu (λh=>by simp_all) (λl hl b hb=>Or.inr (Or.inr ⟨l,hl,hb⟩));have hsc:=l7 co Xl x;have hcs:cellsS (.sv f co x)=(dM (std 0) co x 0 co.fields).map (.d f):=rfl;rw [hcs]at h1 ⊢
      clear hu hx hcs hfr hfg
      generalize dM (std 0) co x 0 co.fields=lv at h1 hsc
      induction lv generalizing us with
      | nil=>cases h1;exact .nil
      | cons y lv ih=>
       cases h1 with | cons q1 q2=>
       refine .cons ?_ (ih q2 λy hy=>hsc y (List.mem_cons_of_mem _ hy));obtain⟨x0,hr,hc⟩:=q1;cases hc with | d hx0 _=>
       subst hx0;cases hr with | d _ _ _ hd=>exact pz (hd.bY _ (by grind [kH]))
     .have vU:f=true\/fr=false:=by grind [SkV.fresh]
      have hKf:∀b,c.K f b->c2.K f b:=λb hb=>by
       cases f with
       | true=>exact R.kt b hb
       | false=>exact R.kf (vU.resolve_left (by simp)) b hb
      exact Nv H HR hKf hx hu (λh=>by simp_all) (λl hl b hb=>R.fro l f (he.fro _ (List.mem_append_left _ (List.mem_map.2 ⟨l,hl,rfl⟩))) vU b hb)
    .cases hk
   .cases hk
  .cases hk
def WV(c:Ctx)(w:World)(N:NM)(u:Value)(q:SVal):Prop:=∃p,bg c w u p/\PVR N p q
def F2.wc{c:Ctx}{w:World}{N:NM}{us:List Value}{cs:List Cell}{ys:List SC}(h1:F2 (bB c w) us cs)(h2:F2 (RC N) cs ys):F2 (WC c w N) us ys:=by
 induction h1 generalizing ys with
 | nil=>cases h2;exact .nil
 | cons a _ ih=>cases h2 with | cons b h2=>exact .cons ⟨_,a,b⟩ (ih h2)
def F2.aiw{c:Ctx}{w:World}{N:NM}{us:List Value}{ys:List SC}(h:F2 (WC c w N) us ys):∃cs,F2 (bB c w) us cs/\F2 (RC N) cs ys:=by
 induction h with
 | nil=>exact⟨[],.nil,.nil⟩
 | cons h1 _ ih=>
  obtain⟨x,a,b⟩:=h1;obtain⟨cs,q1,q2⟩:=ih;exact⟨x::cs,.cons a q1,.cons b q2⟩
def WV.conv{c c2:Ctx}{w:World}{N N2:NM}{u:Value}{q q2:SVal}(h:WV c w N u q)(ht:qQ q=false)(ht2:qQ q2=false)(hs:bR (std 0) q2=bR (std 0) q)
  (hc:∀us,F2 (WC c w N) us (cellsS q)->F2 (WC c2 w N2) us (cellsS q2)):WV c2 w N2 u q2:=by
 obtain⟨p,hr,hp⟩:=h;cases hp with
 | tup _=>simp [qQ]at ht
 | one hp=>
  cases hp with
  | c hx=>
   cases hr with | c _ _ hr=>
   have:=hc [u] (.cons ⟨_,hr,hx⟩ .nil);cases q2 with
   | c y=>cases this with | cons h1 _=>obtain⟨x,a,b⟩:=h1;exact⟨.c x,.c _ _ a,.ofC b⟩
   | agg _=>simp [bR]at hs
   | sv _ _ _=>simp [bR]at hs
   | tup _=>simp [qQ]at ht2
  | agg hst hF=>
   cases hr with | agg us _ hr=>
   obtain⟨cs,a,b⟩:=F2.aiw (hc us (F2.wc hr hF));exact⟨.agg cs,.agg _ _ a,.one (.agg (by simp_all) b)⟩
def vV{m:Nat}{h:List aU}(nm:Nat->Nat):∀ {ks:List SkV} {qs:List SVal} {s s':ES (std m)},qO (std m) h ks qs s=some s'->
  ∃new qs2,s'.lv=new.reverse++s.lv/\ELe s s'/\(∀rest,oI aJ nm ks (new++rest)=some (qs2,rest))/\
   ∀ {c:Ctx} {w:World} {h':Heap} {e:ES (std m)} {fr:Bool} {c2:Ctx} {N2:NM} {us:List Value},bC c w h'->gy h' h->ELe s' e->(∀b∈e.ck,b=true)->Ren e h c nm fr c2 N2->(fr=true->ks.all SkV.fresh=true)->
    F2 (WV c w (nmh h)) us qs->F2 (WV c2 w N2) us qs2
 | [],[],s,s',hk=>by
  simp only [qO,Option.some.injEq]at hk;subst hk;exact⟨[],[],rfl,.refl _,λrest=>rfl,λ_ _ _ _ _ _ h=>by cases h;exact .nil⟩
 | [],_::_,s,s',hk=>by simp [qO]at hk
 | _::_,[],s,s',hk=>by simp [qO]at hk
 | k::ks,y::ys,s,s',hk=>by
  simp only [qO]at hk;split at hk
  .rename_i s1 h1;obtain⟨ht,new1,y2,a1,a2,a3,t2,st2,a4⟩:=Tv nm h1;obtain⟨new2,ys2,b1,b2,b3,b4⟩:=vV nm hk;refine⟨new1++new2,y2::ys2,by simp_all,a2.trans b2,λrest=> ?_,λH HR he hck R hfr hu=> ?_⟩
   .grind [oI,List.append_assoc]
   .cases hu with | cons u1 u2=>
    refine .cons (u1.conv ht t2 st2 λus hus=>a4 H HR (b2.trans he) hck R (λh=> ?_) hus) (b4 H HR he hck R (λh=> ?_) u2)
    all_goals simp_all
  .cases hk
structure OF{m:Nat}(e:ES (std m))(h:List aU)(nm:Nat->Nat)(i:Nat)(k:SkO)(old o2:aU):Prop where
 s1:∀(l sz n:Nat),k≠ .gone->e.ren[i]? =some (some (some l))->nmh h l=some (sz,n)->nmh [o2] 0=some (sz,match kV (std m) e i with | some p=>min ((p.1:Int)+(p.2:Int)).toNat n- (p.1:Int).toNat | none=>n)
 s2:k≠ .gone->e.ren[i]? =some (some none)->∃sz,nmh [o2] 0=some (sz,0)
 gone:k= .gone->o2=old
 live:k≠ .gone->∃v,e.ren[i]? =some (some v)
 ng:k≠ .gone->¬Gone [o2] 0
 rel:∀ {c:Ctx} {w:World} {h':Heap} {fr:Bool} {c2:Ctx} {N2:NM},bC c w h'->gy h' h->(∀b∈e.ck,b=true)->Ren e h c nm fr c2 N2->(fr=true->k.fresh=true)->
  ∃o2',OR N2 o2' o2/\gq c2 w (nm i) o2'/\(k= .gone->o2'= .gone)/\(∀l,k≠ .gone->e.ren[i]? =some (some (some l))->∃o',AE.look h' l=some o'/\o'.live)
def dA.pre{K:Nat->Prop}{w:World}{cells:Array Value}{sz n:Nat}{es:List (List D)}(h:dA K w cells sz es):dA K w cells sz (es.take n):=λi hi=>by
 simp at hi;have e:(es.take n).getD i []=es.getD i []:=by grind
 refine⟨by rw [e];exact(h i ah).1,λj hj=> ?_⟩;obtain⟨v,hv,hd⟩:=(h i ah).2 j hj
 grind [gd]
def dA.aix{K:Nat->Prop}{w:World}{cells:Array Value}{o sz k:Nat}{es:List (List D)}(h:dA K w (from_ cells o) sz es):dA K w (from_ cells (o+k*sz)) sz (es.drop k):=λi hi=>by
 rw [List.length_drop]at hi;have e:(es.drop k).getD i []=es.getD (k+i) []:=by grind
 refine⟨by rw [e];exact(h (k+i) ah).1,λj hj=> ?_⟩;obtain⟨v,hv,hd⟩:=(h (k+i) ah).2 j hj;refine⟨v,by simpa only [mG,Nat.add_mul,Nat.add_assoc]using hv,?_⟩;unfold gd;rw [e];exact hd
theorem Xm{c:Co}(hf:c.flat=true)(x:c.den):∀d∈c.row x,d.bY=true:=by
 intro d hd;rw [<-nO 0]at hd
 grind [kH,l7]
def dA.flat{K K2:Nat->Prop}{w:World}{cells:Array Value}{c:Co}(hf:c.flat=true){xs:List c.den}(h:dA K w cells c.size (aW c xs)):dA K2 w cells c.size (aW c xs):=λi hi=>by
 refine⟨(h i hi).1,λj hj=> ?_⟩;obtain⟨v,hv,hd⟩:=(h i hi).2 j hj;refine⟨v,hv,hd.bY _ ?_⟩
 grind [aW,gd,List.getD,tO,default,Xm,List.getElem_mem]
def Tw{m:Nat}{h:List aU}(nm:Nat->Nat){i:Nat}{k:SkO}{s s':ES (std m)}(hk:PK (std m) h i k s=some s')(old:aU)(hold:Gone [old] 0):
  ∃new o2,s'.lv=new.reverse++s.lv/\ELe s s'/\(∀rest,WQ aJ nm old k (new++rest)=some (o2,rest))/\∀e,ELe s' e->OF e h nm i k old o2:=by
 cases k with
 | gone=>
  have:s'=s:=by simp_all [PK]
  subst this;obtain⟨c,n,ho⟩:=hold;simp at ho;subst ho;exact⟨[],_,rfl,.refl _,λrest=>rfl,λe he=>⟨λ_ _ _ h=>absurd rfl h,λh=>absurd rfl h,λ_=>rfl,λh=>absurd rfl h,λh=>absurd rfl h,λ_ _ _ _ _=>⟨.gone,.gone,trivial,λ_=>rfl,λ_ h=>absurd rfl h⟩⟩⟩
 | box k=>
  rcases hr:s.ren[i]? with _ | _ | _ | l<;>simp only [PK,hr,reduceCtorEq]at hk
  ·
   split at hk
   .rename_i v hl;obtain⟨ht,new,q2,a1,a2,a3,t2,st2,a4⟩:=Tv nm hk;refine⟨new,.box q2,a1,a2,λrest=>by grind [WQ],λe he=> ?_⟩;have hre:=he.ren i _ (a2.ren i _ hr);refine⟨λl' sz n _ h1 h2=> ?_,λ_ h1=> ?_,λh=>(by cases h),λ_=>⟨_,hre⟩,λ_ ⟨c,n,hg⟩=>by simp at hg,λ{c w h' fr c2 N2} H HR hck R hfr=> ?_⟩
    .grind [nmh]
    .simp_all
    .obtain⟨o',ho',hO⟩:=HR.old l _ hl;cases hO with | box hF=>
     obtain⟨b,vs,E,hm,hb,hrc⟩:=(H.obj l _ ho').2;obtain⟨cs2,q1,q2'⟩:=F2.aiw (a4 H HR he hck R (λh=>hfr h) (F2.wc hrc hF));obtain⟨n1,n2⟩:=R.name i l hre;have k0:trK e h i l=0:=by unfold trK;simp [nmh,hl]
     rw [k0,l8]at n2;exact⟨.box cs2,.box q2',⟨b,vs,E,n2.trans hm,hb,q1⟩,λh=>(by cases h),λl' _ h1=>by rw [hre]at h1;cases h1;exact⟨_,ho',trivial⟩⟩
   .cases hk
 | rows f c=>
  rcases hr:s.ren[i]? with _ | _ | _ | l<;>simp only [PK,hr,reduceCtorEq]at hk
  .cases hk;refine⟨[.l c []],.rows f c [],rfl,.push _ _,λrest=>rfl,λe he=> ?_⟩;have hre:=he.ren i _ (by exact hr);refine⟨λl' sz n _ h1 h2=> ?_,λ_ h1=>⟨c.size,by simp [nmh]⟩,λh=>(by cases h),λ_=>⟨_,hre⟩,λ_ ⟨c,n,hg⟩=>by simp at hg,λ{c0 w h' fr c2 N2} H HR hck R hfr=> ?_⟩
   .simp_all
   .obtain⟨n1,n2,_⟩:=R.nil i hre;refine⟨.rows f c.size (aW c []),.rows λh=>h,?_,λh=>(by cases h),λl' _ h1=>by simp_all⟩;simp only [gq];rw [n2];rfl
  ·
   split at hk
   .rename_i g c' xs hl;split at hk
    .rename_i hcond;obtain⟨rfl,hfg⟩:=hcond;obtain⟨xs2,hx2,hn2,hpre⟩:∃xs2:List c.den,(match kV (std m) s i with | some p=>(std m).sub c xs p.1 ((std m).addN p.1 p.2) | none=>xs)=xs2/\xs2.length=(match kV (std m) s i with | some p=>min ((p.1:Int)+(p.2:Int)).toNat (xs:List c.den).length- (p.1:Int).toNat | none=>(xs:List c.den).length)/\∃q,xs2=((xs:List c.den).take q).drop (match kV (std m) s i with | some p=>(p.1:Int).toNat | none=>0):=by
      cases kV (std m) s i with
      | none=>exact⟨xs,rfl,rfl,(xs:List c.den).length,by simp⟩
      | some p=>exact⟨((xs:List c.den).take ((p.1:Int)+(p.2:Int)).toNat).drop (p.1:Int).toNat,rfl,by simp,_,rfl⟩
     have hs':s'=s.push (std m) (.l c xs2):=by grind
     subst hs';refine⟨[.l c xs2],.rows f c xs2,rfl,.push _ _,λrest=>rfl,λe he=> ?_⟩;have hre:=he.ren i _ (by exact hr);have htr:kV (std m) e i=kV (std m) s i:=he.tr i _ hr;refine⟨λl' sz n _ h1 h2=> ?_,λ_ h1=> ?_,λh=>(by cases h),λ_=>⟨_,hre⟩,λ_ ⟨c,n,hg⟩=>by simp at hg,λ{c0 w h' fr c2 N2} H HR hck R hfr=> ?_⟩
     .grind [eZ,nmh,List.getElem?_cons_zero]
     .simp_all
     .obtain⟨o',ho',hO⟩:=HR.old l _ hl;cases hO with | rows hff=>
      rename_i g';have hro:=(H.obj l _ ho').2;obtain⟨n1,n2⟩:=R.name i l hre;refine⟨.rows f c.size (aW c xs2),.rows λh=>h,?_,λh=>(by cases h),λl' _ h1=>by rw [hre]at h1;cases h1;exact⟨_,ho',trivial⟩⟩;obtain⟨q,hq⟩:=hpre;have hk0:trK e h i l=(match kV (std m) s i with | some p=>(p.1:Int).toNat | none=>0)*c.size:=by
       unfold trK;rw [htr,eZ hl];cases kV (std m) s i<;>simp
      generalize (match kV (std m) s i with | some p=>(p.1:Int).toNat | none=>0)=kk at hq hk0;have hq':aW c xs2=((aW c xs).take q).drop kk:=by rw [hq];simp [aW,List.map_take]
      rw [hk0]at n2;simp only [gq]at hro ⊢;rw [n2];cases hm:c0.ν l with
      | none=>rw [hm]at hro;have hro:aW c xs=[]:=hro;show aW c xs2=[];rw [hq',hro];simp
      | some p=>
       rw [hm]at hro;obtain⟨cells,E,hb,hrow⟩:=hro;refine⟨cells,E,hb,?_⟩;have hrow2:=dA.aix (k:=kk) (dA.pre (n:=q) hrow);rw [<-hq']at hrow2;by_cases Xl:c.flat=true
       .exact dA.flat Xl hrow2
       .have hfg:f=true->g=true:=λh=>by simp_all
        refine hrow2.mono (λb hb=> ?_) λ_ _=>rfl
        cases f with
        | true=>have:=hff (hfg rfl);rw [this]at hb;exact R.kt b hb
        | false=>
         have vU:fr=false:=by grind [SkO.fresh]
         refine R.kf vU b ?_;cases g' with
         | true=>exact R.sub b hb
         | false=>exact hb
    .cases hk
   .cases hk
def sH{m:Nat}{h:List aU}(nm:Nat->Nat)(old:Nat->aU)(hold:∀j,Gone [old j] 0):∀ {ks:List SkO} {i:Nat} {s s':ES (std m)},zP (std m) h i ks s=some s'->
  ∃new os2,s'.lv=new.reverse++s.lv/\ELe s s'/\(∀rest,vM aJ nm old i ks (new++rest)=some (os2,rest))/\os2.length=ks.length/\
   ∀e,ELe s' e->∀(j:Nat) (k:SkO),ks[j]? =some k->∃o2,os2[j]? =some o2/\OF e h nm (i+j) k (old (i+j)) o2
 | [],i,s,s',hk=>by
  simp only [zP,Option.some.injEq]at hk;subst hk;exact⟨[],[],rfl,.refl _,λrest=>rfl,rfl,λe he j k hj=>by simp at hj⟩
 | k::ks,i,s,s',hk=>by
  simp only [zP]at hk;split at hk
  .rename_i s1 h1;obtain⟨new1,o2,a1,a2,a3,a4⟩:=Tw nm h1 (old i) (hold i);obtain⟨new2,os2,b1,b2,b3,b4,b5⟩:=sH nm old hold hk;refine⟨new1++new2,o2::os2,by simp_all,a2.trans b2,λrest=> ?_,by simp [b4],λe he j k' hj=> ?_⟩
   .grind [vM,List.append_assoc]
   .cases j with
    | zero=>simp at hj;subst hj;exact⟨o2,rfl,a4 e (b2.trans he)⟩
    | succ j=>grind
  .cases hk
def zV:∀ {r:List (Option (Option Nat))},distinct (bS r)=true->∀ {i j l:Nat},r[i]? =some (some (some l))->r[j]? =some (some (some l))->i=j
 | [],_,i,j,l,h,_=>by simp at h
 | x::r,hd,i,j,l,hi,hj=>by
  have mem:∀ {r:List (Option (Option Nat))} {i l:Nat},r[i]? =some (some (some l))->l∈bS r:=by
   intro r
   induction r with
   | nil=>simp_all
   | cons x r ih=>
    intro i l h;cases i with
    | zero=>grind [bS]
    | succ i=>
     have:=ih (by simpa using h)
     match x with
     | some (some y)=>simp [bS,this]
     | some none=>simpa [bS]using this
     | none=>simpa [bS]using this
  have hr:distinct (bS r)=true:=by
   match x with
   | some (some y)=>grind [bS,distinct]
   | some none=>simpa [bS]using hd
   | none=>simpa [bS]using hd
  cases i with
  | zero=>grind [bS,distinct,absurd]
  | succ i=>
   cases j with
   | zero=>grind [bS,distinct,absurd]
   | succ j=>
    have:=zV hr (i:=i) (j:=j) (l:=l) (by simpa using hi) (by simpa using hj);omega
theorem sI:∀ {r:List (Option (Option Nat))} {i l:Nat},r[i]? =some (some (some l))->l∈bS r
 | [],i,l,h=>by simp at h
 | x::r,i,l,h=>by
  cases i with
  | zero=>grind [bS]
  | succ i=>
   have:=sI (r:=r) (i:=i) (l:=l) (by simpa using h)
   match x with
   | some (some y)=>simp [bS,this]
   | some none=>simpa [bS]using this
   | none=>simpa [bS]using this
def wR:∀ {r:List (Option (Option Nat))} {l:Nat},l∈bS r->∃i:Nat,r[i]? =some (some (some l))
 | [],l,h=>by simp [bS]at h
 | x::r,l,h=>by
  have up:l∈bS r->∃i:Nat,(x::r)[i]? =some (some (some l)):=λh=>let⟨i,hi⟩:=wR h;⟨i+1,by simpa using hi⟩
  match x with
  | some (some y)=>
   simp only [bS,List.mem_cons]at h;rcases h with rfl | h
   .exact⟨0,rfl⟩
   .exact up h
  | some none=>grind [bS]
  | none=>grind [bS]
def C8:∀ {os:List SkO} {r:List (Option (Option Nat))},sD os r=true->∀ {i:Nat} {v:Option Nat},r[i]? =some (some v)->os[i]? ≠some .gone
 | [],_,_,i,v,_=>by simp
 | o::os,[],_,i,v,h=>by simp at h
 | o::os,x::r,hg,i,v,h=>by
  have ht:sD os r=true:=by
   cases o<;>cases x<;>simp_all [sD]
  cases i with
  | zero=>grind [sD]
  | succ i=>simpa using C8 ht (i:=i) (v:=v) (by simpa using h)
structure aiy{m:Nat}(h:List aU)(e:ES (std m))(os:List SkO):Prop where
 dist:∀ {i j l:Nat},e.ren[i]? =some (some (some l))->e.ren[j]? =some (some (some l))->i=j
 fro:∀l f,(l,f)∈e.fro->(∀i:Nat,e.ren[i]? ≠some (some (some l)))/\∃g c xs,h[l]? =some (.rows g c xs)
 gone:∀ {i:Nat} {v:Option Nat},e.ren[i]? =some (some v)->os[i]? ≠some .gone
def Kc{m:Nat}{h:List aU}{e:ES (std m)}{os:List SkO}(hf:ES.fine (std m) h e os=true):aiy h e os:=by
 unfold ES.fine at hf;simp only [Bool.and_eq_true]at hf;obtain⟨⟨h1,h2⟩,h3⟩:=hf;refine⟨zV h1,λl f hl=> ?_,C8 h3⟩;have:=List.all_eq_true.1 h2 _ hl;simp only [Bool.and_eq_true,Bool.not_eq_true']at this;refine⟨λi hi=> ?_,?_⟩
 .grind [sI]
 .have h4:=this.2;unfold WM at h4;split at h4
  all_goals simp_all
def KX{m:Nat}(e:ES (std m))(ce:Ctx)(fr:Bool)(f:Bool)(b:Nat):Prop:=ce.K (f || fr) b\/∃l g,(l,g)∈e.fro/\ce.μ l=some b/\((f || fr)=true->g=true)
def uI(nm:Nat->Nat)(f:Nat->dx):List Nat->Heap->Heap
 | [],h=>h
 | i::r,h=>(nm i,f i)::uI nm f r h
def Nw{nm:Nat->Nat}{f:Nat->dx}{l:Nat}:∀ {is:List Nat} {h:Heap},(∀i∈is,nm i≠l)->AE.look (uI nm f is h) l=AE.look h l
 | [],_,_=>rfl
 | i::r,h,hn=>by simp only [uI];rw [aj _ _ (hn i (by simp))];exact Nw λj hj=>hn j (List.mem_cons_of_mem _ hj)
def Ny{nm:Nat->Nat}{f:Nat->dx}(P:Nat->Prop)(hinj:∀i j,P i->P j->nm i=nm j->i=j):∀ {is:List Nat} {h:Heap},(∀i∈is,P i)->∀i∈is,AE.look (uI nm f is h) (nm i)=some (f i)
 | [],_,_,i,hi=>by simp at hi
 | j::r,h,hp,i,hi=>by
  simp only [uI];by_cases e:nm j=nm i
  .grind [ay]
  .rw [aj _ _ e];cases hi with
   | head=>exact absurd rfl e
   | tail _ hi=>exact Ny P hinj (λj hj=>hp j (List.mem_cons_of_mem _ hj)) i hi
set_option maxHeartbeats 2000000 in
def yE{m:Nat}{w:World}{ce:Ctx}{he':Heap}{he:List aU}(He:bC ce w he')(HRe:gy he' he){e:ES (std m)}(hck:∀b∈e.ck,b=true){ks:List SkO}(kR:aiy he e ks)(hrl:e.ren.length=ks.length)
  {nm:Nat->Nat} {old:Nat->aU} {os2:List aU} (hlen:os2.length=ks.length) (hof:∀(j:Nat) (k:SkO),ks[j]? =some k->∃o2,os2[j]? =some o2/\OF e he nm j k (old j) o2)
  {cb:Ctx} {hb':Heap} (Hb:bC cb w hb') (fr:Bool) (hfresh:fr=true->ks.all SkO.fresh=true)
  {ν2:Nat->Option (Nat×Nat)} {n2:Nat} (hn2:cb.n<=n2) (hν:∀l,l<cb.n->ν2 l=cb.ν l) (hlt:∀i,i<ks.length->nm i<n2) (hinj:∀i j,i<ks.length->j<ks.length->nm i=nm j->i=j)
  (hname:∀(i l:Nat),e.ren[i]? =some (some (some l))->ν2 (nm i)=E9 (trK e he i l) (ce.ν l)) (hnil:∀(i:Nat),e.ren[i]? =some (some none)->ν2 (nm i)=none)
  {h2:List aU} (hget:∀i,i<ks.length->h2[nm i]? =os2[i]?) (hbR:∀l o,(∀i,i<ks.length->nm i≠l)->h2[l]? =some o->∃o',AE.look hb' l=some o'/\OR (nmh h2) o' o) (hbN:∀l,h2.length<=l->AE.look hb' l=none)
  (sep:∀b,fU cb hb' b->fU ce he' b->False) (alr:∀f b,cb.K f b->fU ce he' b->False) (afq:∀f b,fU cb hb' b->KX e ce fr f b->False):
  ∃(o':Nat->dx),let c2:Ctx:={K:=λf b=>cb.K f b\/KX e ce fr f b,ν:=ν2,n:=n2};let h2':Heap:=uI nm o' (List.range ks.length) hb'
   bC c2 w h2'/\gy h2' h2/\Ren e he ce nm fr c2 (nmh h2)/\(∀b,fU c2 h2' b->fU cb hb' b\/∃(i lq:Nat) (q:dx),e.ren[i]? =some (some (some lq))/\AE.look he' lq=some q/\q.live/\ce.μ lq=some b)/\CLe cb c2/\(∀l,(∀i,i<ks.length->nm i≠l)->AE.look h2' l=AE.look hb' l):=by
 have hμ:∀l,l<cb.n->(ν2 l).map (·.1)=cb.μ l:=λl hl=>by rw [hν l hl];rfl
 have ana:∀(i l:Nat),e.ren[i]? =some (some (some l))->(ν2 (nm i)).map (·.1)=ce.μ l:=λi l hi=>by rw [hname i l hi,Tn];rfl
 have amW:∀(i:Nat),e.ren[i]? =some (some none)->(ν2 (nm i)).map (·.1)=none:=λi hi=>by rw [hnil i hi];rfl
 have als:∀(i:Nat) (o2:aU),i<ks.length->os2[i]? =some o2->nmh h2 (nm i)=nmh [o2] 0:=λi o2 hi ho=>by grind [nmh,List.getElem?_cons_zero]
 have hib:∀(i:Nat) (v:Option (Option Nat)),e.ren[i]? =some v->i<ks.length:=λi v h=>by grind
 have hks:∀i,i<ks.length->∃k,ks[i]? =some k:=λi hi=>⟨ks[i],List.getElem?_eq_getElem hi⟩
 have R:Ren e he ce nm fr {K:=λf b=>cb.K f b\/KX e ce fr f b,ν:=ν2,n:=n2} (nmh h2):={
  kt:=λb hb=> .inr (.inl (by simpa using hb))
  kf:=λhf b hb=> .inr (.inl (by simp_all))
  sub:=He.sub
  aiu:=λb hb=>by
   rcases hb with hb | hb | ⟨l,g,h1,h2,h3⟩
   .exact .inl (Hb.sub b hb)
   .refine .inr (.inl ?_);cases fr with
    | true=>simpa using hb
    | false=>exact He.sub b (by simpa using hb)
   .exact .inr (.inr ⟨l,g,h1,h2,λ_=>h3 (by simp)⟩)
  fro:=λl f hl hf b hb=> .inr (.inr ⟨l,f,hl,hb,λh=>by grind⟩)
  name:=λi l hi=>⟨hlt i (hib i _ hi),hname i l hi⟩
  names:=λi l sz n hi hl=>by
   have hi':=hib i _ hi;obtain⟨k,hk⟩:=hks i hi';obtain⟨o2,q1,q2⟩:=hof i k hk;rw [als i o2 hi' q1];exact q2.s1 l sz n (λe=>kR.gone hi (by rw [hk,e])) hi hl
  nil:=λi hi=>by
   have hi':=hib i _ hi;obtain⟨k,hk⟩:=hks i hi';obtain⟨o2,q1,q2⟩:=hof i k hk;obtain⟨sz,hs⟩:=q2.s2 (λe=>kR.gone hi (by rw [hk,e])) hi;simp_all}
 have hex:∀i,∃o',∀k,ks[i]? =some k->∃o2,os2[i]? =some o2/\OR (nmh h2) o' o2/\gq {K:=λf b=>cb.K f b\/KX e ce fr f b,ν:=ν2,n:=n2} w (nm i) o'/\
   (o'.live->k≠ .gone/\∃v,e.ren[i]? =some (some v)/\∀l,v=some l->∃q,AE.look he' l=some q/\q.live):=by
  intro i;cases hk:ks[i]? with
  | none=>simp_all
  | some k=>
   obtain⟨o2,q1,q2⟩:=hof i k hk;obtain⟨o',r1,r2,r3,r4⟩:=q2.rel He HRe hck R (λh=>List.all_eq_true.1 (hfresh h) k (List.mem_of_getElem? hk));refine⟨o',λk' h=> ?_⟩;cases h;refine⟨o2,q1,r1,r2,λhl=> ?_⟩;have hng:k≠ .gone:=λe=>by rw [r3 e]at hl;exact hl
   obtain⟨v,hv⟩:=q2.live hng
   grind
 obtain⟨o',afs⟩:=Classical.axiomOfChoice hex;refine⟨o',?_⟩;have Nz:∀i,i<ks.length->AE.look (uI nm o' (List.range ks.length) hb') (nm i)=some (o' i):=λi hi=>
  Ny (λi=>i<ks.length) hinj (λi hi=>List.mem_range.1 hi) i (List.mem_range.2 hi)
 have vW:∀l,(∀i,i<ks.length->nm i≠l)->AE.look (uI nm o' (List.range ks.length) hb') l=AE.look hb' l:=λl hl=>Nw λi hi=>hl i (List.mem_range.1 hi)
 have cle:CLe cb {K:=λf b=>cb.K f b\/KX e ce fr f b,ν:=ν2,n:=n2}:=⟨λf b h=> .inl h,hn2,hν⟩;have hlow:∀f b,KX e ce fr f b->b<w.heap.size:=by
  rintro f b (h | ⟨l,g,h1,h2,h3⟩)
  .exact He.low _ b h
  .obtain⟨_,g',c,xs,hl⟩:=kR.fro l g h1;obtain⟨q,hq,hO⟩:=HRe.old l _ hl;cases hO with | rows _=>
   exact(He.obj l _ hq).2.lt trivial h2
 have kind:∀l o,AE.look (uI nm o' (List.range ks.length) hb') l=some o->o.live->∀b,(ν2 l).map (·.1)=some b->
   (∃i q lq,i<ks.length/\nm i=l/\e.ren[i]? =some (some (some lq))/\AE.look he' lq=some q/\q.live/\ce.μ lq=some b)\/((∀i,i<ks.length->nm i≠l)/\AE.look hb' l=some o/\cb.μ l=some b):=by
  intro l o hl hlv b hb;by_cases hx:∃i,i<ks.length/\nm i=l
  .obtain⟨i,hi,rfl⟩:=hx;rw [Nz i hi]at hl;cases hl;obtain⟨k,hk⟩:=hks i hi;obtain⟨o2,q1,q2,q3,q4⟩:=afs i k hk;obtain⟨hng,v,hv,hq⟩:=q4 hlv;cases v with
   | none=>simp_all
   | some lq=>grind
  .have hx':∀i,i<ks.length->nm i≠l:=λi hi h=>hx ⟨i,hi,h⟩
   rw [vW l hx']at hl;exact .inr ⟨hx',hl,by rw [<-hμ l (Hb.obj l o hl).1];exact hb⟩
 refine⟨?_,?_,R,?_,cle,vW⟩
 .refine⟨λl o hl=> ?_,λl o l' o1 b h1 hl1 h2 hl2 hb1 hb2=> ?_,?_,?_,λb hb=>R.aiu b hb⟩
  .by_cases hx:∃i,i<ks.length/\nm i=l
   .grind
   .rw [vW l (λi hi h=>hx ⟨i,hi,h⟩)]at hl;obtain⟨a1,a2⟩:=Hb.obj l o hl;exact⟨Nat.lt_of_lt_of_le a1 hn2,a2.mono cle (λ_ _ _=>rfl) (.refl w) a1 (λ_ _ _=>rfl)⟩
  .rcases kind l o h1 hl1 b hb1 with⟨i,q,lq,hi,rfl,hr,hq,hqv,hm⟩ | ⟨hx,hq,hm⟩
   .rcases kind l' o1 h2 hl2 b hb2 with⟨j,q',lq',hj,rfl,hr',hq',aft,hm'⟩ | ⟨hx',hq',hm'⟩
    .have:=He.inj lq q lq' q' b hq hqv hq' aft hm hm';subst this;rw [kR.dist hr hr']
    .exact(sep b ⟨l',o1,hq',hl2,hm'⟩ ⟨lq,q,hq,hqv,hm⟩).elim
   .rcases kind l' o1 h2 hl2 b hb2 with⟨j,q',lq',hj,rfl,hr',hq',aft,hm'⟩ | ⟨hx',hq',hm'⟩
    .exact(sep b ⟨l,o,hq,hl1,hm⟩ ⟨lq',q',hq',aft,hm'⟩).elim
    .exact Hb.inj l o l' o1 b hq hl1 hq' hl2 hm hm'
  .rintro f b ⟨l,o,hl,hlv,hb⟩ hk;rcases kind l o hl hlv b hb with⟨i,q,lq,hi,rfl,hr,hq,hqv,hm⟩ | ⟨hx,hq,hm⟩
   .rcases hk with hk | hk | ⟨l2,g,k1,k2,k3⟩
    .exact alr f b hk ⟨lq,q,hq,hqv,hm⟩
    .exact He.own _ b ⟨lq,q,hq,hqv,hm⟩ hk
    .obtain⟨hnn,g',c,xs,hl2⟩:=kR.fro l2 g k1;obtain⟨q',hq',hO⟩:=HRe.old l2 _ hl2;cases hO with | rows _=>
     have:=He.inj lq q l2 _ b hq hqv hq' trivial hm k2;simp_all
   .rcases hk with hk | hk
    .exact Hb.own f b ⟨l,o,hq,hlv,hm⟩ hk
    .exact afq f b ⟨l,o,hq,hlv,hm⟩ hk
  .rintro f b (hk | hk)
   .exact Hb.low f b hk
   grind
 .refine⟨λl o hl=> ?_,λl hl=> ?_⟩
  .by_cases hx:∃i,i<ks.length/\nm i=l
   .obtain⟨i,hi,rfl⟩:=hx;obtain⟨k,hk⟩:=hks i hi;obtain⟨o2,q1,q2,q3,q4⟩:=afs i k hk;rw [hget i hi,q1]at hl;cases hl;exact⟨o' i,Nz i hi,q2⟩
   .have hx':∀i,i<ks.length->nm i≠l:=λi hi h=>hx ⟨i,hi,h⟩
    obtain⟨q,a1,a2⟩:=hbR l o hx' hl;exact⟨q,by rw [vW l hx'];exact a1,a2⟩
  .have hx':∀i,i<ks.length->nm i≠l:=λi hi h=>by
    obtain⟨k,hk⟩:=hks i hi;obtain⟨o2,q1,_⟩:=afs i k hk;have:=hget i hi;rw [q1,h]at this;have:=(List.getElem?_eq_some_iff.1 this).1;omega
   rw [vW l hx'];exact hbN l hl
 .rintro b ⟨l,o,hl,hlv,hb⟩;rcases kind l o hl hlv b hb with⟨i,q,lq,hi,rfl,hr,hq,hqv,hm⟩ | ⟨hx,hq,hm⟩
  .exact .inr ⟨i,lq,q,hr,hq,hqv,hm⟩
  .exact .inl ⟨l,o,hq,hlv,hm⟩
def bT{s:Sig}(ct:Ct aJ s):Trans:=λargs h' nn K=>∃(m:Nat) (vs:List SVal) (h:List aU),F2 (PVR (nmh h)) args vs/\gy h' h/\h.length=nn/\
 ∃cr,kg (std m) h s ct vs=some cr/\(∀b∈cr.ck,b=true)/\∃v k,cr.k cr.y=some (v,k)/\
  ∀r h'' j,PVR (nmh k) r v->gy h'' k->jC h' h h'' k cr.touched->k.length=nm nn j->K r h'' j
def lg(C:Calls aJ):fO:=λf=>match C f with | []=>none | l=>some λargs h n K=>∃ct∈l,bT ct.2 args h n K
def Mu{m:Nat}(T:(PV->Heap->Nat->Prop)->Prop)(n:Nat)(h':Heap)(h:List aU)(cr:CR (std m)):Prop:=
 ∃v k,cr.k cr.y=some (v,k)/\(cr.pure=true->k=h/\cr.touched=[])/\
  ∀K,(∀pv h'' j,PVR (nmh k) pv v->gy h'' k->jC h' h h'' k cr.touched->k.length=nm n j->K pv h'' j)->T K
def Ke(E:Tab)(G:fO)(op:Op)(t:Slots)(s:St)(K:PV->Heap->Nat->Prop):Prop:=
 match bQ op with
 | 1=>aX E op t s.h s.n s.k K
 | _=>dw E G op {s with t:=t} K
def Kg{E:Tab}{G:fO}{o:Oper}{t:Slots}{s:St}{K:PV->Heap->Nat->Prop}(h:Ke E G o.op t s K):xu E G o t s K:=by
 unfold Ke at h;unfold xu;split at h<;>rename_i e
 .rw [e];exact .inl h
 .split
  .rename_i e2;exact absurd e2 e
  .exact h
def Mu.aiz{m:Nat}{T:(PV->Heap->Nat->Prop)->Prop}{n:Nat}{h':Heap}{h:List aU}{cr:CR (std m)}{v:SVal}{k:List aU}{td:List Nat}(H:Hv2 T n h' h v k td)(h1:cr.k cr.y=some (v,k))(h2:cr.touched=td)(h3:cr.pure=false):Mu T n h' h cr:=by
 obtain⟨pv,h'',j,q1,q2,q3,q4,q5⟩:=H;exact⟨v,k,h1,λh=>(by rw [h3]at h;cases h),λK hK=>q5 K (hK pv h'' j q1 q2 (by rw [h2];exact q3) q4)⟩
def Tx{X:XT}{E:Tab}(hX:XOK X E){n:Nat}{N:NM}{t:Slots}{e:Nat->Option SVal}(he:EvR X E n N t e):∀ {xs:List Operand} {vs:List SVal},Nh (std n) X e xs=some vs->
  ∃ps,F2 (PVR N) ps vs/\∀K,K ps->iK E t xs K
 | [],vs,h=>by simp only [Nh,Option.some.injEq]at h;subst h;exact⟨[],.nil,λK hK=>hK⟩
 | x::r,vs,h=>by
  simp only [Nh]at h;split at h
  .rename_i v hv;split at h
   .rename_i vs' hvs;cases h;obtain⟨pv,p1,p2⟩:=fE hX he hv;obtain⟨ps,q1,q2⟩:=Tx hX he hvs;exact⟨pv::ps,.cons p2 q1,λK hK=>by unfold iK;rw [p1];exact q2 _ hK⟩
   .cases h
  .cases h
def zW{m:Nat}{h:List aU}{vs:List SVal}{cr:CR (std m)}:∀ {l:List (Sigma (Ct aJ))},zS (std m) h vs l=some cr->∃ct∈l,kg (std m) h ct.1 ct.2 vs=some cr
 | [],hk=>by simp [zS]at hk
 | ⟨s,ct⟩::r,hk=>by
  simp only [zS]at hk;split at hk
  .rename_i x hx;cases hk;exact⟨⟨s,ct⟩,by simp,hx⟩
  .obtain⟨ct',h1,h2⟩:=zW hk;exact⟨ct',List.mem_cons_of_mem _ h1,h2⟩
def Xn{m:Nat}{h:List aU}{s:Sig}{ct:Ct aJ s}{vs:List SVal}{cr:CR (std m)}(hk:kg (std m) h s ct vs=some cr):cr.pure=true->(∀v k,cr.k cr.y=some (v,k)->k=h)/\cr.touched=[]:=by
 unfold kg at hk;split at hk
 .rename_i e1 he1;split at hk
  .rename_i e he;split at hk
   .split at hk
    .rename_i x hx;simp only [Option.some.injEq]at hk;subst hk;intro hp;simp only [Bool.and_eq_true,List.isEmpty_iff,Bool.or_eq_true]at hp;obtain⟨⟨ho,ho'⟩,hbr⟩:=hp;have alu:e.ren=[]:=by
      obtain⟨_,_,_,l1,_⟩:=vV (m:=m) (λi=>i) he1;obtain⟨_,_,_,l2,_⟩:=sH (m:=m) (λi=>i) (λ_=> .gone .i64 0) (λ_=>⟨.i64,0,rfl⟩) he;have:=l2.len.trans l1.len;simp [es0,ho]at this;exact this
     refine⟨λv k hvk=> ?_,?_⟩
     .simp only [ho']at hvk;split at hvk
      .rename_i vs' r hvs;simp only [vM,List.length_nil]at hvk;simp only [Option.some.injEq,Prod.mk.injEq]at hvk;obtain⟨_,rfl⟩:=hvk;have:∀(h:List aU) (l:List Nat),jl (std m) h l []=h:=λh l=>by cases l<;>rfl
       rw [this];split
       .rfl
       .rename_i hnb;rcases hbr with hb | hb
        .exact absurd (by rw [Bool.and_eq_true];exact hb) hnb
        .rw [hb];rfl
      .cases hvk
     .simp only [alu,bS,List.nil_append];split
      .rfl
      .rename_i hnb;rcases hbr with hb | hb
       .exact absurd (by rw [Bool.and_eq_true];exact hb) hnb
       .rw [hb];rfl
    .cases hk
   .cases hk
  .cases hk
 .cases hk
def Xo{X:XT}{E:Tab}(hX:XOK X E){C:Calls aJ}{m:Nat}{s:St}{h:List aU}(H:gy s.h h)(hn:h.length=nm s.n s.k){t:Slots}{e:Nat->Option SVal}(he:EvR X E m (nmh h) t e){op:Op}
  {cr:CR (std m)} (hk:Te (std m) X C e h op=some cr) (hps:∀b∈cr.ck,b=true) (hsome:∃v k,cr.k cr.y=some (v,k)):Mu (λK=>dw E (lg C) op {s with t:=t} K) s.n s.h h cr:=by
 unfold Te at hk;split at hk
 .rename_i c;split at hk
  .rename_i f hf;split at hk
   .rename_i g caps vs hfv hvs;obtain⟨pf,p1,p2⟩:=fE hX he hfv;obtain⟨x,rfl,hc⟩:=p2.cell;cases hc;obtain⟨ps,q1,q2⟩:=Tx hX he hvs;obtain⟨⟨sg,ct⟩,hct,hcr⟩:=zW hk;obtain⟨v,k,hvk⟩:=hsome;refine⟨v,k,hvk,λhp=> ?_,λK hK=> ?_⟩
    .obtain⟨a,b⟩:=Xn hcr hp;exact⟨a v k hvk,b⟩
    .unfold dw;simp only;rw [hf];simp only;unfold jy;simp only;rw [p1];refine q2 _ ?_;have htab:lg C g=some λargs h n K=>∃ct∈C g,bT ct.2 args h n K:=by
      unfold lg;split
      .rename_i hnil;rw [hnil]at hct;cases hct
      .rfl
     rw [htab];refine⟨_,hct,m,vs++caps.map λp=> .c (.pb p.1 p.2 0),h,?_,H,hn,cr,hcr,hps,v,k,hvk,λr h'' j a1 a2 a3 a4=>hK r h'' _ a1 a2 a3 (by rw [a4,Wi])⟩;refine q1.append ?_
     clear hvs hk hcr hfv p1 p2
     induction caps with
     | nil=>exact .nil
     | cons p caps ih=>exact .cons (.ofC .pb) ih
   .cases hk
  .cases hk
 .cases hk
def BD{X:XT}{E:Tab}(hX:XOK X E){C:Calls aJ}{m:Nat}{s:St}{h:List aU}(H:gy s.h h)(hn:h.length=nm s.n s.k){t:Slots}{e:Nat->Option SVal}(he:EvR X E m (nmh h) t e){op:Op}
  {cr:CR (std m)} (hk:Vr (std m) X C e h op=some cr) (hps:∀b∈cr.ck,b=true) (hsome:∃v k,cr.k cr.y=some (v,k)):Mu (Ke E (lg C) op t s) s.n s.h h cr:=by
 unfold Vr at hk;by_cases hcl:bQ op=1
 .have hT:Ke E (lg C) op t s=aX E op t s.h s.n s.k:=by
   funext K;unfold Ke;split
   .rfl
   .rename_i h1;exact absurd hcl h1
  rw [hT]
  clear hT
  split at hk
  case h_2=>rename_i h1;exact absurd hcl h1
  clear hcl
  split at hk
  .rename_i ty p x _;split at hk
   .rename_i pv v hpv hv;split at hk
    .rename_i r hr;have key:∀cr':CR (std m),cr'.ck=r.chk->cr'.k cr'.y=some (r.v,r.h)->cr'.touched=r.touched->cr'.pure=false->cr'=cr->Mu (aX E (.store ty p x) t s.h s.n s.k) s.n s.h h cr:=by
      intro cr' e1 e2 e3 e4 e5;subst e5;have hheap:EP (std m) X e h (.store ty p x)=some r:=by simp only [EP,hpv,hv];exact hr
      exact .aiz (Ka hX H hn he hheap (by rw [<-e1];exact hps)) e2 e3 e4
     split at hk
     .cases hk;exact key _ rfl (by simp only;rw [hr]) rfl rfl rfl
     .cases hk;exact key _ rfl (by simp only;rw [hr]) rfl rfl rfl
     .cases hk;exact key _ rfl (by simp only;rw [hr]) rfl rfl rfl
     .cases hk;exact key _ rfl (by simp only;rw [hr]) rfl rfl rfl
     .cases hk;exact key _ rfl rfl rfl rfl rfl
    .cases hk
   .cases hk
  .split at hk
   .rename_i r hr;have key:∀cr':CR (std m),cr'.ck=r.chk->cr'.k cr'.y=some (r.v,r.h)->cr'.touched=r.touched->cr'.pure=false->cr'=cr->Mu (aX E op t s.h s.n s.k) s.n s.h h cr:=by
     intro cr' e1 e2 e3 e4 e5;subst e5;exact .aiz (Ka hX H hn he hr (by rw [<-e1];exact hps)) e2 e3 e4
    split at hk
    .rename_i l hrv;split at hk
     .rename_i f c xs hl;cases hk;refine key _ rfl ?_ rfl rfl rfl;simp only;have:r.h.set l (.rows f c xs)=r.h:=by
       apply List.ext_getElem?;intro i;rw [List.getElem?_set];split
       .rename_i e1;subst e1;rw [hl];split
        .rfl
        .rename_i hh;exact absurd (List.getElem?_eq_some_iff.1 hl).1 hh
       .rfl
      rw [this]
     .cases hk
    .cases hk;exact key _ rfl rfl rfl rfl rfl
   .cases hk
 .have hT:Ke E (lg C) op t s=λK=>dw E (lg C) op {s with t:=t} K:=by
   funext K;unfold Ke;split
   .rename_i h1;exact absurd h1 hcl
   .rfl
  have hk:Te (std m) X C e h op=some cr:=by
   revert hk;split
   .rename_i h1;exact absurd h1 hcl
   .exact id
  obtain⟨a,b,c,d,e⟩:=Xo hX H hn he hk hps hsome;rw [hT];exact⟨a,b,c,d,e⟩
section
variable {n:Nat}
def yF(gs:List (GE (std n)))(t':Slots)(N:NM)(i:Nat)(sv:SV (std n)):Prop:=match sv.tag with
 | none=>∃pv,aA t' i=some pv/\PVR N pv sv.v
 | some t=>∃e,gs[t]? =some e/\(e.g=true->∃pv,aA t' i=some pv/\PVR N pv sv.v)/\(e.g=false->aA t' i=some nC)
structure GOK(gs:List (GE (std n)))(t':Slots)(e:GE (std n)):Prop where
 yes:∀d,e.slot=some d->e.g=true->∃f,aA t' d=some (.c (.d f (.bool e.want)))
 no:∀d,e.slot=some d->e.g=false->(∃f,aA t' d=some (.c (.d f (.bool (!e.want)))))\/aA t' d=some nC
 dead:e.dead=true->e.g=false
 par:∀p,e.par=some p->∃q,gs[p]? =some q/\(e.g=true->q.g=true)
structure SR(s':St)(s:RSt (std n)):Prop where
 heap:gy s'.h s.h
 len:s.h.length=nm s'.n s'.k
 m:s'.m=s.m
 val:∀i sv,eP (std n) s.t i=some sv->yF s.gs s'.t (nmh s.h) i sv
 gs:∀(t:Nat) (e:GE (std n)),s.gs[t]? =some e->GOK s.gs s'.t e
def Keep(k:Nat)(h0 h:List aU):Prop:=∀i,i<k->(Gone h0 i->Gone h i)/\∀x,nmh h0 i=some x->Gone h i\/nmh h i=some x
theorem Keep.refl(k:Nat)(h:List aU):Keep k h h:=λ_ _=>⟨id,λ_ h=> .inr h⟩
theorem Keep.trans{k:Nat}{a b c:List aU}(x:Keep k a b)(y:Keep k b c):Keep k a c:=λi hi=>
 ⟨λh=>(y i hi).1 ((x i hi).1 h),λv hv=>((x i hi).2 v hv).elim (λh=> .inl ((y i hi).1 h)) λh=>(y i hi).2 v h⟩
theorem jC.mP{a' b':Heap}{a b:List aU}{td:List Nat}(x:jC a' a b' b td)(k:Nat):Keep k a b:=λi _=>⟨x.gone i,λv hv=> .inr (x.same i v hv)⟩
theorem qj{d i:Nat}{sv:SV (std n)}{t:List (Nat×SV (std n))}:eP (std n) ((d,sv)::t) i=if d=i then some sv else eP (std n) t i:=by
 simp only [eP,beq_iff_eq]
theorem yF.mono{gs gs2:List (GE (std n))}{t' t2:Slots}{N M:NM}{i:Nat}{sv:SV (std n)}(h:yF gs t' N i sv)(hg:∀(t:Nat) (e:GE (std n)),gs[t]? =some e->∃e2,gs2[t]? =some e2/\e2.g=e.g)(hl:aA t2 i=aA t' i)(hN:∀l x,N l=some x->M l=some x):yF gs2 t2 M i sv:=by
 unfold yF at h ⊢;cases hs:sv.tag with
 | none=>
  rw [hs]at h;simp only at h ⊢;obtain⟨pv,h1,h2⟩:=h;exact⟨pv,by rw [hl];exact h1,h2.mono hN⟩
 | some t=>
  rw [hs]at h;simp only at h ⊢;obtain⟨e,h1,h2,h3⟩:=h;obtain⟨e2,h4,h5⟩:=hg t e h1;refine⟨e2,h4,λh=> ?_,λh=>by simp_all⟩;obtain⟨pv,q1,q2⟩:=h2 (h5▸h);exact⟨pv,by rw [hl];exact q1,q2.mono hN⟩
theorem nU(d:Nat)(e:GE (std n)):(oQ (std n) d e).g=e.g:=by grind [oQ]
theorem tT{d:Nat}{e:GE (std n)}{x:Nat}(h:(oQ (std n) d e).slot=some x):e.slot=some x/\x≠d:=by grind [oQ]
theorem ko(d:Nat)(e:GE (std n)):(oQ (std n) d e).want=e.want/\(oQ (std n) d e).par=e.par/\(oQ (std n) d e).dead=e.dead:=by grind [oQ]
theorem SR.put{s':St}{s:RSt (std n)}(S:SR s' s){d:Option Nat}{tag:Option Nat}{v:SVal}{ov:Option PV}
  (hv:match tag with
   | none=>∃pv,ov=some pv/\PVR (nmh s.h) pv v
   | some t=>∃e,s.gs[t]? =some e/\(e.g=true->∃pv,ov=some pv/\PVR (nmh s.h) pv v)/\(e.g=false->ov=some nC)):SR (s'.put d ov) (s.put (std n) d tag v):=by
 cases d with
 | none=>exact S
 | some d=>
  have hg:∀(t:Nat) (e:GE (std n)),s.gs[t]? =some e->∃e2,(s.gs.map (oQ (std n) d))[t]? =some e2/\e2.g=e.g:=λt e h=>⟨oQ (std n) d e,by simp [h],nU d e⟩
  refine⟨S.heap,S.len,S.m,λi sv hi=> ?_,λt e he=> ?_⟩
  .simp only [RSt.put]at hi;rw [qj]at hi;split at hi
   .rename_i e;subst e;cases hi;unfold yF;cases tag with
    | none=>
     obtain⟨pv,h1,h2⟩:=hv;exact⟨pv,by grind [St.put,jG],h2⟩
    | some t=>
     obtain⟨e,h1,h2,h3⟩:=hv;obtain⟨e2,h4,h5⟩:=hg t e h1;refine⟨e2,h4,λh=> ?_,λh=> ?_⟩
     .obtain⟨pv,q1,q2⟩:=h2 (h5▸h);exact⟨pv,by grind [St.put,jG],q2⟩
     grind [St.put,jG]
   .rename_i e;exact(S.val i sv hi).mono hg (by grind [St.put,jG]) (λ_ _ h=>h)
  .simp only [RSt.put,List.getElem?_map,Option.map_eq_some_iff]at he;obtain⟨e0,h0,rfl⟩:=he;have G:=S.gs t e0 h0;have hl:∀x,x≠d->aA (St.put s' (some d) ov).t x=aA s'.t x:=λx hx=>by grind [St.put,jG]
   refine⟨λx hx hgt=> ?_,λx hx hgf=> ?_,λhd=> ?_,λp hp=> ?_⟩
   .obtain⟨a,b⟩:=tT hx;rw [hl x b,(ko d e0).1];exact G.yes x a (by grind [nU])
   .obtain⟨a,b⟩:=tT hx;rw [hl x b,(ko d e0).1];exact G.no x a (by grind [nU])
   .rw [nU];exact G.dead (by grind [ko])
   .obtain⟨q,h1,h2⟩:=G.par p (by grind [ko])
    grind [oQ,RSt.put,nU]
theorem tV{d i:Nat}:∀ {t:List (Nat×SV (std n))} {sv:SV (std n)},eP (std n) (t.filter λp=> !(p.1==d)) i=some sv->i≠d/\eP (std n) t i=some sv
 | [],_,h=>by cases h
 | (j,x)::r,sv,h=>by
  by_cases c:j=d
  .subst c;rw [List.filter_cons_of_neg (by simp)]at h;obtain⟨h1,h2⟩:=tV h
   grind [qj]
  .rw [List.filter_cons_of_pos (by simpa using c),qj]at h;rw [qj];split at h
   .simp_all
   .rename_i e;rw [if_neg e];exact tV h
theorem SR.del{s':St}{s:RSt (std n)}(S:SR s' s){d:Option Nat}:SR (s'.put d none) (s.del (std n) d):=by
 cases d with
 | none=>exact S
 | some d=>
  have hg:∀(t:Nat) (e:GE (std n)),s.gs[t]? =some e->∃e2,(s.gs.map (oQ (std n) d))[t]? =some e2/\e2.g=e.g:=λt e h=>⟨oQ (std n) d e,by simp [h],nU d e⟩
  refine⟨S.heap,S.len,S.m,λi sv hi=> ?_,λt e he=> ?_⟩
  .simp only [RSt.del]at hi;obtain⟨e,hi⟩:=tV hi;exact(S.val i sv hi).mono hg (by grind [St.put,jG]) (λ_ _ h=>h)
  .simp only [RSt.del,List.getElem?_map,Option.map_eq_some_iff]at he;obtain⟨e0,h0,rfl⟩:=he;have G:=S.gs t e0 h0;have hl:∀x,x≠d->aA (St.put s' (some d) none).t x=aA s'.t x:=λx hx=>by grind [St.put,jG]
   refine⟨λx hx hgt=> ?_,λx hx hgf=> ?_,λhd=> ?_,λp hp=> ?_⟩
   .obtain⟨a,b⟩:=tT hx;rw [hl x b,(ko d e0).1];exact G.yes x a (by grind [nU])
   .obtain⟨a,b⟩:=tT hx;rw [hl x b,(ko d e0).1];exact G.no x a (by grind [nU])
   .rw [nU];exact G.dead (by grind [ko])
   .obtain⟨q,h1,h2⟩:=G.par p (by grind [ko])
    grind [oQ,RSt.del,nU]
theorem aiA{s:RSt (std n)}{d:Option Nat}:(s.del (std n) d).h=s.h/\(s.del (std n) d).m=s.m:=by cases d<;>exact⟨rfl,rfl⟩
theorem SR.yG{s':St}{s:RSt (std n)}(S:SR s' s){h'':Heap}{k:List aU}{j:Nat}(hs:Same s.h k)(hR:gy h'' k)(hl:k.length=nm s'.n j):SR {s' with h:=h'',k:=j} {s with h:=k}:=
 ⟨hR,hl,S.m,λi sv hi=>(S.val i sv hi).mono (λ_ e h=>⟨e,h,rfl⟩) rfl hs,S.gs⟩
theorem Fb:∀ {gs:List (GE (std n))} {d:Nat} {w:Bool} {i t:Nat},jJ (std n) gs d w i=some t->∃e,i<=t/\gs[t-i]? =some e/\e.slot=some d/\e.want=w
 | [],_,_,_,_,h=>by simp [jJ]at h
 | e::r,d,w,i,t,h=>by
  simp only [jJ]at h;split at h
  .simp_all
  .obtain⟨e',h1,h2,h3⟩:=Fb h
   grind
theorem zY{gs:List (GE (std n))}{d:Nat}{w:Bool}{t:Nat}(h:jJ (std n) gs d w 0=some t):∃e,gs[t]? =some e/\e.slot=some d/\e.want=w:=by
 obtain⟨e,_,h2,h3⟩:=Fb h;simp_all
theorem qR{gs:List (GE (std n))}{t':Slots}(hg:∀(t:Nat) (e:GE (std n)),gs[t]? =some e->GOK gs t' e):∀ {f:Nat} {o:Option Nat},(∀t,o=some t->∃e,gs[t]? =some e/\e.g=true)->∀t∈PN (std n) gs f o,∃e,gs[t]? =some e/\e.g=true
 | 0,_,_,t,ht=>by simp [PN]at ht
 | _+1,none,_,t,ht=>by simp [PN]at ht
 | f+1,some x,h,t,ht=>by
  simp only [PN,List.mem_cons]at ht;rcases ht with rfl | ht
  .exact h t rfl
  .obtain⟨e,h1,h2⟩:=h x rfl;rw [h1]at ht;refine qR hg (o:=e.par) (λp hp=> ?_) t ht;obtain⟨q,q1,q2⟩:=(hg x e h1).par p hp;simp_all
theorem sJ{X:XT}{E:Tab}{gs:List (GE (std n))}{t' tt:Slots}{N:NM}{lk:Nat->Option (SV (std n))}(htt:∀d,(lk d).isSome->aA tt d=aA t' d)(hv:∀i sv,lk i=some sv->yF gs t' N i sv){al:List Nat}(hal:∀t∈al,∃e,gs[t]? =some e/\e.g=true):
  EvR X E n N tt (iO (std n) lk al):=by
 intro i v hi;unfold iO at hi;split at hi
 .rename_i v' hl;cases hi;rw [htt i (by rw [hl];rfl)];exact hv i _ hl
 .rename_i t v' hl;split at hi
  .rename_i hc;cases hi;obtain⟨e,h1,h2⟩:=hal t (by simpa using hc);obtain⟨e',h3,h4,_⟩:=hv i _ hl;simp_all
  .cases hi
 .cases hi
theorem ig{ρ:Type}{Q:ρ->Prop}:∀ {ps:List Bool} {mm:(ρ->Prop)->Prop},jc (std n) ps mm Q->(∀b∈ps,b=true)/\mm Q
 | [],mm,h=>⟨λ_ h=>by simp at h,h⟩
 | b::ps,mm,h=>by
  obtain⟨hb,h⟩:b=true/\jc (std n) ps mm Q:=h;obtain⟨h1,h2⟩:=ig (ps:=ps) h;simp_all
theorem zZ{g:Bool}{ps:List Bool}(h:∀b∈under (std n) g ps,b=true)(hg:g=true):∀b∈ps,b=true:=λb hb=>by
 have:=h (!g || b) (List.mem_map.2 ⟨b,hb,rfl⟩);simp_all
theorem DU{ρ:Type}(op:Op)(v:SVal)(K:SVal->(ρ->Prop)->Prop):Tf (std n) op v K=K v:=by
 unfold Tf;split
 .split<;>rfl
 .rfl
theorem BF{ρ:Type}{cr:CR (std n)}{K:SVal->List aU->(ρ->Prop)->Prop}{Q:ρ->Prop}(h:uF (std n) cr K Q):∃v k,cr.k cr.y=some (v,k)/\K v k Q:=by
 obtain⟨ck,ts,y,k,td,p⟩:=cr;unfold uF at h;cases ts with
 | nil=>
  simp only at h ⊢;cases hk:k y with
  | none=>simp_all
  | some x=>rw [hk]at h;grind
 | cons a b=>
  simp only at h ⊢;cases hk:k y with
  | none=>simp_all
  | some x=>rw [hk]at h;grind
theorem wS{X:XT}{E:Tab}(hX:XOK X E){h':Heap}{h:List aU}(H:gy h' h){gs:List (GE (std n))}{t' tt:Slots}(hg:∀(t:Nat) (e:GE (std n)),gs[t]? =some e->GOK gs t' e)
  {lk:Nat->Option (SV (std n))} (htt:∀d,(lk d).isSome->aA tt d=aA t' d) (hv:∀i sv,lk i=some sv->yF gs t' (nmh h) i sv) {cur:Option Nat} (hcur:∀t,cur=some t->∃e,gs[t]? =some e/\e.g=true) {op:Op} {v:SVal} {ps:List Bool}
  (hk:vN (std n) X lk gs h cur op=some (ps,v)) (hps:∀b∈ps,b=true):Gv (aH E op tt h') (nmh h) v:=by
 have hal:=qR hg hcur (f:=gs.length+1);have he:EvR X E n (nmh h) tt (iO (std n) lk (gu (std n) gs cur)):=sJ htt hv hal;unfold vN at hk;split at hk
 .rename_i c a b;simp only at hk;split at hk
  .rename_i fq q hc;obtain⟨pc,c1,c2⟩:=fE hX he hc;obtain⟨g,rfl⟩:=c2.bool;have halt:∀w,q=w->∀t∈(match c with | .tmp d=>(match jJ (std n) gs d w 0 with | some t=>gu (std n) gs (some t)++gu (std n) gs cur | none=>gu (std n) gs cur) | _=>gu (std n) gs cur),∃e,gs[t]? =some e/\e.g=true:=by
    intro w hw t ht;split at ht
    .rename_i d;split at ht
     .rename_i t0 hf;obtain⟨e,e1,e2,e3⟩:=zY hf;rcases List.mem_append.1 ht with ht | ht
      .refine qR hg (λx hx=> ?_) t ht;cases hx;refine⟨e,e1,?_⟩;cases hgg:e.g with
       | true=>rfl
       | false=>
        have hls:(lk d).isSome:=by
         have hc':iO (std n) lk (gu (std n) gs cur) d=some (.c (.d fq (.bool q))):=hc
         grind [iO]
        have hd:aA t' d=some (.c (.d g (.bool q))):=by rw [<-htt d hls];exact c1
        rcases(hg t0 e e1).no d e2 hgg with⟨f,hh⟩ | hh
        all_goals grind [Option.some.injEq,PV.c.injEq,Cell.d.injEq,D.bool.injEq,nC]
      .exact hal t ht
     .exact hal t ht
    .exact hal t ht
   have hea:q=true->∀ {v},evX (std n) X (iO (std n) lk (match c with | .tmp d=>(match jJ (std n) gs d true 0 with | some t=>gu (std n) gs (some t)++gu (std n) gs cur | none=>gu (std n) gs cur) | _=>gu (std n) gs cur)) a=some v->∃pv,ev E tt a=some pv/\PVR (nmh h) pv v:=
    λhq v hva=>fE hX (sJ htt hv (halt true hq)) hva
   have heb:q=false->∀ {v},evX (std n) X (iO (std n) lk (match c with | .tmp d=>(match jJ (std n) gs d false 0 with | some t=>gu (std n) gs (some t)++gu (std n) gs cur | none=>gu (std n) gs cur) | _=>gu (std n) gs cur)) b=some v->∃pv,ev E tt b=some pv/\PVR (nmh h) pv v:=
    λhq v hva=>fE hX (sJ htt hv (halt false hq)) hva
   have fin:∀pv,PVR (nmh h) pv v->(q=true->ev E tt a=some pv)->(q=false->ev E tt b=some pv)->Gv (aH E (.pick c a b) tt h') (nmh h) v:=by
    intro pv h1 h2 h3;refine⟨pv,h1,λK hK=> ?_⟩;unfold aH;simp only;rw [c1];exact⟨λhq=>jB (h2 hq) _ hK,λhq=>jB (h3 hq) _ hK⟩
   split at hk
   .rename_i y hx hy;cases hk;have hq:q=false:=by simp_all
    grind
   .rename_i x hx hy;cases hk;have hq:q=true:=by simp_all
    grind
   .rename_i x y hx hy _ _;unfold M8 at hk;split at hk
    .rename_i z hz;cases hk;cases hq:q with
     | true=>
      obtain⟨pv,p1,p2⟩:=hea hq ‹_›;have:=Np (N:=nmh h) (px:=pv) (py:=pv) (q:=q) (λ_=>p2) (λh=>by simp_all) hz
      grind
     | false=>
      obtain⟨pv,p1,p2⟩:=heb hq ‹_›;have:=Np (N:=nmh h) (px:=pv) (py:=pv) (q:=q) (λh=>by simp_all) (λ_=>p2) hz;rw [hq]at this;exact fin pv this (λh=>by rw [hq]at h;cases h) λ_=>p1
    .cases hk
   .cases hk
  .cases hk
 .exact Xd hX H he hk hps
inductive GM (s':St) (s:RSt (std n)) (tt:Slots) (d:Nat) (want:Bool):GR (std n)->Prop
 | skip:(∀T F:Prop,F->nL (aA tt d) want T F)->GM s' s tt d want .skip
 | run {gs:List (GE (std n))} {t:Nat} {g:Bool} {e:GE (std n)}:SR s' {s with gs:=gs}->gs[t]? =some e->e.g=g->(∀i sv,eP (std n) s.t i=some sv->yF gs s'.t (nmh s.h) i sv)->
  (g=true->∀T F:Prop,T->nL (aA tt d) want T F)->(g=false->∀T F:Prop,F->nL (aA tt d) want T F)->GM s' s tt d want (.run gs t g)
theorem Fe{s':St}{s:RSt (std n)}(S:SR s' s){lk:Nat->Option (SV (std n))}(hlk:∀i sv,lk i=some sv->eP (std n) s.t i=some sv){tt:Slots}{d:Nat}{want:Bool}(htt:(lk d).isSome->aA tt d=aA s'.t d){r:GR (std n)}(hr:ET (std n) lk s.gs d want=r)(hb:r≠ .bad):
    GM s' s tt d want r:=by
  unfold ET at hr;split at hr
  · exact absurd hr.symm hb
  · rename_i tg v hd;have hL:=htt (by rw [hd];rfl);have hval:=S.val d _ (hlk d _ hd);split at hr
    · rename_i t hf;obtain⟨e,e1,e2,e3⟩:=zY hf;rw [e1]at hr;simp only at hr;have G:=S.gs t e e1;have hT:e.g=true->∀T F:Prop,T->nL (aA tt d) want T F:=λhg T F hT=>by
        obtain⟨f,hl⟩:=G.yes d e2 hg;rw [hL,hl,e3];exact fG (λ_=>hT) (λh=>absurd rfl h)
      have hF:e.g=false->∀T F:Prop,F->nL (aA tt d) want T F:=λhg T F hF=>by
        rcases G.no d e2 hg with⟨f,hl⟩ | hl
        · rw [hL,hl,e3];exact fG (λh=>by cases want<;>simp at h) (λ_=>hF)
        · rw [hL,hl];exact hF
      split at hr
      · rename_i aiB;subst hr;exact .skip (hF (G.dead aiB))
      · subst hr;exact .run S e1 rfl S.val hT hF
    · split at hr
      · rename_i f b;obtain⟨b,rfl⟩:∃b':Bool,b'=b:=⟨b,rfl⟩;have hg0:(if want then b else !b)=(b==want):=by cases want<;>cases b<;>rfl
        simp only at hr;have ext:∀(e:GE (std n)) (gs:List (GE (std n))),gs=s.gs++ [e]->GOK gs s'.t e->SR s' {s with gs:=gs}/\(∀i sv,eP (std n) s.t i=some sv->yF gs s'.t (nmh s.h) i sv)/\gs[s.gs.length]? =some e:=by
          intro e gs hgs hG;subst hgs;have hmono:∀(t:Nat) (x:GE (std n)),s.gs[t]? =some x->(s.gs++ [e])[t]? =some x:=λt x hx=>by rw [List.getElem?_append_left (List.getElem?_eq_some_iff.1 hx).1];exact hx
          have sK:∀i sv,eP (std n) s.t i=some sv->yF (s.gs++ [e]) s'.t (nmh s.h) i sv:=λi sv hi=>(S.val i sv hi).mono (λt x hx=>⟨x,hmono t x hx,rfl⟩) rfl (λ_ _ h=>h)
          refine⟨⟨S.heap,S.len,S.m,sK,λt x hx=> ?_⟩,sK,by simp⟩;by_cases hlt:t<s.gs.length
          · simp only at hx;rw [List.getElem?_append_left hlt]at hx;have G:=S.gs t x hx;exact⟨G.yes,G.no,G.dead,λp hp=>let⟨q,q1,q2⟩:=G.par p hp;⟨q,hmono p q q1,q2⟩⟩
          · simp only at hx;rw [List.getElem?_append_right ah]at hx;have:t-s.gs.length=0:=by
              have:=(List.getElem?_eq_some_iff.1 hx).1;simp at this;omega
            rw [this]at hx;simp at hx;subst hx;exact hG
        split at hr
        · subst hr;obtain⟨pv,p1,p2⟩:=hval;obtain⟨g,rfl⟩:=p2.bool;have hG:GOK (s.gs++ [⟨some d,want,none,if want then b else !b,false⟩]) s'.t ⟨some d,want,none,if want then b else !b,false⟩:=by
            refine⟨λx hx hgt=> ?_,λx hx hgf=> ?_,λh=>(by cases h),λp hp=>(by cases hp)⟩
            · cases hx;have hgt:(if want then b else !b)=true:=hgt;rw [hg0]at hgt
              exact ⟨g, by rw [p1]; have : b = want := by simpa using hgt
                           rw [this]⟩
            · cases hx;have hgf:(if want then b else !b)=false:=hgf;rw [hg0]at hgf;refine .inl ⟨g,?_⟩;rw [p1];have:b= !want:=by cases b<;>cases want<;>simp_all
              rw [this]
          obtain⟨q1,q2,q3⟩:=ext ⟨some d,want,none,if want then b else !b,false⟩ _ rfl hG;refine .run q1 q3 rfl q2 (λhg T F hT=> ?_) (λhg T F hF=> ?_)
          · rw [hL,p1];refine fG (λ_=>hT) (λh=> ?_);have hg:(if want then b else !b)=true:=hg;rw [hg0]at hg;exact absurd (by simpa using hg) h
          · rw [hL,p1];refine fG (λh=> ?_) (λ_=>hF);have hg:(if want then b else !b)=false:=hg;rw [hg0,h]at hg;simp at hg
        · rename_i t';split at hr
          · rename_i e0 he0;subst hr;obtain⟨e0',h3,h4,h5⟩:=hval;rw [he0]at h3;cases h3;have hboth:e0.g=true->∃g,aA s'.t d=some (.c (.d g (.bool b))):=λhg=>by
              obtain⟨pv,p1,p2⟩:=h4 hg;obtain⟨g,rfl⟩:=p2.bool;exact⟨g,p1⟩
            have hT:(e0.g&& (if want then b else !b))=true->∃g,aA s'.t d=some (.c (.d g (.bool want))):=λh=>by
              simp only [Bool.and_eq_true]at h;obtain⟨g,hh⟩:=hboth h.1;have:=h.2;rw [hg0]at this
              exact ⟨g, by rw [hh]; have : b = want := by simpa using this
                           rw [this]⟩
            have hF:(e0.g&& (if want then b else !b))=false->(∃g,aA s'.t d=some (.c (.d g (.bool (!want)))))\/aA s'.t d=some nC:=λh=>by
              cases hg:e0.g with
              | false=>exact .inr (h5 hg)
              | true=>
                rw [hg]at h;simp only [Bool.true_and]at h;rw [hg0]at h;obtain⟨g,hh⟩:=hboth hg;refine .inl ⟨g,?_⟩;rw [hh];have:b= !want:=by cases b<;>cases want<;>simp_all
                rw [this]
            have hG:GOK (s.gs++ [⟨some d,want,some t',e0.g&& (if want then b else !b),false⟩]) s'.t ⟨some d,want,some t',e0.g&& (if want then b else !b),false⟩:=by
              refine⟨λx hx hgt=> ?_,λx hx hgf=> ?_,λh=>(by cases h),λp hp=> ?_⟩
              · cases hx;exact hT hgt
              · cases hx;exact hF hgf
              · cases hp;refine⟨e0,by rw [List.getElem?_append_left (List.getElem?_eq_some_iff.1 he0).1];exact he0,λh=> ?_⟩;have h:(e0.g&& (if want then b else !b))=true:=h;simp only [Bool.and_eq_true]at h;exact h.1
            obtain⟨q1,q2,q3⟩:=ext ⟨some d,want,some t',e0.g&& (if want then b else !b),false⟩ _ rfl hG;refine .run q1 q3 rfl q2 (λhg T F hTT=> ?_) (λhg T F hFF=> ?_)
            · obtain⟨g,hh⟩:=hT hg;rw [hL,hh];exact fG (λ_=>hTT) (λh=>absurd rfl h)
            · rcases hF hg with⟨g,hh⟩ | hh
              · rw [hL,hh];exact fG (λh=>by cases want<;>simp at h) (λ_=>hFF)
              · rw [hL,hh];exact hFF
          · exact absurd hr.symm hb
      · split at hr
        · subst hr;obtain⟨pv,p1,p2⟩:=hval;have:pv=nC:=by
            cases p2 with
            | one h=>cases h with
              | agg hs _=>simp [bR]at hs
            | tup h=>cases h;rfl
          subst this;exact .skip λT F hF=>by rw [hL,p1];exact hF
        · exact absurd hr.symm hb
      · exact absurd hr.symm hb
end
end Go.TX
namespace Go.TX
open Go Go.AE
section
variable {n:Nat}
theorem SR.kill{s':St}{s:RSt (std n)}(S:SR s' s){t:Nat}{e:GE (std n)}(he:s.gs[t]? =some e)(hg:e.g=false):SR s' {s with gs:=zR (std n) s.gs t}:=by
 have hk:zR (std n) s.gs t=s.gs.set t {e with dead:=true}:=by unfold zR;rw [he]
 have hl:=(List.getElem?_eq_some_iff.1 he).1;have hmono:∀(i:Nat) (x:GE (std n)),s.gs[i]? =some x->∃x2,(s.gs.set t {e with dead:=true})[i]? =some x2/\x2.g=x.g:=λi x hx=>by
  by_cases h:t=i
  .subst h;rw [he]at hx;cases hx;exact⟨_,List.getElem?_set_self hl,rfl⟩
  .exact⟨x,by rw [List.getElem?_set_ne h];exact hx,rfl⟩
 rw [hk];refine⟨S.heap,S.len,S.m,λi sv hi=>(S.val i sv hi).mono hmono rfl (λ_ _ h=>h),λi x hx=> ?_⟩;have par:∀ {x:GE (std n)},(∀p,x.par=some p->∃q,s.gs[p]? =some q/\(x.g=true->q.g=true))->∀p,x.par=some p->∃q,(s.gs.set t {e with dead:=true})[p]? =some q/\(x.g=true->q.g=true):=λh p hp=>by
  obtain⟨q,q1,q2⟩:=h p hp;obtain⟨q',r1,r2⟩:=hmono p q q1;exact⟨q',r1,λh=>by rw [r2];exact q2 h⟩
 by_cases h:t=i
 .subst h;simp only [List.getElem?_set_self hl,Option.some.injEq]at hx;subst hx;have G:=S.gs t e he;exact⟨G.yes,G.no,λ_=>hg,par G.par⟩
 .simp only [List.getElem?_set_ne h]at hx;have G:=S.gs i x hx;exact⟨G.yes,G.no,G.dead,par G.par⟩
theorem Fg{E:Tab}{G:fO}{o:Oper}{s:St}{K:St->Prop}(h:bQ o.op≠0)(hd:dOK s.m o.dst)(hm:Ke E G o.op s.t s λv h k=>K (St.put {s with h:=h,k:=k} o.dst (some v))):Em E G o s K:=by
 refine⟨hd,?_⟩;unfold Ke at hm;split
 .rename_i h0;exact absurd h0 h
 .rename_i h1;rw [h1]at hm;exact .inl hm
 .rename_i h0 h1;split at hm
  .rename_i h2;exact absurd h2 h1
  .exact hm
theorem I5{E:Tab}{G:fO}{o:Oper}{s:St}{K:St->Prop}(h:bQ o.op=0)(hd:dOK s.m o.dst)(hm:aH E o.op s.t s.h λv=>K (s.put o.dst (some v))):Em E G o s K:=by
 refine⟨hd,?_⟩;rw [h];exact hm
theorem Xp{m:Nat}{d:Option Nat}(h:Td m d=true):dOK m d:=by
 cases d with
 | none=>trivial
 | some d=>unfold Td at h;exact(by simpa using h:d<m)
theorem adD{s:RSt (std n)}{d tag:Option Nat}{v:SVal}:(s.put (std n) d tag v).h=s.h/\(s.put (std n) d tag v).m=s.m:=by cases d<;>exact⟨rfl,rfl⟩
theorem Xq{N:NM}:PVR N nC (.tup []):= .tup .nil
theorem I6{X:XT}{E:Tab}(hX:XOK X E){C:Calls aJ}{ops:List Oper}{ρ:Type}{K:RSt (std n)->(ρ->Prop)->Prop}{r:ρ->Prop}{h0:List aU}{m0:Nat}:∀ {rest:List Oper} {s':St} {s:RSt (std n)},SR s' s->(∀k,Keep k h0 s.h)->s.m=m0->gH (std n) X C ops rest K s r->
  aF E (lg C) ops rest (λs1'=>∃s1,SR s1' s1/\(∀k,Keep k h0 s1.h)/\s1.m=m0/\K s1 r) s'
 | [],s',s,S,hK0,hm0,hk=>⟨s,S,hK0,hm0,hk⟩
 | o::rest,s',s,S,hK0,hm0,hk=>by
  generalize hM:gH (std n) X C ops (o::rest) K s=M at hk;unfold gH at hM;split at hM
  .rename_i hdst;have hd:dOK s'.m o.dst:=by rw [S.m];exact Xp hdst
   have go:∀ {s2':St} {s2:RSt (std n)} {tag:Option Nat} {v:SVal},SR s2' (s2.put (std n) o.dst tag v)->(∀k,Keep k s.h s2.h)->s2.m=s.m->gH (std n) X C ops rest K (s2.put (std n) o.dst tag v) r->
     aF E (lg C) ops rest (λs1'=>∃s1,SR s1' s1/\(∀k,Keep k h0 s1.h)/\s1.m=m0/\K s1 r) s2':=by
    intro s2' s2 tag v S2 hkeep hm2 hk2;have e1:=adD (n:=n) (s:=s2) (d:=o.dst) (tag:=tag) (v:=v);exact I6 hX (rest:=rest) S2 (λk=>by rw [e1.1];exact(hK0 k).trans (hkeep k)) (by rw [e1.2,hm2,hm0]) hk2
   have hev:∀ {gs:List (GE (std n))},SR s' {s with gs:=gs}->∀ {al:List Nat},(∀t∈al,∃e,gs[t]? =some e/\e.g=true)->EvR X E n (nmh s.h) s'.t (iO (std n) (eP (std n) s.t) al):=λS _ hal=>sJ (λ_ _=>rfl) S.val hal
   unfold aF nM;split at hM
   .rename_i hguard;rw [hguard];simp only;split at hM
    .rename_i hcl;have hcl:bQ o.op=0:=by simpa using hcl
     split at hM
     .rename_i ps v hv;subst hM;obtain⟨hps,hk⟩:=ig hk;rw [DU]at hk;obtain⟨pv,p1,p2⟩:=wS hX S.heap S.gs (tt:=s'.t) (λ_ _=>rfl) S.val (cur:=none) (λt h=>by cases h) hv hps;refine I5 hcl hd (p2 _ (go (S.put (tag:=none) ⟨pv,rfl,p1⟩) (λ_=> .refl _ _) rfl hk))
     ·(subst hM;exact hk.elim)
    .rename_i hcl;have hcl:bQ o.op≠0:=by simpa using hcl
     split at hM
     .rename_i cr hcr;subst hM;obtain⟨hps,hk⟩:=ig hk;obtain⟨v,k,hvk,hk⟩:=BF hk;obtain⟨v',k',e1,_,e3⟩:=BD hX S.heap S.len (hev S (al:=[]) (λt h=>by simp at h)) hcr hps ⟨v,k,hvk⟩;rw [hvk]at e1;cases e1;refine Fg hcl hd (e3 _ λpv h'' j a1 a2 a3 a4=> ?_);have S2:=S.yG a3.same a2 a4;exact go (s2:={s with h:=k}) (S2.put (tag:=none) ⟨pv,rfl,a1⟩) a3.mP rfl hk
     ·(subst hM;exact hk.elim)
   .rename_i j want hguard;rw [hguard];simp only;refine⟨hd,?_⟩;split at hM
    .rename_i d hgs;rw [hgs];simp only [vC];have hgm:=λhb=>Fe S (lk:=eP (std n) s.t) (λ_ _ h=>h) (tt:=s'.t) (d:=d) (want:=want) (λ_=>rfl) rfl hb
     split at hM
     .rename_i hr;rw [hr]at hgm;subst hM;cases hgm (by simp)with | skip h=>
      refine h _ _ (go (s2:=s) (S.put (tag:=none) ⟨nC,rfl,Xq⟩) (λ_=> .refl _ _) rfl hk)
     .rename_i gs t g hr;rw [hr]at hgm;cases hgm (by simp)with | run S1 hget hg sK hT hF=>
      rename_i e;subst hg;have hcur:e.g=true->∀t0,some t=some t0->∃e,gs[t0]? =some e/\e.g=true:=λh t0 ht=>by cases ht;exact⟨e,hget,h⟩
      split at hM
      .rename_i hcl;have hcl:bQ o.op=0:=by simpa using hcl
       split at hM
       .rename_i ps v hv;subst hM;obtain⟨hps,hk⟩:=ig hk;cases hg:e.g with
        | true=>
         obtain⟨pv,p1,p2⟩:=wS hX S1.heap S1.gs (tt:=s'.t) (λ_ _=>rfl) sK (hcur hg) hv (zZ hps hg);refine hT hg _ _ (I5 hcl hd (p2 _ (go (s2:={s with gs:=gs}) (S1.put (tag:=some t) ⟨e,hget,λ_=>⟨pv,rfl,p1⟩,λh=>by rw [hg]at h;cases h⟩) (λ_=> .refl _ _) rfl hk)))
        | false=>
         exact hF hg _ _ (go (s2:={s with gs:=gs}) (S1.put (tag:=some t) ⟨e,hget,λh=>(by rw [hg]at h;cases h),λ_=>rfl⟩) (λ_=> .refl _ _) rfl hk)
       ·(subst hM;exact hk.elim)
      .rename_i hcl;have hcl:bQ o.op≠0:=by simpa using hcl
       split at hM
       .rename_i cr hcr;split at hM
        .rename_i hpure;subst hM;obtain⟨hps,hk⟩:=ig hk;obtain⟨v,k,hvk,hk⟩:=BF hk;cases hg:e.g with
         | true=>
          obtain⟨v',k',e1,e2,e3⟩:=BD hX S1.heap S1.len (hev S1 (qR S1.gs (hcur hg) (f:=gs.length+1))) hcr (zZ hps hg) ⟨v,k,hvk⟩;rw [hvk]at e1;cases e1;obtain⟨rfl,htd⟩:=e2 hpure;refine hT hg _ _ (Fg hcl hd (e3 _ λpv h'' j a1 a2 a3 a4=> ?_));have S2:=S1.yG (Same.refl _) a2 a4;exact go (s2:={s with gs:=gs}) (S2.put (tag:=some t) ⟨e,hget,λ_=>⟨pv,rfl,a1⟩,λh=>by rw [hg]at h;cases h⟩) (λ_=> .refl _ _) rfl hk
         | false=>
          exact hF hg _ _ (go (s2:={s with gs:=gs}) (S1.put (tag:=some t) ⟨e,hget,λh=>(by rw [hg]at h;cases h),λ_=>rfl⟩) (λ_=> .refl _ _) rfl hk)
        .subst hM;obtain⟨hkT,hkF⟩:(e.g=true->jc (std n) cr.ck (uF (std n) cr λv h=>gH (std n) X C ops rest K (RSt.put (std n) {s with h:=h,gs:=gs} o.dst none v)) r)/\(e.g=false->gH (std n) X C ops rest K (RSt.put (std n) {s with gs:=zR (std n) gs t} o.dst none (.tup [])) r):=hk;cases hg:e.g with
         | true=>
          obtain⟨hps,hk⟩:=ig (hkT hg);obtain⟨v,k,hvk,hk⟩:=BF hk;obtain⟨v',k',e1,e2,e3⟩:=BD hX S1.heap S1.len (hev S1 (qR S1.gs (hcur hg) (f:=gs.length+1))) hcr hps ⟨v,k,hvk⟩;rw [hvk]at e1;cases e1;refine hT hg _ _ (Fg hcl hd (e3 _ λpv h'' j a1 a2 a3 a4=> ?_));have S2:=S1.yG a3.same a2 a4;exact go (s2:={s with h:=k,gs:=gs}) (S2.put (tag:=none) ⟨pv,rfl,a1⟩) a3.mP rfl hk
         | false=>
          have hk:=hkF hg;have S2:=S1.kill hget hg;exact hF hg _ _ (go (s2:={s with gs:=zR (std n) gs t}) (S2.put (tag:=none) ⟨nC,rfl,Xq⟩) (λ_=> .refl _ _) rfl hk)
       ·(subst hM;exact hk.elim)
     ·(subst hM;exact hk.elim)
    ·(subst hM;exact hk.elim)
  ·(subst hM;exact hk.elim)
end
end Go.TX
namespace Go.TX
open Go Go.AE
variable [aQ]
section
variable {n:Nat}
theorem Xr{t:Slots}{r:Nat}:∀ {rs:List Nat},r∈rs->aA (cut t rs) r=aA t r
 | [],h=>by simp at h
 | x::rs,h=>by
  simp only [cut,aA];split
  .rename_i e;rw [e]
  .rename_i e;cases h with
   | head=>exact absurd rfl e
   | tail _ h=>exact Xr h
theorem afu{h:List aU}{x:Cell}{y:SC}(hr:RC (nmh h) x y){s:Sh}{f:Bool}{v:LV aJ}(hk:gY (std n) h s y=some (f,v,[])):∃g,(f=true->g=true)/\ZC x g (lvD s v):=by
 unfold gY at hk;split at hk
 .rename_i f0 lf;split at hk
  .rename_i e;subst e;cases hk;cases hr with | d hx hf=>
   rename_i g0 x0;subst hx;rw [EW];refine⟨g0 || (l5 lf).bY,λh=> ?_,.d _ _⟩;rw [kH];cases lf with
   | rows c xs=>grind [Leaf.flag,Leaf.scalar]
   | _=>simp [Leaf.scalar]
  .cases hk
 .cases hr;split at hk
  .cases hk;exact⟨true,λ_=>rfl,.nil _⟩
  .cases hk
 .rename_i f0 c xs;cases hr with | clip hf=>
  split at hk
  .rename_i e;subst e;cases hk;exact⟨_,hf,.clip _ _ _⟩
  .cases hk
 .split at hk
  all_goals simp_all
 .cases hk
theorem NA{h:List aU}:∀ {ss:List Sh} {ys:List SC} {xs:List Cell} (_:F2 (RC (nmh h)) xs ys) {f:Bool} {vs:List (LV aJ)},aT (std n) h ss ys=some (f,vs,[])->∃g,(f=true->g=true)/\ZCs xs g (List.zipWith lvD ss vs)
 | [],[],xs,hF,f,vs,hk=>by simp [aT]at hk;obtain⟨rfl,rfl⟩:=hk;cases hF;exact⟨true,λ_=>rfl,.nil⟩
 | [],_::_,_,_,_,_,hk=>by simp [aT]at hk
 | _::_,[],_,_,_,_,hk=>by simp [aT]at hk
 | s::ss,y::ys,xs,hF,f,vs,hk=>by
  cases hF with | cons h1 h2=>
  unfold aT at hk;split at hk
  .rename_i f1 v1 l1 hv1;split at hk
   .rename_i g2 vs2 ls2 hv2;split at hk
    .simp only [Option.some.injEq,Prod.mk.injEq,List.append_eq_nil_iff]at hk;obtain⟨rfl,rfl,rfl,rfl⟩:=hk;obtain⟨ga,a1,a2⟩:=afu h1 hv1;obtain⟨gb,b1,b2⟩:=NA h2 hv2;exact⟨ga&&gb,λh=>by simp_all,.cons a2 b2⟩
    .cases hk
   .cases hk
  .cases hk
theorem I7{N:NM}:∀ {ys:List (Leaf aJ)} {xs:List Cell} {f:Bool},F2 (RC N) xs (ys.map (.d f))->∃g,(f=true\/(∀y∈ys,y.scalar=true)->g=true)/\ZCs xs g (ys.map l5)
 | [],_,_,h=>by cases h;exact⟨true,λ_=>rfl,.nil⟩
 | y::ys,_,f,.cons h1 h2=>by
  obtain⟨g,q1,q2⟩:=I7 h2;cases h1 with | d hx hf=>
  rename_i g0 x0;subst hx;refine⟨(g0 || (l5 y).bY)&&g,λh=> ?_,.cons (.d _ _) q2⟩
  grind [kH,List.mem_cons_of_mem]
theorem aiC{h:List aU}{p:PV}{q:SVal}(hp:PVR (nmh h) p q){c:Co}{f:Bool}{x:c.den}(hk:toX (std n) h c q=some (f,x,[])):∃g,(f=true->g=true)/\ZCs (aI p) g (c.row x):=by
 unfold toX at hk;split at hk
 .rename_i f' c' x';split at hk
  .rename_i e;subst e;cases hk;have hF:=hp.cells;have hx:cellsS (.sv f' c' x')=(dM (std 0) c' x' 0 c'.fields).map (.d f'):=rfl;rw [hx]at hF;obtain⟨g,q1,q2⟩:=I7 hF;rw [nO]at q2
   grind [l7]
  .cases hk
 .cases hk
 .split at hk
  .rename_i f1 ys ls1 h1;split at hk
   .rename_i t ht;simp only [Option.some.injEq,Prod.mk.injEq]at hk;obtain⟨rfl,rfl,rfl⟩:=hk;rw [eU]at h1;obtain⟨g,q1,q2⟩:=NA hp.cells h1
    grind [zU]
   .cases hk
  .cases hk
theorem Tz{X:XT}{E:Tab}(hX:XOK X E){t:Slots}{e:Nat->Option SVal}{c:Co}{h:List aU}(he:EvR X E n (nmh h) t e):∀ {parts:List (Nat×Operand)} {f:Bool} {xs:List c.den} {k:List aU},tK (std n) X e c h parts=some (f,xs,k,[])->
  ∃g,(f=true->g=true)/\xs.length=parts.length/\ZPs E t c.size parts g (aW c xs)
 | [],f,xs,k,hk=>by
  simp only [tK,Option.some.injEq,Prod.mk.injEq]at hk;obtain⟨rfl,rfl,_⟩:=hk;exact⟨true,λ_=>rfl,rfl,.nil⟩
 | (i,x)::r,f,xs,k,hk=>by
  simp only [tK]at hk;split at hk
  .rename_i v hv;split at hk
   .rename_i f1 y l1 hy;split at hk
    .rename_i g1 ys k1 l2 hys;simp only [Option.some.injEq,Prod.mk.injEq,List.append_eq_nil_iff]at hk;obtain⟨rfl,rfl,_,rfl,rfl⟩:=hk;obtain⟨pv,p1,p2⟩:=fE hX he hv;obtain⟨ga,a1,a2⟩:=aiC p2 hy;obtain⟨gb,b1,b2,b3⟩:=Tz hX he (h:=h) hys;have hl:(aI pv).length=c.size:=by
      have:∀ {cs:List Cell} {g:Bool} {ds:List D},ZCs cs g ds->cs.length=ds.length:=by
       intro cs g ds hz
       induction hz with
       | nil=>rfl
       | cons _ _ ih=>simp [ih]
      rw [this a2,tO]
     exact⟨ga&&gb,λh=>by simp_all,by simp [b2],.cons p1 hl a2 b3⟩
    .cases hk
   .cases hk
  .cases hk
theorem alv{X:XT}{E:Tab}(hX:XOK X E){t:Slots}{e:Nat->Option SVal}{h:List aU}(he:EvR X E n (nmh h) t e){op:Op}{ps:List Bool}{v:SVal}(hk:zX (std n) X e h op=some (ps,v)):Gv (zA E op t) (nmh h) v:=by
 unfold zX at hk;split at hk
 .rename_i ty len parts;rw [hX.ty]at hk;split at hk
  .rename_i y hy;split at hk
   .rename_i el hd;split at hk
    .rename_i z c hz hco;split at hk
     .rename_i hcond;simp only [Bool.and_eq_true,Bool.not_eq_true',beq_iff_eq,beq_eq_false_iff_ne,ne_eq]at hcond;obtain⟨⟨⟨hsz,hne⟩,hrange⟩,hbig⟩:=hcond;have hbig:=Nat.le_of_ble_eq_true hbig;obtain⟨z',hz',hzs⟩:=iJ hX hsz;rw [hz]at hz';cases hz';split at hk
      .rename_i f xs k hps;cases hk;obtain⟨g,q1,q2,q3⟩:=Tz hX he hps;have hlen:xs.length=len:=by
        have:=congrArg List.length hrange
        grind
       refine⟨.c (.clip g c.size (aW c xs)),.ofC (.clip q1),λK hK=> ?_⟩
       grind [zA,aD,aW,bA]
      .cases hk
     .cases hk
    .cases hk
   .cases hk
  .cases hk
 .cases hk
theorem NC{E:Tab}{N:NM}{h' h'':Heap}{ty:TypeId}{pv:PV}{q:SVal}(hp:PVR N pv q)(hl:∀l∈vP (std n) q,AE.look h'' l=AE.look h' l)(K:PV->Prop):fF E h'' ty pv K=fF E h' ty pv K:=by
 have key:∀l sz i j,pv= .c (.ptr l sz i j)->AE.look h'' l=AE.look h' l:=by
  intro l sz i j e;subst e;cases hp with | one hp=>cases hp with | c hc=>
  cases hc with
  | pb=>simp_all [vP]
  | pr _=>simp_all [vP]
 grind [fF,aD]
theorem stable{X:XT}{E:Tab}(hX:XOK X E){N:NM}{h' h'':Heap}{t:Slots}{e:Nat->Option SVal}(he:EvR X E n N t e){op:Op}(hl:∀l∈iV (std n) X e op,AE.look h'' l=AE.look h' l)(hev:isLoad op=true->∃ty x q,op= .load ty x/\evX (std n) X e x=some q)(K:PV->Prop):
  aH E op t h'' K=aH E op t h' K:=by
 cases hL:isLoad op with
 | false=>rw [yw hL]
 | true=>
  obtain⟨ty,x,q,rfl,hq⟩:=hev hL;obtain⟨pv,p1,p2⟩:=fE hX he hq;simp only [iV,hq]at hl;unfold aH;simp only;rw [p1];simp only [aB];exact NC p2 hl K
def HI(E:Tab)(ops:List Oper)(h':Heap)(h:List aU)(hs':List Held)(hs:List (Nat×List Nat)):Prop:=∀p∈hs,(∀l∈p.2,l<h.length)/\∃o t v,iF hs' p.1=some (o,t,v)/\
 ∀h'',(∀l∈p.2,AE.look h'' l=AE.look h' l)->eH E ops o t h'' (λv'=>v'=v)
theorem HI.turn{E:Tab}{ops:List Oper}{h' h'':Heap}{h k:List aU}{hs':List Held}{hs:List (Nat×List Nat)}(H:HI E ops h' h hs' hs){td:List Nat}(x:jC h' h h'' k td):HI E ops h'' k hs' (qc hs td):=by
 intro p hp;simp only [qc,List.mem_filter]at hp;obtain⟨hp,hn⟩:=hp;obtain⟨h1,o,t,v,h2,h3⟩:=H p hp;refine⟨λl hl=>Nat.lt_of_lt_of_le (h1 l hl) x.len,o,t,v,h2,λh3' hh=>h3 h3' λl hl=> ?_⟩;have:=List.all_eq_true.1 hn l hl;rw [hh l hl,(x.keep l (h1 l hl) (by simpa using this)).2]
theorem Aa(hs:List (Nat×List Nat)):qc hs []=hs:=by grind [qc,List.filter_eq_self]
theorem DV{E:Tab}{ops:List Oper}{h' h'':Heap}{h k:List aU}{hs':List Held}{hs:List (Nat×List Nat)}(H:HI E ops h' h hs' hs){td:List Nat}(x:jC h' h h'' k td):∀ {cs:List Nat},cs.all (J5 hs td)=true->jS E ops h'' hs' cs
 | [],_=>trivial
 | j::r,hc=>by
  simp only [List.all_cons,Bool.and_eq_true]at hc;refine⟨?_,DV H x hc.2⟩;have hj:=hc.1;simp only [J5,List.any_eq_true,Bool.and_eq_true,beq_iff_eq]at hj;obtain⟨p,hp,hpj,hall⟩:=hj;obtain⟨h1,o,t,v,h2,h3⟩:=H p hp;rw [<-hpj,h2];refine h3 h'' λl hl=>(x.keep l (h1 l hl) ?_).2
  simp_all
theorem HI.push{E:Tab}{ops:List Oper}{h':Heap}{h:List aU}{hs':List Held}{hs:List (Nat×List Nat)}(H:HI E ops h' h hs' hs){i:Nat}(hi:¬(hs.any λp=>p.1==i)=true){ns:List Nat}{o:Oper}{t:Slots}{v:Option PV}
  (hns:∀l∈ns,l<h.length) (hst:∀h'',(∀l∈ns,AE.look h'' l=AE.look h' l)->eH E ops o t h'' (λv'=>v'=v)):HI E ops h' h ((i,o,t,v)::hs') ((i,ns)::hs):=by
 intro p hp;cases hp with
 | head=>exact⟨hns,o,t,v,by simp [iF],hst⟩
 | tail _ hp=>
  obtain⟨h1,o',t',v',h2,h3⟩:=H p hp;have hne:i≠p.1:=λe=>hi (by rw [List.any_eq_true];exact⟨p,hp,by simp [e]⟩)
  grind [MX]
theorem I8{E:Tab}{X:XT}{N:NM}{t:Slots}{e:Nat->Option SVal}(he:EvR X E n N t e){k:Int}:∀ {l:List (Int×Nat)} {b:Bool},DR (std n) e k l=some b->∀K:Bool->Prop,K b->Ey t k l K
 | [],b,h,K,hb=>by cases h;exact hb
 | (k',r)::rest,b,h,K,hb=>by
  unfold DR at h;split at h
  .rename_i f b1 hr;split at h
   .rename_i q hq;cases h;obtain⟨pv,h1,h2⟩:=he r _ hr;obtain⟨g,rfl⟩:=h2.bool;refine⟨g,b1,h1,?_⟩;have hb:K (bif decide (k=k')then b1 else q):=hb;by_cases c:k=k'
    .simp_all
    .rw [if_neg c];rw [decide_eq_false c]at hb;exact I8 he hq K hb
   .cases h
  .cases h
theorem P6{X:XT}{ops:List Oper}{e:Nat->Option SVal}{h:List aU}{op:Op}(hp:EA op=true):PO (std n) X ops e h op=match zX (std n) X e h op with | some r=>some (some r) | none=>none:=by
 cases op
 case makeMap=>cases hp
 case insert=>cases hp
 case move=>cases hp
 case lookup a b q d=>cases q<;>first | rfl | cases hp
 all_goals grind [PO,zX]
theorem map_ok{X:XT}{E:Tab}(hX:XOK X E){ops:List Oper}{t:Slots}{e:Nat->Option SVal}{h:List aU}(he:EvR X E n (nmh h) t e){op:Op}{r:Option (List Bool×SVal)}(hk:PO (std n) X ops e h op=some r):
  match r with | none=>∀K:Option PV->Prop,K none->zM E ops op t K | some (_,v)=>∃pv,PVR (nmh h) pv v/\∀K:Option PV->Prop,K (some pv)->zM E ops op t K:=by
 by_cases hp:EA op=true
 .rw [P6 hp]at hk;split at hk
  .rename_i q hq;cases hk;obtain⟨ps,v⟩:=q;obtain⟨pv,p1,p2⟩:=alv hX he hq
   grind [zH]
  .cases hk
 .cases op
  case makeMap=>cases hk;exact λK h=>h
  case insert a b c v=>
   cases v with
   | tmp r=>
    simp only [PO]at hk;cases hq:e r with
    | some q=>
     rw [hq]at hk;cases hk;obtain⟨pv,p1,_⟩:=he _ _ hq;exact λK h=>⟨⟨pv,p1⟩,h⟩
    | none=>grind
   | _=>cases hk
  case move x=>
   simp only [PO]at hk;split at hk
   .rename_i hs;cases hk;exact λK h=>⟨hs,h⟩
   .cases hk
  case lookup a b q d=>
   cases q with
   | tmp q=>
    simp only [PO]at hk;split at hk
    .rename_i f m hq;split at hk
     .rename_i bb hb;cases hk;obtain⟨pv,p1,p2⟩:=he _ _ hq;obtain⟨g,rfl⟩:=p2.int;exact⟨_,.ofC (.d rfl λ_=> .inl rfl),λK hK=>⟨g,m,p1,I8 he hb _ hK⟩⟩
     .cases hk
    .cases hk
   | _=>exact absurd rfl hp
  all_goals exact absurd rfl hp
theorem yH{X:XT}{gs:List (GE (std n))}{lk:Nat->Option (SV (std n))}{h:List aU}{cur:Option Nat}{op:Op}{ps:List Bool}{v:SVal}(hk:vN (std n) X lk gs h cur op=some (ps,v))(hl:isLoad op=true):
  (∃ty x q,op= .load ty x/\evX (std n) X (iO (std n) lk (gu (std n) gs cur)) x=some q)/\∀l∈iV (std n) X (iO (std n) lk (gu (std n) gs cur)) op,l<h.length:=by
 cases op<;>simp only [isLoad,Bool.false_eq_true]at hl
 rename_i ty x;simp only [vN,S9]at hk;obtain⟨q,hq,hk⟩:=fQ hk;refine⟨⟨ty,x,q,rfl,hq⟩,λl hl=> ?_⟩;simp only [iV,hq]at hl;unfold Na at hk;split at hk
 .cases hk
 .unfold vP at hl;split at hl
  all_goals grind
end
end Go.TX
namespace Go.TX
open Go Go.AE
variable [aQ]
section
variable {n:Nat}
theorem BH(gs:List (GE (std n))):gu (std n) gs none=[]:=by unfold gu;rw [PN];simp
theorem Fh{E:Tab}{ops:List Oper}{o:Oper}(hg:o.guard=none)(t:Slots)(h:Heap)(K:Option PV->Prop):eH E ops o t h K=aH E o.op t h λv=>K (some v):=by unfold eH;rw [hg]
theorem tX{E:Tab}{ops:List Oper}{o:Oper}{j d:Nat}{w:Bool}(hg:o.guard=some (j,w))(hd:gslot ops j=some d)(t:Slots)(h:Heap)(K:Option PV->Prop):
 eH E ops o t h K=nL (aA t d) w (aH E o.op t h λv=>K (some v)) (K (some nC)):=by unfold eH;rw [hg];simp only;rw [hd];rfl
theorem Kh{X:XT}{E:Tab}(hX:XOK X E){C:Calls aJ}{ops:List Oper}{ρ:Type}{K:RSt (std n)->(ρ->Prop)->Prop}{r:ρ->Prop}{h0:List aU}{m0:Nat}:∀ {rest:List dK} {hs:List (Nat×List Nat)} {hs':List Held} {s':St} {s:RSt (std n)},SR s' s->(∀k,Keep k h0 s.h)->s.m=m0->
    HI E ops s'.h s.h hs' hs->jK (std n) X C ops rest hs K s r->
    aZ E (lg C) ops rest hs' (λs1'=>∃s1,SR s1' s1/\(∀k,Keep k h0 s1.h)/\s1.m=m0/\K s1 r) s'
  | [],hs,hs',s',s,S,hK0,hm0,HH,hk=>⟨s,S,hK0,hm0,hk⟩
  | (i,rs,cs)::rest,hs,hs',s',s,S,hK0,hm0,HH,hk=>by
    generalize hM:jK (std n) X C ops ((i,rs,cs)::rest) hs K s=M at hk;unfold jK at hM;unfold aZ;split at hM
    · (subst hM;exact hk.elim)
    · rename_i o ho;rw [ho];simp only [MV];split at hM
      · rename_i hdst;have hd:dOK s'.m o.dst:=by rw [S.m];exact Xp hdst
        refine⟨hd,?_⟩;simp only at hM;have hlk:∀i sv,(if rs.contains i then eP (std n) s.t i else none)=some sv->eP (std n) s.t i=some sv:=λi sv h=>by
          split at h
          · exact h
          · cases h
        have Xt:∀d,(if rs.contains d then eP (std n) s.t d else none).isSome->aA (cut s'.t rs) d=aA s'.t d:=λd h=>by
          split at h
          · rename_i hc;exact Xr (by simpa using hc)
          · cases h
        have hev:∀ {gs:List (GE (std n))},SR s' {s with gs:=gs}->∀ {al:List Nat},(∀t∈al,∃e,gs[t]? =some e/\e.g=true)->EvR X E n (nmh s.h) (cut s'.t rs) (iO (std n) (λi=>if rs.contains i then eP (std n) s.t i else none) al):=
          λS1 _ hal=>sJ (t':=s'.t) Xt (λi sv h=>S1.val i sv (hlk i sv h)) hal
        have go:∀ {s2':St} {s2:RSt (std n)} {tag:Option Nat} {v:SVal} {hs2:List (Nat×List Nat)} {afv:List Held},SR s2' (s2.put (std n) o.dst tag v)->(∀k,Keep k s.h s2.h)->s2.m=s.m->HI E ops s2'.h s2.h afv hs2->jK (std n) X C ops rest hs2 K (s2.put (std n) o.dst tag v) r->
            aZ E (lg C) ops rest afv (λs1'=>∃s1,SR s1' s1/\(∀k,Keep k h0 s1.h)/\s1.m=m0/\K s1 r) s2':=by
          intro s2' s2 tag v hs2 afv S2 hkeep hm2 HI2 hk2;have e1:=adD (n:=n) (s:=s2) (d:=o.dst) (tag:=tag) (v:=v);exact Kh hX (rest:=rest) S2 (λk=>by rw [e1.1];exact(hK0 k).trans (hkeep k)) (by rw [e1.2,hm2,hm0]) (by rw [e1.1];exact HI2) hk2
        have Ki:∀(d:Option Nat) (v:Option PV),(s'.put d v).h=s'.h:=λd v=>by cases d<;>rfl
        split at hM
        ·
          rename_i hkind;split at hM
          · (subst hM;exact hk.elim)
          rename_i hnew;split at hM
          · rename_i hguard;rw [hkind];split at hM
            · rename_i ps v hv;subst hM;obtain⟨hps,hk⟩:=ig hk;rw [DU]at hk;have sK:∀i sv,(if rs.contains i then eP (std n) s.t i else none)=some sv->yF s.gs s'.t (nmh s.h) i sv:=λi sv h=>S.val i sv (hlk i sv h)
              obtain⟨pv,p1,p2⟩:=wS hX S.heap S.gs Xt sK (cur:=none) (λt h=>by cases h) hv hps;simp only;rw [Fh hguard];have hE0:=hev S (al:=gu (std n) s.gs none) (λt h=>by rw [BH]at h;simp at h);rw [BH]at hE0;have hln:=λhL=>yH hv hL
              rw [BH]at hln;have hst:∀h'',(∀l∈iV (std n) X (iO (std n) (λi=>if rs.contains i then eP (std n) s.t i else none) []) o.op,AE.look h'' l=AE.look s'.h l)->eH E ops o (cut s'.t rs) h'' (λv'=>v'=some pv):=λh'' hh=>by
                rw [Fh hguard,stable hX hE0 hh (λhL=>(hln hL).1)];exact p2 _ rfl
              have hns:∀l∈iV (std n) X (iO (std n) (λi=>if rs.contains i then eP (std n) s.t i else none) []) o.op,l<s.h.length:=λl hl=>by
                cases hL:isLoad o.op with
                | true=>exact(hln hL).2 l hl
                | false => unfold iV at hl; split at hl
                           · rename_i hop;rw [hop]at hL;simp [isLoad]at hL
                           · simp at hl
              exact p2 _ (go (s2:=s) (S.put (tag:=none) ⟨pv,rfl,p1⟩) (λ_=> .refl _ _) rfl (by rw [Ki];exact HH.push hnew hns hst) hk)
            · (subst hM;exact hk.elim)
          · rename_i j want hguard;rw [hkind];split at hM
            · rename_i d hgs;have hgm:=λhb=>Fe S (lk:=λi=>if rs.contains i then eP (std n) s.t i else none) hlk (tt:=cut s'.t rs) (d:=d) (want:=want) (Xt d) rfl hb
              simp only;rw [tX hguard hgs];split at hM
              · rename_i hr;rw [hr]at hgm;subst hM;cases hgm (by simp)with | skip h=>
                refine h _ _ (go (s2:=s) (S.put (tag:=none) ⟨nC,rfl,Xq⟩) (λ_=> .refl _ _) rfl (by rw [Ki];exact HH.push hnew (λl hl=>by simp at hl) (λh'' _=>by rw [tX hguard hgs];exact h _ _ rfl)) hk)
              · rename_i gs t g hr;rw [hr]at hgm;cases hgm (by simp)with | run S1 hget hg sK hT hF=>
                rename_i e;subst hg;split at hM
                · rename_i ps v hv;subst hM;obtain⟨hps,hk⟩:=ig hk;have hns:∀l∈iV (std n) X (iO (std n) (λi=>if rs.contains i then eP (std n) s.t i else none) (gu (std n) gs (some t))) o.op,l<s.h.length:=λl hl=>by
                    cases hL:isLoad o.op with
                    | true=>exact(yH hv hL).2 l hl
                    | false => unfold iV at hl; split at hl
                               · rename_i hop;rw [hop]at hL;simp [isLoad]at hL
                               · simp at hl
                  cases hg:e.g with
                  | true=>
                    have hcur:∀t0,some t=some t0->∃e,gs[t0]? =some e/\e.g=true:=λt0 ht=>by cases ht;exact⟨e,hget,hg⟩
                    obtain⟨pv,p1,p2⟩:=wS hX S1.heap S1.gs Xt (λi sv h=>sK i sv (hlk i sv h)) hcur hv (zZ hps hg);have hE0:EvR X E n (nmh s.h) (cut s'.t rs) (iO (std n) (λi=>if rs.contains i then eP (std n) s.t i else none) (gu (std n) gs (some t))):=hev S1 (qR S1.gs hcur (f:=gs.length+1));refine hT hg _ _ (p2 _ (go (s2:={s with gs:=gs}) (S1.put (tag:=some t) ⟨e,hget,λ_=>⟨pv,rfl,p1⟩,λh=>by rw [hg]at h;cases h⟩) (λ_=> .refl _ _) rfl (by
                      rw [Ki];refine HH.push hnew hns (λh'' hh=> ?_);rw [tX hguard hgs,stable hX hE0 hh (λhL=>(yH hv hL).1)];exact hT hg _ _ (p2 _ rfl)) hk))
                  | false=>
                    exact hF hg _ _ (go (s2:={s with gs:=gs}) (S1.put (tag:=some t) ⟨e,hget,λh=>(by rw [hg]at h;cases h),λ_=>rfl⟩) (λ_=> .refl _ _) rfl (by
                      rw [Ki];refine HH.push hnew hns (λh'' hh=> ?_);rw [tX hguard hgs];exact hF hg _ _ rfl) hk)
                · (subst hM;exact hk.elim)
              · (subst hM;exact hk.elim)
            · (subst hM;exact hk.elim)
        · rename_i hkind;rw [hkind];split at hM
          · rename_i ps v hv;subst hM;obtain⟨hps,hk⟩:=ig hk;obtain⟨pv,p1,p2⟩:=map_ok hX (ops:=ops) (hev S (al:=[]) (λt h=>by simp at h)) hv;simp only;exact p2 _ (go (s2:=s) (S.put (tag:=none) ⟨pv,rfl,p1⟩) (λ_=> .refl _ _) rfl (by rw [Ki];exact HH) hk)
          · rename_i hv;subst hM;have p2:=map_ok hX (ops:=ops) (hev S (al:=[]) (λt h=>by simp at h)) hv;simp only;refine p2 _ ?_;have e1:=aiA (n:=n) (s:=s) (d:=o.dst);exact Kh hX (rest:=rest) S.del (λk=>by rw [e1.1];exact hK0 k) (by rw [e1.2,hm0]) (by rw [e1.1,Ki];exact HH) hk
          · (subst hM;exact hk.elim)
        · rename_i hkind;rw [hkind];split at hM
          · rename_i hr hv;subst hM;obtain⟨hps,hk⟩:=ig hk;have he0:EvR X E n (nmh s.h) [] (λ_=>none):=λi v h=>by cases h
            obtain⟨pv,h'',j,q1,q2,q3,q4,q5⟩:=Ka hX S.heap S.len he0 hv hps;simp only;have S2:=S.yG q3.same q2 q4;have htd:hr.touched=[]:=by
              unfold kindOf at hkind;split at hkind
              · rename_i ty hop;rw [hop]at hv;simp only [EP]at hv;split at hv
                · split at hv
                  · split at hv<;>(cases hv;rfl)
                  · cases hv;rfl
                  · cases hv
                · cases hv
              all_goals first | cases hkind | (split at hkind<;>cases hkind)
            have HI2:=HH.turn q3;rw [htd,Aa]at HI2;exact q5 _ (go (s2:={s with h:=hr.h}) (S2.put (tag:=none) ⟨pv,rfl,q1⟩) q3.mP rfl (by cases o.dst<;>exact HI2) hk)
          · (subst hM;exact hk.elim)
        · rename_i hk0 hk1 hk2;split at hM
          · rename_i hguard;split at hM
            · rename_i cr hcr;split at hM
              · rename_i hcs;subst hM;obtain⟨hps,hk⟩:=ig hk;obtain⟨v,k,hvk,hk⟩:=BF hk;obtain⟨v',k',e1,_,e3⟩:=BD hX S.heap S.len (hev S (al:=[]) (λt h=>by simp at h)) hcr hps ⟨v,k,hvk⟩;rw [hvk]at e1;cases e1;split
                · rename_i h;exact absurd h hk0
                · rename_i h;exact absurd h hk1
                · rename_i h;exact absurd h hk2
                · rw [hguard];refine Kg (e3 _ λpv h'' j a1 a2 a3 a4=>⟨DV HH a3 hcs,?_⟩);have S2:=S.yG a3.same a2 a4;exact go (s2:={s with h:=k}) (S2.put (tag:=none) ⟨pv,rfl,a1⟩) a3.mP rfl (by cases o.dst<;>exact HH.turn a3) hk
              · (subst hM;exact hk.elim)
            · (subst hM;exact hk.elim)
          · rename_i j want hguard;split at hM
            · rename_i d hgs;have hgm:=λhb=>Fe S (lk:=λi=>if rs.contains i then eP (std n) s.t i else none) hlk (tt:=cut s'.t rs) (d:=d) (want:=want) (Xt d) rfl hb
              have goal:nL (aA (cut s'.t rs) d) want
                  (xu E (lg C) o (cut s'.t rs) s' λv h k=>jS E ops h hs' cs/\aZ E (lg C) ops rest hs' (λs1'=>∃s1,SR s1' s1/\(∀k,Keep k h0 s1.h)/\s1.m=m0/\K s1 r) (St.put {s' with h:=h,k:=k} o.dst (some v)))
                  (aZ E (lg C) ops rest hs' (λs1'=>∃s1,SR s1' s1/\(∀k,Keep k h0 s1.h)/\s1.m=m0/\K s1 r) (s'.put o.dst (some nC))):=by
                split at hM
                · rename_i hr;rw [hr]at hgm;subst hM;cases hgm (by simp)with | skip h=>
                  exact h _ _ (go (s2:=s) (S.put (tag:=none) ⟨nC,rfl,Xq⟩) (λ_=> .refl _ _) rfl (by rw [Ki];exact HH) hk)
                · rename_i gs t g hr;rw [hr]at hgm;cases hgm (by simp)with | run S1 hget hg sK hT hF=>
                  rename_i e;subst hg;have hcur:e.g=true->∀t0,some t=some t0->∃e,gs[t0]? =some e/\e.g=true:=λh t0 ht=>by cases ht;exact⟨e,hget,h⟩
                  split at hM
                  · rename_i cr hcr;split at hM
                    · rename_i hcs;split at hM
                      · rename_i hpure;subst hM;obtain⟨hps,hk⟩:=ig hk;obtain⟨v,k,hvk,hk⟩:=BF hk;cases hg:e.g with
                        | true=>
                          obtain⟨v',k',e1,e2,e3⟩:=BD hX S1.heap S1.len (hev S1 (qR S1.gs (hcur hg) (f:=gs.length+1))) hcr (zZ hps hg) ⟨v,k,hvk⟩;rw [hvk]at e1;cases e1;obtain⟨rfl,htd⟩:=e2 hpure;refine hT hg _ _ (Kg (e3 _ λpv h'' j a1 a2 a3 a4=>⟨DV HH a3 hcs,?_⟩));have S2:=S1.yG (Same.refl _) a2 a4;have HI2:=HH.turn a3;rw [htd,Aa]at HI2;exact go (s2:={s with gs:=gs}) (S2.put (tag:=some t) ⟨e,hget,λ_=>⟨pv,rfl,a1⟩,λh=>by rw [hg]at h;cases h⟩) (λ_=> .refl _ _) rfl (by cases o.dst<;>exact HI2) hk
                        | false=>
                          exact hF hg _ _ (go (s2:={s with gs:=gs}) (S1.put (tag:=some t) ⟨e,hget,λh=>(by rw [hg]at h;cases h),λ_=>rfl⟩) (λ_=> .refl _ _) rfl (by rw [Ki];exact HH) hk)
                      · subst hM;obtain⟨hkT,hkF⟩:(e.g=true->jc (std n) cr.ck (uF (std n) cr λv h=>jK (std n) X C ops rest (qc hs cr.touched) K (RSt.put (std n) {s with h:=h,gs:=gs} o.dst none v)) r)/\(e.g=false->jK (std n) X C ops rest hs K (RSt.put (std n) {s with gs:=zR (std n) gs t} o.dst none (.tup [])) r):=hk;cases hg:e.g with
                        | true=>
                          obtain⟨hps,hk⟩:=ig (hkT hg);obtain⟨v,k,hvk,hk⟩:=BF hk;obtain⟨v',k',e1,e2,e3⟩:=BD hX S1.heap S1.len (hev S1 (qR S1.gs (hcur hg) (f:=gs.length+1))) hcr hps ⟨v,k,hvk⟩;rw [hvk]at e1;cases e1;refine hT hg _ _ (Kg (e3 _ λpv h'' j a1 a2 a3 a4=>⟨DV HH a3 hcs,?_⟩));have S2:=S1.yG a3.same a2 a4;exact go (s2:={s with h:=k,gs:=gs}) (S2.put (tag:=none) ⟨pv,rfl,a1⟩) a3.mP rfl (by cases o.dst<;>exact HH.turn a3) hk
                        | false=>
                          have hk:=hkF hg;have S2:=S1.kill hget hg;exact hF hg _ _ (go (s2:={s with gs:=zR (std n) gs t}) (S2.put (tag:=none) ⟨nC,rfl,Xq⟩) (λ_=> .refl _ _) rfl (by rw [Ki];exact HH) hk)
                    · (subst hM;exact hk.elim)
                  · (subst hM;exact hk.elim)
                · (subst hM;exact hk.elim)
              split
              · rename_i h;exact absurd h hk0
              · rename_i h;exact absurd h hk1
              · rename_i h;exact absurd h hk2
              · rw [hguard];simp only;rw [hgs];exact goal
            · (subst hM;exact hk.elim)
      · (subst hM;exact hk.elim)
end
end Go.TX
