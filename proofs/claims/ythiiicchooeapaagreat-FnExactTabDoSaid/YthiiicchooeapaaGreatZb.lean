/- Part 2 of a proof: what the last part needs. No condition. -/
import Derived.Test.YthiiicchooeapaaGreatZa
set_option maxHeartbeats 1000000
set_option linter.all false
set_option linter.unusedSectionVars false
set_option linter.unusedVariables false
set_option linter.unusedSimpArgs false
namespace Go.AE
open Go
variable [bI]
section
variable {E:Tab} {G:gV} {ops:Array Oper} {K:St->Prop} {s0:St} {c0:Ctx} {w0:World} {h0:Heap} {pre:List Nat} {lm:Option Nat} {suf:List eY} {s:St} {hs:List Held}
 {val:Nat->Option PV} {pb:Nat->Nat} {L:Array Bool} {c:Ctx} {w:World} {a:Act}
def DT(ops:List Oper)(suf:List eY):Prop:=∀x rs cs r,suf=(x,rs,cs)::r->bX ops x=2\/bX ops x=3
theorem aap(op:Op):kindOf op<=3:=by unfold kindOf;grind
theorem DI.agp(D:DI E G ops K s0 c0 w0 h0 pre lm suf s hs val pb L c w a)(hap:dQ ops.toList=true):
  ∃pre' lm' Tv s' hs' val',DI E G ops K s0 c0 w0 h0 pre' lm' Tv s' hs' val' pb L c w a/\DT ops.toList Tv:=by
 obtain⟨ai2,lm3,ai3,s3,hs3,ai4,D3,hh3⟩:=DI.adv hap suf D;refine⟨_,_,_,_,_,_,D3,λx rs cs r' e=> ?_⟩;have:=hh3 x rs cs r' e;subst e;have C3:=mh D3.chk;have hxo:ops.toList[x]? =some (ops.toList[x]'C3.lt):=List.getElem?_eq_getElem C3.lt;have hk':=yK hxo
 grind [aap]
theorem Tw{ops:List Oper}{x:Nat}{r:List eY}(hn:BR ops (lX (masks ops)) x r=true):DT ops r:=λy rs cs r' e=>by grind [BR]
theorem DI.no(D:DI E G ops K s0 c0 w0 h0 pre lm suf s hs val pb L c w a){i:Nat}{o:Oper}(ho:ops.toList[i]? =some o)(hd:∀e∈o.after.toList,Region.binds .any e=true->Lst L e.on)
  {q:Nat} (h1:q∈suf.map (·.1)) (h2:bX ops.toList q=3) (h3:lX (masks ops.toList) i q=true):False:=by
 have hl:=nX D.closed (lK h3) (λo' ho'=>by simp_all);rcases D.only q hl with h | h
 .exact QO (anc:=λ_ _=>true) D.chk h1 h
 .omega
theorem DI.toM(hap:dQ ops.toList=true){i:Nat}{o:Oper}(ho:ops.toList[i]? =some o)(hk:bX ops.toList i=3)(hd:∀e∈o.after.toList,Region.binds .any e=true->Lst L e.on):
  ∀(suf:List eY) {pre:List Nat} {lm:Option Nat} {s:St} {val:Nat->Option PV} {c:Ctx},DI E G ops K s0 c0 w0 h0 pre lm suf s hs val pb L c w a->DT ops.toList suf->i∈suf.map (·.1)->
  ∃pre' lm' rs cs r s' val' c',DI E G ops K s0 c0 w0 h0 pre' lm' ((i,rs,cs)::r) s' hs val' pb L c' w a
 | [],_,_,_,_,_,_,_,hq=>by cases hq
 | (x,rs,cs)::r,pre,lm,s,val,c,D,hh,hq=>by
  have C:=mh D.chk;by_cases e:i=x
  .subst e;exact⟨pre,lm,rs,cs,r,s,val,c,D⟩
  .have hq':i∈r.map (·.1):=by
    simp only [List.map_cons,List.mem_cons]at hq;exact hq.resolve_left e
   rcases hh x rs cs r rfl with hx | hx
   .have hn:=(C.two hx).1;rcases KZ hk C.rest hq' hn with h1 | ⟨q,h1,h2,h3⟩
    .have hl:=nX D.closed (lK h1) (λo' ho'=>by rw [ho]at ho';cases ho';exact hd);obtain⟨s',val',c',D'⟩:=D.reg hap hx hl;exact DI.toM hap ho hk hd r D' (Tw hn) hq'
    .exact(D.no ho hd (by simp only [List.map_cons,List.mem_cons];exact .inr h1) h2 h3).elim
   .rcases CV ah C.rest hq' with⟨q,h1,h2,h3⟩ | h1
    .exact(D.no ho hd (by simp only [List.map_cons,List.mem_cons];exact .inr h1) h2 h3).elim
    .rw [if_pos hx]at h1;exact(D.no ho hd (by simp) hx (h1 x rfl)).elim
theorem DI.fin(hap:dQ ops.toList=true)(hall:∀i,i<ops.size->Lst L i):∀(suf:List eY) {pre:List Nat} {lm:Option Nat} {s:St} {val:Nat->Option PV} {c:Ctx},DI E G ops K s0 c0 w0 h0 pre lm suf s hs val pb L c w a->
  ∃c' s',Grow c0 w0 h0 c' w s'.h/\jR E s' c' w a/\K s'
 | [],pre,lm,s,val,c,D=>by
  refine⟨c,s,D.grow,⟨⟨λr v hv=> ?_,D.heap,D.glob⟩,D.cn,D.defers,D.nY⟩,D.run⟩;by_cases e:∃j,gslot ops.toList j=some r
  .obtain⟨j,hj⟩:=e;have lj:j<ops.size:=by grind [Nat.lt_or_ge,gslot,List.getElem?_eq_none]
   have hp:j∈pre:=(D.cov j lj).resolve_right (by simp);exact D.s1 j r v hj (hall j lj) hp (by rw [<-D.t1 j r hj hp];exact hv)
  .have hno:∀j,gslot ops.toList j≠some r:=λj hj=>e ⟨j,hj⟩
   exact D.s2 r v (λj hj=>absurd hj (hno j)) (by rw [<-D.t2 r (λj hj=>absurd hj (hno j))];exact hv)
 | (x,rs,cs)::r,pre,lm,s,val,c,D=>by
  have C:=mh D.chk;have hl:=hall x (by simpa using C.lt);have hk:=(D.only x hl).resolve_left C.new;obtain⟨s',val',c',D'⟩:=D.reg hap hk hl;exact DI.fin hap hall r D'
def cnt(n:Nat)(L:Array Bool):Nat:=((List.range n).filter λi=> !L.getD i false).length
theorem filter_lt{p q:Nat->Bool}(hpq:∀x,q x=true->p x=true){i:Nat}(hp:p i=true)(hq:q i=false):∀ {l:List Nat},i∈l->(l.filter q).length< (l.filter p).length:=by
 have hle:∀l:List Nat,(l.filter q).length<=(l.filter p).length:=by
  intro l
  induction l with
  | nil=>simp
  | cons x l ih=>grind
 intro l hi
 induction l with
 | nil=>cases hi
 | cons x l ih=>grind
theorem QT{n:Nat}{L:Array Bool}{i:Nat}(hi:i<n)(hs:L.size=n)(hn:¬Lst L i):cnt n (L.setIfInBounds i true)<cnt n L:=by
 have key:∀j,Lst (L.setIfInBounds i true) j↔j=i\/Lst L j:=λj=>bT ah
 refine filter_lt (i:=i) (λx hx=> ?_) ?_ ?_ (List.mem_range.2 hi)
 .simp only [Bool.not_eq_true']at hx ⊢;cases hl:L.getD x false with
  | false=>rfl
  | true=>
   have:Lst (L.setIfInBounds i true) x:=(key x).2 (.inr hl)
   grind [Lst]
 all_goals grind [Bool.not_eq_true',absurd,Lst]
theorem NP(htop:aal ops.toList=true)(hs:L.size=ops.size)(hr:Region.ready .any ops L=[]):∀n i,i<n->i<ops.size->Lst L i:=by
 intro n
 induction n with
 | zero=>intro i h;omega
 | succ n ih=>
  intro i hin hi;by_cases hl:Lst L i
  .exact hl
  .exfalso;have hmem:i∈Region.ready .any ops L:=by
    rw [mem_ready];refine⟨?_,ops[i],Array.getElem?_eq_getElem hi,λe he hb=> ?_⟩
    .grind [Lst,Array.getD_eq_getD_getElem?,Array.getElem?_eq_getElem]
    .unfold aal at htop;rw [List.all_eq_true]at htop;have h1:=htop i (List.mem_range.2 (by simpa using hi));have h2:ops.toList[i]? =some ops[i]:=by simp [hi]
     rw [h2]at h1;simp only [List.all_eq_true,Bool.or_eq_true,Bool.not_eq_true',decide_eq_true_eq]at h1;rcases h1 e (by simpa using he)with h | h
     .simp_all
     .exact ih e.on ah ah
   simp_all
theorem aaq(hE:bB E)(hG:l8 E G)(hap:dQ ops.toList=true)(htop:aal ops.toList=true)(hal:∀(i:Nat) (o:Oper) (ty:TypeId) (d:Nat),ops.toList[i]? =some o->o.op= .alloc ty->o.dst=some d->d<s0.m/\∃y,E.ty ty=some y){Q:Exit->St->Prop}(hK:K=Q .normal):∀(fuel:Nat) (L:Array Bool) (a:Act) (w:World),
  cnt ops.size L<=fuel->(∃pre lm suf s hs val pb c,DI E G ops K s0 c0 w0 h0 pre lm suf s hs val pb L c w a/\DT ops.toList suf)->wpAny E.P .any ops (uP E c0 w0 h0 Q) fuel L a w:=by
 have fin:∀(L:Array Bool) (a:Act) (w:World),(∃pre lm suf s hs val pb c,DI E G ops K s0 c0 w0 h0 pre lm suf s hs val pb L c w a/\DT ops.toList suf)->(∀i,i<ops.size->Lst L i)->uP E c0 w0 h0 Q .normal a w:=by
  rintro L a w ⟨pre,lm,suf,s,hs,val,pb,c,D,_⟩ hall;obtain⟨c',s',h1,h2,h3⟩:=D.fin hap hall suf;exact⟨c',s',h1,h2,by simp_all⟩
 intro fuel
 induction fuel with
 | zero=>
  intro L a w hc hD;have hall:∀i,i<ops.size->Lst L i:=λi hi=>by
   by_cases hl:Lst L i
   .exact hl
   .obtain⟨pre,lm,suf,s,hs,val,pb,c,D,_⟩:=hD;have:=QT hi D.size hl;omega
  refine⟨?_,fin L a w hD hall⟩;cases hr:Region.ready .any ops L with
  | nil=>rfl
  | cons i r=>
   exfalso;have hi:i∈Region.ready .any ops L:=by rw [hr];simp
   grind [mem_ready,Array.getElem?_eq_some_iff,Lst,Array.getD_eq_getD_getElem?,Array.getElem?_eq_getElem]
 | succ fuel ih=>
  intro L a w hc hD;refine⟨λhr=> ?_,λi hi=> ?_⟩
  .obtain⟨pre,lm,suf,s,hs,val,pb,c,D,hh⟩:=hD;exact fin L a w ⟨pre,lm,suf,s,hs,val,pb,c,D,hh⟩ (λi hi=>NP htop D.size hr (i+1) i (Nat.lt_succ_self _) hi)
  .obtain⟨pre,lm,suf,s,hs,val,pb,c,D,hh⟩:=hD;obtain⟨h1,o,h2,hd'⟩:=mem_ready.1 hi;have hlt:=(Array.getElem?_eq_some_iff.1 h2).1;have hnl:¬Lst L i:=by grind [Lst,Array.getD_eq_getD_getElem?,Array.getElem?_eq_getElem]
   have ho:ops.toList[i]? =some o:=by simpa using h2
   have hd:∀e∈o.after.toList,Region.binds .any e=true->Lst L e.on:=λe he hb=>hd' e (by simpa using he) hb
   have hc':cnt ops.size (L.setIfInBounds i true)<=fuel:=by have:=QT hlt D.size hnl;omega
   have hko:=yK ho;unfold wpOp;simp only [h2];rcases Nat.lt_or_ge 1 (bX ops.toList i)with hk | hk
   .by_cases hk2:bX ops.toList i=2
    ·
     have hp:i∉pre:=λhp=>hnl (D.done i hp hk)
     have hin:i∈suf.map (·.1):=(D.cov i hlt).resolve_left hp;obtain⟨d,hdst,hg⟩:∃d,o.dst=some d/\o.guard=none:=by
      have:∀(suf:List eY) (pre:List Nat) (lm:Option Nat),tL ops.toList (lX (masks ops.toList)) pre lm suf=true->i∈suf.map (·.1)->∃d,o.dst=some d/\o.guard=none:=by
       intro suf
       induction suf with
       | nil=>simp_all
       | cons x r ihr=>
        obtain⟨x,rs,cs⟩:=x;intro pre lm hck hin;have C:=mh hck;simp only [List.map_cons,List.mem_cons]at hin;rcases hin with rfl | hin
        .have q1:=(C.two hk2).2;have q2:=C.guard ah ah;simp_all [bZ,Option.isSome_iff_exists,yI]
        .exact ihr _ _ C.rest hin
      exact this suf pre lm D.chk hin
     have hwant:Region.wanted o (yielded ops a.tmps)=true:=by simp [Region.wanted,hg]
     rw [if_pos hwant];obtain⟨ty,hop⟩:∃ty,o.op= .alloc ty:=by
      have hkk:kindOf o.op=2:=by omega
      unfold kindOf at hkk
      grind
     obtain⟨hm,y,hy⟩:=hal i o ty d ho hop hdst;obtain⟨w',vs,Et,hrun,g,H,hb,hz⟩:=FT hE D.heap o hop hy a.eval;refine .inl ?_;unfold Oper.wp;rw [hrun,Oper.upon_value];exact ih _ _ _ hc' ⟨_,_,_,_,_,_,_,_,D.made hap ho hp hnl hd hdst (by rw [D.sm];exact hm) hop hy g H hb hz,hh⟩
    ·
     have hk3:bX ops.toList i=3:=by
      have:kindOf o.op<=3:=by unfold kindOf;grind
      omega
     have hp:i∉pre:=λhp=>hnl (D.done i hp hk)
     have hin:i∈suf.map (·.1):=(D.cov i hlt).resolve_left hp;obtain⟨pre',lm',rs,cs,r,s',val',c',D'⟩:=D.toM hap ho hk3 hd suf hh hin;have C:=mh D'.chk;have hrun:=D'.run;unfold bP at hrun;rw [ho]at hrun;obtain⟨hm,hrun⟩:=hrun;have h3:kindOf o.op=3:=by omega
     rw [h3]at hrun;simp only at hrun;have next:∀lm2 s2 agq c2 w2 u,DI E G ops K s0 c0 w0 h0 (i::pre') lm2 r s2 hs agq pb (L.setIfInBounds i true) c2 w2 (a.put o.dst u)->wpAny E.P .any ops (uP E c0 w0 h0 Q) fuel (L.setIfInBounds i true) (a.put o.dst u) w2:=by
      intro lm2 s2 agq c2 w2 u D2;obtain⟨ai2,lm3,ai3,s3,hs3,ai4,D3,hh3⟩:=D2.agp hap
      grind
     cases hgd:o.guard with
     | none=>
      rw [hgd]at hrun;simp only at hrun;have hwant:Region.wanted o (yielded ops a.tmps)=true:=by simp [Region.wanted,hgd]
      rw [if_pos hwant];exact .inl (D'.mut hE hG hap hk3 ho hd hm hrun next)
     | some g=>
      obtain⟨j,want⟩:=g;rw [hgd]at hrun;simp only at hrun;cases hdj:gslot ops.toList j with
      | none=>rw [hdj]at hrun;exact hrun.elim
      | some d=>
      rw [hdj]at hrun;simp only [wV]at hrun;have ai5:¬Lst L i:=hnl;have A:=D'.src ho ai5 hd (D'.rd C.new C.rd) s'.h D'.heap;have skip:bP E G ops.toList r hs K (s'.put o.dst (some oU))->wpAny E.P .any ops (uP E c0 w0 h0 Q) fuel (L.setIfInBounds i true) (a.put o.dst undef) w:=λhr=>
       next _ _ _ c' w undef (D'.step hap hk3 ho hd hm (h':=s'.h) (k':=s'.k) (.refl _ _ _) D'.heap D'.cn (Iz _ _) (λ_ _ _ _ _ _ _ _ q=>q) hr)
      rcases pQ hrun with⟨f,b,hv,hT,hF⟩ | ⟨hv,hF⟩
      .obtain⟨u,hu,hr⟩:=A.slot d _ hv;have:=jk hr;subst this;have hw:Region.wanted o (yielded ops a.tmps)=(b==want):=by grind [Region.wanted,xG]
       by_cases e:b=want
       .rw [if_pos (by simp_all)];exact .inl (D'.mut hE hG hap hk3 ho hd hm (hT e) next)
       simp_all
      .obtain⟨u,hu,hr⟩:=A.slot d _ hv;have hw:Region.wanted o (yielded ops a.tmps)=false:=by
        have hj:(ops[j]?).bind (·.dst)=some d:=by simpa [gslot]using hdj
        have hun:∀b,u≠ .bool b:=by
         intro b e;subst e;cases hr
        grind [Region.wanted,yielded]
       simp_all
   ·
    have hp:i∈pre:=by
     rcases D.cov i hlt with h | h
     .exact h
     .obtain⟨q,q1,q2,q3⟩:=GA hk D.chk h hh;exact(D.no ho hd q1 q2 q3).elim
    obtain⟨o',t,p1,p2,p3,p4⟩:=D.pend i hp hnl;rw [ho]at p1;cases p1;have A:=D.src ho hnl hd p3 s.h D.heap;rcases p4 with⟨q1,q2,q3⟩ | ⟨q1,q2,q3⟩
    .have hmo:BS o.op=false:=DL (by rw [q1];decide);rcases KT hE A (ops:=ops) q3 with⟨hw,u,v,hrun,hrel,hv⟩ | ⟨hw,hv⟩
     .rw [if_pos hw];refine .inl ?_;unfold Oper.wp;rw [hrun,Oper.upon_value];exact ih _ _ _ hc' ⟨_,_,_,_,_,_,_,_,D.listed hap ho hp hnl hmo hd p2 (.refl _ _ _) D.heap rfl (λv' hv'=>by simp_all),hh⟩
     .rw [if_neg (by rw [hw];simp)];exact ih _ _ _ hc' ⟨_,_,_,_,_,_,_,_,D.listed hap ho hp hnl hmo hd p2 (.refl _ _ _) D.heap rfl (λv' hv'=>by rw [<-hv]at hv';cases hv';exact Iz _ _),hh⟩
    .have hwant:Region.wanted o (yielded ops a.tmps)=true:=by simp [Region.wanted,q2]
     rw [if_pos hwant];refine .inl ?_;unfold Oper.wp;have UU:(∃u w',(execOp a.eval o).run E.P w= .ok (.value u) w'/\∃c',DI E G ops K s0 c0 w0 h0 pre lm suf s hs val pb (L.setIfInBounds i true) c' w' (a.put o.dst u))->Oper.upon E.P o a (wpAny E.P .any ops (uP E c0 w0 h0 Q) fuel (L.setIfInBounds i true)) (uP E c0 w0 h0 Q) ((execOp a.eval o).run E.P w):=by grind [Oper.upon_value]
     by_cases hpl:DF o.op=true
     .rw [yH hpl]at q3;obtain⟨u,c',w',v,hrun,g,H,hn,hrel,hv⟩:=Tj hE A o q3;have hmo:BS o.op=false:=by
       cases ho':o.op<;>rw [ho']at hpl<;>first | rfl | cases hpl
      exact UU ⟨u,w',hrun,c',D.listed hap ho hp hnl hmo hd p2 g H hn (λv' hv'=>by simp_all)⟩
     .cases hop:o.op
      case makeMap ty r=>
       rw [hop]at q3;obtain⟨u,w',hrun,DD⟩:=D.mkM hap ho hp hnl hd p2 hop q3
       grind
      case insert ty x k v=>
       obtain⟨w',hrun,DD⟩:=D.ai1 hap ho hp hnl hd p2 A hop q3;rw [hrun,Oper.upon_skip,(D.ms.ins i o ty x k v ho hop).1];exact ih _ _ _ hc' ⟨_,_,_,_,_,_,_,_,DD,hh⟩
      case move x=>
       rw [hop]at q3;obtain⟨u,w',hrun,DD⟩:=D.mvM hap ho hp hnl hd p2 hop q3.1 q3.2
       grind
      case lookup ty x q ok=>
       cases q with
       | tmp q=>
        obtain⟨u,w',hrun,DD⟩:=D.lkM hap ho hp hnl hd p2 A hop q3
        grind
       | _=>rw [hop]at hpl;exact absurd rfl hpl
      all_goals (rw [hop]at hpl;exact absurd rfl hpl)
end
def DU(E:Tab)(m:Nat):List Oper->Prop
 | []=>True
 | o::r=>(match o.op with | .alloc ty=>dOK m o.dst/\au (E.ty ty) λ_=>True | _=>True)/\DU E m r
theorem BU{E:Tab}{m:Nat}:∀ {l:List Oper},DU E m l->∀(i:Nat) (o:Oper) (ty:TypeId) (d:Nat),l[i]? =some o->o.op= .alloc ty->o.dst=some d->d<m/\∃y,E.ty ty=some y
 | [],_,i,o,ty,d,h,_,_=>by simp at h
 | x::r,hl,i,o,ty,d,h,ho,hd=>by
  cases i with
  | zero=>
   simp at h;subst h;have:=hl.1;rw [ho]at this;simp only at this;rw [hd]at this;obtain⟨y,hy,_⟩:=aZ this.2;exact⟨this.1,y,hy⟩
  | succ i=>exact BU hl.2 i o ty d (by simpa using h) ho hd
def yM(E:Tab)(m:Nat):List Oper->Bool
 | []=>true
 | o::r=>(match o.op with | .alloc ty=>(match o.dst with | some d=>decide (d<m) | none=>true)&& (E.ty ty).isSome | _=>true)&&yM E m r
theorem DV{E:Tab}{m:Nat}:∀ {l:List Oper},yM E m l=true->DU E m l
 | [],_=>trivial
 | o::r,h=>by
  unfold yM at h;simp only [Bool.and_eq_true]at h;refine⟨?_,DV h.2⟩;have h1:=h.1;split
  .rename_i ty ho;rw [ho]at h1;simp only [Bool.and_eq_true]at h1;refine⟨?_,?_⟩
   .grind [dOK]
   .cases hy:E.ty ty with
    | none=>simp_all
    | some y=>exact trivial
  .exact trivial
def Static(E:Tab)(tbl:Nat->List eY)(id:Nat)(ops:Array Oper)(m:Nat):Prop:=(IL ops.toList (tbl id)&&yM E m ops.toList&&IU E.P ops.toList)=true
def drA(E:Tab)(G:gV)(tbl:Nat->List eY):l9:=λid ops K s=>
 Static E tbl id ops s.m/\bP E G ops.toList (tbl id) [] K s
theorem UW{E:Tab}(hE:bB E){G:gV}(hG:l8 E G)(hm:E.P.follows .mixedOrders=true)(tbl:Nat->List eY):IE E (drA E G tbl):=by
 rintro id ops Q s c0 w0 h0 c w a A g ⟨hc,hrun⟩;unfold Static IL at hc;simp only [Bool.and_eq_true]at hc;obtain⟨⟨⟨⟨⟨htop,hap⟩,aj5⟩,hgo⟩,hal⟩,hmc⟩:=hc
 replace hal:=DV hal
 refine wp_region_any hm ?_;have hnl:∀i,¬Lst (Array.replicate ops.size false) i:=λi h=>by
  unfold Lst at h;simp only [Array.getD_eq_getD_getElem?,Array.getElem?_replicate]at h
  grind
 have gd:=Grow.drawn c w s.h (w.drawn+1)
 have D:DI E G ops (Q .normal) s c0 w0 h0 [] none (tbl id) s [] (λ_=>none) (λ_=>0) (Array.replicate ops.size false) c {w with drawn:=w.drawn+1} a:={
  run:=hrun
  chk:=hgo
  cov:=λi hi=>by simp_all
  done:=λi h=>by cases h
  only:=λi h=>absurd h (hnl i)
  closed:=λi o h=>absurd h (hnl i)
  size:=by simp
  s1:=λj r v _ h=>absurd h (hnl j)
  s2:=λr v _ h=>let⟨u,h1,h2⟩:=A.abs.slot r v h;⟨u,h1,h2.grow A.abs.heap gd⟩
  t1:=λj r _ h=>by cases h
  t2:=λr _=>rfl
  pend:=λi h=>by cases h
  rE:=λi h=>absurd h (hnl i)
  dist:=λi j h=>absurd h (hnl i)
  heap:=A.abs.heap.drawn _
  glob:=A.abs.glob.grow A.abs.heap gd
  grow:=g.trans gd
  cn:=A.n
  defers:=A.defers
  nY:=A.size
  sn:=rfl,sm:=rfl
  ms:=Tp hmc
  mp:=λm _ hl=>absurd hl (hnl m)}
 obtain⟨pre',lm',Tv,s',hs',val',D',hh⟩:=D.agp hap;refine aaq hE hG hap htop (BU hal) rfl _ _ _ _ ?_ ⟨_,_,_,_,_,_,_,_,D',hh⟩
 grind [cnt,Nat.le_trans,List.length_filter_le]
end Go.AE
namespace Go.TX
open Go Go.AE
@[ext] structure Ins where
 op:Int
 d:Int
 a:Int
 k:Int
 deriving DecidableEq,Inhabited
structure Form where
 d:Bool
 a:Bool
 most:Int
 words:List ByteArray
 deriving Inhabited
@[ext] structure aA where
 bU:Int
 atoms:List Int
 deriving DecidableEq,Inhabited
@[ext] structure Atom where
 kind:Int
 k:Int
 x:List aA
 y:List aA
 deriving DecidableEq,Inhabited
@[ext] structure IOp where
 kind:Int
 x:Int
 y:Int
 k:Int
 at_:Int
 deriving DecidableEq,Inhabited
@[ext] structure Blk where
 pc:Int
 len:Int
 ops:List IOp
 fin:Int
 x:Int
 y:Int
 k:Int
 deriving DecidableEq,Inhabited
@[ext] structure dG where
 regs:List Int
 pc:Int
 mem:List Int
 save:Int
 wL:Bool
 waits:Bool
 halt:Int
 ins:List Int
 outs:List Int
 count:Int
 deriving DecidableEq,Inhabited
@[ext] structure Ev where
 kind:Int
 at_:Int
 x:List aA
 y:List aA
 regs:List (List aA)
 deriving DecidableEq,Inhabited
@[ext] structure Sym where
 events:List Ev
 regs:List (List aA)
 fin:Int
 x:List aA
 y:List aA
 k:Int
 deriving DecidableEq,Inhabited
@[ext] structure Cac where
 words:List Int
 blk:Blk
 deriving DecidableEq,Inhabited
@[ext] structure Cer where
 base:Blk
 made:Blk
 deriving DecidableEq,Inhabited
@[ext] structure Ask where
 own:Bool
 bytes:List Int
 deriving DecidableEq,Inhabited
@[ext] structure Eng where
 bA:dG
 cache:List Cac
 iA:List Cer
 deriving DecidableEq,Inhabited
inductive Co where
 | i64 | u8 | bool | str | ins | form | mono | poly | atom | tab | iop | blk | bA | ev | sym | cac | cer | ask | eng | ints
 deriving DecidableEq,Inhabited,Repr
inductive Sh where
 | int (k:IntKind) | bool | str | rows (c:Co)
 deriving DecidableEq,Inhabited
abbrev Sh.i:Sh:= .int .i64
def aar:List Sh:=[.i,.i,.rows .iop,.i,.i,.i,.i]
def abZ:List Sh:=[.rows .i64,.i,.rows .i64,.i,.bool,.bool,.i,.rows .i64,.rows .i64,.i]
abbrev Co.fields:Co->List Sh
 | .i64=> [.i] | .u8=> [.int .u8] | .bool=> [.bool] | .str=> [.str]
 | .ins=> [.i,.i,.i,.i]
 | .form=> [.bool,.bool,.i,.rows .str]
 | .mono=> [.i,.rows .i64]
 | .poly=> [.rows .mono]
 | .atom=> [.i,.i,.rows .mono,.rows .mono]
 | .tab=> [.rows .atom]
 | .iop=> [.i,.i,.i,.i,.i]
 | .blk=>aar
 | .bA=>abZ
 | .ev=> [.i,.i,.rows .mono,.rows .mono,.rows .poly]
 | .sym=> [.rows .ev,.rows .poly,.i,.rows .mono,.rows .mono,.i]
 | .cac=> .rows .i64::aar
 | .cer=>aar++aar
 | .ask=> [.bool,.rows .u8]
 | .eng=>abZ++ [.rows .cac,.rows .cer]
 | .ints=> [.rows .i64]
abbrev Co.den:Co->Type
 | .i64=>Int | .u8=>Int | .bool=>Bool | .str=>ByteArray
 | .ins=>Ins | .form=>Form | .mono=>aA | .poly=>List aA | .atom=>Atom | .tab=>List Atom | .iop=>IOp
 | .blk=>Blk | .bA=>dG | .ev=>Ev | .sym=>Sym | .cac=>Cac | .cer=>Cer | .ask=>Ask | .eng=>Eng | .ints=>List Int
instance (c:Co):Inhabited c.den:=match c with
 | .i64=>inferInstanceAs (Inhabited Int) | .u8=>inferInstanceAs (Inhabited Int) | .bool=>inferInstanceAs (Inhabited Bool) | .str=>inferInstanceAs (Inhabited ByteArray)
 | .ins=>inferInstanceAs (Inhabited Ins) | .form=>inferInstanceAs (Inhabited Form) | .mono=>inferInstanceAs (Inhabited aA) | .poly=>inferInstanceAs (Inhabited (List aA))
 | .atom=>inferInstanceAs (Inhabited Atom) | .tab=>inferInstanceAs (Inhabited (List Atom)) | .iop=>inferInstanceAs (Inhabited IOp) | .blk=>inferInstanceAs (Inhabited Blk)
 | .bA=>inferInstanceAs (Inhabited dG) | .ev=>inferInstanceAs (Inhabited Ev) | .sym=>inferInstanceAs (Inhabited Sym) | .cac=>inferInstanceAs (Inhabited Cac)
 | .cer=>inferInstanceAs (Inhabited Cer) | .ask=>inferInstanceAs (Inhabited Ask) | .eng=>inferInstanceAs (Inhabited Eng)
 | .ints=>inferInstanceAs (Inhabited (List Int))
inductive LTy where
 | i | b | s | l (c:Co) | x (c:Co)
 deriving DecidableEq,Inhabited
abbrev Sh.lty:Sh->LTy
 | .int _=> .i | .bool=> .b | .str=> .s | .rows c=> .l c
def Co.flat(c:Co):Bool:=c.fields.all λs=>match s with | .rows _=>false | _=>true
abbrev Co.rF(c:Co):List LTy:=c.fields.map Sh.lty
structure Car where
 I:Type
 B:Type
 S:Type
 L:Co->Type
 X:Co->Type
abbrev LT(A:Car):LTy->Type
 | .i=>A.I | .b=>A.B | .s=>A.S | .l c=>A.L c | .x c=>A.X c
abbrev Tup(A:Car):List LTy->Type
 | []=>Unit
 | t::r=>LT A t×Tup A r
inductive LV (A:Car) where
 | i (x:A.I) | b (x:A.B) | s (x:A.S) | l (c:Co) (x:A.L c) | x (c:Co) (v:A.X c)
def agr(A:Car):(t:LTy)->LT A t->LV A
 | .i,x=> .i x | .b,x=> .b x | .s,x=> .s x | .l c,x=> .l c x | .x c,x=> .x c x
def unpack(A:Car):(ts:List LTy)->Tup A ts->List (LV A)
 | [],_=> []
 | t::r,x=>agr A t x.1::unpack A r x.2
def adG(A:Car):(t:LTy)->LV A->Option (LT A t)
 | .i,.i x=>some x | .b,.b x=>some x | .s,.s x=>some x
 | .l c,.l c' x=>if h:c'=c then some (h▸x)else none
 | .x c,.x c' x=>if h:c'=c then some (h▸x)else none
 | _,_=>none
def pack(A:Car):(ts:List LTy)->List (LV A)->Option (Tup A ts)
 | [],[]=>some ()
 | t::r,v::vs=>match adG A t v with
  | some a=>match pack A r vs with | some b=>some (a,b) | none=>none
  | none=>none
 | _,_=>none
structure Alg extends aM:Car where
 M:Type->Type
 lit:Int->I
 bl:Bool->B
 st:ByteArray->S
 arith:BinOp->IntKind->I->I->I
 cmp:BinOp->I->I->B
 addN:I->I->I
 K4:I->I->I
 neg:IntKind->I->I
 conv:IntKind->I->I
 NQ:I->I->I
 kS:I->I->I
 xK:B->B
 K6:B->B->B
 orB:B->B->B
 eqB:B->B->B
 eqS:S->S->B
 NR:L .u8->S
 NS:B->I->I->I
 IW:B->B->B->B
 NT:B->(c:Co)->L c->L c->L c
 Tx:B->(c:Co)->X c->X c->X c
 len:(c:Co)->L c->I
 DW:(c:Co)->L c
 get:(c:Co)->L c->I->X c
 set:(c:Co)->L c->I->X c->L c
 app:(c:Co)->L c->L c->L c
 sub:(c:Co)->L c->I->I->L c
 rep:(c:Co)->I->X c->L c
 lst:(c:Co)->List (X c)->L c
 glob:Nat->(c:Co)->L c
 fI:(c:Co)->Nat->X c->I
 fB:(c:Co)->Nat->X c->B
 fS:(c:Co)->Nat->X c->S
 fL:(c:Co)->Nat->(c':Co)->X c->L c'
 mkX:(c:Co)->Tup aM c.rF->X c
 eqX:(c:Co)->X c->X c->B
 ret:(ts:List LTy)->Tup aM ts->M (Tup aM ts)
 um: {ρ:Type}->(ts:List LTy)->Tup aM ts->(Tup aM ts->M ρ)->M ρ
 fail: {ρ:Type}->M ρ
 chk: {ρ:Type}->B->M ρ->M ρ
 cond: {ρ:Type}->B->M ρ->M ρ->M ρ
 bind: {ρ:Type}->(ts:List LTy)->M (Tup aM ts)->(Tup aM ts->M ρ)->M ρ
 uW: {ρ:Type}->(ts:List LTy)->M (Sum (Tup aM ts) ρ)->(Tup aM ts->M ρ)->M ρ
 inl: {ρ:Type}->(ts:List LTy)->Tup aM ts->M (Sum (Tup aM ts) ρ)
 inr: {ρ:Type}->(ts:List LTy)->M ρ->M (Sum (Tup aM ts) ρ)
 iter: {ρ:Type}->(ts:List LTy)->(Tup aM ts->M (Sum (Tup aM ts) ρ))->Tup aM ts->M ρ
inductive Leaf (A:Car) where
 | int (k:IntKind) (x:A.I) | bool (x:A.B) | str (x:A.S) | rows (c:Co) (xs:A.L c)
inductive TC (A:Car) where
 | d (f:Bool) (x:Leaf A)
 | nil
 | clip (f:Bool) (c:Co) (xs:A.L c)
 | own (l:Nat)
 | os (l:Nat) (lo n:A.I)
 | pb (l sz j:Nat)
 | pr (l:Nat) (i:A.I) (j:Nat)
 | rp (f:Bool) (c:Co) (xs:A.L c) (i:A.I) (j:Nat)
 | gp (g:Nat) (c:Co)
 | fn (g:FuncId) (caps:List (Nat×Nat))
 | np
inductive TV (A:Car) where
 | c (x:TC A)
 | agg (cs:List (TC A))
 | sv (f:Bool) (c:Co) (x:A.X c)
 | tup (vs:List (TV A))
inductive fP (A:Car) where
 | box (v:TV A)
 | rows (f:Bool) (c:Co) (xs:A.L c)
 | gone (c:Co) (n:A.I)
structure XT where
 ty:TypeId->Option TY
 co:TypeId->Option Co
 glob:Nat->Option Co
 ieq:TypeId->Option Co
section
variable (A:Alg)
def adH(c:Co)(j:Nat)(x:A.X c):Sh->Leaf A.aM
 | .int k=> .int k (A.fI c j x)
 | .bool=> .bool (A.fB c j x)
 | .str=> .str (A.fS c j x)
 | .rows c'=> .rows c' (A.fL c j c' x)
def fF(c:Co)(x:A.X c):Nat->List Sh->List (Leaf A.aM)
 | _,[]=> []
 | j,s::r=>adH A c j x s::fF c x (j+1) r
def qU(f:Bool)(c:Co)(x:A.X c):List (TC A.aM):=(fF A c x 0 c.fields).map (.d f)
def dR:TV A.aM->List (TC A.aM)
 | .c x=> [x]
 | .agg cs=>cs
 | .sv f c x=>qU A f c x
 | .tup _=> []
def Leaf.lv{A:Car}:Leaf A->LV A
 | .int _ x=> .i x | .bool x=> .b x | .str x=> .s x | .rows c xs=> .l c xs
def Leaf.flag{A:Car}(f:Bool):Leaf A->Bool
 | .rows _ _=>f | _=>true
def kN{A:Car}:Leaf A->Sh
 | .int k _=> .int k | .bool _=> .bool | .str _=> .str | .rows c _=> .rows c
def gQ(h:List (fP A.aM))(s:Sh)(x:TC A.aM):Option (Bool×LV A.aM×List Nat):=
 match x with
 | .d f y=>if kN y=s then some (y.flag f,y.lv,[])else none
 | .nil=>match s with | .rows c=>some (true,.l c (A.DW c),[]) | _=>none
 | .clip f c xs=>if Sh.rows c=s then some (f,.l c xs,[])else none
 | .own l=>match h[l]? with | some (.rows f c xs)=>if Sh.rows c=s then some (f,.l c xs,[l])else none | _=>none
 | _=>none
def bF(h:List (fP A.aM)):List Sh->List (TC A.aM)->Option (Bool×List (LV A.aM)×List Nat)
 | [],[]=>some (true,[],[])
 | s::r,x::xs=>match gQ A h s x with
  | some (f,y,l)=>match bF h r xs with | some (g,ys,ls)=>if l.all λi=> !ls.contains i then some (f&&g,y::ys,l++ls)else none | none=>none
  | none=>none
 | _,_=>none
def toX(h:List (fP A.aM))(c:Co)(v:TV A.aM):Option (Bool×A.X c×List Nat):=
 match v with
 | .sv f c' x=>if e:c'=c then some (f || c.flat,e▸x,[])else none
 | .tup _=>none
 | v=>match bF A h c.fields (dR A v)with
  | some (f,ys,ls)=>match pack A.aM c.rF ys with | some t=>some (f,A.mkX c t,ls) | none=>none
  | none=>none
def cZ:TV A.aM->Bool | .agg _ | .sv .. =>true | _=>false
def lM(y:TY)(j:Nat)(whole:TV A.aM)(cs:List (TC A.aM)):Option (TV A.aM):=
 if y.desc.agg then
  (if(j==0)&& (y.size==cs.length)&&cZ A whole then some whole else if Nat.ble (j+y.size) cs.length then some (.agg ((cs.drop j).take y.size))else none)
 else match cs[j]? with
  | some x=>(match y.desc with
   | .int k=>(match x with | .d _ (.int k' _)=>if k=k' then some (.c x)else none | _=>none)
   | _=>some (.c x))
  | none=>none
abbrev PR:=Option (List A.B×TV A.aM)
def okV(v:TV A.aM):PR A:=some ([],v)
def okI(k:IntKind)(x:A.I):PR A:=some ([],.c (.d true (.int k x)))
def okB(x:A.B):PR A:=some ([],.c (.d true (.bool x)))
def K7(v:Option (TV A.aM)):PR A:=match v with | some v=>some ([],v) | none=>none
def evX(X:XT)(e:Nat->Option (TV A.aM)):Operand->Option (TV A.aM)
 | .tmp i=>e i
 | .const v=>match v with
  | .int k n=>some (.c (.d true (.int k (A.lit n))))
  | .bool b=>some (.c (.d true (.bool (A.bl b))))
  | .string s=>some (.c (.d true (.str (A.st s))))
  | .slice none 0 0=>some (.c .nil)
  | .pointer none=>some (.c .np)
  | _=>none
 | .global g=>match X.glob g with | some c=>some (.c (.gp g c)) | none=>none
 | .func f=>some (.c (.fn f []))
def K8(X:XT)(h:List (fP A.aM))(ty:TypeId)(p:TV A.aM):PR A:=
 match X.ty ty with
 | none=>none
 | some y=>match p with
  | .c (.pb l sz j)=>match h[l]? with
   | some (.box v)=>if(dR A v).length==sz then K7 A (lM A y j v (dR A v))else none
   | _=>none
  | .c (.pr l i j)=>match h[l]? with
   | some (.rows f c xs)=>match lM A y j (.sv f c (A.get c xs i)) (qU A f c (A.get c xs i))with
    | some v=>some ([A.cmp .leq (A.lit 0) i,A.cmp .lss i (A.len c xs)],v)
    | none=>none
   | _=>none
  | .c (.rp f c xs i j)=>K7 A (lM A y j (.sv f c (A.get c xs i)) (qU A f c (A.get c xs i)))
  | .c (.gp g c)=>match y.desc with | .slice _=>some ([],.c (.d false (.rows c (A.glob g c)))) | _=>none
  | _=>none
def IX:BinOp->Bool
 | .add | .sub | .mul | .quo | .rem | .and | .or | .xor | .shl | .shr=>true
 | _=>false
def UY:BinOp->Bool
 | .eql | .neq | .lss | .leq | .gtr | .geq=>true
 | _=>false
def adI(X:XT)(op:BinOp)(ty:TypeId)(a b:TV A.aM):PR A:=
  match a,b with
  | .c (.d _ (.int k x)),.c (.d _ (.int k' y))=>
    if k=k'\/QE op=true then
      (match op with
       | .quo | .rem=>some ([A.cmp .neq y (A.lit 0)],.c (.d true (.int k (A.arith op k x y))))
       | .shl | .shr=>some ([A.cmp .leq (A.lit 0) y],.c (.d true (.int k (A.arith op k x y))))
       | op=>if IX op then okI A k (A.arith op k x y)else if UY op then okB A (A.cmp op x y)else none)
    else none
  | .c (.d _ (.bool x)),.c (.d _ (.bool y))=>match X.ty ty with
    | some z=>match z.desc with
      | .bool=>(match op with | .eql=>okB A (A.eqB x y) | .neq=>okB A (A.xK (A.eqB x y)) | _=>none)
      | _=>none
    | none=>none
  | .c (.d _ (.str x)),.c (.d _ (.str y))=>match X.ty ty with
    | some z=>match z.desc with
      | .str=>(match op with | .eql=>okB A (A.eqS x y) | .neq=>okB A (A.xK (A.eqS x y)) | _=>none)
      | _=>none
    | none=>none
  | .c (.os _ _ m),.c .nil=>match X.ty ty with
    | some z=>match z.desc with
      | .slice _=>(match op with
        | .eql=>some ([A.cmp .neq m (A.lit 0)],.c (.d true (.bool (A.bl false))))
        | .neq=>some ([A.cmp .neq m (A.lit 0)],.c (.d true (.bool (A.bl true))))
        | _=>none)
      | _=>none
    | none=>none
  | .c (.d _ (.rows c xs)),.c .nil=>match X.ty ty with
    | some z=>match z.desc with
      | .slice _=>(match op with
        | .eql=>some ([A.cmp .neq (A.len c xs) (A.lit 0)],.c (.d true (.bool (A.bl false))))
        | .neq=>some ([A.cmp .neq (A.len c xs) (A.lit 0)],.c (.d true (.bool (A.bl true))))
        | _=>none)
      | _=>none
    | none=>none
  | v,w=>match X.ieq ty with
    | some c=>match toX A [] c v,toX A [] c w with
      | some (_,x,_),some (_,y,_)=>(match op with | .eql=>okB A (A.eqX c x y) | .neq=>okB A (A.xK (A.eqX c x y)) | _=>none)
      | _,_=>none
    | none=>none
def adJ(h:List (fP A.aM))(v:TV A.aM):TV A.aM:=match v with
 | .c (.own l)=>(match h[l]? with | some (.rows _ c xs)=> .c (.os l (A.lit 0) (A.len c xs)) | _=>v)
 | _=>v
def unX(op:UnOp)(a:TV A.aM):PR A:=
 match op,a with
 | .not,.c (.d _ (.bool b))=>okB A (A.xK b)
 | .neg,.c (.d _ (.int k n))=>okI A k (A.neg k n)
 | _,_=>none
def UZ(X:XT)(src dst:TypeId)(a:TV A.aM):PR A:=
 match X.ty src,X.ty dst with
 | some z,some y=>match y.desc,a with
  | .int k,.c (.d _ (.int _ n))=>okI A k (A.conv k n)
  | .str,.c (.d _ (.rows .u8 xs))=>(match z.desc with
   | .slice e=>(match X.ty e with
    | some t=>(match t.desc with | .int .u8=>some ([],.c (.d true (.str (A.NR xs)))) | _=>none)
    | none=>none)
   | _=>none)
  | _,_=>none
 | _,_=>none
def xL(X:XT)(s:TypeId)(a:TV A.aM)(f:Nat):PR A:=
 match X.ty s with
 | some y=>match y.desc with
  | .struct fs=>match fs[f]? with
   | some (off,ft)=>match X.ty ft with
    | some z=>if z.size==0 then none else(match a with
     | .c (.pb l sz j)=>okV A (.c (.pb l sz (j+off)))
     | .c (.pr l i j)=>okV A (.c (.pr l i (j+off)))
     | .c (.rp g c xs i j)=>okV A (.c (.rp g c xs i (j+off)))
     | _=>none)
    | none=>none
   | none=>none
  | _=>none
 | none=>none
def NU(X:XT)(s:TypeId)(a:TV A.aM)(f:Nat):PR A:=
 match X.ty s with
 | some y=>match y.desc with
  | .struct fs=>match fs[f]? with
   | some (off,ft)=>match X.ty ft with
    | some z=>if cZ A a&&Nat.ble (off+z.size) (dR A a).length then
      (if z.desc.agg then okV A (.agg (((dR A a).drop off).take z.size))else match (dR A a)[off]? with | some x=>okV A (.c x) | none=>none)
     else none
    | none=>none
   | none=>none
  | _=>none
 | none=>none
def mq(X:XT)(e:TypeId)(c:Co):Bool:=match X.ty e with | some z=>z.size==c.fields.length | none=>false
def xM(X:XT)(h:List (fP A.aM))(t:TypeId)(a ix:TV A.aM):PR A:=
 match X.ty t with
 | some y=>match y.desc,ix with
  | .slice e,.c (.d _ (.int _ i))=>match a with
   | .c (.d f (.rows c xs))=>if mq X e c then some ([A.cmp .leq (A.lit 0) i,A.cmp .lss i (A.len c xs)],.c (.rp f c xs i 0))else none
   | .c (.clip f c xs)=>if mq X e c then some ([A.cmp .leq (A.lit 0) i,A.cmp .lss i (A.len c xs)],.c (.rp f c xs i 0))else none
   | .c (.own l)=>match h[l]? with
    | some (.rows _ c xs)=>if mq X e c then some ([A.cmp .leq (A.lit 0) i,A.cmp .lss i (A.len c xs)],.c (.pr l i 0))else none
    | _=>none
   | .c (.os l lo n)=>match h[l]? with
    | some (.rows _ c _)=>if mq X e c then some ([A.cmp .leq (A.lit 0) i,A.cmp .lss i n,A.cmp .leq (A.lit 0) lo],.c (.pr l (A.addN lo i) 0))else none
    | _=>none
   | _=>none
  | _,_=>none
 | none=>none
def adK(h:List (fP A.aM))(a:TV A.aM):PR A:=
 match a with
 | .c (.d _ (.rows c xs))=>okI A .i64 (A.len c xs)
 | .c (.clip _ c xs)=>okI A .i64 (A.len c xs)
 | .c (.own l)=>match h[l]? with | some (.rows _ c xs)=>okI A .i64 (A.len c xs) | _=>none
 | .c (.os _ _ n)=>okI A .i64 n
 | .c .nil=>okI A .i64 (A.lit 0)
 | _=>none
def adL(a:TV A.aM):PR A:=
 match a with
 | .c (.pb l s j)=>okV A (.c (.pb l s j))
 | .c (.pr l i j)=>okV A (.c (.pr l i j))
 | .c (.rp f c xs i j)=>okV A (.c (.rp f c xs i j))
 | _=>none
def IY(X:XT)(e:Nat->Option (TV A.aM))(o:Option Operand)(dflt:A.I):Option A.I:=
 match o with
 | none=>some dflt
 | some x=>match evX A X e x with | some (.c (.d _ (.int _ n)))=>some n | _=>none
def NV(X:XT)(e:Nat->Option (TV A.aM))(h:List (fP A.aM))(ty:TypeId)(a:TV A.aM)(lo hi mx:Option Operand):PR A:=
 match X.ty ty with
 | some y=>match y.desc with
  | .slice el=>match IY A X e lo (A.lit 0)with
   | some l=>match a with
    | .c (.d f (.rows c xs))=>if mq X el c then
      match IY A X e hi (A.len c xs)with
      | some r=>match mx with
       | none=>some ([A.cmp .leq (A.lit 0) l,A.cmp .leq l r,A.cmp .leq r (A.len c xs)],.c (.d f (.rows c (A.sub c xs l r))))
       | some _=>match IY A X e mx (A.lit 0)with
        | some m=>if hi.isSome then some ([A.cmp .leq (A.lit 0) l,A.cmp .leq l r,A.cmp .leq r (A.len c xs),A.cmp .eql m r],.c (.clip f c (A.sub c xs l r)))else none
        | none=>none
      | none=>none
     else none
    | .c (.own w)=>match h[w]?,mx with
     | some (.rows _ c xs),none=>if mq X el c then
       match IY A X e hi (A.len c xs)with
       | some r=>some ([A.cmp .leq (A.lit 0) l,A.cmp .leq l r,A.cmp .leq r (A.len c xs)],.c (.os w l (A.K4 r l)))
       | none=>none
      else none
     | _,_=>none
    | .c (.os w l0 n)=>match h[w]?,mx with
     | some (.rows _ c _),none=>if mq X el c then
       match IY A X e hi n with
       | some r=>some ([A.cmp .leq (A.lit 0) l,A.cmp .leq l r,A.cmp .leq r n,A.cmp .leq (A.lit 0) l0],.c (.os w (A.addN l0 l) (A.K4 r l)))
       | none=>none
      else none
     | _,_=>none
    | .c .nil=>match mx,IY A X e hi (A.lit 0)with
     | none,some r=>if(X.ty el).isSome then some ([A.cmp .eql l (A.lit 0),A.cmp .eql r (A.lit 0)],.c .nil)else none
     | _,_=>none
    | _=>none
   | none=>none
  | _=>none
 | none=>none
def K9(X:XT)(e:Nat->Option (TV A.aM))(fs:List (Nat×TypeId)):List (Nat×Operand)->List (TC A.aM)->Option (List (TC A.aM))
 | [],cs=>some cs
 | (i,x)::rest,cs=>match fs[i]? with
  | some (off,ft)=>match X.ty ft,evX A X e x with
   | some z,some v=>if((dR A v).length==z.size)&& !(z.size==0)&&Nat.ble (off+z.size) cs.length then
    K9 X e fs rest (cs.take off++dR A v++cs.drop (off+(dR A v).length))else none
   | _,_=>none
  | none=>none
def QU:Cell->Option (TC A.aM)
 | .d true (.int k n)=>some (.d true (.int k (A.lit n)))
 | .d true (.bool b)=>some (.d true (.bool (A.bl b)))
 | .d true (.str s)=>some (.d true (.str (A.st s)))
 | .nil=>some .nil
 | .np=>some .np
 | _=>none
def lu:List Cell->Option (List (TC A.aM))
 | []=>some []
 | x::r=>match QU A x,lu r with | some y,some ys=>some (y::ys) | _,_=>none
def NW(X:XT)(e:Nat->Option (TV A.aM))(ty:TypeId)(parts:List (Nat×Operand)):PR A:=
 match X.ty ty with
 | some y=>match y.desc with
  | .struct fs=>if fs.all λft=>(X.ty ft.2).isSome then
    match lu A y.zero with
    | some z=>match K9 A X e fs parts z with | some cs=>okV A (.agg cs) | none=>none
    | none=>none
   else none
  | _=>none
 | none=>none
def La(X:XT)(e:Nat->Option (TV A.aM)):List Operand->Option (List (Nat×Nat))
 | []=>some []
 | x::r=>match evX A X e x with
  | some (.c (.pb l sz 0))=>match La X e r with | some ys=>some ((l,sz)::ys) | none=>none
  | _=>none
def U9(b:A.B):TC A.aM->TC A.aM->Option (TC A.aM)
 | .d f (.int k x),.d g (.int k' y)=>if k=k' then some (.d (f&&g) (.int k (A.NS b x y)))else none
 | .d f (.bool x),.d g (.bool y)=>some (.d (f&&g) (.bool (A.IW b x y)))
 | .d f (.rows c xs),.d g (.rows c' ys)=>if e:c'=c then some (.d (f&&g) (.rows c (A.NT b c xs (e▸ys))))else none
 | _,_=>none
def NY(b:A.B):TV A.aM->TV A.aM->Option (TV A.aM)
 | .c x,.c y=>match U9 A b x y with | some z=>some (.c z) | none=>none
 | _,_=>none
def DX(X:XT)(e:Nat->Option (TV A.aM))(h:List (fP A.aM))(c:Call):PR A:=
 match c.callee with
 | .builtin .len=>match c.args.toList,c.argTypes.toList with
  | [x],[ty]=>match X.ty ty,evX A X e x with
   | some y,some v=>(match y.desc with | .slice _=>adK A h v | _=>none)
   | _,_=>none
  | _,_=>none
 | .builtin .cap=>match c.args.toList,c.argTypes.toList with
  | [x],[ty]=>match X.ty ty,evX A X e x with
   | some y,some (.c .nil)=>(match y.desc with | .slice _=>okI A .i64 (A.lit 0) | _=>none)
   | _,_=>none
  | _,_=>none
 | .builtin .min=>match c.args.toList with
  | [x,y]=>match evX A X e x,evX A X e y with
   | some (.c (.d _ (.int k m))),some (.c (.d _ (.int _ n)))=>okI A k (A.NQ m n)
   | _,_=>none
  | _=>none
 | .builtin .max=>match c.args.toList with
  | [x,y]=>match evX A X e x,evX A X e y with
   | some (.c (.d _ (.int k m))),some (.c (.d _ (.int _ n)))=>okI A k (A.kS m n)
   | _,_=>none
  | _=>none
 | _=>none
def yN(v:Option (TV A.aM))(K:TV A.aM->PR A):PR A:=match v with | some v=>K v | none=>none
def QV(X:XT)(e:Nat->Option (TV A.aM))(h:List (fP A.aM))(op:Op):PR A:=
 match op with
 | .move x | .assign x=>yN A (evX A X e x) λv=>okV A v
 | .load ty p=>yN A (evX A X e p) λv=>K8 A X h ty v
 | .nilCheck x=>yN A (evX A X e x) λv=>adL A v
 | .binOp op ty x y _=>yN A (evX A X e x) λa=>yN A (evX A X e y) λb=>adI A X op ty (adJ A h a) b
 | .unOp op _ x=>yN A (evX A X e x) λa=>unX A op a
 | .convert s d x=>yN A (evX A X e x) λa=>UZ A X s d a
 | .fieldAddr s x f=>yN A (evX A X e x) λa=>xL A X s a f
 | .field s x f=>yN A (evX A X e x) λa=>NU A X s a f
 | .indexAddr ty x i=>yN A (evX A X e x) λa=>yN A (evX A X e i) λb=>xM A X h ty a b
 | .slice ty x lo hi mx=>yN A (evX A X e x) λa=>NV A X e h ty a lo hi mx
 | .extract x i=>yN A (evX A X e x) λa=>match a with | .tup vs=>K7 A vs[i]? | _=>none
 | .build ty parts=>NW A X e ty parts.toList
 | .makeFunc fn first caps=>match fn with
  | .func g=>if first.toList.isEmpty then(match La A X e caps.toList with | some cs=>okV A (.c (.fn g cs)) | none=>none)else none
  | _=>none
 | .call c=>DX A X e h c
 | _=>none
structure HR where
 chk:List A.B
 v:TV A.aM
 h:List (fP A.aM)
 touched:List Nat
def bW(h:List (fP A.aM)):List Nat->List (fP A.aM)
 | []=>h
 | l::r=>bW (match h[l]? with | some (.rows _ c xs)=>h.set l (.gone c (A.len c xs)) | _=>h) r
def kS:Int:=1073741824
def zdB(l:List Cell):Bool:=l.all λx=>match x with | .d _ _=>true | .nil=>true | _=>false
def adM(h:List (fP A.aM))(c:Co)(zx:Option (A.X c))(v:TV A.aM):Option (Bool×A.L c):=
 match v with
 | .c (.d _ (.int _ n))=>match zx with | some x=>some (true,A.rep c n x) | none=>none
 | .c .nil=>some (true,A.DW c)
 | .c (.d f (.rows c' xs))=>if e:c'=c then some (f,e▸xs)else none
 | .c (.clip f c' xs)=>if e:c'=c then some (f,e▸xs)else none
 | .c (.own l)=>match h[l]? with | some (.rows f c' xs)=>if e:c'=c then some (f,e▸xs)else none | _=>none
 | .c (.os l lo n)=>match h[l]? with | some (.rows f c' xs)=>if e:c'=c then some (f,e▸A.sub c' xs lo (A.addN lo n))else none | _=>none
 | _=>none
def mD(h:List (fP A.aM))(v:TV A.aM):List A.B:=
 match v with
 | .c (.os l lo n)=>match h[l]? with
  | some (.rows _ c' xs)=> [A.cmp .leq (A.lit 0) lo,A.cmp .leq (A.lit 0) n,A.cmp .leq (A.addN lo n) (A.len c' xs)]
  | _=> []
 | .c (.d _ (.int _ n))=> [A.cmp .leq (A.lit 0) n,A.cmp .leq n (A.lit kS)]
 | _=> []
def DY(X:XT)(t2:TypeId)(v:TV A.aM):Bool:=
 match X.ty t2 with
 | some y2=>(match y2.desc,v with | .slice _,.c (.d _ (.int ..))=>false | .slice _,.c _=>true | .int _,.c (.d _ (.int ..))=>true | _,_=>false)
 | none=>false
def QW(z:TY)(c:Co):Option (A.X c):=
 match lu A z.zero with
 | some zs=>(match toX A [] c (.agg zs)with | some (_,x,_)=>some x | none=>none)
 | none=>none
def IZ(X:XT)(h:List (fP A.aM))(ty t2:TypeId)(a b:TV A.aM):Option (HR A):=
 match X.ty ty with
 | some y=>match y.desc with
  | .slice e=>match X.ty e,X.co e with
   | some z,some c=>if mq X e c&& !(z.size==0)&&Nat.ble z.bytes 1024&&DY A X t2 b&&zdB z.zero then
     match (adM A h c (QW A z c) b).map λp=>(p.1 || c.flat,p.2)with
     | some (f2,ds)=>match a with
      | .c .nil=>some ⟨mD A h b++ [A.cmp .leq (A.len c ds) (A.lit kS)],.c (.own h.length),h++ [.rows f2 c ds],[]⟩
      | .c (.own l)=>match h[l]? with
       | some (.rows f1 c1 xs)=>if q:c1=c then
         some ⟨mD A h b++ [A.cmp .leq (A.addN (A.len c1 xs) (A.len c ds)) (A.lit kS)],.c (.own h.length),
          h.set l (.gone c1 (A.len c1 xs))++ [.rows (f1&&f2) c (A.app c (q▸xs) ds)],[l]⟩
        else none
       | _=>none
      | .c (.os l lo n)=>match h[l]? with
       | some (.rows f1 c1 xs)=>if q:c1=c then
         some ⟨mD A h b++ [A.cmp .eql lo (A.lit 0),A.cmp .leq (A.lit 0) n,A.cmp .leq n (A.len c1 xs),A.cmp .leq (A.addN n (A.len c ds)) (A.lit kS)],.c (.own h.length),
          h.set l (.gone c1 (A.len c1 xs))++ [.rows (f1&&f2) c (A.app c (A.sub c (q▸xs) (A.lit 0) n) ds)],[l]⟩
        else none
       | _=>none
      | .c (.clip f1 c1 xs)=>if q:c1=c then
        some ⟨mD A h b++ [A.orB (A.cmp .lss (A.lit 0) (A.len c ds)) (A.cmp .eql (A.len c1 xs) (A.lit 0)),A.cmp .leq (A.addN (A.len c1 xs) (A.len c ds)) (A.lit kS)],.c (.own h.length),
         h++ [.rows (f1&&f2) c (A.app c (q▸xs) ds)],[]⟩
       else none
      | _=>none
     | none=>none
    else none
   | _,_=>none
  | _=>none
 | none=>none
def sI(X:XT)(e:Nat->Option (TV A.aM))(c:Co):List (fP A.aM)->List (Nat×Operand)->Option (Bool×List (A.X c)×List (fP A.aM)×List Nat)
 | h,[]=>some (true,[],h,[])
 | h,(_,x)::r=>match evX A X e x with
  | some v=>match toX A h c v with
   | some (f,y,ls)=>match sI X e c (bW A h ls) r with
    | some (g,ys,h',ls')=>some (f&&g,y::ys,h',ls++ls')
    | none=>none
   | none=>none
  | none=>none
def Lb(c:Co)(cs:List (LV A.aM))(j:Nat)(ys:List (LV A.aM)):Option (A.X c):=
 match pack A.aM c.rF (cs.take j++ys++cs.drop (j+ys.length))with | some t=>some (A.mkX c t) | none=>none
def uX(X:XT)(h:List (fP A.aM))(ty:TypeId)(p v:TV A.aM):Option (HR A):=
 match X.ty ty with
 | some y=>if(y.size==0) || !((dR A v).length==y.size)then none else match p with
  | .c (.pb l sz j)=>match h[l]? with
   | some (.box w)=>
    if(j==0)&& ((dR A v).length==(dR A w).length)&& ((dR A w).length==sz)&& (cZ A v==cZ A w)then some ⟨[],.tup [],h.set l (.box v),[l]⟩
    else if Nat.ble (j+(dR A v).length) (dR A w).length&& ((dR A w).length==sz)then
     some ⟨[],.tup [],h.set l (.box (.agg ((dR A w).take j++dR A v++(dR A w).drop (j+(dR A v).length)))),[l]⟩
    else none
   | _=>none
  | .c (.pr l i j)=>match h[l]? with
   | some (.rows f c xs)=>
    if(j==0)&& (y.size==c.fields.length)then
     match toX A h c v with
     | some (g,x,ls)=>if ls.contains l then none else
      some ⟨[A.cmp .leq (A.lit 0) i,A.cmp .lss i (A.len c xs)],.tup [],(bW A h ls).set l (.rows (f&&g) c (A.set c xs i x)),l::ls⟩
     | none=>none
    else match bF A h ((c.fields.drop j).take y.size) (dR A v)with
     | some (g,ys,ls)=>if ls.contains l || !Nat.ble (j+y.size) c.fields.length then none else
      match Lb A c ((fF A c (A.get c xs i) 0 c.fields).map Leaf.lv) j ys with
      | some z=>some ⟨[A.cmp .leq (A.lit 0) i,A.cmp .lss i (A.len c xs)],.tup [],(bW A h ls).set l (.rows (f&&g) c (A.set c xs i z)),l::ls⟩
      | none=>none
     | none=>none
   | _=>none
  | _=>none
 | none=>none
def NZ(X:XT)(h:List (fP A.aM))(ty:TypeId)(v:TV A.aM):Option (HR A):=
 match X.ty ty with
 | some y=>match y.desc with
  | .slice e=>match X.ty e,X.co e with
   | some z,some c=>match lu A z.zero with
    | some zs=>match toX A [] c (.agg zs)with
     | some (_,x,_)=>if mq X e c&& !(z.size==0)then
      match v with
      | .c .nil=>some ⟨[],.tup [],h,[]⟩
      | .c (.own l)=>match h[l]? with
       | some (.rows f c1 xs)=>if c1=c then some ⟨[],.tup [],h.set l (.rows f c (A.rep c (A.len c1 xs) x)),[l]⟩else none
       | _=>none
      | .c (.os l lo n)=>match h[l]? with
       | some (.rows f c1 xs)=>if q:c1=c then
         some ⟨mD A h v,.tup [],h.set l (.rows f c (A.app c (A.app c (A.sub c (q▸xs) (A.lit 0) lo) (A.rep c n x)) (A.sub c (q▸xs) (A.addN lo n) (A.len c1 xs)))),[l]⟩
        else none
       | _=>none
      | _=>none
      else none
     | none=>none
    | none=>none
   | _,_=>none
  | _=>none
 | none=>none
def DZ(X:XT)(e:Nat->Option (TV A.aM))(h:List (fP A.aM))(op:Op):Option (HR A):=
 match op with
 | .alloc ty=>match X.ty ty with
  | some y=>match lu A y.zero with
   | some [x]=>if y.desc.agg then some ⟨[],.c (.pb h.length y.size 0),h++ [.box (.agg [x])],[]⟩else some ⟨[],.c (.pb h.length y.size 0),h++ [.box (.c x)],[]⟩
   | some (x::r)=>some ⟨[],.c (.pb h.length y.size 0),h++ [.box (.agg (x::r))],[]⟩
   | _=>none
  | none=>none
 | .box _ x=>match evX A X e x with
  | some v=>if(dR A v).length==0 then none else some ⟨[],.c (.pb h.length (dR A v).length 0),h++ [.box v],[]⟩
  | none=>none
 | .buildSlice ty len parts=>match X.ty ty with
  | some y=>match y.desc with
   | .slice el=>match X.ty el,X.co el with
    | some z,some c=>if mq X el c&& !(z.size==0)&& (parts.toList.map (·.1)==List.range len)&&Nat.ble (len*z.size) 16777216 then
      match sI A X e c h parts.toList with
      | some (f,xs,h',ls)=>some ⟨[],.c (.own h'.length),h'++ [.rows f c (A.lst c xs)],ls⟩
      | none=>none
     else none
    | _,_=>none
   | _=>none
  | none=>none
 | .makeSlice ty l cp=>match X.ty ty with
  | some y=>match y.desc with
   | .slice el=>match X.ty el,X.co el with
    | some z,some c=>match lu A z.zero,evX A X e l,evX A X e cp with
     | some zs,some (.c (.d _ (.int _ m))),some (.c (.d _ (.int _ m')))=>match toX A [] c (.agg zs)with
      | some (_,x,_)=>if mq X el c&& !(z.size==0)&&Nat.ble z.bytes 1024 then
        some ⟨[A.cmp .eql m' m,A.cmp .leq (A.lit 0) m,A.cmp .leq m (A.lit kS)],.c (.own h.length),h++ [.rows true c (A.rep c m x)],[]⟩
       else none
      | none=>none
     | _,_,_=>none
    | _,_=>none
   | _=>none
  | none=>none
 | .store ty p x=>match evX A X e p,evX A X e x with
  | some pv,some v=>uX A X h ty pv v
  | _,_=>none
 | .call c=>match c.callee,c.args.toList,c.argTypes.toList with
  | .builtin .append,[a,b],[ty,t2]=>match evX A X e a,evX A X e b with
   | some av,some bv=>IZ A X h ty t2 av bv
   | _,_=>none
  | .builtin .clear,[a],[ty]=>match evX A X e a with
   | some av=>NZ A X h ty av
   | none=>none
  | _,_,_=>none
 | _=>none
end
end Go.TX
namespace Go.TX
open Go Go.AE
variable [bI]
inductive SkC where
 | int (k:IntKind) | bool | str | rows (f:Bool) (c:Co) | nil | own (l:Nat) | pb (l sz j:Nat) | pr (l j:Nat) | rp (f:Bool) (c:Co) (j:Nat) | gp (g:Nat) (c:Co)
 | fn (g:FuncId) (caps:List (Nat×Nat)) | np | clip (f:Bool) (c:Co)
 deriving DecidableEq,Inhabited,Repr
inductive SkV where
 | c (x:SkC) | agg (cs:List SkC) | sv (f:Bool) (c:Co)
 deriving DecidableEq,Inhabited,Repr
inductive SkO where
 | box (v:SkV) | rows (f:Bool) (c:Co) | gone
 deriving DecidableEq,Inhabited,Repr
structure qV where
 slots:List (Nat×SkV)
 objs:List SkO
 deriving DecidableEq,Inhabited
abbrev SkC.tys:SkC->List LTy
 | .int _=> [.i] | .bool=> [.b] | .str=> [.s] | .rows _ c=> [.l c] | .pr _ _=> [.i] | .rp _ c _=> [.l c,.i] | .clip _ c=> [.l c] | _=> []
abbrev SkC.Cx:List SkC->List LTy
 | []=> []
 | x::r=>x.tys++SkC.Cx r
abbrev SkV.tys:SkV->List LTy
 | .c x=>x.tys | .agg cs=>SkC.Cx cs | .sv _ q=> [.x q]
abbrev SkV.Cx:List SkV->List LTy
 | []=> []
 | x::r=>x.tys++SkV.Cx r
abbrev SkO.tys:SkO->List LTy
 | .box v=>v.tys | .rows _ c=> [.l c] | .gone=> []
abbrev SkO.Cx:List SkO->List LTy
 | []=> []
 | x::r=>x.tys++SkO.Cx r
abbrev qV.tys(k:qV):List LTy:=SkV.Cx (k.slots.map (·.2))++SkO.Cx k.objs
structure Sig where
 args:List SkV
 objs:List SkO
 res:List SkV
 fZ:List SkO
 deriving DecidableEq,Inhabited
abbrev Sig.inp(s:Sig):List LTy:=SkV.Cx s.args++SkO.Cx s.objs
abbrev Sig.out(s:Sig):List LTy:=SkV.Cx s.res++SkO.Cx s.fZ
def SkC.fresh:SkC->Bool | .rows f _=>f | .clip f _=>f | .rp f _ _=>f | .gp _ _=>false | _=>true
def SkV.fresh:SkV->Bool | .c x=>x.fresh | .agg cs=>cs.all SkC.fresh | .sv f q=>f || q.flat
def SkO.fresh:SkO->Bool | .box v=>v.fresh | .rows f _=>f | .gone=>true
def Sig.fresh(s:Sig):Bool:=s.res.all SkV.fresh&&s.fZ.all SkO.fresh
structure Ct(A:Car)(s:Sig) where
 pre:Tup A s.inp->A.B
 fn:Tup A s.inp->Tup A s.out
abbrev Calls(A:Car):=FuncId->List (Sigma (Ct A))
inductive Ann where
 | u | seq (a b:Ann) | cond (a b:Ann) | block (a:Ann) | loop (k:qV) (a:Ann) | cut (k:qV) (a:Ann)
 deriving Inhabited
section
variable (A:Alg)
structure ES where
 ren:List (Option (Option Nat))
 fro:List (Nat×Bool)
 tr:List (Nat×A.I×A.I)
 ck:List A.B
 lv:List (LV A.aM)
def ES.push(s:ES A)(x:LV A.aM):ES A:={s with lv:=x::s.lv}
def sJ(s:ES A)(i:Nat)(v:Option Nat):Option (ES A):=
 match s.ren[i]? with
 | some none=>some {s with ren:=s.ren.set i (some v)}
 | some (some w)=>if w=v then some s else none
 | none=>none
def extC(h:List (fP A.aM))(k:SkC)(v:TC A.aM)(s:ES A):Option (ES A):=
 match k with
 | .int k=>match v with | .d _ (.int k' x)=>if k=k' then some (s.push A (.i x))else none | _=>none
 | .bool=>match v with | .d _ (.bool x)=>some (s.push A (.b x)) | _=>none
 | .str=>match v with | .d _ (.str x)=>some (s.push A (.s x)) | _=>none
 | .rows f c=>match v with
  | .os l lo n=>match h[l]? with
   | some (.rows g c' xs)=>if c=c'/\(!f || g)then some {(s.push A (.l c' (A.sub c' xs lo (A.addN lo n))))with fro:=(l,f)::s.fro,ck:=mD A h (.c v)++s.ck}else none
   | _=>none
  | v=>match gQ A h (.rows c) v with
   | some (g,x,ls)=>if !f || g then some {(s.push A x)with fro:=ls.map (λl=>(l,f))++s.fro}else none
   | none=>none
 | .nil=>match v with | .nil=>some s | _=>none
 | .own i=>match v with
  | .own l=>if s.tr.any (·.1==i)then none else sJ A s i (some l)
  | .nil=>sJ A s i none
  | .os l lo n=>match s.ren[i]?,h[l]? with
   | some none,some (.rows _ c xs)=>some {s with ren:=s.ren.set i (some (some l)),tr:=(i,lo,n)::s.tr,ck:=[A.cmp .leq (A.lit 0) lo,A.cmp .leq (A.lit 0) n,A.cmp .leq (A.addN lo n) (A.len c xs)]++s.ck}
   | _,_=>none
  | _=>none
 | .pb i sz j=>match v with | .pb l sz' j'=>if sz=sz'/\j=j'/\ !(s.tr.any (·.1==i))then sJ A s i (some l)else none | _=>none
 | .pr i j=>match v with | .pr l x j'=>if j=j'/\ !(s.tr.any (·.1==i))then(match sJ A s i (some l)with | some s=>some (s.push A (.i x)) | none=>none)else none | _=>none
 | .rp f c j=>match v with | .rp g c' xs x j'=>if c=c'/\j=j'/\(!f || g)then some ((s.push A (.l c' xs)).push A (.i x))else none | _=>none
 | .gp g c=>match v with | .gp g' c'=>if g=g'/\c=c' then some s else none | _=>none
 | .fn g caps=>match v with
  | .fn g' qC=>if g=g'/\caps.map (·.2)=qC.map (·.2)/\caps.all (λp=> !(s.tr.any (·.1==p.1)))then
    (caps.zip qC).foldlM (λs p=>sJ A s p.1.1 (some p.2.1)) s else none
  | _=>none
 | .np=>match v with | .np=>some s | _=>none
 | .clip f c=>match v with | .clip g c' xs=>if c=c'/\(!f || g)then some (s.push A (.l c' xs))else none | _=>none
def D5(h:List (fP A.aM)):List SkC->List (TC A.aM)->ES A->Option (ES A)
 | [],[],s=>some s
 | k::r,v::vs,s=>match extC A h k v s with | some s=>D5 h r vs s | none=>none
 | _,_,_=>none
def FU(h:List (fP A.aM))(k:SkV)(v:TV A.aM)(s:ES A):Option (ES A):=
 match k with
 | .c k=>match v with | .c x=>extC A h k x s | _=>none
 | .agg ks=>if cZ A v then D5 A h ks (dR A v) s else none
 | .sv f c=>if cZ A v then match toX A h c v with
  | some (g,x,ls)=>if !f || g then some {(s.push A (.x c x))with fro:=ls.map (λl=>(l,f))++s.fro}else none
  | none=>none
  else none
def qD(h:List (fP A.aM)):List SkV->List (TV A.aM)->ES A->Option (ES A)
 | [],[],s=>some s
 | k::r,v::vs,s=>match FU A h k v s with | some s=>qD h r vs s | none=>none
 | _,_,_=>none
def kP(s:ES A)(i:Nat):Option (A.I×A.I):=match s.tr.find? (·.1==i)with | some x=>some x.2 | none=>none
def N7(h:List (fP A.aM))(i:Nat)(k:SkO)(s:ES A):Option (ES A):=
 match k,s.ren[i]? with
 | .gone,_=>some s
 | .box k,some (some (some l))=>match h[l]? with | some (.box v)=>FU A h k v s | _=>none
 | .rows f c,some (some (some l))=>match h[l]? with
  | some (.rows g c' xs)=>if c=c'/\(!f || g || c.flat)then some (s.push A (.l c' (match kP A s i with | some p=>A.sub c' xs p.1 (A.addN p.1 p.2) | none=>xs)))else none
  | _=>none
 | .rows _ c,some (some none)=>some (s.push A (.l c (A.DW c)))
 | _,_=>none
def yO(h:List (fP A.aM)):Nat->List SkO->ES A->Option (ES A)
 | _,[],s=>some s
 | i,k::r,s=>match N7 A h i k s with | some s=>yO h (i+1) r s | none=>none
def dw:List (Option (Option Nat))->List Nat
 | []=> []
 | some (some l)::r=>l::dw r
 | _::r=>dw r
def distinct:List Nat->Bool
 | []=>true
 | x::r=> !r.contains x&&distinct r
def sK:Option SkO->Bool | some .gone=>true | _=>false
def rG:List SkO->List (Option (Option Nat))->Bool
 | .gone::os,some _::_=>false
 | _::os,_::r=>rG os r
 | _,_=>true
def Va(h:List (fP A.aM))(l:Nat):Bool:=match h[l]? with | some (.rows ..)=>true | _=>false
def ES.fine(h:List (fP A.aM))(s:ES A)(os:List SkO):Bool:=distinct (dw s.ren)&& (s.fro.all λp=> !(dw s.ren).contains p.1&&Va A h p.1)&&rG os s.ren
def es0(k:Nat)(os:List SkO):ES A:={ren:=(List.range os.length).map λi=>if Nat.blt i k&& !sK os[i]? then some (some i)else none,fro:=[],tr:=[],ck:=[],lv:=[]}
end
section
variable (A:Car)
def Vb(nm:Nat->Nat):SkC->List (LV A)->Option (TC A×List (LV A))
 | .int k,.i x::r=>some (.d true (.int k x),r)
 | .bool,.b x::r=>some (.d true (.bool x),r)
 | .str,.s x::r=>some (.d true (.str x),r)
 | .rows f _,.l c x::r=>some (.d f (.rows c x),r)
 | .nil,r=>some (.nil,r)
 | .own i,r=>some (.own (nm i),r)
 | .pb i sz j,r=>some (.pb (nm i) sz j,r)
 | .pr i j,.i x::r=>some (.pr (nm i) x j,r)
 | .rp f _ j,.l c x:: .i y::r=>some (.rp f c x y j,r)
 | .gp g c,r=>some (.gp g c,r)
 | .fn g caps,r=>some (.fn g (caps.map λp=>(nm p.1,p.2)),r)
 | .np,r=>some (.np,r)
 | .clip f _,.l c x::r=>some (.clip f c x,r)
 | _,_=>none
def I4(nm:Nat->Nat):List SkC->List (LV A)->Option (List (TC A)×List (LV A))
 | [],r=>some ([],r)
 | k::ks,r=>match Vb A nm k r with
  | some (x,r)=>match I4 nm ks r with | some (xs,r)=>some (x::xs,r) | none=>none
  | none=>none
def yQ(nm:Nat->Nat):SkV->List (LV A)->Option (TV A×List (LV A))
 | .c k,r=>match Vb A nm k r with | some (x,r)=>some (.c x,r) | none=>none
 | .agg ks,r=>match I4 A nm ks r with | some (xs,r)=>some (.agg xs,r) | none=>none
 | .sv f _,.x c x::r=>some (.sv f c x,r)
 | _,_=>none
def sM(nm:Nat->Nat):List SkV->List (LV A)->Option (List (TV A)×List (LV A))
 | [],r=>some ([],r)
 | k::ks,r=>match yQ A nm k r with
  | some (x,r)=>match sM nm ks r with | some (xs,r)=>some (x::xs,r) | none=>none
  | none=>none
def Vd(nm:Nat->Nat)(old:fP A):SkO->List (LV A)->Option (fP A×List (LV A))
 | .box k,r=>match yQ A nm k r with | some (v,r)=>some (.box v,r) | none=>none
 | .rows f _,.l c x::r=>some (.rows f c x,r)
 | .gone,r=>some (old,r)
 | _,_=>none
def uY(nm:Nat->Nat)(old:Nat->fP A):Nat->List SkO->List (LV A)->Option (List (fP A)×List (LV A))
 | _,[],r=>some ([],r)
 | i,k::ks,r=>match Vd A nm (old i) k r with
  | some (x,r)=>match uY nm old (i+1) ks r with | some (xs,r)=>some (x::xs,r) | none=>none
  | none=>none
end
section
variable (A:Alg)
structure SV where
 tag:Option Nat
 v:TV A.aM
structure GE where
 slot:Option Nat
 want:Bool
 par:Option Nat
 g:A.B
 dead:Bool
structure RSt where
 t:List (Nat×SV A)
 gs:List (GE A)
 h:List (fP A.aM)
 m:Nat
 deriving Inhabited
def eZ:List (Nat×SV A)->Nat->Option (SV A)
 | [],_=>none
 | (i,v)::r,j=>if i==j then some v else eZ r j
def oK(d:Nat)(e:GE A):GE A:=match e.slot with | some x=>if x==d then {e with slot:=none}else e | none=>e
def RSt.put(s:RSt A)(d:Option Nat)(tag:Option Nat)(v:TV A.aM):RSt A:=
 match d with | none=>s | some d=> {s with t:=(d,⟨tag,v⟩)::s.t,gs:=s.gs.map (oK A d)}
def RSt.del(s:RSt A)(d:Option Nat):RSt A:=
 match d with | none=>s | some d=> {s with t:=s.t.filter λp=> !(p.1==d),gs:=s.gs.map (oK A d)}
def QX(m:Nat):Option Nat->Bool | none=>true | some d=>Nat.blt d m
def N8(gs:List (GE A)):Nat->Option Nat->List Nat
 | 0,_=> []
 | _,none=> []
 | f+1,some t=>t::(match gs[t]? with | some e=>N8 gs f e.par | none=> [])
def gB(gs:List (GE A))(t:Option Nat):List Nat:=N8 A gs (gs.length+1) t
def iG:List (GE A)->Nat->Bool->Nat->Option Nat
 | [],_,_,_=>none
 | e::r,d,w,i=>if(e.slot==some d)&& (e.want==w)then some i else iG r d w (i+1)
def iM(lk:Nat->Option (SV A))(al:List Nat)(i:Nat):Option (TV A.aM):=
 match lk i with
 | some ⟨none,v⟩=>some v
 | some ⟨some t,v⟩=>if al.contains t then some v else none
 | none=>none
inductive GR where
 | bad | skip | run (gs:List (GE A)) (t:Nat) (g:A.B)
def D6(lk:Nat->Option (SV A))(gs:List (GE A))(d:Nat)(want:Bool):GR A:=
 match lk d with
 | none=> .bad
 | some ⟨tg,v⟩=>match iG A gs d want 0 with
  | some t=>match gs[t]? with | some e=>if e.dead then .skip else .run gs t e.g | none=> .bad
  | none=>match v with
   | .c (.d _ (.bool b))=>
    let g0:=if want then b else A.xK b
    match tg with
    | none=> .run (gs++ [⟨some d,want,none,g0,false⟩]) gs.length g0
    | some t'=>match gs[t']? with
     | some e=> .run (gs++ [⟨some d,want,some t',A.K6 e.g g0,false⟩]) gs.length (A.K6 e.g g0)
     | none=> .bad
   | .tup []=>match tg with | none=> .skip | some _=> .bad
   | _=> .bad
def yR(gs:List (GE A))(t:Nat):List (GE A):=match gs[t]? with | some e=>gs.set t {e with dead:=true} | none=>gs
def uZ(X:XT)(lk:Nat->Option (SV A))(gs:List (GE A))(h:List (fP A.aM))(cur:Option Nat)(op:Op):PR A:=
 let al:=gB A gs cur
 match op with
 | .pick c a b=>match evX A X (iM A lk al) c with
  | some (.c (.d _ (.bool q)))=>
   let alt (w:Bool):List Nat:=match c with
    | .tmp d=>(match iG A gs d w 0 with | some t=>gB A gs (some t)++al | none=>al)
    | _=>al
   match evX A X (iM A lk (alt true)) a,evX A X (iM A lk (alt false)) b with
   | some (.tup []),some y=>some ([A.xK q],y)
   | some x,some (.tup [])=>some ([q],x)
   | some x,some y=>K7 A (NY A q x y)
   | _,_=>none
  | _=>none
 | op=>QV A X (iM A lk al) h op
def Lc(X:XT)(e:Nat->Option (TV A.aM)):List Operand->Option (List (TV A.aM))
 | []=>some []
 | x::r=>match evX A X e x with | some v=>(match Lc X e r with | some vs=>some (v::vs) | none=>none) | none=>none
def newNames:List (Option (Option Nat))->Nat->Nat->List Nat
 | _,_,0=> []
 | [],n,k+1=>n::newNames [] (n+1) k
 | some (some l)::r,n,k+1=>l::newNames r n k
 | _::r,n,k+1=>n::newNames r (n+1) k
def vg(h:List (fP A.aM))(l:Nat):fP A.aM:=
 match h[l]? with | some (.rows _ c xs)=> .gone c (A.len c xs) | some (.gone c n)=> .gone c n | _=> .gone .i64 (A.lit 0)
def jd(h:List (fP A.aM)):List Nat->List (fP A.aM)->List (fP A.aM)
 | l::ls,o::os=>jd (if Nat.blt l h.length then h.set l o else h++ [o]) ls os
 | _,_=>h
def ags:List (TV A.aM)->TV A.aM | [v]=>v | vs=> .tup vs
structure CR where
 ck:List A.B
 ts:List LTy
 y:Tup A.aM ts
 k:Tup A.aM ts->Option (TV A.aM×List (fP A.aM))
 touched:List Nat
 pure:Bool
def jS(h:List (fP A.aM))(s:Sig)(ct:Ct A.aM s)(args:List (TV A.aM)):Option (CR A):=
  match qD A h s.args args (es0 A 0 s.objs)with
  | some e=>match yO A h 0 s.objs e with
    | some e=>if ES.fine A h e s.objs&&e.tr.isEmpty then match pack A.aM s.inp e.lv.reverse with
      | some x=>
        let br:=s.fresh&&e.fro.all λp=> !p.2
        some { ck := e.ck ++ [ct.pre x], ts := s.out, y := ct.fn x, touched := dw e.ren ++ (if br then [] else e.fro.map (·.1)), pure := s.objs.isEmpty && s.fZ.isEmpty && (br || e.fro.isEmpty)
               k:=λy=>
                 let h1:=if br then h else bW A h (e.fro.map (·.1))
                 let nms:=newNames e.ren h1.length s.fZ.length
                 let nm:=λi=>nms.getD i 0
                 match sM A.aM nm s.res (unpack A.aM s.out y)with
                 | some (vs,r)=>match uY A.aM nm (λi=>vg A h1 (nm i)) 0 s.fZ r with
                   | some (os,_)=>some (ags A vs,jd A h1 nms os)
                   | none=>none
                 | none=>none}
      | none=>none
      else none
    | none=>none
  | none=>none
def yU(h:List (fP A.aM))(args:List (TV A.aM)):List (Sigma (Ct A.aM))->Option (CR A)
 | []=>none
 | ⟨s,ct⟩::r=>match jS A h s ct args with | some x=>some x | none=>yU h args r
def QY(X:XT)(C:Calls A.aM)(e:Nat->Option (TV A.aM))(h:List (fP A.aM))(op:Op):Option (CR A):=
 match op with
 | .call c=>match c.callee with
  | .value f=>match evX A X e f,Lc A X e c.args.toList with
   | some (.c (.fn g caps)),some vs=>yU A h (vs++caps.map λp=> .c (.pb p.1 p.2 0)) (C g)
   | _,_=>none
  | _=>none
 | _=>none
def Tz(X:XT)(C:Calls A.aM)(e:Nat->Option (TV A.aM))(h:List (fP A.aM))(op:Op):Option (CR A):=
 match dM op with
 | 1=>match op with
  | .store ty p x=>match evX A X e p,evX A X e x with
   | some pv,some v=>match uX A X h ty pv v with
    | some r=>match v with
     | .c (.d f (.int q n))=>some {ck:=r.chk,ts:=[.i],y:=(n,()),k:=λy=>(match uX A X h ty pv (.c (.d f (.int q y.1)))with | some r=>some (r.v,r.h) | none=>none),touched:=r.touched,pure:=false}
     | .c (.d f (.bool n))=>some {ck:=r.chk,ts:=[.b],y:=(n,()),k:=λy=>(match uX A X h ty pv (.c (.d f (.bool y.1)))with | some r=>some (r.v,r.h) | none=>none),touched:=r.touched,pure:=false}
     | .c (.d f (.rows c n))=>some {ck:=r.chk,ts:=[.l c],y:=(n,()),k:=λy=>(match uX A X h ty pv (.c (.d f (.rows c y.1)))with | some r=>some (r.v,r.h) | none=>none),touched:=r.touched,pure:=false}
     | .sv f c n=>some {ck:=r.chk,ts:=[.x c],y:=(n,()),k:=λy=>(match uX A X h ty pv (.sv f c y.1)with | some r=>some (r.v,r.h) | none=>none),touched:=r.touched,pure:=false}
     | _=>some {ck:=r.chk,ts:=[],y:=(),k:=λ_=>some (r.v,r.h),touched:=r.touched,pure:=false}
    | none=>none
   | _,_=>none
  | _=>match DZ A X e h op with
   | some r=>match r.v with
    | .c (.own l)=>match r.h[l]? with
     | some (.rows f c xs)=>some {ck:=r.chk,ts:=[.l c],y:=(xs,()),k:=λy=>some (r.v,r.h.set l (.rows f c y.1)),touched:=r.touched,pure:=false}
     | _=>none
    | _=>some {ck:=r.chk,ts:=[],y:=(),k:=λ_=>some (r.v,r.h),touched:=r.touched,pure:=false}
   | none=>none
 | _=>QY A X C e h op
def QZ{ρ:Type}(op:Op)(v:TV A.aM)(K:TV A.aM->A.M ρ):A.M ρ:=
 match op with
 | .assign _=>match v with
  | .c (.d f (.int k x))=>A.um [.i] (x,()) λy=>K (.c (.d f (.int k y.1)))
  | .c (.d f (.bool x))=>A.um [.b] (x,()) λy=>K (.c (.d f (.bool y.1)))
  | .c (.d f (.rows c x))=>A.um [.l c] (x,()) λy=>K (.c (.d f (.rows c y.1)))
  | v=>K v
 | _=>K v
def je{ρ:Type}:List A.B->A.M ρ->A.M ρ
 | [],m=>m
 | b::r,m=>A.chk b (je r m)
def under(g:A.B)(ps:List A.B):List A.B:=ps.map λp=>A.orB (A.xK g) p
def tN{ρ:Type}(r:CR A)(K:TV A.aM->List (fP A.aM)->A.M ρ):A.M ρ:=
 match r.ts,r.y,r.k with
 | [],y,k=>(match k y with | some (v,h)=>K v h | none=>A.fail)
 | ts,y,k=>A.um ts y λy=>match k y with | some (v,h)=>K v h | none=>A.fail
def gG{ρ:Type}(X:XT)(C:Calls A.aM)(ops:List Oper):List Oper->(RSt A->A.M ρ)->RSt A->A.M ρ
 | [],K,s=>K s
 | o::r,K,s=>if QX s.m o.dst then match o.guard with
  | none=>if dM o.op==0 then match uZ A X (eZ A s.t) s.gs s.h none o.op with
    | some (ps,v)=>je A ps (QZ A o.op v λv=>gG X C ops r K (s.put A o.dst none v))
    | none=>A.fail
   else match Tz A X C (iM A (eZ A s.t) []) s.h o.op with
    | some cr=>je A cr.ck (tN A cr λv h=>gG X C ops r K (RSt.put A {s with h:=h} o.dst none v))
    | none=>A.fail
  | some (j,want)=>match gslot ops j with
   | some d=>match D6 A (eZ A s.t) s.gs d want with
    | .skip=>gG X C ops r K (s.put A o.dst none (.tup []))
    | .run gs t g=>if dM o.op==0 then match uZ A X (eZ A s.t) gs s.h (some t) o.op with
      | some (ps,v)=>je A (under A g ps) (gG X C ops r K (RSt.put A {s with gs:=gs} o.dst (some t) v))
      | none=>A.fail
     else match Tz A X C (iM A (eZ A s.t) (gB A gs (some t))) s.h o.op with
      | some cr=>if cr.pure then je A (under A g cr.ck) (tN A cr λv _=>gG X C ops r K (RSt.put A {s with gs:=gs} o.dst (some t) v))
       else A.cond g (je A cr.ck (tN A cr λv h=>gG X C ops r K (RSt.put A {s with h:=h,gs:=gs} o.dst none v)))
        (gG X C ops r K (RSt.put A {s with gs:=yR A gs t} o.dst none (.tup [])))
      | none=>A.fail
    | .bad=>A.fail
   | none=>A.fail
  else A.fail
def vk:TV A.aM->List Nat
 | .c (.pb l _ _)=> [l] | .c (.pr l _ _)=> [l] | _=> []
def iQ(X:XT)(e:Nat->Option (TV A.aM)):Op->List Nat
 | .load _ x=>match evX A X e x with | some v=>vk A v | none=> []
 | _=> []
def I5(hs:List (Nat×List Nat))(touched:List Nat)(j:Nat):Bool:=hs.any λp=>(p.1==j)&&p.2.all λl=> !touched.contains l
def pW(hs:List (Nat×List Nat))(touched:List Nat):List (Nat×List Nat):=hs.filter λp=>p.2.all λl=> !touched.contains l
def zX(X:XT)(e:Nat->Option (TV A.aM))(h:List (fP A.aM))(op:Op):PR A:=
 match op with
 | .buildSlice ty len parts=>match X.ty ty with
  | some y=>match y.desc with
   | .slice el=>match X.ty el,X.co el with
    | some z,some c=>if mq X el c&& !(z.size==0)&& (parts.toList.map (·.1)==List.range len)&&Nat.ble (len*z.size) 16777216 then
      match sI A X e c h parts.toList with
      | some (f,xs,_,[])=>some ([],.c (.clip f c (A.lst c xs)))
      | _=>none
     else none
    | _,_=>none
   | _=>none
  | none=>none
 | _=>none
def CW(e:Nat->Option (TV A.aM))(k:A.I):List (Int×Nat)->Option A.B
 | []=>some (A.bl false)
 | (k',r)::rest=>match e r with
  | some (.c (.d _ (.bool b)))=>(match CW e k rest with | some q=>some (A.IW (A.cmp .eql k (A.lit k')) b q) | none=>none)
  | _=>none
def N9(X:XT)(ops:List Oper)(e:Nat->Option (TV A.aM))(h:List (fP A.aM))(op:Op):Option (Option (List A.B×TV A.aM)):=
 match op with
 | .makeMap .. =>some none
 | .insert _ _ _ v=>(match v with | .tmp r=>(match e r with | some _=>some none | none=>none) | _=>none)
 | .move x=>if nP x then some none else none
 | .lookup _ _ (.tmp q) _=>(match e q with
  | some (.c (.d _ (.int .i64 n)))=>(match CW A e n (nD ops)with | some b=>some (some ([],.c (.d true (.bool b)))) | none=>none)
  | _=>none)
 | op=>(match zX A X e h op with | some r=>some (some r) | none=>none)
def jI{ρ:Type}(X:XT)(C:Calls A.aM)(ops:List Oper):List eY->List (Nat×List Nat)->(RSt A->A.M ρ)->RSt A->A.M ρ
 | [],_,K,s=>K s
 | (i,rs,cs)::r,hs,K,s=>match ops[i]? with
  | none=>A.fail
  | some o=>if QX s.m o.dst then
   let lk:=λi=>if rs.contains i then eZ A s.t i else none
   match kindOf o.op with
   | 0=>if hs.any λp=>p.1==i then A.fail else match o.guard with
    | none=>match uZ A X lk s.gs s.h none o.op with
     | some (ps,v)=>je A ps (QZ A o.op v λv=>jI X C ops r ((i,iQ A X (iM A lk []) o.op)::hs) K (s.put A o.dst none v))
     | none=>A.fail
    | some (j,want)=>match gslot ops j with
     | some d=>match D6 A lk s.gs d want with
      | .skip=>jI X C ops r ((i,[])::hs) K (s.put A o.dst none (.tup []))
      | .run gs t g=>match uZ A X lk gs s.h (some t) o.op with
       | some (ps,v)=>je A (under A g ps) (jI X C ops r ((i,iQ A X (iM A lk (gB A gs (some t))) o.op)::hs) K (RSt.put A {s with gs:=gs} o.dst (some t) v))
       | none=>A.fail
      | .bad=>A.fail
     | none=>A.fail
   | 1=>match N9 A X ops (iM A lk []) s.h o.op with
    | some (some (ps,v))=>je A ps (jI X C ops r hs K (s.put A o.dst none v))
    | some none=>jI X C ops r hs K (s.del A o.dst)
    | none=>A.fail
   | 2=>match DZ A X (λ_=>none) s.h o.op with
    | some hr=>je A hr.chk (jI X C ops r hs K (RSt.put A {s with h:=hr.h} o.dst none hr.v))
    | none=>A.fail
   | _=>match o.guard with
    | none=>match Tz A X C (iM A lk []) s.h o.op with
     | some cr=>
      if cs.all (I5 hs cr.touched)then je A cr.ck (tN A cr λv h=>jI X C ops r (pW hs cr.touched) K (RSt.put A {s with h:=h} o.dst none v))else A.fail
     | none=>A.fail
    | some (j,want)=>match gslot ops j with
     | some d=>match D6 A lk s.gs d want with
      | .skip=>jI X C ops r hs K (s.put A o.dst none (.tup []))
      | .run gs t g=>match Tz A X C (iM A lk (gB A gs (some t))) s.h o.op with
       | some cr=>if cs.all (I5 hs cr.touched)then
         if cr.pure then je A (under A g cr.ck) (tN A cr λv _=>jI X C ops r hs K (RSt.put A {s with gs:=gs} o.dst (some t) v))
         else A.cond g (je A cr.ck (tN A cr λv h=>jI X C ops r (pW hs cr.touched) K (RSt.put A {s with h:=h,gs:=gs} o.dst none v)))
          (jI X C ops r hs K (RSt.put A {s with gs:=yR A gs t} o.dst none (.tup [])))
        else A.fail
       | none=>A.fail
      | .bad=>A.fail
     | none=>A.fail
   else A.fail
def vo(t:List (Nat×SV A))(h:List (fP A.aM)):List (Nat×SkV)->ES A->Option (ES A)
 | [],e=>some e
 | p::r,e=>match eZ A t p.1 with
  | some ⟨none,v⟩=>(match FU A h p.2 v e with | some e=>vo t h r e | none=>none)
  | _=>none
def D7(k:Nat)(sk:qV)(s:RSt A):Option (List A.B×Tup A.aM sk.tys):=
 if !Nat.ble k sk.objs.length then none else match vo A s.t s.h sk.slots (es0 A k sk.objs)with
 | some e=>match yO A s.h 0 sk.objs e with
  | some e=>if ES.fine A s.h e sk.objs then(match pack A.aM sk.tys e.lv.reverse with | some x=>some (e.ck,x) | none=>none)else none
  | none=>none
 | none=>none
def tO(sk:qV)(m:Nat)(x:Tup A.aM sk.tys):RSt A:=
 match sM A.aM (λi=>i) (sk.slots.map (·.2)) (unpack A.aM sk.tys x)with
 | some (vs,r)=>match uY A.aM (λi=>i) (λ_=> .gone .i64 (A.lit 0)) 0 sk.objs r with
  | some (os,_)=> {t:=(sk.slots.map (·.1)).zip (vs.map λv=>⟨none,v⟩),gs:=[],h:=os,m:=m}
  | none=>default
 | none=>default
def plain:Code->Bool
 | .skip=>true | .region .. =>true | .seq a b=>plain a&&plain b | .cond _ x y=>plain x&&plain y
 | _=>false
def Oa{ρ:Type}(k:Nat)(sk:qV)(pl:Bool)(s:RSt A)(K:Exit->RSt A->A.M ρ)(W: {σ:Type}->(Exit->RSt A->A.M σ)->A.M σ):A.M ρ:=
 if pl then A.bind sk.tys (W λe s'=>match e with
  | .normal=>(match D7 A k sk s' with | some (ck,t)=>je A ck (A.ret sk.tys t) | none=>A.fail)
  | _=>A.fail) λt=>K .normal (tO A sk s.m t)
 else A.uW sk.tys (W λe s'=>match e with
  | .normal=>(match D7 A k sk s' with | some (ck,t)=>je A ck (A.inl sk.tys t) | none=>A.fail)
  | e=>A.inr sk.tys (K e s')) λt=>K .normal (tO A sk s.m t)
def dx(X:XT)(C:Calls A.aM)(ord:Nat->List eY)(chk:Nat->Array Oper->Nat->Bool)(k:Nat): {ρ:Type}->Ann->Code->RSt A->(Exit->RSt A->A.M ρ)->A.M ρ
 | _,_,.skip,s,K=>K .normal s
 | _,an,.region id ops draw,s,K=>
  let W: {σ:Type}->(Exit->RSt A->A.M σ)->A.M σ:=λK=>
   if draw then(if chk id ops s.m then jI A X C ops.toList (ord id) [] (λs=>K .normal s) s else A.fail)
   else gG A X C ops.toList ops.toList (λs=>K .normal s) s
  match an with
  | .cut sk .u=>Oa A k sk true s K W
  | _=>W K
 | _,an,.seq x y,s,K=>match an with
  | .seq a b=>dx X C ord chk k a x s λe s'=>match e with | .normal=>dx X C ord chk k b y s' K | e=>K e s'
  | .u=>dx X C ord chk k .u x s λe s'=>match e with | .normal=>dx X C ord chk k .u y s' K | e=>K e s'
  | _=>A.fail
 | _,an,.cond c x y,s,K=>match evX A X (iM A (eZ A s.t) []) c with
  | some (.c (.d _ (.bool b)))=>match an with
   | .cond a1 a2=>A.cond b (dx X C ord chk k a1 x s K) (dx X C ord chk k a2 y s K)
   | .u=>A.cond b (dx X C ord chk k .u x s K) (dx X C ord chk k .u y s K)
   | .cut sk (.cond a1 a2)=>Oa A k sk (plain x&&plain y) s K λK'=>A.cond b (dx X C ord chk k a1 x s K') (dx X C ord chk k a2 y s K')
   | _=>A.fail
  | _=>A.fail
 | _,an,.block id b,s,K=>match an with
  | .block a=>dx X C ord chk k a b s λe s'=>match e with | .exit i=>if i==id then K .normal s' else K (.exit i) s' | e=>K e s'
  | .u=>dx X C ord chk k .u b s λe s'=>match e with | .exit i=>if i==id then K .normal s' else K (.exit i) s' | e=>K e s'
  | .cut sk (.block a)=>Oa A k sk false s K λK'=>dx X C ord chk k a b s λe s'=>match e with | .exit i=>if i==id then K' .normal s' else K' (.exit i) s' | e=>K' e s'
  | _=>A.fail
 | _,.loop sk a,.loop b,s,K=>match D7 A k sk s with
  | some (ck,x0)=>je A ck (A.iter sk.tys (λx=>dx X C ord chk k a b (tO A sk s.m x) λe s'=>match e with
    | .normal=>(match D7 A k sk s' with | some (ck,t)=>je A ck (A.inl sk.tys t) | none=>A.fail)
    | e=>A.inr sk.tys (K e s')) x0)
  | none=>A.fail
 | _,_,.exit id,s,K=>K (.exit id) s
 | _,_,.ret,s,K=>K .ret s
 | _,_,_,_,_=>A.fail
def Ob(X:XT)(s:RSt A):List ResultVar->Option (List (TV A.aM))
 | []=>some []
 | .tmp t::r=>match eZ A s.t t with
  | some ⟨none,v⟩=>(match Ob X s r with | some vs=>some (v::vs) | none=>none)
  | _=>none
 | .cell t ty::r=>match eZ A s.t t with
  | some ⟨none,p⟩=>match K8 A X s.h ty p with
   | some ([],v)=>(match Ob X s r with | some vs=>some (v::vs) | none=>none)
   | _=>none
  | _=>none
def TA(X:XT)(sg:Sig)(fn:Func)(s:RSt A):A.M (Tup A.aM sg.out):=
 match Ob A X s fn.results.toList with
  | some rs=>match qD A s.h sg.res rs (es0 A sg.objs.length sg.fZ)with
   | some e=>match yO A s.h 0 sg.fZ e with
    | some e=>if ES.fine A s.h e sg.fZ then(match pack A.aM sg.out e.lv.reverse with | some y=>je A e.ck (A.ret sg.out y) | none=>A.fail)else A.fail
    | none=>A.fail
   | none=>A.fail
  | none=>A.fail
def I6(X:XT)(C:Calls A.aM)(ord:Nat->List eY)(chk:Nat->Array Oper->Nat->Bool)(an:Ann)(sg:Sig)(fn:Func)(code:Code)(x:Tup A.aM sg.inp):A.M (Tup A.aM sg.out):=
 if !Nat.ble sg.objs.length sg.fZ.length then A.fail else match sM A.aM (λi=>i) sg.args (unpack A.aM sg.inp x)with
 | some (vs,r)=>match uY A.aM (λi=>i) (λ_=> .gone .i64 (A.lit 0)) 0 sg.objs r with
  | some (os,_)=>
   dx A X C ord chk sg.objs.length an code {t:=(List.range vs.length).zip (vs.map λv=>⟨none,v⟩),gs:=[],h:=os,m:=vs.length+(fn.ntmps-vs.length)} λe s=>
    match e with
    | .ret | .normal=>TA A X sg fn s
    | _=>A.fail
  | none=>A.fail
 | none=>A.fail
end
end Go.TX
namespace Go.TX
open Go Go.AE
abbrev aV:Car:={I:=Int,B:=Bool,S:=ByteArray,L:=λc=>List c.den,X:=Co.den}
def aas(b:Blk):List (LV aV):=[.i b.pc,.i b.len,.l .iop b.ops,.i b.fin,.i b.x,.i b.y,.i b.k]
def ab0(m:dG):List (LV aV):=[.l .i64 m.regs,.i m.pc,.l .i64 m.mem,.i m.save,.b m.wL,.b m.waits,.i m.halt,.l .i64 m.ins,.l .i64 m.outs,.i m.count]
def Co.xO:(c:Co)->c.den->List (LV aV)
 | .i64,n=> [.i n] | .u8,n=> [.i n] | .bool,b=> [.b b] | .str,s=> [.s s]
 | .ins,i=> [.i i.op,.i i.d,.i i.a,.i i.k]
 | .form,f=> [.b f.d,.b f.a,.i f.most,.l .str f.words]
 | .mono,m=> [.i m.bU,.l .i64 m.atoms]
 | .poly,p=> [.l .mono p]
 | .atom,a=> [.i a.kind,.i a.k,.l .mono a.x,.l .mono a.y]
 | .tab,t=> [.l .atom t]
 | .iop,o=> [.i o.kind,.i o.x,.i o.y,.i o.k,.i o.at_]
 | .blk,b=>aas b
 | .bA,m=>ab0 m
 | .ev,e=> [.i e.kind,.i e.at_,.l .mono e.x,.l .mono e.y,.l .poly e.regs]
 | .sym,s=> [.l .ev s.events,.l .poly s.regs,.i s.fin,.l .mono s.x,.l .mono s.y,.i s.k]
 | .cac,c=> .l .i64 c.words::aas c.blk
 | .cer,c=>aas c.base++aas c.made
 | .ask,a=> [.b a.own,.l .u8 a.bytes]
 | .eng,e=>ab0 e.bA++ [.l .cac e.cache,.l .cer e.iA]
 | .ints,t=> [.l .i64 t]
abbrev jf:=Tup aV
def Co.mk:(c:Co)->jf c.rF->c.den
 | .i64,t=>t.1 | .u8,t=>t.1 | .bool,t=>t.1 | .str,t=>t.1
 | .ins,t=>⟨t.1,t.2.1,t.2.2.1,t.2.2.2.1⟩
 | .form,t=>⟨t.1,t.2.1,t.2.2.1,t.2.2.2.1⟩
 | .mono,t=>⟨t.1,t.2.1⟩
 | .poly,t=>t.1
 | .atom,t=>⟨t.1,t.2.1,t.2.2.1,t.2.2.2.1⟩
 | .tab,t=>t.1
 | .iop,t=>⟨t.1,t.2.1,t.2.2.1,t.2.2.2.1,t.2.2.2.2.1⟩
 | .blk,t=>⟨t.1,t.2.1,t.2.2.1,t.2.2.2.1,t.2.2.2.2.1,t.2.2.2.2.2.1,t.2.2.2.2.2.2.1⟩
 | .bA,t=>⟨t.1,t.2.1,t.2.2.1,t.2.2.2.1,t.2.2.2.2.1,t.2.2.2.2.2.1,t.2.2.2.2.2.2.1,t.2.2.2.2.2.2.2.1,t.2.2.2.2.2.2.2.2.1,t.2.2.2.2.2.2.2.2.2.1⟩
 | .ev,t=>⟨t.1,t.2.1,t.2.2.1,t.2.2.2.1,t.2.2.2.2.1⟩
 | .sym,t=>⟨t.1,t.2.1,t.2.2.1,t.2.2.2.1,t.2.2.2.2.1,t.2.2.2.2.2.1⟩
 | .cac,t=>⟨t.1,⟨t.2.1,t.2.2.1,t.2.2.2.1,t.2.2.2.2.1,t.2.2.2.2.2.1,t.2.2.2.2.2.2.1,t.2.2.2.2.2.2.2.1⟩⟩
 | .cer,t=>⟨⟨t.1,t.2.1,t.2.2.1,t.2.2.2.1,t.2.2.2.2.1,t.2.2.2.2.2.1,t.2.2.2.2.2.2.1⟩,
  ⟨t.2.2.2.2.2.2.2.1,t.2.2.2.2.2.2.2.2.1,t.2.2.2.2.2.2.2.2.2.1,t.2.2.2.2.2.2.2.2.2.2.1,t.2.2.2.2.2.2.2.2.2.2.2.1,t.2.2.2.2.2.2.2.2.2.2.2.2.1,t.2.2.2.2.2.2.2.2.2.2.2.2.2.1⟩⟩
 | .ask,t=>⟨t.1,t.2.1⟩
 | .eng,t=>⟨⟨t.1,t.2.1,t.2.2.1,t.2.2.2.1,t.2.2.2.2.1,t.2.2.2.2.2.1,t.2.2.2.2.2.2.1,t.2.2.2.2.2.2.2.1,t.2.2.2.2.2.2.2.2.1,t.2.2.2.2.2.2.2.2.2.1⟩,t.2.2.2.2.2.2.2.2.2.2.1,t.2.2.2.2.2.2.2.2.2.2.2.1⟩
 | .ints,t=>t.1
def bytesOf(l:List UInt8):ByteArray:=⟨l.toArray⟩
def adN:List Form:=[
 ⟨false,false,3,[bytesOf [115,116,111,112],bytesOf [114,101,116,117,114,110],bytesOf [108,101,116],bytesOf [107,101,101,112]]⟩,
 ⟨true,false,255,[bytesOf [115,101,116]]⟩,⟨true,true,0,[bytesOf [109,111,118,101]]⟩,⟨true,true,3,[bytesOf [97,100,100]]⟩,⟨true,true,3,[bytesOf [115,117,98]]⟩,
 ⟨true,true,3,[bytesOf [109,117,108]]⟩,⟨true,true,3,[bytesOf [97,110,100]]⟩,⟨true,true,3,[bytesOf [120,111,114]]⟩,⟨true,true,15,[bytesOf [115,104,105,102,116]]⟩,
 ⟨true,true,255,[bytesOf [108,111,97,100]]⟩,⟨true,true,255,[bytesOf [115,116,111,114,101]]⟩,⟨true,true,255,[bytesOf [115,97,109,101]]⟩,⟨true,true,255,[bytesOf [108,101,115,115]]⟩,
 ⟨false,true,0,[bytesOf [103,111]]⟩,⟨true,false,0,[bytesOf [111,117,116]]⟩,⟨true,false,0,[bytesOf [105,110]]⟩]
def Ve:(c:Co)->List c.den
 | .form=>adN
 | _=> []
def Cy{α ρ:Type}(k:α->(ρ->Prop)->Prop)(Q:ρ->Prop):α ⊕ ρ->Prop
 | .inl x=>k x Q
 | .inr r=>Q r
def itW{α ρ:Type}:Nat->(α->(α ⊕ ρ->Prop)->Prop)->α->(ρ->Prop)->Prop
 | 0,_,_,_=>False
 | n+1,f,x,Q=>f x (Cy (itW n f) Q)
def Q0{α ρ:Type}(f:α->(α ⊕ ρ->Prop)->Prop)(x:α)(Q:ρ->Prop):Prop:=
 ∃(I:α->Prop) (μ:α->Nat),I x/\∀y,I y->f y (Cy (λz _=>I z/\μ z<μ y) Q)
def lC(op:BinOp)(k:IntKind)(x y:Int):Int:=
 match op with
 | .add=>k.wrap (x+y) | .sub=>k.wrap (x-y) | .mul=>k.wrap (x*y) | .quo=>k.wrap (x.tdiv y) | .rem=>x.tmod y
 | .and=>pI .and k x y | .or=>pI .or k x y | .xor=>pI .xor k x y
 | .shl=>k.wrap (x*2^ (min y.toNat k.bits)) | .shr=>x.fdiv (2^ (min y.toNat k.bits))
 | _=>0
def cB(op:BinOp)(x y:Int):Bool:=
 match op with
 | .eql=>decide (x=y) | .neq=> !decide (x=y) | .lss=>decide (x<y) | .leq=>decide (x<=y) | .gtr=>decide (y<x) | .geq=>decide (y<=x)
 | _=>false
def Vf(x y:Ins):Bool:=decide (x=y)
def Vg(x y:IOp):Bool:=decide (x=y)
def ai6:(c:Co)->c.den->c.den->Bool
 | .ins,x,y=>Vf x y | .iop,x,y=>Vg x y | _,_,_=>false
def D8(c:Co)(j:Nat)(x:c.den):Int:=match (c.xO x)[j]? with | some (.i n)=>n | _=>0
def ai7(c:Co)(j:Nat)(x:c.den):Bool:=match (c.xO x)[j]? with | some (.b n)=>n | _=>false
def ai8(c:Co)(j:Nat)(x:c.den):ByteArray:=match (c.xO x)[j]? with | some (.s n)=>n | _=>default
def Aq(c:Co)(j:Nat)(c':Co)(x:c.den):List c'.den:=match (c.xO x)[j]? with | some (.l q xs)=>if e:q=c' then e▸xs else [] | _=> []
abbrev std(N:Nat):Alg where
 aM:=aV
 M:=fun ρ=>(ρ->Prop)->Prop
 lit:=λn=>(n:Int)
 bl:=λb=>(b:Bool)
 st:=λs=>(s:ByteArray)
 arith:=lC
 cmp:=cB
 addN:=λ(x y:Int)=>x+y
 K4:=λ(x y:Int)=>x-y
 neg:=λk (x:Int)=>k.wrap (0-x)
 conv:=λk (x:Int)=>k.wrap x
 NQ:=λ(m n:Int)=>if n<m then n else m
 kS:=λ(m n:Int)=>if m<n then n else m
 xK:=λ(b:Bool)=> !b
 K6:=λ(a b:Bool)=>a&&b
 orB:=λ(a b:Bool)=>a || b
 eqB:=λ(a b:Bool)=>a==b
 eqS:=λ(a b:ByteArray)=>a.toList==b.toList
 NR:=λ(xs:List Int)=>strOfNums xs
 NS:=λ(b:Bool) (x y:Int)=>bif b then x else y
 IW:=λ(b:Bool) (x y:Bool)=>bif b then x else y
 NT:=λ(b:Bool) c (x y:List c.den)=>(bif b then x else y:List c.den)
 Tx:=λ(b:Bool) _ x y=>bif b then x else y
 len:=λc (xs:List c.den)=>(xs.length:Int)
 DW:=λc=>([]:List c.den)
 get:=λc (xs:List c.den) (i:Int)=>xs.getD i.toNat default
 set:=λc (xs:List c.den) (i:Int) x=>xs.set i.toNat x
 app:=λc (xs ys:List c.den)=>xs++ys
 sub:=λc (xs:List c.den) (lo hi:Int)=>(xs.take hi.toNat).drop lo.toNat
 rep:=λc (n:Int) x=>List.replicate n.toNat x
 lst:=λc (xs:List c.den)=>xs
 glob:=λ_ c=>Ve c
 fI:=D8
 fB:=ai7
 fS:=ai8
 fL:=Aq
 mkX:=Co.mk
 eqX:=ai6
 ret:=λ_ t Q=>Q t
 fail:=λ_=>False
 um:=λ_ t k=>k t
 chk:=λ(b:Bool) m Q=>b=true/\m Q
 cond:=λ(b:Bool) x y Q=>(b=true->x Q)/\(b=false->y Q)
 bind:=λ_ m k Q=>m λt=>k t Q
 uW:=λ_ m k Q=>m (Cy k Q)
 inl:=λ_ t Q=>Q (.inl t)
 inr:=λ_ m Q=>m λr=>Q (.inr r)
 iter:=λ_ f x Q=>Q0 f x Q
abbrev Co.size(c:Co):Nat:=c.fields.length
def Vh(n:Int):List D:=[.int .i64 n]
def vw(xs:List Int):D:= .rows 1 (xs.map Vh)
def mE(m:aA):List D:=[.int .i64 m.bU,vw m.atoms]
def bV(p:List aA):D:= .rows 2 (p.map mE)
def GD(p:List aA):List D:=[bV p]
def gU(a:Atom):List D:=[.int .i64 a.kind,.int .i64 a.k,bV a.x,bV a.y]
def agt(o:IOp):List D:=[.int .i64 o.kind,.int .i64 o.x,.int .i64 o.y,.int .i64 o.k,.int .i64 o.at_]
def agu(s:ByteArray):List D:=[.str s]
def u8R(n:Int):List D:=[.int .u8 n]
def aat(b:Blk):List D:=[.int .i64 b.pc,.int .i64 b.len,.rows 5 (b.ops.map agt),.int .i64 b.fin,.int .i64 b.x,.int .i64 b.y,.int .i64 b.k]
def ab1(m:dG):List D:=[vw m.regs,.int .i64 m.pc,vw m.mem,.int .i64 m.save,.bool m.wL,.bool m.waits,.int .i64 m.halt,vw m.ins,vw m.outs,.int .i64 m.count]
def evR(e:Ev):List D:=[.int .i64 e.kind,.int .i64 e.at_,bV e.x,bV e.y,.rows 1 (e.regs.map GD)]
def agv(c:Cac):List D:=vw c.words::aat c.blk
def agw(c:Cer):List D:=aat c.base++aat c.made
def Co.row:(c:Co)->c.den->List D
 | .i64,n=>Vh n | .u8,n=>u8R n | .bool,b=> [.bool b] | .str,s=>agu s
 | .ins,i=> [.int .i64 i.op,.int .i64 i.d,.int .i64 i.a,.int .i64 i.k]
 | .form,f=> [.bool f.d,.bool f.a,.int .i64 f.most,.rows 1 (f.words.map agu)]
 | .mono,m=>mE m | .poly,p=>GD p | .atom,a=>gU a | .tab,t=> [.rows 4 (t.map gU)] | .iop,o=>agt o
 | .blk,b=>aat b | .bA,m=>ab1 m | .ev,e=>evR e
 | .sym,s=> [.rows 5 (s.events.map evR),.rows 1 (s.regs.map GD),.int .i64 s.fin,bV s.x,bV s.y,.int .i64 s.k]
 | .cac,c=>agv c | .cer,c=>agw c | .ask,a=> [.bool a.own,.rows 1 (a.bytes.map u8R)]
 | .eng,e=>ab1 e.bA++ [.rows 8 (e.cache.map agv),.rows 14 (e.iA.map agw)]
 | .ints,t=> [vw t]
def bJ(c:Co)(xs:List c.den):List (List D):=xs.map c.row
def nZ:Leaf aV->D
 | .int k x=> .int k x | .bool b=> .bool b | .str s=> .str s | .rows c xs=> .rows c.size (bJ c xs)
def lvD:Sh->LV aV->D
 | .int k,.i n=> .int k n
 | _,.i n=> .int .i64 n
 | _,.b b=> .bool b
 | _,.s s=> .str s
 | _,.l c xs=> .rows c.size (bJ c xs)
 | _,.x _ _=> .bool false
def Vi(c:Co)(x:c.den):c.row x=List.zipWith lvD c.fields (c.xO x):=by cases c<;>rfl
theorem sN(c:Co)(x:c.den):(c.row x).length=c.size:=by cases c<;>rfl
def Vj(c:Co)(x:c.den):(c.xO x).length=c.size:=by cases c<;>rfl
def nG(N:Nat)(c:Co)(x:c.den):(fF (std N) c x 0 c.fields).map nZ=c.row x:=by cases c<;>rfl
def Ar(N:Nat)(c:Co)(x:c.den):(fF (std N) c x 0 c.fields).map kN=c.fields:=by cases c<;>rfl
def GH(N:Nat)(c:Co)(x:c.den):(fF (std N) c x 0 c.fields).map Leaf.lv=c.xO x:=by cases c<;>rfl
def TD{t:LTy}{v:LV aV}{a:LT aV t}(h:adG aV t v=some a):agr aV t a=v:=by
 cases t<;>cases v<;>simp only [adG,reduceCtorEq]at h<;>(try (cases h;rfl))
 all_goals
  split at h
  .rename_i e;subst e;cases h;rfl
  .cases h
def unpack_pack:∀ {ts:List LTy} {vs:List (LV aV)} {t:jf ts},pack aV ts vs=some t->unpack aV ts t=vs
 | [],[],_,_=>rfl
 | [],_::_,_,h=>by simp [pack]at h
 | _::_,[],_,h=>by simp [pack]at h
 | t::r,v::vs,x,h=>by
  unfold pack at h;split at h
  .rename_i a ha;split at h
   .rename_i b hb;cases h;simp only [unpack];rw [TD ha,unpack_pack hb]
   .cases h
  .cases h
def Q5(c:Co)(t:jf c.rF):c.xO (c.mk t)=unpack aV c.rF t:=by cases c<;>rfl
abbrev SC:=TC aV
abbrev SVal:=TV aV
abbrev bE:=fP aV
abbrev NM:=Nat->Option (Nat×Nat)
def Leaf.scalar:Leaf aV->Bool | .rows _ _=>false | _=>true
inductive RC (N:NM):Cell->SC->Prop
 | d {f g:Bool} {x:D} {y:Leaf aV}:x=nZ y->(g=true->f=true\/y.scalar=true)->RC N (.d f x) (.d g y)
 | nil:RC N .nil .nil
 | clip {f g:Bool} {c:Co} {xs:List c.den}:(g=true->f=true)->RC N (.clip f c.size (bJ c xs)) (.clip g c xs)
 | own {l sz n:Nat}:N l=some (sz,n)->RC N (.os l sz 0 n) (.own l)
 | os {l sz lo n m:Nat}:N l=some (sz,m)->RC N (.os l sz lo n) (.os l (lo:Int) (n:Int))
 | pb {l sz j:Nat}:RC N (.ptr l sz 0 j) (.pb l sz j)
 | pr {l sz i j m:Nat}:N l=some (sz,m)->RC N (.ptr l sz i j) (.pr l (i:Int) j)
 | rp {f g:Bool} {c:Co} {xs:List c.den} {i j:Nat}:(g=true->f=true)->i<xs.length->RC N (.rp f c.size (bJ c xs) i j) (.rp g c xs (i:Int) j)
 | gp {g:Nat} {c:Co}:RC N (.rp false 1 [[.rows c.size (bJ c (Ve c))]] 0 0) (.gp g c)
 | fn {g:FuncId} {caps:List (Nat×Nat)}:RC N (.fn g (caps.map λp=> .ptr p.1 p.2 0 0)) (.fn g caps)
 | np:RC N .np .np
def cellsS(v:SVal):List SC:=dR (std 0) v
def Oc(n:Nat)(c:Co)(x:c.den):∀(l:List Sh) (j:Nat),fF (std n) c x j l=fF (std 0) c x j l
 | [],_=>rfl
 | s::r,j=>by simp_all
def Ld(n:Nat)(f:Bool)(c:Co)(x:c.den):qU (std n) f c x=qU (std 0) f c x:=congrArg (List.map (TC.d f)) (Oc n c x _ _)
def eP(n:Nat)(v:SVal):dR (std n) v=cellsS v:=by
 cases v with
 | sv f c x=>exact Ld n f c x
 | _=>rfl
inductive PV0 (N:NM):PV->SVal->Prop
 | c {x:Cell} {y:SC}:RC N x y->PV0 N (.c x) (.c y)
 | agg {cs:List Cell} {v:SVal}:cZ (std 0) v=true->F2 (RC N) cs (cellsS v)->PV0 N (.agg cs) v
inductive PVR (N:NM):PV->SVal->Prop
 | one {p:PV} {v:SVal}:PV0 N p v->PVR N p v
 | tup {ps:List PV} {vs:List SVal}:F2 (PV0 N) ps vs->PVR N (.tup ps) (.tup vs)
def nmh(h:List bE):NM:=λl=>match h[l]? with
 | some (.rows _ c xs)=>some (c.size,(xs:List c.den).length)
 | some (.gone c n)=>some (c.size,(n:Int).toNat)
 | _=>none
inductive OR (N:NM):eO->bE->Prop
 | box {cs:List Cell} {v:SVal}:F2 (RC N) cs (cellsS v)->OR N (.box cs) (.box v)
 | rows {f g:Bool} {c:Co} {xs:List c.den}:(g=true->f=true)->OR N (.rows f c.size (bJ c xs)) (.rows g c xs)
 | gone {c:Co} {n:Int}:OR N .gone (.gone c n)
structure gq(h':Heap)(h:List bE):Prop where
 old:∀l o,h[l]? =some o->∃o',AE.look h' l=some o'/\OR (nmh h) o' o
 new:∀l,h.length<=l->AE.look h' l=none
def RC.mono{N M:NM}(hN:∀l x,N l=some x->M l=some x){x:Cell}{y:SC}(h:RC N x y):RC M x y:=by
 cases h with
 | d h1 h2=>exact .d h1 h2
 | nil=>exact .nil
 | clip h=>exact .clip h
 | own h=>exact .own (hN _ _ h)
 | os h=>exact .os (hN _ _ h)
 | pb=>exact .pb
 | pr h=>exact .pr (hN _ _ h)
 | rp h h'=>exact .rp h h'
 | gp=>exact .gp
 | fn=>exact .fn
 | np=>exact .np
def PV0.mono{N M:NM}(hN:∀l x,N l=some x->M l=some x){x:PV}{y:SVal}(h:PV0 N x y):PV0 M x y:=by
 cases h with
 | c h=>exact .c (h.mono hN)
 | agg h1 h2=>exact .agg h1 (h2.mono λ_ _ h=>h.mono hN)
def PVR.mono{N M:NM}(hN:∀l x,N l=some x->M l=some x){x:PV}{y:SVal}(h:PVR N x y):PVR M x y:=by
 cases h with
 | one h=>exact .one (h.mono hN)
 | tup h=>exact .tup (h.mono λ_ _ h=>h.mono hN)
def OR.mono{N M:NM}(hN:∀l x,N l=some x->M l=some x){x:eO}{y:bE}(h:OR N x y):OR M x y:=by
 cases h with
 | box h=>exact .box (h.mono λ_ _ h=>h.mono hN)
 | rows h=>exact .rows h
 | gone=>exact .gone
def PVR.cell{N:NM}{p:PV}{y:SC}(h:PVR N p (.c y)):∃x,p= .c x/\RC N x y:=by
 cases h with | one h=>cases h with
  | c h=>exact⟨_,rfl,h⟩
  | agg h _=>simp [cZ]at h
def PVR.ofC{N:NM}{x:Cell}{y:SC}(h:RC N x y):PVR N (.c x) (.c y):= .one (.c h)
theorem RC.int{N:NM}{x:Cell}{f:Bool}{k:IntKind}{n:Int}(h:RC N x (.d f (.int k n))):∃g,x= .d g (.int k n):=by
 cases h with | d h1 h2=>exact⟨_,by rw [h1];rfl⟩
theorem RC.bool{N:NM}{x:Cell}{f:Bool}{b:Bool}(h:RC N x (.d f (.bool b))):∃g,x= .d g (.bool b):=by
 cases h with | d h1 h2=>exact⟨_,by rw [h1];rfl⟩
theorem PVR.int{N:NM}{p:PV}{f:Bool}{k:IntKind}{n:Int}(h:PVR N p (.c (.d f (.int k n)))):∃g,p= .c (.d g (.int k n)):=by
 obtain⟨x,rfl,hc⟩:=h.cell;grind [RC.int]
theorem PVR.bool{N:NM}{p:PV}{f:Bool}{b:Bool}(h:PVR N p (.c (.d f (.bool b)))):∃g,p= .c (.d g (.bool b)):=by
 obtain⟨x,rfl,hc⟩:=h.cell;grind [RC.bool]
def PVR.ci{N:NM}(k:IntKind)(n:Int)(f:Bool):PVR N (ci k n) (.c (.d f (.int k n))):= .ofC (.d rfl λ_=> .inl rfl)
def PVR.cb{N:NM}(b f:Bool):PVR N (AE.cb b) (.c (.d f (.bool b))):= .ofC (.d rfl λ_=> .inl rfl)
def PVR.cells{N:NM}{p:PV}{v:SVal}(h:PVR N p v):F2 (RC N) (aR p) (cellsS v):=by
 cases h with
 | one h=>cases h with
  | c h=>exact .cons h .nil
  | agg _ h=>exact h
 | tup h=>exact .nil
def PVR.len{N:NM}{p:PV}{v:SVal}(h:PVR N p v):(aR p).length=(cellsS v).length:=h.cells.length
def F2.ab2{N:NM}{f g:Bool}(hf:g=true->f=true):∀(ys:List (Leaf aV)),F2 (RC N) ((ys.map nZ).map (.d f)) (ys.map (.d g))
 | []=> .nil
 | _::ys=> .cons (.d rfl λh=> .inl (hf h)) (F2.ab2 hf ys)
def TF{N:NM}(n:Nat){f g:Bool}(hf:g=true->f=true)(c:Co)(x:c.den):F2 (RC N) ((c.row x).map (.d f)) (qU (std n) g c x):=by
 unfold qU;rw [<-nG n c x];exact F2.ab2 hf _
structure XOK(X:XT)(E:Tab):Prop where
 ty:X.ty=E.ty
 glob:∀g c,X.glob g=some c->E.glob g=some (.rows c.size (bJ c (Ve c)))
 ieq:∀t c,X.ieq t=some c->(c= .ins/\E.ieq t=some 4)\/(c= .iop/\E.ieq t=some 5)
def Gv(T:(PV->Prop)->Prop)(N:NM)(v:SVal):Prop:=∃pv,PVR N pv v/\∀K,K pv->T K
def Gv.mk{T:(PV->Prop)->Prop}{N:NM}{v:SVal}(pv:PV)(h:PVR N pv v)(hk:∀K,K pv->T K):Gv T N v:=⟨pv,h,hk⟩
def EvR(X:XT)(E:Tab)(n:Nat)(N:NM)(t:Slots)(e:Nat->Option SVal):Prop:=∀i v,e i=some v->∃pv,aB t i=some pv/\PVR N pv v
def fC{X:XT}{E:Tab}(hX:XOK X E){n:Nat}{N:NM}{t:Slots}{e:Nat->Option SVal}(he:EvR X E n N t e){x:Operand}{v:SVal}(h:evX (std n) X e x=some v):
  ∃pv,ev E t x=some pv/\PVR N pv v:=by
 cases x with
 | tmp i=>exact he i v h
 | const c=>
  simp only [evX]at h;split at h<;>cases h
  .exact⟨_,rfl,.ci _ _ _⟩
  .exact⟨_,rfl,.cb _ _⟩
  .exact⟨_,rfl,.ofC (.d rfl λ_=> .inl rfl)⟩
  .exact⟨_,rfl,.ofC .nil⟩
  .exact⟨_,rfl,.ofC .np⟩
 | global g=>
  simp only [evX]at h;split at h
  .rename_i c hc;cases h;refine⟨_,by simp only [ev,hX.glob g c hc,Option.map_some],.ofC .gp⟩
  .cases h
 | func f=>cases h;exact⟨_,rfl,.ofC (RC.fn (caps:=[]))⟩
theorem jq{o:Option PV}{pv:PV}(h:o=some pv)(K:PV->Prop):K pv->aC o K:=by rw [h];exact id
def Od{d:aN}(h:d.agg=true):∃fs,d= .struct fs:=by cases d<;>simp [aN.agg]at h;exact⟨_,rfl⟩
def BX(n:Nat)(w:SVal):cZ (std n) w=cZ (std 0) w:=by cases w<;>rfl
def Vk{n:Nat}{N:NM}{f g:Bool}(hf:g=true->f=true){c:Co}{x:c.den}{y:TY}{j:Nat}{v:SVal}
  (h:lM (std n) y j (.sv g c x) (qU (std n) g c x)=some v):Gv (pG f y (c.row x) j) N v:=by
 have hrc:=TF (N:=N) n hf c x;have hl:(qU (std n) g c x).length=(c.row x).length:=by have:=hrc.length;simp_all
 unfold lM at h;split at h
 .rename_i hagg;obtain⟨fs,hfs⟩:=Od hagg;have key:∀v,F2 (RC N) ((((c.row x).drop j).take y.size).map (.d f)) (cellsS v)->cZ (std 0) v=true->j+y.size<=(c.row x).length->Gv (pG f y (c.row x) j) N v:=by
   intro v h1 h2 h3;refine⟨_,.one (.agg h2 h1),λK hk=> ?_⟩
   grind [pG]
  split at h
  .rename_i h0;simp only [Bool.and_eq_true,beq_iff_eq]at h0;obtain⟨⟨rfl,hs⟩,_⟩:=h0;cases h;refine key _ ?_ rfl ah;have:((c.row x).drop 0).take y.size=c.row x:=by simp_all
   rw [this];have:=hrc;rw [Ld]at this;exact this
  .split at h
   .rename_i h1;cases h;have h1:=Nat.le_of_ble_eq_true h1;refine key _ ?_ rfl ah;rw [List.map_take,List.map_drop];exact(hrc.drop j).take y.size
   .cases h
 .rename_i hagg;split at h
  .rename_i q hq;obtain⟨a,ha,hra⟩:=hrc.get hq;rw [List.getElem?_map]at ha;cases hd:(c.row x)[j]? with
   | none=>simp_all
   | some d=>
   rw [hd]at ha;simp at ha;subst ha;split at h
   .rename_i k hk;split at h
    .rename_i f' k' m;split at h
     .rename_i e;subst e;cases h;obtain⟨g',hg'⟩:=RC.int hra;cases hg';exact⟨_,.ci k m _,λK hK=>by grind [pG]⟩
     .cases h
    .cases h
   .rename_i hni;cases h;refine⟨_,.ofC hra,λK hK=> ?_⟩
    grind [List.getElem?_eq_some_iff,pG,aN.agg,absurd,bool]
  .cases h
def Q6{n:Nat}{N:NM}{f g:Bool}(hf:g=true->f=true){c:Co}{xs:List c.den}{y:TY}{i j:Nat}{v:SVal}(hi:i<xs.length)
  (h:lM (std n) y j (.sv g c (xs.getD i default)) (qU (std n) g c (xs.getD i default))=some v):Gv (Ip f (bJ c xs) i j y) N v:=by
 obtain⟨pv,h1,h2⟩:=Vk (N:=N) hf h;refine⟨pv,h1,λK hK=>⟨by simpa [bJ]using hi,λrow hr=> ?_⟩⟩
 grind [bJ,List.getElem?_eq_getElem,Option.some.injEq,default,List.getD]
def aau{n:Nat}{N:NM}{cs:List Cell}{w v:SVal}{y:TY}{j:Nat}(hc:F2 (RC N) cs (cellsS w))(h:lM (std n) y j w (dR (std n) w)=some v):Gv (aU cs j y) N v:=by
 have hl:(dR (std n) w).length=cs.length:=by rw [eP];exact hc.length.symm
 unfold lM at h;split at h
 .rename_i hagg;split at h
  .rename_i h0;simp only [Bool.and_eq_true,beq_iff_eq]at h0;obtain⟨⟨rfl,hs⟩,hw⟩:=h0;cases h;refine⟨.agg ((cs.drop 0).take y.size),.one (.agg ah ?_),λK hK=> ?_⟩
   all_goals grind [List.take_of_length_le,aU]
  .split at h
   .rename_i h1;cases h;have h1:=Nat.le_of_ble_eq_true h1;refine⟨.agg ((cs.drop j).take y.size),.one (.agg rfl ?_),λK hK=>by grind [aU]⟩;have:=(hc.drop j).take y.size;rw [<-eP n]at this;exact this
   .cases h
 .rename_i hagg;split at h
  .rename_i q hq;rw [eP]at hq;obtain⟨a,ha,hra⟩:=hc.get hq;have hv:v= .c q:=by
    split at h
    .split at h
     all_goals simp_all
    .cases h;rfl
   subst hv;exact⟨_,.ofC hra,λK hK=>by unfold aU;rw [if_neg hagg,ha];exact hK⟩
  .cases h
def gq.names{h':Heap}{h:List bE}(H:gq h' h){l:Nat}{o:bE}(ho:h[l]? =some o):∃o',AE.look h' l=some o'/\OR (nmh h) o' o:=H.old l o ho
def Le{X:XT}{E:Tab}(hX:XOK X E){n:Nat}{h':Heap}{h:List bE}(H:gq h' h){ty:TypeId}{p:PV}{q v:SVal}{ps:List Bool}(hp:PVR (nmh h) p q)
  (hk:K8 (std n) X h ty q=some (ps,v)) (hps:∀b∈ps,b=true):Gv (aL E h' ty p) (nmh h) v:=by
 unfold K8 at hk;rw [hX.ty]at hk;cases hy:E.ty ty with
 | none=>simp_all
 | some y=>
 rw [hy]at hk;simp only at hk;have lift:∀ {T:(PV->Prop)->Prop},Gv T (nmh h) v->(∀K,T K->aL E h' ty p K)->Gv (aL E h' ty p) (nmh h) v:=λ⟨pv,h1,h2⟩ f=>⟨pv,h1,λK hK=>f K (h2 K hK)⟩
 split at hk
 .rename_i l sz j;obtain⟨x,rfl,hc⟩:=hp.cell;cases hc;split at hk
  .rename_i w hw;split at hk
   .obtain⟨o',ho',hO⟩:=H.old l _ hw;cases hO with | box hF=>
    unfold K7 at hk;split at hk
    .rename_i u hu;cases hk;refine lift (aau hF hu) λK hT=> ?_
     unfold aL;rw [hy];simp only [au];rw [ho'];exact⟨rfl,hT⟩
    .cases hk
   .cases hk
  .cases hk
 .rename_i l i j;obtain⟨x,rfl,hc⟩:=hp.cell;cases hc with | pr hN=>
  rename_i sz i m;split at hk
  .rename_i f c xs hw;obtain⟨o',ho',hO⟩:=H.old l _ hw;cases hO with | rows hf=>
   split at hk
   .rename_i u hu;cases hk;have h2:=hps ((std n).cmp .lss (i:Int) ((std n).len c xs)) (by simp);have hi:i< (xs:List c.den).length:=by grind [cB]
    have hs:sz=c.size:=by grind [nmh,Option.some.injEq,Prod.mk.injEq]
    refine lift (Q6 (n:=n) hf hi (by simpa [std]using hu)) λK hT=> ?_
    unfold aL;rw [hy];simp only [au];rw [ho'];exact⟨hs,hT⟩
   .cases hk
  .cases hk
 .rename_i f c xs i j;obtain⟨x,rfl,hc⟩:=hp.cell;cases hc with | rp hf hi=>
  unfold K7 at hk;split at hk
  .rename_i u hu;cases hk;refine lift (Q6 (n:=n) hf hi (by simpa [std]using hu)) λK hT=> ?_
   unfold aL;rw [hy];exact hT
  .cases hk
 .rename_i g c;obtain⟨x,rfl,hc⟩:=hp.cell;cases hc;split at hk
  .rename_i e he;cases hk;refine⟨_,.ofC (.d (f:=false) rfl (λh=>by cases h)),λK hK=> ?_⟩;unfold aL;rw [hy];simp only [au];refine⟨by simp,λrow hr=> ?_⟩;simp at hr;subst hr;unfold pG;rw [he];exact⟨by simp,λx hx=>by simp at hx;subst hx;exact hK⟩
  .cases hk
 .cases hk
def Vm{n:Nat}{N:NM}{p:PV}{q v:SVal}{ps:List Bool}(hp:PVR N p q)(hk:adL (std n) q=some (ps,v)):Gv (Nh p) N v:=by
 unfold adL at hk;split at hk
 .cases hk;obtain⟨x,rfl,hc⟩:=hp.cell;cases hc;exact⟨_,.ofC .pb,λK hK=>hK⟩
 .cases hk;obtain⟨x,rfl,hc⟩:=hp.cell;cases hc with | pr h=>exact⟨_,.ofC (.pr h),λK hK=>hK⟩
 .cases hk;obtain⟨x,rfl,hc⟩:=hp.cell;cases hc with | rp h h'=>exact⟨_,.ofC (.rp h h'),λK hK=>hK⟩
 .cases hk
def agx{n:Nat}{N:NM}{op:UnOp}{p:PV}{q v:SVal}{ps:List Bool}(hp:PVR N p q)(hk:unX (std n) op q=some (ps,v)):Gv (unA op p) N v:=by
 unfold unX at hk;split at hk
 .cases hk;obtain⟨g,rfl⟩:=hp.bool;exact⟨_,.cb _ _,λK hK=>hK⟩
 .cases hk;obtain⟨g,rfl⟩:=hp.int;exact⟨_,.ci _ _ _,λK hK=>hK⟩
 .cases hk
def GI:∀xs:List Int,Kr (bJ .u8 xs)=some xs
 | []=>rfl
 | x::r=>by
  have ih:=GI r;show(match adz (Co.row .u8 x),Kr (bJ .u8 r)with | some n,some l=>some (n::l) | _,_=>none)=_;rw [ih];rfl
def aav{X:XT}{E:Tab}(hX:XOK X E){n:Nat}{N:NM}{s d:TypeId}{p:PV}{q v:SVal}{ps:List Bool}(hp:PVR N p q)(hk:UZ (std n) X s d q=some (ps,v)):Gv (Dh E s d p) N v:=by
 unfold UZ at hk;rw [hX.ty]at hk;split at hk
 .rename_i y1 y2 h1 h2;split at hk
  .rename_i k f k' m hd;cases hk;obtain⟨g,rfl⟩:=hp.int;refine⟨_,.ci _ _ _,λK hK=> ?_⟩
   grind [Dh,au]
  .rename_i f xs hd;split at hk
   .rename_i e hs;split at hk
    .rename_i t ht;split at hk
     .rename_i hte;cases hk;obtain⟨x,rfl,hc⟩:=hp.cell;have hc':∃g,x= .d g (.rows Co.u8.size (bJ .u8 xs)):=by cases hc with | d e1 _=>exact⟨_,by rw [e1];rfl⟩
      obtain⟨g,rfl⟩:=hc';refine⟨.c (.d true (.str (strOfNums xs))),.ofC (.d rfl λ_=> .inl rfl),λK hK=> ?_⟩;unfold Dh;rw [h2];simp only [au];rw [hd];simp only;rw [h1];simp only;rw [hs];simp only;rw [ht];simp only;refine⟨hte,?_⟩;rw [GI];exact hK
     .cases hk
    .cases hk
   .cases hk
  .cases hk
 .cases hk
def I7{X:XT}{E:Tab}(hX:XOK X E){n:Nat}{N:NM}{s:TypeId}{i:Nat}{p:PV}{q v:SVal}{ps:List Bool}(hp:PVR N p q)(hk:xL (std n) X s q i=some (ps,v)):Gv (aj E s p i) N v:=by
 unfold xL at hk;rw [hX.ty]at hk;split at hk
 .rename_i y hy;split at hk
  .rename_i fs hd;split at hk
   .rename_i off ft hf;split at hk
    .rename_i z hz;split at hk
     .cases hk
     .rename_i hne;have hne:z.size≠0:=by simpa using hne
      have fin:∀K,(match p with | .c (.ptr l sz i j)=>K (.c (.ptr l sz i (j+off))) | .c (.rp r sz es i j)=>K (.c (.rp r sz es i (j+off))) | _=>False)->aj E s p i K:=by grind [aj,au]
      split at hk
      .cases hk;obtain⟨x,rfl,hc⟩:=hp.cell;cases hc;exact⟨_,.ofC .pb,λK hK=>fin K hK⟩
      .cases hk;obtain⟨x,rfl,hc⟩:=hp.cell;cases hc with | pr h=>exact⟨_,.ofC (.pr h),λK hK=>fin K hK⟩
      .cases hk;obtain⟨x,rfl,hc⟩:=hp.cell;cases hc with | rp h h'=>exact⟨_,.ofC (.rp h h'),λK hK=>fin K hK⟩
      .cases hk
    .cases hk
   .cases hk
  .cases hk
 .cases hk
def PVR.struct{N:NM}{p:PV}{v:SVal}(h:PVR N p v)(hs:cZ (std 0) v=true):∃cs,p= .agg cs/\F2 (RC N) cs (cellsS v):=by
 cases h with
 | one h=>cases h with
  | c _=>simp [cZ]at hs
  | agg _ h=>exact⟨_,rfl,h⟩
 | tup _=>simp [cZ]at hs
def Vn{X:XT}{E:Tab}(hX:XOK X E){n:Nat}{N:NM}{s:TypeId}{i:Nat}{p:PV}{q v:SVal}{ps:List Bool}(hp:PVR N p q)(hk:NU (std n) X s q i=some (ps,v)):Gv (aH E s p i) N v:=by
 unfold NU at hk;rw [hX.ty]at hk;split at hk
 .rename_i y hy;split at hk
  .rename_i fs hd;split at hk
   .rename_i off ft hf;split at hk
    .rename_i z hz;split at hk
     .rename_i hc;simp only [Bool.and_eq_true]at hc;obtain⟨hst,hle⟩:=hc;have hle:=Nat.le_of_ble_eq_true hle;obtain⟨cs,rfl,hF⟩:=hp.struct ah;have hl:(dR (std n) q).length=cs.length:=by rw [eP];exact hF.length.symm
      have fin:∀K,(if z.desc.agg then K (.agg ((cs.drop off).take z.size))else aO cs[off]? λx=>K (.c x))->aH E s (.agg cs) i K:=by grind [aH,au]
      split at hk
      .rename_i hagg;cases hk;refine⟨.agg ((cs.drop off).take z.size),.one (.agg rfl ?_),λK hK=>fin K (by simp_all)⟩;have:=(hF.drop off).take z.size;rw [<-eP n]at this;exact this
      .rename_i hagg;split at hk
       .rename_i x hx;cases hk;rw [eP]at hx;obtain⟨a,ha,hra⟩:=hF.get hx;exact⟨_,.ofC hra,λK hK=>fin K (by rw [if_neg hagg,ha];exact hK)⟩
       .cases hk
     .cases hk
    .cases hk
   .cases hk
  .cases hk
 .cases hk
def TH{N:NM}{op:BinOp}{k:IntKind}{x y:Int}{v:SVal}{ps:List Bool}{n:Nat}
    (hk:(match op with
       | .quo | .rem=>some ([(std n).cmp .neq y ((std n).lit 0)],.c (.d true (.int k ((std n).arith op k x y))))
       | .shl | .shr=>some ([(std n).cmp .leq ((std n).lit 0) y],.c (.d true (.int k ((std n).arith op k x y))))
       | op=>if IX op then okI (std n) k ((std n).arith op k x y)else if UY op then okB (std n) ((std n).cmp op x y)else none:PR (std n))=some (ps,v))
    (hps:∀b∈ps,b=true):Gv (nu op k x y) N v:=by
  cases op<;>simp only [IX,UY,okI,okB,if_true,Bool.false_eq_true,if_false,Option.some.injEq,Prod.mk.injEq,reduceCtorEq]at hk<;>
    first
    | exact hk.elim
    | (obtain⟨rfl,rfl⟩:=hk;exact⟨_,.ci _ _ _,λK hK=>hK⟩)
    | (obtain⟨rfl,rfl⟩:=hk;exact⟨_,.cb _ _,λK hK=>hK⟩)
    | (obtain ⟨rfl, rfl⟩ := hk
       have h:=hps _ (List.mem_singleton.2 rfl);refine⟨_,.ci _ _ _,λK hK=>⟨?_,hK⟩⟩;simpa [cB]using h)
def F2.I8{N:NM}:∀ {cs:List Cell} {ys:List SC},F2 (RC N) cs ys->∀(ns:List Int),(∃fs:List Bool,ys=List.zipWith (λf n=>TC.d f (.int .i64 n)) fs ns/\fs.length=ns.length)->iZ cs=some ns
 | [],_,h,ns,⟨fs,e,hl⟩=>by
  cases h;cases ns with
  | nil=>rfl
  | cons a b=>simp_all
 | _::_,_,.cons h1 h2,ns,⟨fs,e,hl⟩=>by
  cases ns with
  | nil=>simp_all
  | cons a b=>cases fs with
   | nil=>simp at hl
   | cons c d=>
    simp only [List.zipWith_cons_cons,List.cons.injEq]at e;obtain⟨rfl,rfl⟩:=e;obtain⟨g,rfl⟩:=RC.int h1;have:=F2.I8 h2 b ⟨d,rfl,by simpa using hl⟩;simp [iZ,Ni,this]
def tQ{n:Nat}{h:List bE}:∀ {ss:List Sh} {ys:List SC} {f:Bool} {vs:List (LV aV)} {ls:List Nat},(∀s∈ss,s=Sh.i)->bF (std n) h ss ys=some (f,vs,ls)->
  ∃ns:List Int,vs=ns.map LV.i/\∃fs:List Bool,ys=List.zipWith (λf n=>TC.d f (.int .i64 n)) fs ns/\fs.length=ns.length
 | [],[],f,vs,ls,_,hk=>by simp_all [bF]
 | [],_::_,_,_,_,_,hk=>by simp [bF]at hk
 | _::_,[],_,_,_,_,hk=>by simp [bF]at hk
 | s::ss,y::ys,f,vs,ls,hs,hk=>by
  unfold bF at hk;split at hk
  .rename_i f1 y1 l1 h1;split at hk
   .rename_i g ys1 ls1 h2;split at hk<;>cases hk
    obtain⟨ns,rfl,fs,rfl,hl⟩:=tQ (λs hs'=>hs s (List.mem_cons_of_mem _ hs')) h2;have:=hs s (by simp);subst this;unfold gQ at h1;split at h1
    .rename_i f0 lf;split at h1
     .rename_i e;cases lf with
      | int k x=>simp [kN,Sh.i]at e;subst e;cases h1;exact⟨x::ns,rfl,f0::fs,rfl,by simp [hl]⟩
      | bool x=>simp [kN,Sh.i]at e
      | str x=>simp [kN,Sh.i]at e
      | rows c x=>simp [kN,Sh.i]at e
     .cases h1
    .simp_all
    .simp_all
    .split at h1
     all_goals simp_all
    .cases h1
   .cases hk
  .cases hk
theorem Lf(x:Ins):Co.xO .ins x=[x.op,x.d,x.a,x.k].map LV.i:=rfl
theorem Lg(x:IOp):Co.xO .iop x=[x.kind,x.x,x.y,x.k,x.at_].map LV.i:=rfl
def TI{a b:List Int}(h:a.map (LV.i (A:=aV))=b.map LV.i):a=b:=by
 induction a generalizing b with
 | nil=>cases b<;>simp_all
 | cons x a ih=>cases b with
  | nil=>simp at h
  | cons y b=>grind
theorem yV{n:Nat}{N:NM}{c:Co}(hc:∀s∈c.fields,s=Sh.i){q:SVal}{p:PV}{f:Bool}{x:c.den}{ls:List Nat}(hp:PVR N p q)(hk:toX (std n) [] c q=some (f,x,ls))(ns:List Int)(hns:c.xO x=ns.map LV.i):
  iZ (aR p)=some ns:=by
 unfold toX at hk;split at hk
 .rename_i f' c' x';split at hk
  .rename_i e;subst e;cases hk;have h:=hp.cells;have hx:cellsS (.sv f' c' x')=(fF (std 0) c' x' 0 c'.fields).map (.d f'):=rfl;rw [hx]at h;refine F2.I8 h ns ?_;have h1:=GH 0 c' x';have h2:=Ar 0 c' x';rw [hns]at h1
   revert h1 h2
   generalize fF (std 0) c' x' 0 c'.fields=lv;intro h1 h2;have h3:∀y∈lv,kN y=Sh.i:=λy hy=>hc _ (by grind)
   clear h2 hns hp h hx hc
   induction lv generalizing ns with
   | nil=>simp_all
   | cons y lv ih=>cases ns with
    | nil=>simp at h1
    | cons a b=>
     simp only [List.map_cons,List.cons.injEq]at h1;obtain⟨fs,e,hl⟩:=ih b h1.2 (λy hy=>h3 y (List.mem_cons_of_mem _ hy));have hy:=h3 y (by simp);cases y with
     | int k x=>simp [kN,Sh.i]at hy;subst hy;simp [Leaf.lv]at h1;exact⟨f'::fs,by simp [e,h1.1],by simp [hl]⟩
     | bool x=>grind [kN]
     | str x=>grind [kN]
     | rows c x=>grind [kN]
  .cases hk
 .cases hk
 .split at hk
  .rename_i f1 ys ls1 h1;split at hk
   .rename_i t ht;cases hk;obtain⟨ms,rfl,fs,hy,hl⟩:=tQ hc h1;rw [eP]at hy;have h2:c.xO (c.mk t)=ms.map LV.i:=by rw [Q5,unpack_pack ht]
    rw [show(std n).mkX c t=c.mk t from rfl]at hns;rw [h2]at hns;have:=TI hns;subst this;exact F2.I8 hp.cells ms ⟨fs,hy,hl⟩
   .cases hk
  .cases hk
def D9{N:NM}{p:PV}{q:SVal}(hp:PVR N p q){ns:List Int}(h:iZ (aR p)=some ns)(hl:2<=ns.length):∃cs,p= .agg cs/\iZ cs=some ns:=by
 cases p with
 | c x=>grind [aR,iZ]
 | agg cs=>exact⟨cs,rfl,h⟩
 | tup vs=>grind [aR,iZ]
def agy{x y:Ins}:([x.op,x.d,x.a,x.k]==[y.op,y.d,y.a,y.k])=Vf x y:=by
 unfold Vf;rw [Bool.eq_iff_iff];cases x;cases y;simp
def agz{x y:IOp}:([x.kind,x.x,x.y,x.k,x.at_]==[y.kind,y.x,y.y,y.k,y.at_])=Vg x y:=by
 unfold Vg;rw [Bool.eq_iff_iff];cases x;cases y;simp
theorem bN(c:Co)(xs:List c.den):(bJ c xs).length=xs.length:=by simp [bJ]
def adO{X:XT}{E:Tab}(hX:XOK X E){n:Nat}{N:NM}{op:BinOp}{ty:TypeId}{p p':PV}{a b v:SVal}{ps:List Bool}(hp:PVR N p a)(hp':PVR N p' b)
  (hk:adI (std n) X op ty a b=some (ps,v)) (hps:∀b∈ps,b=true):Gv (qZ E op ty p p') N v:=by
 unfold adI at hk;split at hk
 .rename_i f k x f' k' y;obtain⟨g,rfl⟩:=hp.int;obtain⟨g',rfl⟩:=hp'.int;split at hk
  .rename_i e;obtain⟨pv,h1,h2⟩:=TH (N:=N) hk hps;exact⟨pv,h1,λK hK=>⟨e,h2 K hK⟩⟩
  .cases hk
 .rename_i f x f' y;obtain⟨g,rfl⟩:=hp.bool;obtain⟨g',rfl⟩:=hp'.bool;rw [hX.ty]at hk;split at hk
  .rename_i z hz;split at hk
   .rename_i hd;split at hk
    .cases hk;exact⟨_,.cb _ _,λK hK=>by unfold qZ;simp only;rw [hz];exact⟨hd,hK⟩⟩
    .cases hk;exact⟨_,.cb _ _,λK hK=>by unfold qZ;simp only;rw [hz];exact⟨hd,hK⟩⟩
    .cases hk
   .cases hk
  .cases hk
 .rename_i f x f' y;have str:∀ {p:PV} {f:Bool} {s:ByteArray},PVR N p (.c (.d f (.str s)))->∃g,p= .c (.d g (.str s)):=λh=>by
   obtain⟨x,rfl,hc⟩:=h.cell;cases hc with | d e1 _=>exact⟨_,by rw [e1];rfl⟩
  obtain⟨g,rfl⟩:=str hp;obtain⟨g',rfl⟩:=str hp';rw [hX.ty]at hk;split at hk
  .rename_i z hz;split at hk
   .rename_i hd;split at hk
    .cases hk;exact⟨_,.cb _ _,λK hK=>by unfold qZ;simp only;rw [hz];exact⟨hd,hK⟩⟩
    .cases hk;exact⟨_,.cb _ _,λK hK=>by unfold qZ;simp only;rw [hz];exact⟨hd,hK⟩⟩
    .cases hk
   .cases hk
  .cases hk
 .rename_i l lo m;obtain⟨x,rfl,hr⟩:=hp.cell;obtain⟨x',rfl,hr'⟩:=hp'.cell;rw [hX.ty]at hk;split at hk
  .rename_i z hz;split at hk
   .rename_i el hd;cases hr with
    | @os l sz lo n0 m0 hN=>
    cases hr';have ne:(!decide ((n0:Int)=0))=true->n0≠0:=λh e=>by simp_all
    split at hk
    .cases hk;exact⟨_,.cb _ _,λK hK=>⟨ne (hps _ (List.mem_singleton.2 rfl)),by rw [hz];exact⟨⟨el,hd⟩,hK⟩⟩⟩
    .cases hk;exact⟨_,.cb _ _,λK hK=>⟨ne (hps _ (List.mem_singleton.2 rfl)),by rw [hz];exact⟨⟨el,hd⟩,hK⟩⟩⟩
    .cases hk
   .cases hk
  .cases hk
 .rename_i f c xs;obtain⟨x,rfl,hr⟩:=hp.cell;obtain⟨x',rfl,hr'⟩:=hp'.cell;rw [hX.ty]at hk;split at hk
  .rename_i z hz;split at hk
   .rename_i el hd;cases hr with
    | d e1 _=>
    cases hr';subst e1;have ne:(!decide ((xs.length:Int)=0))=true->bJ c xs≠ []:=λh e=>by grind [bN,Bool.not_eq_true',decide_eq_false_iff_not]
    split at hk
    .cases hk;exact⟨_,.cb _ _,λK hK=>⟨ne (hps _ (List.mem_singleton.2 rfl)),by rw [hz];exact⟨⟨el,hd⟩,hK⟩⟩⟩
    .cases hk;exact⟨_,.cb _ _,λK hK=>⟨ne (hps _ (List.mem_singleton.2 rfl)),by rw [hz];exact⟨⟨el,hd⟩,hK⟩⟩⟩
    .cases hk
   .cases hk
  .cases hk
 .split at hk
  .rename_i c hc;split at hk
   .rename_i f1 x l1 f2 y l2 hx hy;have main:∀(m:Nat) (xs ys:List Int),E.ieq ty=some m->xs.length=m->ys.length=m->2<=m->iZ (aR p)=some xs->iZ (aR p')=some ys->(xs==ys)=(std n).eqX c x y->Gv (qZ E op ty p p') N v:=by
     intro m xs ys he hlx hly h2 hax hay hq;obtain⟨cs,rfl,hcs⟩:=D9 hp hax ah;obtain⟨ds,rfl,hds⟩:=D9 hp' hay ah;split at hk
     .cases hk;exact⟨_,.cb _ _,λK hK=>by grind [qZ,uF]⟩
     .cases hk;exact⟨_,.cb _ _,λK hK=>by grind [qZ,uF]⟩
     .cases hk
    rcases hX.ieq ty c hc with⟨rfl,he⟩ | ⟨rfl,he⟩
    .exact main 4 _ _ he rfl rfl ah (yV (by decide) hp hx _ (Lf x)) (yV (by decide) hp' hy _ (Lf y)) agy
    .exact main 5 _ _ he rfl rfl ah (yV (by decide) hp hx _ (Lg x)) (yV (by decide) hp' hy _ (Lg y)) agz
   .cases hk
  .cases hk
def iD{X:XT}{E:Tab}(hX:XOK X E){e:TypeId}{c:Co}(h:mq X e c=true):∃z,E.ty e=some z/\z.size=c.size:=by
 unfold mq at h;rw [hX.ty]at h
 grind
theorem eU{h:List bE}{l:Nat}{f:Bool}{c:Co}{xs:List c.den}(hl:h[l]? =some (.rows f c xs)):nmh h l=some (c.size,xs.length):=by simp only [nmh,hl]
def aaw{n:Nat}{h:List bE}{p:PV}{v:SVal}(hp:PVR (nmh h) p v):PVR (nmh h) p (adJ (std n) h v):=by
 unfold adJ;split
 .rename_i l;split
  .rename_i f c xs hl;obtain⟨x,rfl,hr⟩:=hp.cell;cases hr with
   | @own l sz m hN=>
    have e:=eU hl;rw [hN]at e;cases e;exact .ofC (.os hN)
  .exact hp
 .exact hp
def I9{X:XT}{E:Tab}(hX:XOK X E){n:Nat}{h:List bE}{t:TypeId}{p p':PV}{a b v:SVal}{ps:List Bool}(hp:PVR (nmh h) p a)(hp':PVR (nmh h) p' b)
  (hk:xM (std n) X h t a b=some (ps,v)) (hps:∀b∈ps,b=true):Gv (dP E t p p') (nmh h) v:=by
 unfold xM at hk;rw [hX.ty]at hk;split at hk
 .rename_i y hy;split at hk
  .rename_i e f k i hd;obtain⟨i,rfl⟩:∃i':Int,i'=i:=⟨i,rfl⟩;obtain⟨g,rfl⟩:=hp'.int
   have fin:∀z,E.ty e=some z->∀K,(match p with
     | .c (.d f (.rows sz es))=>(es≠ []->sz=z.size)/\0<=i/\i<es.length/\K (.c (.rp f sz es i.toNat 0))
     | .c (.clip f sz es)=>(es≠ []->sz=z.size)/\0<=i/\i<es.length/\K (.c (.rp f sz es i.toNat 0))
     | .c (.os l sz lo n)=>sz=z.size/\0<=i/\i<n/\K (.c (.ptr l sz (lo+i.toNat) 0))
     | _=>False)->dP E t p (.c (.d g (.int k i))) K:=by
    intro z hz K hK;unfold dP;rw [hy];simp only [au];rw [hd];simp only;rw [hz];exact hK
   split at hk
   .rename_i f0 c xs;split at hk
    .rename_i hs;cases hk;obtain⟨z,hz,hzs⟩:=iD hX hs;obtain⟨x,rfl,hc⟩:=hp.cell;cases hc with | d hx hf=>
     subst hx;have h0:(0:Int)<=i:=by simp_all [cB]
     have h1:i< (xs:List c.den).length:=by simp_all [cB]
     refine⟨_,.ofC (x:= .rp _ c.size (bJ c xs) i.toNat 0) (by
      grind [RC.rp,nmh,Leaf.scalar,Int.toNat_of_nonneg]),λK hK=>fin z hz K ⟨λ_=>hzs.symm,h0,by rw [bN];omega,hK⟩⟩
    .cases hk
   .rename_i f0 c xs;split at hk
    .rename_i hs;cases hk;obtain⟨z,hz,hzs⟩:=iD hX hs;obtain⟨x,rfl,hc⟩:=hp.cell;cases hc with | clip hf=>
     have h0:(0:Int)<=i:=by simp_all [cB]
     have h1:i< (xs:List c.den).length:=by simp_all [cB]
     refine⟨_,.ofC (x:= .rp _ c.size (bJ c xs) i.toNat 0) (by
      grind [RC.rp,nmh,Int.toNat_of_nonneg]),λK hK=>fin z hz K ⟨λ_=>hzs.symm,h0,by rw [bN];omega,hK⟩⟩
    .cases hk
   .rename_i l;split at hk
    .rename_i f1 c xs hl;split at hk
     .rename_i hs;cases hk;obtain⟨z,hz,hzs⟩:=iD hX hs;obtain⟨x,rfl,hc⟩:=hp.cell;cases hc with | own hN=>
      have hN':=hN;rw [eU hl]at hN';cases hN';have h0:(0:Int)<=i:=by simp_all [cB]
      have h1:i< (xs:List c.den).length:=by simp_all [cB]
      refine⟨_,.ofC (x:= .ptr l c.size (0+i.toNat) 0) (by
       grind [RC.pr,nmh,Int.toNat_of_nonneg]),λK hK=>fin z hz K ⟨hzs.symm,h0,h1,hK⟩⟩
     .cases hk
    .cases hk
   .rename_i l lo n;split at hk
    .rename_i f1 c xs hl;split at hk
     .rename_i hs;cases hk;obtain⟨z,hz,hzs⟩:=iD hX hs;obtain⟨x,rfl,hc⟩:=hp.cell;cases hc with | os hN=>
      rename_i sz lo n m;have hN':=hN;rw [eU hl]at hN';cases hN';have h0:(0:Int)<=i:=by simp_all [cB]
      have h1:i< (n:Int):=by simp_all [cB]
      refine⟨_,.ofC (x:= .ptr l c.size (lo+i.toNat) 0) (by
       have:=RC.pr (N:=nmh h) (i:=lo+i.toNat) (j:=0) hN
       grind),λK hK=>fin z hz K ⟨hzs.symm,h0,h1,hK⟩⟩
     .cases hk
    .cases hk
   .cases hk
  .cases hk
 .cases hk
def adP{n:Nat}{h:List bE}{p:PV}{q v:SVal}{ps:List Bool}(hp:PVR (nmh h) p q)(hk:adK (std n) h q=some (ps,v)):Gv (qM p) (nmh h) v:=by
 unfold adK at hk;split at hk
 .cases hk;obtain⟨x,rfl,hc⟩:=hp.cell;cases hc with | d hx _=>subst hx;exact⟨_,.ci _ _ _,λK hK=>by grind [qM,nZ,bN]⟩
 .cases hk;obtain⟨x,rfl,hc⟩:=hp.cell;cases hc with | clip _=>exact⟨_,.ci _ _ _,λK hK=>by grind [qM,bN]⟩
 .obtain⟨x,rfl,hc⟩:=hp.cell;cases hc with | own hN=>
  split at hk
  .rename_i f c xs hl;cases hk;rw [eU hl]at hN;cases hN;exact⟨_,.ci _ _ _,λK hK=>hK⟩
  .cases hk
 .cases hk;obtain⟨x,rfl,hc⟩:=hp.cell;cases hc;exact⟨_,.ci _ _ _,λK hK=>hK⟩
 .cases hk;obtain⟨x,rfl,hc⟩:=hp.cell;cases hc;exact⟨_,.ci _ _ _,λK hK=>hK⟩
 .cases hk
def sO{X:XT}{E:Tab}(hX:XOK X E){n:Nat}{N:NM}{t:Slots}{e:Nat->Option SVal}(he:EvR X E n N t e){o:Option Operand}{d m:Int}(hk:IY (std n) X e o d=some m){K:Int->Prop}(h:K m):yB E t o d K:=by
 cases o with
 | none=>simp only [IY,Option.some.injEq]at hk;subst hk;exact h
 | some x=>
  simp only [IY]at hk;split at hk
  .rename_i f k m' hx;cases hk;obtain⟨pv,h1,h2⟩:=fC hX he hx;obtain⟨g,rfl⟩:=h2.int;unfold yB;simp only;rw [h1];exact h
  .cases hk
theorem vY(c:Co)(xs:List c.den)(l r:Nat):((bJ c xs).take r).drop l=bJ c ((xs.take r).drop l):=by simp [bJ,List.map_take,List.map_drop]
def Vo{X:XT}{E:Tab}(hX:XOK X E){n:Nat}{h:List bE}{t:Slots}{e:Nat->Option SVal}(he:EvR X E n (nmh h) t e){ty:TypeId}{p:PV}{q v:SVal}{lo hi mx:Option Operand}{ps:List Bool}(hp:PVR (nmh h) p q)
    (hk:NV (std n) X e h ty q lo hi mx=some (ps,v)) (hps:∀b∈ps,b=true):Gv (uG E t ty p lo hi mx) (nmh h) v:=by
  unfold NV at hk;rw [hX.ty]at hk;split at hk
  · rename_i y hy;split at hk
    · rename_i el hd;split at hk
      · rename_i l hl;obtain⟨l,rfl⟩:∃l':Int,l'=l:=⟨l,rfl⟩
        have fin:∀z,E.ty el=some z->∀K,(match p with
          | .c (.d f (.rows sz es))=>(es≠ []->sz=z.size)/\(yB E t hi es.length λh=>0<=l/\l<=h/\h<=es.length/\
              (match mx with
               | none=>K (.c (.d f (.rows sz ((es.take h.toNat).drop l.toNat))))
               | some _=>yB E t mx 0 λm=>hi.isSome=true/\m=h/\K (.c (.clip f sz ((es.take h.toNat).drop l.toNat)))))
          | .c (.os b sz lo0 n)=>sz=z.size/\mx=none/\(yB E t hi n λh=>0<=l/\l<=h/\h<=n/\K (.c (.os b sz (lo0+l.toNat) (h.toNat-l.toNat))))
          | .c .nil=>mx=none/\(yB E t hi 0 λh=>l=0/\h=0/\K (.c .nil))
          | _=>False)->uG E t ty p lo hi mx K:=by
          intro z hz K hK;unfold uG;rw [hy];simp only [au];rw [hd];simp only;rw [hz];exact sO hX he hl hK
        split at hk
        · rename_i f0 c xs;split at hk
          · rename_i hs;obtain⟨z,hz,hzs⟩:=iD hX hs;obtain⟨x,rfl,hc⟩:=hp.cell;cases hc with | d hx hf=>
            subst hx;split at hk
            · rename_i r hr;obtain⟨r,rfl⟩:∃l':Int,l'=r:=⟨r,rfl⟩;split at hk
              · rename_i hm;cases hk;have h0:(0:Int)<=l:=by simpa [cB]using hps (cB .leq 0 l) (by simp)
                have h1:l<=r:=by simpa [cB]using hps (cB .leq l r) (by simp)
                have h2:r<=(xs:List c.den).length:=by simpa [cB]using hps (cB .leq r ((xs:List c.den).length:Int)) (by simp)
                refine⟨_,.ofC (.d (y:= .rows c ((xs.take r.toNat).drop l.toNat)) rfl hf),λK hK=>fin z hz K ⟨λ_=>hzs.symm,?_⟩⟩;rw [bN];refine sO hX he hr ⟨h0,h1,h2,?_⟩;simp only [vY];exact hK
              · rename_i mo hm;split at hk
                · rename_i m hmm;obtain⟨m,rfl⟩:∃l':Int,l'=m:=⟨m,rfl⟩;split at hk
                  · rename_i hsome;cases hk;have h0:(0:Int)<=l:=by simpa [cB]using hps (cB .leq 0 l) (by simp)
                    have h1:l<=r:=by simpa [cB]using hps (cB .leq l r) (by simp)
                    have h2:r<=(xs:List c.den).length:=by simpa [cB]using hps (cB .leq r ((xs:List c.den).length:Int)) (by simp)
                    have h3:m=r:=by simpa [cB]using hps (cB .eql m r) (by simp)
                    refine⟨_,.ofC (.clip (c:=c) (xs:=((xs.take r.toNat).drop l.toNat)) (λh=>(hf h).resolve_right (by simp [Leaf.scalar]))),λK hK=>fin z hz K ⟨λ_=>hzs.symm,?_⟩⟩;rw [bN];refine sO hX he hr ⟨h0,h1,h2,?_⟩;simp only [vY];exact sO hX he hmm ⟨hsome,h3,hK⟩
                  · cases hk
                · cases hk
            · cases hk
          · cases hk
        · rename_i w;split at hk
          · rename_i f1 c xs hw;split at hk
            · rename_i hs;obtain⟨z,hz,hzs⟩:=iD hX hs;obtain⟨x,rfl,hc⟩:=hp.cell;cases hc with | own hN=>
              have hN':=hN;rw [eU hw]at hN';cases hN';split at hk
              · rename_i r hr;cases hk;obtain⟨r,rfl⟩:∃l':Int,l'=r:=⟨r,rfl⟩;have h0:(0:Int)<=l:=by simpa [cB]using hps (cB .leq 0 l) (by simp)
                have h1:l<=r:=by simpa [cB]using hps (cB .leq l r) (by simp)
                have h2:r<=(xs:List c.den).length:=by simpa [cB]using hps (cB .leq r ((xs:List c.den).length:Int)) (by simp)
                refine⟨_,.ofC (x:= .os w c.size (0+l.toNat) (r.toNat-l.toNat)) (by
                  have:=RC.os (N:=nmh h) (lo:=0+l.toNat) (n:=r.toNat-l.toNat) hN;rw [show((0+l.toNat:Nat):Int)=l by omega,show((r.toNat-l.toNat:Nat):Int)=r-l by omega]at this;exact this),λK hK=>fin z hz K ⟨hzs.symm,rfl,?_⟩⟩
                exact sO hX he hr ⟨h0,h1,h2,hK⟩
              · cases hk
            · cases hk
          · cases hk
        · rename_i w l0 n0;split at hk
          · rename_i f1 c xs hw;split at hk
            · rename_i hs;obtain⟨z,hz,hzs⟩:=iD hX hs;obtain⟨x,rfl,hc⟩:=hp.cell;cases hc with | os hN=>
              rename_i sz l0 n0 m;have hN':=hN;rw [eU hw]at hN';cases hN';split at hk
              · rename_i r hr;cases hk;obtain⟨r,rfl⟩:∃l':Int,l'=r:=⟨r,rfl⟩;have h0:(0:Int)<=l:=by simpa [cB]using hps (cB .leq 0 l) (by simp)
                have h1:l<=r:=by simpa [cB]using hps (cB .leq l r) (by simp)
                have h2:r<=(n0:Int):=by simpa [cB]using hps (cB .leq r (n0:Int)) (by simp)
                refine⟨_,.ofC (x:= .os w c.size (l0+l.toNat) (r.toNat-l.toNat)) (by
                  have:=RC.os (N:=nmh h) (lo:=l0+l.toNat) (n:=r.toNat-l.toNat) hN;rw [show((l0+l.toNat:Nat):Int)=(l0:Int)+l by omega,show((r.toNat-l.toNat:Nat):Int)=r-l by omega]at this;exact this),λK hK=>fin z hz K ⟨hzs.symm,rfl,?_⟩⟩
                exact sO hX he hr ⟨h0,h1,h2,hK⟩
              · cases hk
            · cases hk
          · cases hk
        · split at hk
          · rename_i r hr;split at hk
            · rename_i hsm;cases hk;obtain⟨r,rfl⟩:∃l':Int,l'=r:=⟨r,rfl⟩;obtain⟨x,rfl,hc⟩:=hp.cell;cases hc;have h1:l=0:=by simpa [cB]using hps (cB .eql l 0) (by simp)
              have h2:r=0:=by simpa [cB]using hps (cB .eql r 0) (by simp)
              obtain⟨z,hz⟩:=Option.isSome_iff_exists.1 hsm;exact⟨_,.ofC .nil,λK hK=>fin z hz K ⟨rfl,sO hX he hr ⟨h1,h2,hK⟩⟩⟩
            · cases hk
          · cases hk
        · cases hk
      · cases hk
    · cases hk
  · cases hk
def Vp{n:Nat}{N:NM}{x:Cell}{y:SC}(h:QU (std n) x=some y):RC N x y:=by
 unfold QU at h;split at h<;>first | (cases h;exact .d rfl λ_=> .inl rfl) | (cases h;exact .nil) | (cases h;exact .np) | cases h
def Au{n:Nat}{N:NM}:∀ {xs:List Cell} {ys:List SC},lu (std n) xs=some ys->F2 (RC N) xs ys
 | [],ys,h=>by simp [lu]at h;subst h;exact .nil
 | x::xs,ys,h=>by
  simp only [lu]at h;split at h
  .rename_i y ys' h1 h2;cases h;exact .cons (Vp h1) (Au h2)
  .cases h
def Q7{X:XT}{E:Tab}(hX:XOK X E){n:Nat}{N:NM}{t:Slots}{e:Nat->Option SVal}(he:EvR X E n N t e)(fs:List (Nat×TypeId)):
  ∀(parts:List (Nat×Operand)) {cs':List Cell} {cs out:List SC},F2 (RC N) cs' cs->K9 (std n) X e fs parts cs=some out->∃out',F2 (RC N) out' out/\∀K,K out'->oJ E t (nO E fs) parts cs' K
 | [],cs',cs,out,hc,hk=>by simp only [K9,Option.some.injEq]at hk;subst hk;exact⟨_,hc,λK hK=>hK⟩
 | (i,x)::rest,cs',cs,out,hc,hk=>by
  simp only [K9]at hk;rw [hX.ty]at hk;split at hk
  .rename_i off ft hf;split at hk
   .rename_i z v hz hv;split at hk
    .rename_i hcond;simp only [Bool.and_eq_true,beq_iff_eq,Bool.not_eq_true',beq_eq_false_iff_ne,ne_eq]at hcond;obtain⟨⟨h1,h2⟩,h3⟩:=hcond;have h3:=Nat.le_of_ble_eq_true h3;obtain⟨pv,hp,hr⟩:=fC hX he hv;have hcells:=hr.cells;have hlen:(aR pv).length=(dR (std n) v).length:=by rw [eP];exact hcells.length
     have hcl:cs'.length=cs.length:=hc.length;rw [eP]at hk;have hnew:F2 (RC N) (splice cs' (aR pv) off) (cs.take off++cellsS v++cs.drop (off+(cellsS v).length)):=by
      unfold splice;rw [show(aR pv).length=(cellsS v).length from hcells.length];exact((hc.take off).append hcells).append (hc.drop _)
     obtain⟨out',ho,hK⟩:=Q7 hX he fs rest hnew hk;refine⟨out',ho,λK hK'=> ?_⟩;unfold oJ;have hpl:nO E fs i=some (off,z.size):=by grind [nO]
     rw [hpl];simp only;rw [hp];exact⟨ah,h2,ah,hK K hK'⟩
    .cases hk
   .cases hk
  .cases hk
def Vq{X:XT}{E:Tab}(hX:XOK X E){n:Nat}{N:NM}{t:Slots}{e:Nat->Option SVal}(he:EvR X E n N t e){ty:TypeId}{parts:List (Nat×Operand)}{v:SVal}{ps:List Bool}
  (hk:NW (std n) X e ty parts=some (ps,v)):Gv (qN E t ty parts) N v:=by
 unfold NW at hk;split at hk
 .rename_i y hy;rw [hX.ty]at hy;split at hk
  .rename_i fs hd;split at hk
   .rename_i hall;split at hk
    .rename_i z hz;split at hk
     .rename_i cs hcs;cases hk;obtain⟨out',ho,hK⟩:=Q7 hX he fs parts (Au hz) hcs;refine⟨_,.one (.agg rfl ho),λK hK'=> ?_⟩;unfold qN;rw [hy];simp only [au];rw [hd];refine⟨λft hft=> ?_,hK _ hK'⟩;have:=List.all_eq_true.1 hall ft hft;rw [hX.ty]at this;exact this
     .cases hk
    .cases hk
   .cases hk
  .cases hk
 .cases hk
def Q8{X:XT}{E:Tab}(hX:XOK X E){n:Nat}{N:NM}{t:Slots}{e:Nat->Option SVal}(he:EvR X E n N t e):
  ∀(xs:List Operand) {cs:List (Nat×Nat)},La (std n) X e xs=some cs->∀K,K (cs.map λp=>Cell.ptr p.1 p.2 0 0)->tK E t xs K
 | [],cs,hk,K,hK=>by simp only [La,Option.some.injEq]at hk;subst hk;exact hK
 | x::r,cs,hk,K,hK=>by
  simp only [La]at hk;split at hk
  .rename_i l sz hx;split at hk
   .rename_i ys hys;cases hk;obtain⟨pv,h1,h2⟩:=fC hX he hx;obtain⟨c,rfl,hc⟩:=h2.cell;cases hc;unfold tK;rw [h1];exact Q8 hX he r hys _ hK
   .cases hk
  .cases hk
def Lh{n:Nat}{N:NM}{q:Bool}{x y z:SVal}{px py:PV}(hx:q=true->PVR N px x)(hy:q=false->PVR N py y)(hk:NY (std n) q x y=some z):PVR N (bif q then px else py) z:=by
 unfold NY at hk;split at hk
 .rename_i a b;split at hk
  .rename_i c hc;cases hk;unfold U9 at hc;split at hc
   .rename_i f k m g k' m';split at hc
    .rename_i e;subst e;cases hc;cases q with
     | true=>obtain⟨g,rfl⟩:=(hx rfl).int;exact .ofC (.d rfl λ_=> .inr rfl)
     | false=>obtain⟨g,rfl⟩:=(hy rfl).int;exact .ofC (.d rfl λ_=> .inr rfl)
    .cases hc
   .cases hc;cases q with
    | true=>obtain⟨g,rfl⟩:=(hx rfl).bool;exact .ofC (.d rfl λ_=> .inr rfl)
    | false=>obtain⟨g,rfl⟩:=(hy rfl).bool;exact .ofC (.d rfl λ_=> .inr rfl)
   .rename_i f c xs g c' ys;split at hc
    .rename_i e;subst e;cases hc;cases q with
     | true=>
      obtain⟨u,rfl,h⟩:=(hx rfl).cell;cases h with | d h1 h2=>exact .ofC (.d h1 λh=> .inl ((h2 (by simp_all)).resolve_right (by simp [Leaf.scalar])))
     | false=>
      obtain⟨u,rfl,h⟩:=(hy rfl).cell;cases h with | d h1 h2=>exact .ofC (.d h1 λh=> .inl ((h2 (by simp_all)).resolve_right (by simp [Leaf.scalar])))
    .cases hc
   .cases hc
  .cases hk
 .cases hk
def Li{X:XT}{E:Tab}(hX:XOK X E){n:Nat}{h':Heap}{h:List bE}{t:Slots}{e:Nat->Option SVal}(he:EvR X E n (nmh h) t e){c:Call}{v:SVal}{ps:List Bool}
  (hk:DX (std n) X e h c=some (ps,v)):Gv (aF E (.call c) t h') (nmh h) v:=by
 unfold DX at hk;split at hk
 .rename_i hb;split at hk
  .rename_i x ty hx hty;split at hk
   .rename_i y q hy hq;rw [hX.ty]at hy;split at hk
    .rename_i el hd;obtain⟨pv,h1,h2⟩:=fC hX he hq;obtain⟨pv',h3,h4⟩:=adP h2 hk;refine⟨pv',h3,λK hK=> ?_⟩;show l6 E t c K
     grind [l6,au,jq]
    .cases hk
   .cases hk
  .cases hk
 .rename_i hb;split at hk
  .rename_i x ty hx hty;split at hk
   .rename_i y hy hq;rw [hX.ty]at hy;split at hk
    .rename_i el hd;cases hk;obtain⟨pv,h1,h2⟩:=fC hX he hq;obtain⟨x',rfl,hc⟩:=h2.cell;cases hc;refine⟨_,.ci _ _ _,λK hK=> ?_⟩;show l6 E t c K;unfold l6;rw [hb];simp only;rw [hx,hty];simp only;rw [hy];simp only [au];rw [hd];exact⟨trivial,jq h1 _ hK⟩
    .cases hk
   .cases hk
  .cases hk
 .rename_i hb;split at hk
  .rename_i x y hx;split at hk
   .rename_i f k m g k' m' h1 h2;cases hk;obtain⟨p1,q1,r1⟩:=fC hX he h1;obtain⟨p2,q2,r2⟩:=fC hX he h2;obtain⟨_,rfl⟩:=r1.int;obtain⟨_,rfl⟩:=r2.int;refine⟨_,.ci _ _ _,λK hK=> ?_⟩;show l6 E t c K;unfold l6;rw [hb];simp only;rw [hx];simp only;rw [q1];simp only [aC];rw [q2];exact hK
   .cases hk
  .cases hk
 .rename_i hb;split at hk
  .rename_i x y hx;split at hk
   .rename_i f k m g k' m' h1 h2;cases hk;obtain⟨p1,q1,r1⟩:=fC hX he h1;obtain⟨p2,q2,r2⟩:=fC hX he h2;obtain⟨_,rfl⟩:=r1.int;obtain⟨_,rfl⟩:=r2.int;refine⟨_,.ci _ _ _,λK hK=> ?_⟩;show l6 E t c K;unfold l6;rw [hb];simp only;rw [hx];simp only;rw [q1];simp only [aC];rw [q2];exact hK
   .cases hk
  .cases hk
 .cases hk
def fQ{n:Nat}{v:Option SVal}{K:SVal->PR (std n)}{r:List Bool×SVal}(h:yN (std n) v K=some r):∃u,v=some u/\K u=some r:=by
 cases v with
 | none=>cases h
 | some u=>exact⟨u,rfl,h⟩
theorem Vr{X:XT}{E:Tab}(hX:XOK X E){n:Nat}{h':Heap}{h:List bE}(H:gq h' h){t:Slots}{e:Nat->Option SVal}(he:EvR X E n (nmh h) t e){op:Op}{v:SVal}{ps:List Bool}
  (hk:QV (std n) X e h op=some (ps,v)) (hps:∀b∈ps,b=true):Gv (aF E op t h') (nmh h) v:=by
 have up1:∀ {x:Operand} {pv:PV} {T:PV->(PV->Prop)->Prop},ev E t x=some pv->Gv (T pv) (nmh h) v->(∀K,aF E op t h' K=aC (ev E t x) λa=>T a K)->Gv (aF E op t h') (nmh h) v:=
  λh1 ⟨pv',h2,h3⟩ hT=>⟨pv',h2,λK hK=>by rw [hT];exact jq h1 _ (h3 K hK)⟩
 have up2:∀ {x y:Operand} {p1 p2:PV} {T:PV->PV->(PV->Prop)->Prop},ev E t x=some p1->ev E t y=some p2->Gv (T p1 p2) (nmh h) v->(∀K,aF E op t h' K=aC (ev E t x) λa=>aC (ev E t y) λb=>T a b K)->Gv (aF E op t h') (nmh h) v:=
  λh1 h1' ⟨pv',h2,h3⟩ hT=>⟨pv',h2,λK hK=>by rw [hT];exact jq h1 _ (jq h1' _ (h3 K hK))⟩
 unfold QV at hk;split at hk
 .obtain⟨u,hu,hk⟩:=fQ hk;cases hk;obtain⟨pv,h1,h2⟩:=fC hX he hu;exact⟨pv,h2,λK hK=>jq h1 _ hK⟩
 .obtain⟨u,hu,hk⟩:=fQ hk;cases hk;obtain⟨pv,h1,h2⟩:=fC hX he hu;exact⟨pv,h2,λK hK=>jq h1 _ hK⟩
 .obtain⟨u,hu,hk⟩:=fQ hk;obtain⟨pv,h1,h2⟩:=fC hX he hu;exact up1 h1 (Le hX H h2 hk hps) λK=>rfl
 .obtain⟨u,hu,hk⟩:=fQ hk;obtain⟨pv,h1,h2⟩:=fC hX he hu;exact up1 (T:=Nh) h1 (Vm h2 hk) λK=>rfl
 .obtain⟨u,hu,hk⟩:=fQ hk;obtain⟨w,hw,hk⟩:=fQ hk;obtain⟨pv,h1,h2⟩:=fC hX he hu;obtain⟨pv',h1',h2'⟩:=fC hX he hw;exact up2 h1 h1' (adO hX (aaw h2) h2' hk hps) λK=>rfl
 .obtain⟨u,hu,hk⟩:=fQ hk;obtain⟨pv,h1,h2⟩:=fC hX he hu;exact up1 h1 (agx h2 hk) λK=>rfl
 .obtain⟨u,hu,hk⟩:=fQ hk;obtain⟨pv,h1,h2⟩:=fC hX he hu;exact up1 h1 (aav hX h2 hk) λK=>rfl
 .obtain⟨u,hu,hk⟩:=fQ hk;obtain⟨pv,h1,h2⟩:=fC hX he hu;exact up1 (T:=λa K=>aj E _ a _ K) h1 (I7 hX h2 hk) λK=>rfl
 .obtain⟨u,hu,hk⟩:=fQ hk;obtain⟨pv,h1,h2⟩:=fC hX he hu;exact up1 (T:=λa K=>aH E _ a _ K) h1 (Vn hX h2 hk) λK=>rfl
 .obtain⟨u,hu,hk⟩:=fQ hk;obtain⟨w,hw,hk⟩:=fQ hk;obtain⟨pv,h1,h2⟩:=fC hX he hu;obtain⟨pv',h1',h2'⟩:=fC hX he hw;exact up2 h1 h1' (I9 hX h2 h2' hk hps) λK=>rfl
 .obtain⟨u,hu,hk⟩:=fQ hk;obtain⟨pv,h1,h2⟩:=fC hX he hu;exact up1 (T:=λa K=>uG E t _ a _ _ _ K) h1 (Vo hX he h2 hk hps) λK=>rfl
 .obtain⟨u,hu,hk⟩:=fQ hk;obtain⟨pv,h1,h2⟩:=fC hX he hu;rename_i x i;split at hk
  .rename_i vs;unfold K7 at hk;split at hk
   .rename_i w hw;cases hk;cases h2 with
    | one h2=>cases h2 with
     | agg hs _=>simp [cZ]at hs
    | tup hF=>
     obtain⟨a,ha,hra⟩:=hF.get hw;exact⟨a,.one hra,λK hK=>jq h1 _ (by unfold jO;simp only;rw [ha];exact hK)⟩
   .cases hk
  .cases hk
 .exact Vq hX he hk
 .rename_i fn first caps
  split at hk
  .rename_i g;split at hk
   .rename_i hf;split at hk
    .rename_i cs hcs;cases hk;refine⟨_,.ofC .fn,λK hK=> ?_⟩;exact⟨Array.ext' (by simpa using hf),Q8 hX he _ hcs _ hK⟩
    .cases hk
   .cases hk
  .cases hk
 .exact Li hX he hk
 .cases hk
def Gone(h:List bE)(l:Nat):Prop:=∃c n,h[l]? =some (.gone c n)
def Same(h k:List bE):Prop:=∀l x,nmh h l=some x->nmh k l=some x
def Same.refl(h:List bE):Same h h:=λ_ _ h=>h
def Same.trans{a b c:List bE}(h:Same a b)(k:Same b c):Same a c:=λl x hx=>k l x (h l x hx)
def gq.set{h':Heap}{h:List bE}(H:gq h' h){l:Nat}{o:bE}{o':eO}(hl:l<h.length)(hs:Same h (h.set l o))(ho:OR (nmh (h.set l o)) o' o):gq ((l,o')::h') (h.set l o) where
 old:=λk x hx=>by
  by_cases e:l=k
  .grind [List.getElem?_set_self,aK]
  .rw [List.getElem?_set_ne e]at hx;obtain⟨x',h1,h2⟩:=H.old k x hx;exact⟨x',by grind [ak],h2.mono hs⟩
 new:=λk hk=>by
  rw [List.length_set]at hk;rw [ak _ _ ah];exact H.new k hk
def Av(h:List bE)(o:bE):Same h (h++ [o]):=λl x hx=>by grind [Nat.lt_or_ge,nmh,List.getElem?_eq_none,List.getElem?_append_left]
def gq.push{h':Heap}{h:List bE}(H:gq h' h){o:bE}{o':eO}(ho:OR (nmh (h++ [o])) o' o):gq ((h.length,o')::h') (h++ [o]) where
 old:=λk x hx=>by
  by_cases e:h.length=k
  .grind [aK]
  .have hk:k<h.length:=by grind
   rw [List.getElem?_append_left hk]at hx;obtain⟨x',h1,h2⟩:=H.old k x hx;exact⟨x',by grind [ak],h2.mono (Av h o)⟩
 new:=λk hk=>by
  simp at hk;rw [ak _ _ ah];exact H.new k ah
theorem Oe{h:List bE}{l k:Nat}{o:bE}(e:l≠k):nmh (h.set l o) k=nmh h k:=by simp only [nmh,List.getElem?_set_ne e]
theorem nH{h:List bE}{l:Nat}{o o':bE}(ho:h[l]? =some o)(hq:nmh [o] 0=nmh [o'] 0):nmh (h.set l o')=nmh h:=by grind [List.getElem?_eq_some_iff,nmh,List.getElem?_set_self,Oe]
def gH(h:List bE)(l:Nat):List bE:=match h[l]? with | some (.rows _ c xs)=>h.set l (.gone c ((xs:List c.den).length:Int)) | _=>h
def iH(n:Nat)(h:List bE)(l:Nat)(r:List Nat):bW (std n) h (l::r)=bW (std n) (gH h l) r:=by
 rw [bW];unfold gH;split
 all_goals simp_all
def pX(n:Nat):∀(a b:List Nat) (h:List bE),bW (std n) h (a++b)=bW (std n) (bW (std n) h a) b
 | [],_,_=>rfl
 | l::r,b,h=>by simp only [List.cons_append,iH];exact pX n r b _
def GJ(h:List bE)(l:Nat):nmh (gH h l)=nmh h:=by grind [gH,nH,nmh]
def vB(n:Nat):∀(ls:List Nat) (h:List bE),nmh (bW (std n) h ls)=nmh h
 | [],_=>rfl
 | l::r,h=>by rw [iH,vB n r,GJ]
theorem vZ{h:List bE}{l k:Nat}(e:l≠k):(gH h l)[k]? =h[k]? :=by grind [gH,List.getElem?_set_ne]
def lN(n:Nat):∀(ls:List Nat) (h:List bE) {k:Nat},k∉ls->(bW (std n) h ls)[k]? =h[k]?
 | [],_,_,_=>rfl
 | l::r,h,k,hk=>by
  rw [iH,lN n r _ (λh=>hk (List.mem_cons_of_mem _ h)),vZ (λe=>hk (by simp [e]))]
theorem wh(h:List bE)(l:Nat):(gH h l).length=h.length:=by grind [gH]
def qE(n:Nat):∀(ls:List Nat) (h:List bE),(bW (std n) h ls).length=h.length
 | [],_=>rfl
 | l::r,h=>by rw [iH,qE n r,wh]
theorem gq.gH{h':Heap}{h:List bE}(H:gq h' h){l:Nat}{f:Bool}{c:Co}{xs:List c.den}(hl:h[l]? =some (.rows f c xs)):gq ((l,.gone)::h') (TX.gH h l):=by
 have e:TX.gH h l=h.set l (.gone c (xs.length:Int)):=by unfold TX.gH;rw [hl]
 rw [e];exact H.set (List.getElem?_eq_some_iff.1 hl).1 (λk x hx=>by rw [nH hl (by simp [nmh])];exact hx) .gone
structure jr(h':Heap)(h:List bE)(h'':Heap)(k:List bE)(td:List Nat):Prop where
 same:Same h k
 len:h.length<=k.length
 gone:∀l,Gone h l->Gone k l
 keep:∀l,l<h.length->l∉td->k[l]? =h[l]? /\AE.look h'' l=AE.look h' l
def jr.refl(h':Heap)(h:List bE)(td:List Nat):jr h' h h' h td:=⟨.refl h,Nat.le_refl _,λ_ h=>h,λ_ _ _=>⟨rfl,rfl⟩⟩
def jr.trans{a' b' c':Heap}{a b c:List bE}{s t:List Nat}(x:jr a' a b' b s)(y:jr b' b c' c t):jr a' a c' c (s++t) where
 same:=x.same.trans y.same
 len:=Nat.le_trans x.len y.len
 gone:=λl h=>y.gone l (x.gone l h)
 keep:=λl hl hn=>by
  obtain⟨h1,h2⟩:=x.keep l hl (λh=>hn (List.mem_append_left _ h));obtain⟨h3,h4⟩:=y.keep l (Nat.lt_of_lt_of_le hl x.len) (λh=>hn (List.mem_append_right _ h));simp_all
def jr.mono{a' b':Heap}{a b:List bE}{s t:List Nat}(x:jr a' a b' b s)(h:∀l,l∈s->l∈t):jr a' a b' b t:=⟨x.same,x.len,x.gone,λl hl hn=>x.keep l hl (λhs=>hn (h l hs))⟩
theorem jr.gH{h':Heap}{h:List bE}(l:Nat){o':eO}:jr h' h ((l,o')::h') (TX.gH h l) [l] where
 same:=λk x hx=>by rw [GJ];exact hx
 len:=by grind [wh]
 gone:=λk ⟨c,m,hk⟩=>by
  unfold TX.gH;split
  .rename_i f co xs hl;by_cases e:l=k
   .simp_all
   .exact⟨c,m,by simp_all⟩
  omega
 keep:=λk _ hn=>by grind [vZ,ak]
def jr.push{h':Heap}{h:List bE}(o:bE)(o':eO)(td:List Nat):jr h' h ((h.length,o')::h') (h++ [o]) td where
 same:=Av h o
 len:=by simp
 gone:=λk ⟨c,m,hk⟩=>⟨c,m,by grind⟩
 keep:=λl hl _=>⟨List.getElem?_append_left hl,ak _ _ ah⟩
def jr.set{h':Heap}{h:List bE}{l:Nat}{o:bE}{o':eO}(hs:Same h (h.set l o))(hg:¬Gone h l):jr h' h ((l,o')::h') (h.set l o) [l] where
 same:=hs
 len:=by simp
 gone:=λk ⟨c,m,hk⟩=>by
  by_cases e:l=k
  .simp_all
  .exact⟨c,m,by simp_all⟩
 keep:=λk _ hn=>by grind [List.getElem?_set_ne,ak]
theorem kC(y:Leaf aV):(nZ y).dK=y.scalar:=by cases y<;>rfl
def Ea(y:Leaf aV):lvD (kN y) y.lv=nZ y:=by cases y<;>rfl
def Lj{n:Nat}{h':Heap}{h:List bE}{done:List Nat}(H:gq h' (bW (std n) h done)){x:Cell}{y:SC}(hr:RC (nmh h) x y){s:Sh}{f:Bool}{v:LV aV}{ls:List Nat}
  (hk:gQ (std n) h s y=some (f,v,ls)) (hd:∀l∈ls,l∉done):
  ∃g h'',(f=true->g=true)/\gq h'' (bW (std n) h (done++ls))/\jr h' (bW (std n) h done) h'' (bW (std n) h (done++ls)) ls/\∀K,K g (lvD s v) h''->uJ h' x K:=by
 unfold gQ at hk;split at hk
 .rename_i f0 lf;split at hk
  .rename_i e;cases hk;cases hr with | d hx hf=>
   rename_i g0 x0;subst hx;refine⟨g0 || (nZ lf).dK,h',λh=> ?_,by simp_all,by rw [List.append_nil];exact .refl _ _ _,λK hK=> ?_⟩
   .rw [kC];cases lf with
    | rows c xs=>grind [Leaf.flag,Leaf.scalar]
    | _=>simp [Leaf.scalar]
   .subst e;rw [Ea]at hK;exact hK
  .cases hk
 .cases hr;split at hk
  .rename_i c;cases hk;exact⟨true,h',λ_=>rfl,by simp_all,by rw [List.append_nil];exact .refl _ _ _,λK hK=>⟨c.size,hK⟩⟩
  .cases hk
 .rename_i f0 c xs;cases hr with | clip hf=>
  split at hk
  .rename_i e;subst e;cases hk;exact⟨_,h',hf,by simp_all,by rw [List.append_nil];exact .refl _ _ _,λK hK=>hK⟩
  .cases hk
 .rename_i l;cases hr with | own hN=>
  split at hk
  .rename_i f0 c xs hl;split at hk
   .rename_i e;subst e;cases hk;rw [eU hl]at hN;cases hN;have hl':(bW (std n) h done)[l]? =some (.rows f c xs):=by rw [lN n _ _ (hd l (by simp))];exact hl
    obtain⟨o',ho',hO⟩:=H.old l _ hl';cases hO with | rows hf=>
    rename_i g0;refine⟨g0,(l,.gone)::h',hf,by rw [pX,iH];exact H.gH hl',by rw [pX,iH];exact jr.gH l,λK hK=> ?_⟩;unfold uJ;simp only;rw [ho'];refine⟨rfl,by rw [bN];omega,?_⟩;have:((bJ c xs).drop 0).take xs.length=bJ c xs:=by grind [List.take_of_length_le,bN]
    rw [this];exact hK
   .cases hk
  .cases hk
 .cases hk
def qW{n:Nat}{h:List bE}:∀ {ss:List Sh} {ys:List SC} {xs:List Cell} {h':Heap} {done:List Nat} (_:gq h' (bW (std n) h done)) (_:F2 (RC (nmh h)) xs ys) {f:Bool} {vs:List (LV aV)} {ls:List Nat},
  bF (std n) h ss ys=some (f,vs,ls)->(∀l∈ls,l∉done)->
  ∃g h'',(f=true->g=true)/\gq h'' (bW (std n) h (done++ls))/\jr h' (bW (std n) h done) h'' (bW (std n) h (done++ls)) ls/\∀K,K g (List.zipWith lvD ss vs) h''->jQ h' xs K
 | [],[],xs,h',done,H,hF,f,vs,ls,hk,hd=>by
  simp [bF]at hk;obtain⟨rfl,rfl,rfl⟩:=hk;cases hF;exact⟨true,h',λ_=>rfl,by simp_all,by rw [List.append_nil];exact .refl _ _ _,λK hK=>hK⟩
 | [],_::_,_,_,_,_,_,_,_,_,hk,_=>by simp [bF]at hk
 | _::_,[],_,_,_,_,_,_,_,_,hk,_=>by simp [bF]at hk
 | s::ss,y::ys,xs,h',done,H,hF,f,vs,ls,hk,hd=>by
  cases hF with | cons h1 h2=>
  unfold bF at hk;split at hk
  .rename_i f1 v1 l1 hv1;split at hk
   .rename_i g2 vs2 ls2 hv2;split at hk
    .rename_i ai9;cases hk;have ai9:∀l∈ls2,l∉l1:=λl hl hl1=>by simp_all
     obtain⟨ga,ha,qa1,qa2,qa3,qa4⟩:=Lj H h1 hv1 (λl hl=>hd l (List.mem_append_left _ hl));obtain⟨gb,hb,qb1,qb2,qb3,qb4⟩:=qW (done:=done++l1) qa2 h2 hv2 (λl hl hm=>by simp_all);rw [List.append_assoc]at qb2 qb3;refine⟨ga&&gb,hb,λh=>by simp_all,qb2,qa3.trans qb3,λK hK=> ?_⟩;exact qa4 _ (qb4 _ hK)
    .cases hk
   .cases hk
  .cases hk
theorem yX(c:Co)(t:jf c.rF){vs:List (LV aV)}(h:pack aV c.rF vs=some t):List.zipWith lvD c.fields vs=c.row (c.mk t):=by
 rw [Vi,Q5,unpack_pack h]
def wY{N:NM}:∀ {ys:List (Leaf aV)} {xs:List Cell} {f:Bool},F2 (RC N) xs (ys.map (.d f))->∀(h':Heap),∃g,(f=true\/(∀y∈ys,y.scalar=true)->g=true)/\∀K,K g (ys.map nZ) h'->jQ h' xs K
 | [],_,_,h,h'=>by cases h;exact⟨true,λ_=>rfl,λK hK=>hK⟩
 | y::ys,_,f,.cons h1 h2,h'=>by
  obtain⟨g,q1,q2⟩:=wY h2 h';cases h1 with | d hx hf=>
  rename_i g0 x0;subst hx;refine⟨(g0 || (nZ y).dK)&&g,λh=> ?_,λK hK=>q2 _ hK⟩
  grind [kC,List.mem_cons_of_mem]
theorem lQ(c:Co)(h:c.flat=true)(x:c.den):∀y∈fF (std 0) c x 0 c.fields,y.scalar=true:=by
 intro y hy;have h1:=Ar 0 c x;have h2:kN y∈c.fields:=by grind
 have h3:=List.all_eq_true.1 h _ h2;cases y<;>simp_all [kN,Leaf.scalar]
theorem Vt{n:Nat}{h':Heap}{h:List bE}(H:gq h' h){p:PV}{q:SVal}(hp:PVR (nmh h) p q){c:Co}{f:Bool}{x:c.den}{ls:List Nat}(hk:toX (std n) h c q=some (f,x,ls)):
  ∃g h'',(f=true->g=true)/\gq h'' (bW (std n) h ls)/\jr h' h h'' (bW (std n) h ls) ls/\(aR p).length=c.size/\∀K,K g (c.row x) h''->jQ h' (aR p) K:=by
 unfold toX at hk;split at hk
 .rename_i f' c' x';split at hk
  .rename_i e;subst e;cases hk;have hF:=hp.cells;have hx:cellsS (.sv f' c' x')=(fF (std 0) c' x' 0 c'.fields).map (.d f'):=rfl;have hlen:(aR p).length=c'.size:=by
    rw [hF.length,hx,List.length_map];have:=congrArg List.length (Ar 0 c' x');simpa using this
   rw [hx]at hF;obtain⟨g,q1,q2⟩:=wY hF h';refine⟨g,h',λh=>q1 ?_,H,.refl _ _ _,hlen,λK hK=>q2 K (by rw [nG];exact hK)⟩
   grind [lQ]
  .cases hk
 .cases hk
 .split at hk
  .rename_i f1 ys ls1 h1;split at hk
   .rename_i t ht;cases hk;have hF:=hp.cells;rw [eP]at h1;obtain⟨g,h'',q1,q2,q3,q4⟩:=qW (done:=[]) H hF h1 (λ_ _=>by simp);rw [List.nil_append]at q2 q3;refine⟨g,h'',q1,q2,q3,?_,λK hK=>q4 K (by grind [yX])⟩;have hl:=congrArg List.length (unpack_pack ht);have hl2:(cellsS q).length=c.fields.length:=by
     clear q2 q3 q4 hF ht hl q1
     revert h1
     generalize cellsS q=zs;generalize c.fields=ss;intro h1
     induction ss generalizing zs f ys ls with
     | nil=>grind [bF]
     | cons s ss ih=>cases zs with
      | nil=>simp [bF]at h1
      | cons z zs=>grind [bF]
    rw [hF.length,hl2]
   .cases hk
  .cases hk
def Hv{m:Nat}(T:(PV->Heap->Nat->Prop)->Prop)(n:Nat)(h':Heap)(h:List bE)(r:HR (std m)):Prop:=
 ∃pv h'' k',PVR (nmh r.h) pv r.v/\gq h'' r.h/\jr h' h h'' r.h r.touched/\r.h.length=nm n k'/\∀K,K pv h'' k'->T K
def Vu:∀ {l:List Cell},zdB l=true->∃ds,ZD l ds
 | [],_=>⟨[],.nil⟩
 | x::r,h=>by
  simp only [zdB,List.all_cons,Bool.and_eq_true]at h;obtain⟨ds,hd⟩:=Vu (l:=r) h.2;have h1:=h.1;cases x with
  | d f y=>exact⟨y::ds,.d f y hd⟩
  | nil=>exact⟨.rows 0 []::ds,.nl 0 hd⟩
  | _=>simp at h1
theorem Eb{α:Type}(l:List α)(lo n:Nat):(l.drop lo).take n=(l.take (lo+n)).drop lo:=by
 rw [List.drop_take];congr 1;omega
def BZ{n:Nat}:∀ {zc:List Cell} {zs:List SC} {ss:List Sh} {f:Bool} {vs:List (LV aV)} {ls:List Nat},lu (std n) zc=some zs->bF (std n) [] ss zs=some (f,vs,ls)->ZD zc (List.zipWith lvD ss vs)
 | [],zs,ss,f,vs,ls,h1,h2=>by
  simp [lu]at h1;subst h1;cases ss with
  | nil=>simp [bF]at h2;obtain⟨_,rfl,_⟩:=h2;exact .nil
  | cons s ss=>simp [bF]at h2
 | x::zc,zs,ss,f,vs,ls,h1,h2=>by
  simp only [lu]at h1;split at h1
  .rename_i y ys hy hys;cases h1;cases ss with
   | nil=>simp [bF]at h2
   | cons s ss=>
    simp only [bF]at h2;split at h2
    .rename_i f1 v1 l1 hv;split at h2
     .rename_i g vs' ls' hvs;split at h2<;>cases h2
      have ih:=BZ hys hvs;simp only [List.zipWith_cons_cons];unfold QU at hy;split at hy
      .cases hy;simp only [gQ]at hv;split at hv
       .rename_i e;cases hv;subst e;exact .d _ _ ih
       .cases hv
      .cases hy;simp only [gQ]at hv;split at hv
       .rename_i e;cases hv;subst e;exact .d _ _ ih
       .cases hv
      .cases hy;simp only [gQ]at hv;split at hv
       .rename_i e;cases hv;subst e;exact .d _ _ ih
       .cases hv
      .cases hy;simp only [gQ]at hv;split at hv
       .cases hv;exact .nl _ ih
       .cases hv
      .cases hy;simp [gQ]at hv
      .cases hy
     .cases h2
    .cases h2
  .cases h1
def Vv{n:Nat}{zc:List Cell}{zs:List SC}{c:Co}{f:Bool}{x:c.den}{ls:List Nat}(h1:lu (std n) zc=some zs)(h2:toX (std n) [] c (.agg zs)=some (f,x,ls)):ZD zc (c.row x):=by
 simp only [toX]at h2;split at h2
 .rename_i f1 ys l1 hl;split at h2
  .rename_i t ht;cases h2;have:=BZ h1 (by simpa [dR]using hl);rw [yX c t ht]at this;exact this
  .cases h2
 .cases h2
def aax{n:Nat}{h':Heap}{h:List bE}(H:gq h' h){c:Co}{p:PV}{v:SVal}{f:Bool}{ds:List c.den}(hp:PVR (nmh h) p v){zx:Option c.den}{zd:List D}(hzx:∀x,zx=some x->zd=c.row x)(hk:adM (std n) h c zx v=some (f,ds))
  (hps:∀b∈mD (std n) h v,b=true):∃g sz,(f=true->g=true)/\(bJ c ds≠ []->sz=c.size)/\∀K,K g sz (bJ c ds)->KD h' zd p K:=by
 unfold adM at hk;split at hk
 .rename_i fq kq q;cases hxx:zx with
  | none=>rw [hxx]at hk;cases hk
  | some x=>
   rw [hxx]at hk;cases hk;obtain⟨g0,rfl⟩:=hp.int;have e:=hzx x hxx;have h1:(0:Int)<=q:=by simpa [cB]using hps (cB .leq 0 q) (by simp [mD])
   have h2:q<=kS:=by simpa [cB]using hps (cB .leq q kS) (by simp [mD])
   obtain⟨q,rfl⟩:∃w:Int,w=q:=⟨q,rfl⟩;refine⟨true,zd.length,λ_=>rfl,λ_=>by rw [e,sN],λK hK=> ?_⟩;unfold KD;simp only;refine⟨h1,by simp only [kS,jo]at h2 ⊢;omega,?_⟩;have er:bJ c (List.replicate q.toNat x)=List.replicate q.toNat zd:=by rw [e];simp [bJ]
   rw [<-er];exact hK
 .cases hk;obtain⟨x,rfl,hc⟩:=hp.cell;cases hc;exact⟨true,0,λ_=>rfl,λh=>absurd rfl h,λK hK=>hK⟩
 .rename_i f0 c' xs;split at hk
  .rename_i e;subst e;cases hk;obtain⟨x,rfl,hc⟩:=hp.cell;cases hc with | d hx hf=>
   subst hx;exact⟨_,c'.size,λh=>(hf h).resolve_right (by simp [Leaf.scalar]),λ_=>rfl,λK hK=>hK⟩
  .cases hk
 .rename_i f0 c' xs;split at hk
  .rename_i e;subst e;cases hk;obtain⟨x,rfl,hc⟩:=hp.cell;cases hc with | clip hf=>
   exact⟨_,c'.size,hf,λ_=>rfl,λK hK=>hK⟩
  .cases hk
 .rename_i l;split at hk
  .rename_i f0 c' xs hl;split at hk
   .rename_i e;subst e;cases hk;obtain⟨x,rfl,hc⟩:=hp.cell;cases hc with | own hN=>
    rw [eU hl]at hN;cases hN;obtain⟨o',ho',hO⟩:=H.old l _ hl;cases hO with | rows hf=>
    refine⟨_,c'.size,hf,λ_=>rfl,λK hK=> ?_⟩;unfold KD;simp only;rw [ho'];refine⟨rfl,by rw [bN];omega,?_⟩;rw [List.drop_zero,List.take_of_length_le (by rw [bN];exact Nat.le_refl _)];exact hK
   .cases hk
  .cases hk
 .rename_i l lo m;split at hk
  .rename_i f0 c' xs hl;split at hk
   .rename_i e;subst e;cases hk;obtain⟨x,rfl,hc⟩:=hp.cell;cases hc with | os hN=>
    rename_i sz lo m q;rw [eU hl]at hN;cases hN;obtain⟨o',ho',hO⟩:=H.old l _ hl;cases hO with | rows hf=>
    simp only [mD,hl]at hps;have h3:(lo:Int)+(m:Int)<=(xs:List c'.den).length:=by
     have:=hps (cB .leq ((lo:Int)+(m:Int)) ((xs:List c'.den).length:Int)) (by simp);simpa [cB]using this
    refine⟨_,c'.size,hf,λ_=>rfl,λK hK=> ?_⟩;unfold KD;simp only;rw [ho'];refine⟨rfl,by rw [bN];omega,?_⟩;have e:bJ c' (((xs:List c'.den).take ((lo:Int)+(m:Int)).toNat).drop ((lo:Int)).toNat)=((bJ c' xs).drop lo).take m:=by
     rw [Eb,<-vY]
     congr 2<;>omega
    rw [<-e];exact hK
   .cases hk
  .cases hk
 .cases hk
def GK(c:Co)(xs ys:List c.den):bJ c (xs++ys)=bJ c xs++bJ c ys:=by simp [bJ]
def PVR.own{h:List bE}{l sz n:Nat}(hN:nmh h l=some (sz,n)):PVR (nmh h) (.c (.os l sz 0 n)) (.c (.own l)):= .ofC (.own hN)
def rH(h:List bE)(f:Bool)(c:Co)(xs:List c.den):nmh (h++ [.rows f c xs]) h.length=some (c.size,xs.length):=by
 simp [nmh]
def Ec{h:List bE}{l:Nat}{f:Bool}{c:Co}{xs:List c.den}(hl:h[l]? =some (.rows f c xs)):¬Gone h l:=λ⟨_,_,h2⟩=>by rw [hl]at h2;cases h2
def TJ{X:XT}{E:Tab}(hX:XOK X E){m:Nat}{h':Heap}{h:List bE}(H:gq h' h){n k:Nat}(hn:h.length=nm n k){ty t2:TypeId}{pa pb:PV}{a b:SVal}(ha:PVR (nmh h) pa a)(hb:PVR (nmh h) pb b)
  {r:HR (std m)} (hk:IZ (std m) X h ty t2 a b=some r) (hps:∀b∈r.chk,b=true):
  Hv (λK=>au (E.ty ty) λy=>match y.desc with
   | .slice e=>au (E.ty e) λz=>(au (E.ty t2) λy2=>rz y2.desc pb)/\vU h' n k z pa pb K
   | _=>False) n h' h r:=by
 unfold IZ at hk;rw [hX.ty]at hk;split at hk
 .rename_i y hy;split at hk
  .rename_i e hd;split at hk
   .rename_i z c hz hco;split at hk
    .rename_i hcond;simp only [Bool.and_eq_true,Bool.not_eq_true',beq_eq_false_iff_ne,ne_eq]at hcond;obtain⟨⟨⟨⟨hsz,hne⟩,hby⟩,hsrc⟩,hzd⟩:=hcond;have hby:=Nat.le_of_ble_eq_true hby;obtain⟨zd,hzd,hzx⟩:∃zd,ZD z.zero zd/\∀x,QW (std m) z c=some x->zd=c.row x:=by
      cases hq:QW (std m) z c with
      | none=>obtain⟨zd,hzd⟩:=Vu hzd;exact⟨zd,hzd,λx h=>by cases h⟩
      | some x=>
       unfold QW at hq;split at hq
       .rename_i zs hzs;split at hq
        .rename_i fz x' lz hx;cases hq;exact⟨_,Vv hzs hx,λy h=>by cases h;rfl⟩
        .cases hq
       .cases hq
     obtain⟨z',hz',hzs⟩:=iD hX hsz;rw [hz]at hz';cases hz';have hst:au (E.ty t2) λy2=>rz y2.desc pb:=by
      unfold DY at hsrc;rw [hX.ty]at hsrc;split at hsrc
      .rename_i y2 hy2;rw [hy2];simp only [au];split at hsrc
       .cases hsrc
       .rename_i e2 x hne2 he2;obtain⟨x',rfl,hc⟩:=hb.cell;unfold rz;cases hc with
        | d hx hf=>
         rename_i f g x0 y0;subst hx;cases y0 with
         | int k q=>exact absurd rfl (hne2 _ _ _)
         | _=>rw [he2];trivial
        | _=>rw [he2];trivial
       .rename_i kk fq kq q he2;obtain⟨g0,rfl⟩:=hb.int;unfold rz;rw [he2];trivial
       .cases hsrc
      .cases hsrc
     split at hk
     .rename_i f2 ds hds;obtain⟨⟨f0,ds0⟩,hds,he2⟩:=Option.map_eq_some_iff.1 hds;simp only [Prod.mk.injEq]at he2;obtain⟨hf2,he3⟩:=he2;have he3:=he3.symm;subst he3
      have main:(∀b'∈mD (std m) h b,b'=true)->∀(v:SVal) (k':List bE) (td:List Nat),(∀(g sz:_),(f2=true->g=true)->(bJ c ds≠ []->sz=c.size)->∃pv h'' j,PVR (nmh k') pv v/\gq h'' k'/\jr h' h h'' k' td/\k'.length=nm n j/\
        ∀K:PV->Heap->Nat->Prop,K pv h'' j->uL h' n k z pa g (bJ c ds) K)->r.h=k'->r.v=v->r.touched=td->Hv (λK=>au (E.ty ty) λy=>match y.desc with
         | .slice e=>au (E.ty e) λz=>(au (E.ty t2) λy2=>rz y2.desc pb)/\vU h' n k z pa pb K
         | _=>False) n h' h r:=by
       intro hsc v k' td hm e1 e2 e3;obtain⟨g,sz,hg,hs,hK⟩:=aax H hb hzx hds hsc;obtain⟨pv,h'',j,q1,q2,q3,q4,q5⟩:=hm (g || nU (bJ c ds)) sz (λh=>by
        rw [<-hf2]at h;rcases Bool.or_eq_true _ _▸h with h | h
        .simp [hg h]
        .have:nU (bJ c ds)=true:=by
          unfold nU bJ;simp only [List.all_map,List.all_eq_true,Function.comp_apply];intro x _ d hd;rw [<-nG 0]at hd;obtain⟨y,hy,rfl⟩:=List.mem_map.1 hd;rw [kC];exact lQ c h x y hy
         simp [this]) hs
       subst e1;subst e2;subst e3;refine⟨pv,h'',j,q1,q2,q3,q4,λK hKK=> ?_⟩;rw [hy];simp only [au];rw [hd];simp only;rw [hz];exact⟨hst,zd,hzd,hne,hby,hK _ ⟨λh=>(hs h).trans hzs.symm,q5 K hKK⟩⟩
      split at hk
      .cases hk;obtain⟨x,rfl,hc⟩:=ha.cell;cases hc;refine main (λb hb=>hps b (by simp [hb])) _ _ _ (λg sz hg hs=> ?_) rfl rfl rfl;have hlen:(ds.length:Int)<=kS:=by simpa [cB]using hps (cB .leq (ds.length:Int) kS) (by simp)
       refine⟨_,(h.length,.rows g c.size (bJ c ds))::h',k+1,.own (rH h f2 c ds),H.push (.rows hg),.push _ _ _,by simp [nm]at hn ⊢;omega,λK hK=> ?_⟩;refine⟨by rw [bN];simp [kS,jo]at hlen ⊢;omega,?_⟩;rw [<-hn,hzs,bN];exact hK
      .rename_i l;split at hk
       .rename_i f1 c1 xs hl;split at hk
        .rename_i q;subst q;cases hk;obtain⟨x,rfl,hc⟩:=ha.cell;cases hc with | own hN=>
         rw [eU hl]at hN;cases hN;obtain⟨o',ho',hO⟩:=H.old l _ hl;cases hO with | rows hf=>
         rename_i f';refine main (λb hb=>hps b (by simp [hb])) _ _ _ (λg sz hg hs=> ?_) rfl rfl rfl;have hlen:((xs:List c1.den).length:Int)+(ds.length:Int)<=kS:=by simpa [cB]using hps (cB .leq ((xs.length:Int)+(ds.length:Int)) kS) (by simp)
         have hG:=H.gH hl;have eG:gH h l=h.set l (.gone c1 (xs.length:Int)):=by unfold gH;rw [hl]
         have hGl:(gH h l).length=h.length:=wh h l;have hP:=hG.push (o:= .rows (f1&&f2) c1 (xs++ds)) (o':= .rows (f'&&g) c1.size (bJ c1 (xs++ds))) (.rows (λh=>by simp at h;simp [hf h.1,hg h.2]));rw [hGl]at hP;have hE:=(jr.gH (h':=h') (h:=h) l (o':= .gone)).trans (jr.push (h':=(l,.gone)::h') (h:=gH h l) (.rows (f1&&f2) c1 (xs++ds)) (.rows (f'&&g) c1.size (bJ c1 (xs++ds))) []);rw [hGl]at hE;refine⟨.c (.os h.length c1.size 0 (xs++ds).length),_,k+1,?_,by rw [<-eG];exact hP,by rw [<-eG];exact hE,by simp [nm]at hn ⊢;omega,λK hK=> ?_⟩
         .have:=rH (gH h l) (f1&&f2) c1 (xs++ds);rw [hGl]at this;rw [<-eG];exact .own this
         .unfold uL;simp only;rw [ho'];simp only [aJ];refine⟨by rw [bN,Nat.zero_add];exact Nat.le_refl _,by trivial,hzs.symm,by rw [bN];simp [kS,jo]at hlen ⊢;omega,?_⟩;rw [List.drop_zero,List.take_of_length_le (by rw [bN];exact Nat.le_refl _),<-hn,hzs,bN,<-GK,<-List.length_append];exact hK
        .cases hk
       .cases hk
      .rename_i l lo q0;split at hk
       .rename_i f1 c1 xs hl;split at hk
        .rename_i q;subst q;cases hk;obtain⟨x,rfl,hc⟩:=ha.cell;cases hc with | os hN=>
         rename_i sz lo q0 mm;rw [eU hl]at hN;cases hN;obtain⟨o',ho',hO⟩:=H.old l _ hl;cases hO with | rows hf=>
         rename_i f';refine main (λb hb=>hps b (by simp [hb])) _ _ _ (λg sz hg hs=> ?_) rfl rfl rfl;have hlo:(lo:Int)=0:=by simpa [cB]using hps (cB .eql (lo:Int) 0) (by simp)
         have hq:(q0:Int)<=(xs:List c1.den).length:=by simpa [cB]using hps (cB .leq (q0:Int) (xs.length:Int)) (by simp)
         have hlen:(q0:Int)+(ds.length:Int)<=kS:=by simpa [cB]using hps (cB .leq ((q0:Int)+(ds.length:Int)) kS) (by simp)
         have hG:=H.gH hl;have eG:gH h l=h.set l (.gone c1 (xs.length:Int)):=by unfold gH;rw [hl]
         have hGl:(gH h l).length=h.length:=wh h l;have es:(((xs:List c1.den).take ((q0:Int)).toNat).drop ((0:Int)).toNat)=xs.take q0:=by simp
         have hP:=hG.push (o:= .rows (f1&&f2) c1 (xs.take q0++ds)) (o':= .rows (f'&&g) c1.size (bJ c1 (xs.take q0++ds))) (.rows (λh=>by simp at h;simp [hf h.1,hg h.2]));rw [hGl]at hP;have hE:=(jr.gH (h':=h') (h:=h) l (o':= .gone)).trans (jr.push (h':=(l,.gone)::h') (h:=gH h l) (.rows (f1&&f2) c1 (xs.take q0++ds)) (.rows (f'&&g) c1.size (bJ c1 (xs.take q0++ds))) []);rw [hGl]at hE;have hgoal:(h.set l (.gone c1 (xs.length:Int))++ [fP.rows (f1&&f2) c1 ((((xs:List c1.den).take ((q0:Int)).toNat).drop ((0:Int)).toNat)++ds)])=gH h l++ [.rows (f1&&f2) c1 (xs.take q0++ds)]:=by rw [es,eG]
         refine⟨.c (.os h.length c1.size 0 (xs.take q0++ds).length),_,k+1,?_,by show gq _ (h.set l (.gone c1 (xs.length:Int))++ [fP.rows (f1&&f2) c1 ((((xs:List c1.den).take ((q0:Int)).toNat).drop ((0:Int)).toNat)++ds)]);rw [hgoal];exact hP,
          by show jr _ _ _ (h.set l (.gone c1 (xs.length:Int))++ [fP.rows (f1&&f2) c1 ((((xs:List c1.den).take ((q0:Int)).toNat).drop ((0:Int)).toNat)++ds)]) _;rw [hgoal];exact hE,by simp [nm]at hn ⊢;omega,λK hK=> ?_⟩
         .have:=rH (gH h l) (f1&&f2) c1 (xs.take q0++ds);rw [hGl]at this;show PVR (nmh (h.set l (.gone c1 (xs.length:Int))++ [fP.rows (f1&&f2) c1 ((((xs:List c1.den).take ((q0:Int)).toNat).drop ((0:Int)).toNat)++ds)])) _ _;rw [hgoal];exact .own this
         .unfold uL;simp only;rw [ho'];simp only [aJ];refine⟨by rw [bN];omega,by trivial,hzs.symm,by rw [bN];simp [kS,jo]at hlen ⊢;omega,?_⟩;have hl0:lo=0:=by omega
          subst hl0;have e1:((bJ c1 xs).drop 0).take q0++bJ c1 ds=bJ c1 (xs.take q0++ds):=by simp [bJ,List.map_take]
          have e2:q0+ds.length=(xs.take q0++ds).length:=by simp;omega
          rw [<-hn,hzs,bN,e1,e2];exact hK
        .cases hk
       .cases hk
      .rename_i f1 c1 xs;split at hk
       .rename_i q;subst q;cases hk;obtain⟨x,rfl,hc⟩:=ha.cell;cases hc with | clip hf=>
        rename_i f';refine main (λb hb=>hps b (by simp [hb])) _ _ _ (λg sz hg hs=> ?_) rfl rfl rfl;have hor:(decide ((0:Int)< (ds.length:Int)) || decide (((xs:List c1.den).length:Int)=0))=true:=by
         have:=hps ((cB .lss 0 (ds.length:Int)) || (cB .eql (xs.length:Int) 0)) (by simp);simpa [cB]using this
        have hlen:((xs:List c1.den).length:Int)+(ds.length:Int)<=kS:=by simpa [cB]using hps (cB .leq ((xs.length:Int)+(ds.length:Int)) kS) (by simp)
        refine⟨.c (.os h.length c1.size 0 (xs++ds).length),(h.length,.rows (f'&&g) c1.size (bJ c1 (xs++ds)))::h',k+1,.own (rH h (f1&&f2) c1 (xs++ds)),H.push (.rows (λh=>by simp at h;simp [hf h.1,hg h.2])),.push _ _ _,by simp [nm]at hn ⊢;omega,λK hK=> ?_⟩;refine⟨λ_=>hzs.symm,λhe=> ?_,by rw [bN,bN];simp [kS,jo]at hlen ⊢;omega,?_⟩
        .simp only [Bool.or_eq_true,decide_eq_true_eq]at hor;rcases hor with h1 | h1
         .have:ds=[]:=by simpa [bJ]using he
          subst this;simp at h1
         .have:xs=[]:=List.length_eq_zero_iff.1 ah;subst this;rfl
        .rw [<-hn,hzs,bN,bN,<-GK,<-List.length_append];exact hK
       .cases hk
      .cases hk
     .cases hk
    .cases hk
   .cases hk
  .cases hk
 .cases hk
def Hv2(T:(PV->Heap->Nat->Prop)->Prop)(n:Nat)(h':Heap)(h:List bE)(v:SVal)(k:List bE)(td:List Nat):Prop:=
 ∃pv h'' j,PVR (nmh k) pv v/\gq h'' k/\jr h' h h'' k td/\k.length=nm n j/\∀K,K pv h'' j->T K
theorem rA{k:IntKind}:∀ {es:List (List D)} {l:List Int},nA k es=some l->l.map (ic k)=es
 | [],l,h=>by grind [nA]
 | e::r,l,h=>by
  unfold nA at h;split at h
  .rename_i hh;cases hh
  .rename_i k' n r' hh;cases hh;split at h
   .rename_i e;subst e;split at h
    .rename_i l' hl;cases h;simp [ic,rA hl]
    .cases h
   .cases h
  .cases h
theorem KL(d:aN)(es:List (List D)):ir d es=es:=by
 unfold ir
 grind [rA]
def Ll{X:XT}{E:Tab}(hX:XOK X E){n:Nat}{t:Slots}{e:Nat->Option SVal}{c:Co}:∀ {parts:List (Nat×Operand)} {h':Heap} {h:List bE} (_:gq h' h) (_:EvR X E n (nmh h) t e) {f:Bool} {xs:List c.den} {k:List bE} {ls:List Nat},
  sI (std n) X e c h parts=some (f,xs,k,ls)->
  ∃g h'',(f=true->g=true)/\gq h'' k/\jr h' h h'' k ls/\nmh k=nmh h/\k.length=h.length/\xs.length=parts.length/\∀K,K g (bJ c xs) h''->uK E t c.size h' parts K
 | [],h',h,H,he,f,xs,k,ls,hk=>by
  simp only [sI,Option.some.injEq,Prod.mk.injEq]at hk;obtain⟨rfl,rfl,rfl,rfl⟩:=hk;exact⟨true,h',λ_=>rfl,H,.refl _ _ _,rfl,rfl,rfl,λK hK=>hK⟩
 | (i,x)::r,h',h,H,he,f,xs,k,ls,hk=>by
  simp only [sI]at hk;split at hk
  .rename_i v hv;split at hk
   .rename_i f1 y l1 hy;split at hk
    .rename_i g1 ys k1 l2 hys;cases hk;obtain⟨pv,p1,p2⟩:=fC hX he hv;obtain⟨ga,ha,q1,q2,q3,q4,q5⟩:=Vt H p2 hy;have hnm:nmh (bW (std n) h l1)=nmh h:=vB n l1 h;obtain⟨gb,hb,r1,r2,r3,r4,r5,r6,r7⟩:=Ll hX q2 (by rw [hnm];exact he) hys;refine⟨ga&&gb,hb,λh=>by simp_all,r2,q3.trans r3,r4.trans hnm,by rw [r5,qE],by simp [r6],λK hK=> ?_⟩;unfold uK;rw [p1];exact⟨q4,q5 _ (r7 _ hK)⟩
    .cases hk
   .cases hk
  .cases hk
def Og(c:Co)(old:c.den){j n:Nat}{ys:List (LV aV)}(hj:j+n<=c.fields.length)(hy:ys.length=n){t:jf c.rF}(ht:pack aV c.rF ((c.xO old).take j++ys++(c.xO old).drop (j+ys.length))=some t):
  c.row (c.mk t)=dB (c.row old) (List.zipWith lvD ((c.fields.drop j).take n) ys) j:=by
 have h1:=yX c t ht;have hl:(c.xO old).length=c.fields.length:=Vj c old;have hf:c.fields=c.fields.take j++(c.fields.drop j).take n++c.fields.drop (j+n):=by
  rw [List.append_assoc,<-List.drop_drop,List.take_append_drop,List.take_append_drop]
 have hz:(List.zipWith lvD ((c.fields.drop j).take n) ys).length=n:=by simp;omega
 unfold dB;rw [<-h1,Vi c old,hz,List.take_zipWith,List.drop_zipWith]
 conv=>lhs;rw [hf]
 rw [List.zipWith_append (by simp;omega),List.zipWith_append (by simp;omega),hy]
def Ed{m:Nat}{h:List bE}:∀ {ss:List Sh} {ys:List SC} {f:Bool} {vs:List (LV aV)} {ls:List Nat},bF (std m) h ss ys=some (f,vs,ls)->vs.length=ss.length
 | [],[],_,_,_,hk=>by simp [bF]at hk;obtain⟨_,rfl,_⟩:=hk;rfl
 | [],_::_,_,_,_,hk=>by simp [bF]at hk
 | _::_,[],_,_,_,hk=>by simp [bF]at hk
 | s::ss,y::ys,f,vs,ls,hk=>by
  unfold bF at hk;split at hk
  .split at hk
   .rename_i hv2;split at hk
    .cases hk;simp [Ed hv2]
    .cases hk
   .cases hk
  .cases hk
def Aw(h:Heap)(p v:PV)(K:Heap->Prop):Prop:=
 match p with
 | .c (.ptr l sz i j)=>aJ (AE.look h l) λo=>match o with
  | .box cs=>i=0/\j+(aR v).length<=cs.length/\K ((l,.box (splice cs (aR v) j))::h)
  | .rows f sz' es=>sz=sz'/\i<es.length/\jQ h (aR v) λg ds h'=>AE.look h' l=some (.rows f sz' es)/\j+ds.length<=sz/\
   ∀row,es[i]? =some row->K ((l,.rows (f&&g) sz (es.set i (if j=0/\ds.length=sz then ds else dB row ds j)))::h')
  | .grid sz' cs=>sz=sz'/\Df cs[i]? λrow=>j+(aR v).length<=sz/\K ((l,.grid sz (cs.set i (splice row (aR v) j)))::h)
  | .gone=>False
 | _=>False
def Vw{X:XT}{E:Tab}(hX:XOK X E){m:Nat}{h':Heap}{h:List bE}(H:gq h' h){n k:Nat}(hn:h.length=nm n k){ty:TypeId}{pp pv:PV}{p v:SVal}(hp:PVR (nmh h) pp p)(hv:PVR (nmh h) pv v)
  {r:HR (std m)} (hk:uX (std m) X h ty p v=some r) (hps:∀b∈r.chk,b=true):
  Hv2 (λK=>au (E.ty ty) λy=>dA h' y pp pv λh''=>K (.tup []) h'' k) n h' h r.v r.h r.touched:=by
 have TK:∀N,PVR N (.tup []) (.tup []):=λN=> .tup .nil
 unfold uX at hk;rw [hX.ty]at hk;have hyy:∃y,E.ty ty=some y:=by grind
 obtain⟨y,hy⟩:=hyy;rw [hy]at hk;simp only at hk;split at hk
 .cases hk
 .rename_i hc0;simp only [Bool.or_eq_true,beq_iff_eq,Bool.not_eq_true',beq_eq_false_iff_ne,ne_eq,not_or,Decidable.not_not]at hc0;obtain⟨hne,hvl⟩:=hc0;have hcells:=hv.cells;have hcl:(aR pv).length=(cellsS v).length:=hcells.length;rw [eP]at hvl;have pre:∀ {td:List Nat} {k':List bE} {h'':Heap} {vv:SVal},PVR (nmh k') (.tup []) vv->gq h'' k'->jr h' h h'' k' td->k'.length=h.length->(∀K:PV->Heap->Nat->Prop,K (.tup []) h'' k->Aw h' pp pv λh1=>K (.tup []) h1 k)->Hv2 (λK=>au (E.ty ty) λy=>dA h' y pp pv λh''=>K (.tup []) h'' k) n h' h vv k' td:=by
   intro td k' h'' vv a0 a1 a2 a3 a4;refine⟨.tup [],h'',k,a0,a1,a2,by rw [a3,hn],λK hK=> ?_⟩;rw [hy];simp only [au];exact⟨by rw [hcl,hvl],by simpa using hne,a4 K hK⟩
  split at hk
  .rename_i l sz j;split at hk
   .rename_i w hw;obtain⟨x,rfl,hc⟩:=hp.cell;cases hc;obtain⟨o',ho',hO⟩:=H.old l _ hw;cases hO with | box hF=>
    rename_i cs;have aj6:cs.length=(cellsS w).length:=hF.length;have hll:l<h.length:=(List.getElem?_eq_some_iff.1 hw).1;have hng:¬Gone h l:=λ⟨_,_,h2⟩=>by simp_all
    have aja:∀w2,F2 (RC (nmh h)) (splice cs (aR pv) j) (cellsS w2)->j+(aR pv).length<=cs.length->Hv2 (λK=>au (E.ty ty) λy=>dA h' y (.c (.ptr l sz 0 j)) pv λh''=>K (.tup []) h'' k) n h' h (.tup []) (h.set l (.box w2)) [l]:=by
     intro w2 hF2 hle;have hs:nmh (h.set l (.box w2))=nmh h:=nH hw (by simp [nmh]);refine pre (TK _) (H.set hll (λk x hx=>by rw [hs];exact hx) (.box (by rw [hs];exact hF2))) (.set (λk x hx=>by rw [hs];exact hx) hng) (by simp) (λK hK=> ?_);unfold Aw;simp only;rw [ho'];exact⟨by trivial,hle,hK⟩
    split at hk
    .rename_i hcond;cases hk;simp_all [eP,Bool.and_eq_true,beq_iff_eq,splice,aR,List.take_zero,List.drop_of_length_le]
    .split at hk
     .rename_i hcond;cases hk;simp only [eP,Bool.and_eq_true,beq_iff_eq]at hcond;obtain⟨h1,h2⟩:=hcond;have h1:=Nat.le_of_ble_eq_true h1;rw [show dR (std m) w=cellsS w from eP m w,show dR (std m) v=cellsS v from eP m v];refine aja (.agg _) ?_ ah;show F2 _ _ ((cellsS w).take j++cellsS v++(cellsS w).drop (j+(cellsS v).length));unfold splice;rw [hcl];exact((hF.take j).append hcells).append (hF.drop _)
     .cases hk
   .cases hk
  .rename_i l i j;split at hk
   .rename_i f c xs hw;obtain⟨x,rfl,hc⟩:=hp.cell;cases hc with | pr hN=>
    rename_i sz i mm;rw [eU hw]at hN;cases hN;obtain⟨o',ho',hO⟩:=H.old l _ hw;cases hO with | rows hf=>
    rename_i f';have hll:l<h.length:=(List.getElem?_eq_some_iff.1 hw).1
    have hrows:∀(ls:List Nat) (g g':Bool) (h1:Heap) (z:c.den) (ds:List D),l∉ls->(g=true->g'=true)->gq h1 (bW (std m) h ls)->jr h' h h1 (bW (std m) h ls) ls->(i:Int)< (xs:List c.den).length->j+ds.length<=c.size->
      (∀K,K g' ds h1->jQ h' (aR pv) K)->(∀row,(bJ c xs)[i]? =some row->(if j=0/\ds.length=c.size then ds else dB row ds j)=c.row z)->
      Hv2 (λK=>au (E.ty ty) λy=>dA h' y (.c (.ptr l c.size i j)) pv λh''=>K (.tup []) h'' k) n h' h (.tup []) ((bW (std m) h ls).set l (.rows (f&&g) c (xs.set i z))) (l::ls):=by
     intro ls g g' h1 z ds hnl hg R1 R2 hi hjd agA hrow;have hget:(bW (std m) h ls)[l]? =some (.rows f c xs):=by rw [lN m ls h hnl];exact hw
     have hs:nmh ((bW (std m) h ls).set l (.rows (f&&g) c (xs.set i z)))=nmh (bW (std m) h ls):=nH hget (by simp [nmh]);have ajb:l< (bW (std m) h ls).length:=by grind
     have hset:bJ c (xs.set i z)=(bJ c xs).set i (c.row z):=by simp [bJ,List.map_set]
     refine pre (TK _) (R1.set (o':= .rows (f'&&g') c.size (bJ c (xs.set i z))) ajb (λk x hx=>by rw [hs];exact hx) (.rows (λh=>by simp_all)))
      ((R2.trans (.set (λk x hx=>by rw [hs];exact hx) (Ec hget))).mono (λq hq=>by grind)) (by rw [List.length_set,qE]) (λK hK=> ?_)
     unfold Aw;simp only;rw [ho'];refine⟨by trivial,by rw [bN];omega,agA _ ⟨?_,hjd,λrow hr=> ?_⟩⟩
     .rw [(R2.keep l hll hnl).2];exact ho'
     simp_all
    split at hk
    .rename_i hcond;simp only [Bool.and_eq_true,beq_iff_eq]at hcond;obtain⟨rfl,hys⟩:=hcond;split at hk
     .rename_i g x ls hx;split at hk
      .cases hk
      .rename_i hnl;cases hk;have hnl:l∉ls:=by simpa using hnl
       obtain⟨g',h1,q1,q2,q3,q4,q5⟩:=Vt H hv hx;have hi:(i:Int)< (xs:List c.den).length:=by simp_all [cB]
       exact hrows ls g g' h1 x (c.row x) hnl q1 q2 q3 hi (by rw [sN];omega) q5 (λrow hr=>by grind [sN])
     .cases hk
    .rename_i hcond;split at hk
     .rename_i g ys ls hyl;split at hk
      .cases hk
      .rename_i hnl;simp only [Bool.or_eq_true,Bool.not_eq_true',not_or]at hnl;obtain⟨hnl,hjb⟩:=hnl;have hnl:l∉ls:=by simpa using hnl
       have hjb:j+y.size<=c.fields.length:=Nat.le_of_ble_eq_true (by simpa using hjb);split at hk
       .rename_i z hz;cases hk;unfold Lb at hz;split at hz
        .rename_i t ht;cases hz;rw [GH]at ht;rw [eP]at hyl;have hyn:ys.length=y.size:=by rw [Ed hyl,List.length_take,List.length_drop];omega
         have H0:gq h' (bW (std m) h []):=H;obtain⟨g',h1,q1,q2,q3,q4⟩:=qW (done:=[]) H0 hcells hyl (λ_ _=>by simp);rw [List.nil_append]at q2 q3;have hi:(i:Int)< (xs:List c.den).length:=by simpa [cB]using hps (cB .lss (i:Int) ((xs:List c.den).length:Int)) (by simp)
         have hds:(List.zipWith lvD ((c.fields.drop j).take y.size) ys).length=y.size:=by simp;omega
         refine hrows ls g g' h1 _ (List.zipWith lvD ((c.fields.drop j).take y.size) ys) hnl q1 q2 q3 hi (by rw [hds];exact hjb) q4 (λrow hr=> ?_);show _=c.row (c.mk t);rw [Og c _ hjb hyn ht];have hi':i< (xs:List c.den).length:=by omega
         have hrow:row=c.row ((xs:List c.den).getD ((i:Int)).toNat default):=by
          simp only [bJ,List.getElem?_map,List.getElem?_eq_getElem hi',Option.map_some,Option.some.injEq]at hr;subst hr;simp [List.getD,List.getElem?_eq_getElem hi']
         subst hrow;split
         .rename_i hh;rw [hds]at hh;exact absurd (by simp only [Bool.and_eq_true,beq_iff_eq];exact hh) hcond
         .rfl
        .cases hz
       .cases hk
     .cases hk
   .cases hk
  .cases hk
def Vx{X:XT}{E:Tab}(hX:XOK X E){m:Nat}{h':Heap}{h:List bE}(H:gq h' h){n k:Nat}(hn:h.length=nm n k){ty:TypeId}{pv:PV}{v:SVal}(hv:PVR (nmh h) pv v)
  {r:HR (std m)} (hk:NZ (std m) X h ty v=some r) (hps:∀b∈r.chk,b=true):
  Hv2 (λK=>au (E.ty ty) λy=>match y.desc with
   | .slice e=>au (E.ty e) λz=>∃zd,ZD z.zero zd/\uM h' zd z pv λh''=>K (.tup []) h'' k
   | _=>False) n h' h r.v r.h r.touched:=by
 unfold NZ at hk;rw [hX.ty]at hk;split at hk
 .rename_i y hy;split at hk
  .rename_i e hd;split at hk
   .rename_i z c hz hco;split at hk
    .rename_i zs hzs;split at hk
     .rename_i fx x lx hx;split at hk
      .rename_i hcond;simp only [Bool.and_eq_true,Bool.not_eq_true',beq_eq_false_iff_ne,ne_eq]at hcond;obtain⟨hsz,hne⟩:=hcond;obtain⟨z',hz',aay⟩:=iD hX hsz;rw [hz]at hz';cases hz';have hZ:=Vv hzs hx;have TK:∀N,PVR N (.tup []) (.tup []):=λN=> .tup .nil
       have pre:∀ {td:List Nat} {k':List bE} {h'':Heap} {vv:SVal},PVR (nmh k') (.tup []) vv->gq h'' k'->jr h' h h'' k' td->k'.length=h.length->(∀K:PV->Heap->Nat->Prop,K (.tup []) h'' k->uM h' (c.row x) z pv λh1=>K (.tup []) h1 k)->
         Hv2 (λK=>au (E.ty ty) λy=>match y.desc with
          | .slice e=>au (E.ty e) λz=>∃zd,ZD z.zero zd/\uM h' zd z pv λh''=>K (.tup []) h'' k
          | _=>False) n h' h vv k' td:=by
        intro td k' h'' vv a0 a1 a2 a3 a4;refine⟨.tup [],h'',k,a0,a1,a2,by rw [a3,hn],λK hK=> ?_⟩;rw [hy];simp only [au];rw [hd];simp only;rw [hz];exact⟨_,hZ,a4 K hK⟩
       split at hk
       .cases hk;obtain⟨x',rfl,hc⟩:=hv.cell;cases hc;exact pre (TK _) H (.refl _ _ _) rfl (λK hK=>hK)
       .rename_i l;split at hk
        .rename_i f c1 xs hl;split at hk
         .rename_i q;subst q;cases hk;obtain⟨x',rfl,hc⟩:=hv.cell;cases hc with | own hN=>
          rw [eU hl]at hN;cases hN;obtain⟨o',ho',hO⟩:=H.old l _ hl;cases hO with | rows hf=>
          have hs:nmh (h.set l (.rows f c1 (List.replicate ((xs:List c1.den).length:Int).toNat x)))=nmh h:=nH hl (by simp [nmh]);refine pre (TK _) (H.set (o':= .rows _ c1.size (bJ c1 (List.replicate ((xs:List c1.den).length:Int).toNat x))) (List.getElem?_eq_some_iff.1 hl).1 (λk x hx=>by rw [hs];exact hx) (.rows hf)) (.set (λk x hx=>by rw [hs];exact hx) (Ec hl)) (by simp) (λK hK=> ?_);unfold uM;simp only;rw [ho'];refine⟨by trivial,aay.symm,by simpa using hne,by rw [bN];omega,?_⟩;simp_all [bJ,List.replicate,List.take_zero,List.drop_of_length_le,bN]
         .cases hk
        .cases hk
       .rename_i l lo q0;split at hk
        .rename_i f c1 xs hl;split at hk
         .rename_i q;subst q;cases hk;obtain⟨x',rfl,hc⟩:=hv.cell;cases hc with | os hN=>
          rename_i sz lo q0 mm;rw [eU hl]at hN;cases hN;obtain⟨o',ho',hO⟩:=H.old l _ hl;cases hO with | rows hf=>
          have h3:(lo:Int)+(q0:Int)<=(xs:List c1.den).length:=by simp_all [cB,mD]
          have e0:((((xs:List c1.den).take ((lo:Int)).toNat).drop ((0:Int)).toNat++List.replicate ((q0:Int)).toNat x)++(xs.take ((xs.length:Int)).toNat).drop ((lo:Int)+(q0:Int)).toNat)=xs.take lo++List.replicate q0 x++xs.drop (lo+q0):=by
           rw [show((lo:Int)+(q0:Int)).toNat=lo+q0 by omega,show((xs.length:Int)).toNat=xs.length by omega,List.take_length];simp
          show Hv2 _ _ _ _ _ (h.set l (.rows f c1 ((((xs:List c1.den).take ((lo:Int)).toNat).drop ((0:Int)).toNat++List.replicate ((q0:Int)).toNat x)++(xs.take ((xs.length:Int)).toNat).drop ((lo:Int)+(q0:Int)).toNat))) _;rw [e0];have hlen:(xs.take lo++List.replicate q0 x++xs.drop (lo+q0)).length=xs.length:=by simp;omega
          have hs:nmh (h.set l (.rows f c1 (xs.take lo++List.replicate q0 x++xs.drop (lo+q0))))=nmh h:=nH hl (by grind [nmh,List.getElem?_cons_zero]);refine pre (TK _) (H.set (o':= .rows _ c1.size (bJ c1 (xs.take lo++List.replicate q0 x++xs.drop (lo+q0)))) (List.getElem?_eq_some_iff.1 hl).1 (λk x hx=>by rw [hs];exact hx) (.rows hf)) (.set (λk x hx=>by rw [hs];exact hx) (Ec hl)) (by simp) (λK hK=> ?_);unfold uM;simp only;rw [ho'];refine⟨by trivial,aay.symm,by simpa using hne,by rw [bN];omega,?_⟩;simp_all [bJ,List.replicate,List.map_take,List.map_drop]
         .cases hk
        .cases hk
       .cases hk
      .cases hk
     .cases hk
    .cases hk
   .cases hk
  .cases hk
 .cases hk
def aaz{h:List bE}(o:bE){p:PV}{v:SVal}(hp:PVR (nmh h) p v):PVR (nmh (h++ [o])) p v:=hp.mono (Av h o)
def Ja{X:XT}{E:Tab}(hX:XOK X E){m:Nat}{h':Heap}{h:List bE}(H:gq h' h){n k:Nat}(hn:h.length=nm n k){t:Slots}{e:Nat->Option SVal}(he:EvR X E m (nmh h) t e){op:Op}
  {r:HR (std m)} (hk:DZ (std m) X e h op=some r) (hps:∀b∈r.chk,b=true):Hv2 (bL E op t h' n k) n h' h r.v r.h r.touched:=by
 have hpush:∀o:bE,(h++ [o]).length=nm n (k+1):=λo=>by simp [nm]at hn ⊢;omega
 unfold DZ at hk;split at hk
 .rename_i ty;rw [hX.ty]at hk;split at hk
  .rename_i y hy;have main:∀(xs:List SC) (w:SVal),lu (std m) y.zero=some xs->xs≠ []->cellsS w=xs->r=⟨[],.c (.pb h.length y.size 0),h++ [.box w],[]⟩->Hv2 (bL E (.alloc ty) t h' n k) n h' h r.v r.h r.touched:=by
    intro xs w hz hne hw hr;subst hr;have hF:F2 (RC (nmh (h++ [.box w]))) y.zero (cellsS w):=by rw [hw];exact Au hz
    refine⟨.c (.ptr h.length y.size 0 0),(h.length,.box y.zero)::h',k+1,.ofC .pb,H.push (.box hF),.push _ _ _,hpush _,λK hK=> ?_⟩;unfold bL;simp only;rw [hy];refine⟨λhz0=>hne ?_,by rw [<-hn];exact hK⟩;rw [hz0]at hz;simp [lu]at hz;exact hz
   split at hk
   .rename_i x hz;split at hk<;>cases hk
    .exact main _ (.agg [x]) hz (by simp) rfl rfl
    .exact main _ (.c x) hz (by simp) rfl rfl
   .rename_i x r' hsd hz;cases hk;exact main _ (.agg (x::r')) hz (by simp) rfl rfl
   .cases hk
  .cases hk
 .split at hk
  .rename_i v hv;split at hk
   .cases hk
   .rename_i hne;cases hk;obtain⟨pv,p1,p2⟩:=fC hX he hv;have hl:(aR pv).length=(dR (std m) v).length:=by rw [eP];exact p2.len
    refine⟨.c (.ptr h.length (dR (std m) v).length 0 0),(h.length,.box (aR pv))::h',k+1,.ofC .pb,H.push (.box (aaz _ p2).cells),.push _ _ _,hpush _,λK hK=> ?_⟩;unfold bL;simp only;rw [p1];exact⟨by simpa [hl]using hne,by rw [<-hn,hl];exact hK⟩
  .cases hk
 .rename_i ty len parts;rw [hX.ty]at hk;split at hk
  .rename_i y hy;split at hk
   .rename_i el hd;split at hk
    .rename_i z c hz hco;split at hk
     .rename_i hcond;simp only [Bool.and_eq_true,Bool.not_eq_true',beq_iff_eq,beq_eq_false_iff_ne,ne_eq]at hcond;obtain⟨⟨⟨hsz,hne⟩,hrange⟩,hbig⟩:=hcond;have hbig:=Nat.le_of_ble_eq_true hbig;obtain⟨z',hz',hzs⟩:=iD hX hsz;rw [hz]at hz';cases hz';split at hk
      .rename_i f xs k1 ls ajc;cases hk;obtain⟨g,h'',q1,q2,q3,q4,q5,q6,q7⟩:=Ll hX H he ajc;have hlen:xs.length=len:=by
        have:=congrArg List.length hrange;simp at this;rw [q6];simpa using this
       have hP:=q2.push (o:= .rows f c xs) (o':= .rows g c.size (bJ c xs)) (.rows q1);have hE:=(q3.trans (jr.push (h':=h'') (h:=k1) (.rows f c xs) (.rows g c.size (bJ c xs)) [])).mono (λl hl=>by simpa using hl);refine⟨.c (.os k1.length c.size 0 xs.length),_,k+1,.own (rH k1 f c xs),hP,hE,by simp [nm]at hn ⊢;omega,λK hK=> ?_⟩;unfold bL;simp only;rw [hy];simp only [au];rw [hd];simp only;rw [hz];refine⟨hne,hrange,hbig,?_⟩;rw [hzs];refine q7 _ ?_;rw [KL,<-hn,<-q5,<-hlen];exact hK
      .cases hk
     .cases hk
    .cases hk
   .cases hk
  .cases hk
 .rename_i ty l cp;rw [hX.ty]at hk;split at hk
  .rename_i y hy;split at hk
   .rename_i el hd;split at hk
    .rename_i z c hz hco;split at hk
     .rename_i zs fl kl q fc kc q' hzs hl hc;split at hk
      .rename_i fx x lx hx;split at hk
       .rename_i hcond;cases hk;simp only [Bool.and_eq_true,Bool.not_eq_true',beq_eq_false_iff_ne,ne_eq]at hcond;obtain⟨⟨hsz,hne⟩,hby⟩:=hcond;have hby:=Nat.le_of_ble_eq_true hby;obtain⟨z',hz',aay⟩:=iD hX hsz;rw [hz]at hz';cases hz';obtain⟨pl,l1,l2⟩:=fC hX he hl;obtain⟨pc,c1,c2⟩:=fC hX he hc;obtain⟨_,rfl⟩:=l2.int;obtain⟨_,rfl⟩:=c2.int;have h1:q'=q:=by simpa [cB]using hps (cB .eql q' q) (by simp)
        have h2:(0:Int)<=q:=by simpa [cB]using hps (cB .leq 0 q) (by simp)
        have h3:q<=kS:=by simpa [cB]using hps (cB .leq q kS) (by simp)
        obtain⟨q,rfl⟩:∃w:Int,w=q:=⟨q,rfl⟩;have hr:bJ c (List.replicate q.toNat x)=List.replicate q.toNat (c.row x):=by simp [bJ]
        refine⟨.c (.os h.length c.size 0 (List.replicate q.toNat x).length),(h.length,.rows true c.size (bJ c (List.replicate q.toNat x)))::h',k+1,.own (rH h true c (List.replicate q.toNat x)),H.push (.rows λh=>h),.push _ _ _,hpush _,λK hK=> ?_⟩;unfold bL;simp only;rw [hy];simp only [au];rw [hd];simp only;rw [hz];refine⟨_,Vv hzs hx,?_⟩;rw [l1];simp only [aC];rw [c1];refine⟨hne,hby,h1,h2,by simp only [kS,jo]at h3 ⊢;omega,?_⟩;rw [<-hr,<-hn,aay];have:q.toNat=(List.replicate q.toNat x).length:=by simp
        rw [show(PV.c (.os h.length c.size 0 q.toNat))= .c (.os h.length c.size 0 (List.replicate q.toNat x).length)from by rw [<-this]];exact hK
       .cases hk
      .cases hk
     .cases hk
    .cases hk
   .cases hk
  .cases hk
 .rename_i ty p x;split at hk
  .rename_i pv v hp hv;obtain⟨pp,p1,p2⟩:=fC hX he hp;obtain⟨pv',v1,v2⟩:=fC hX he hv;obtain⟨a,b,c,q1,q2,q3,q4,q5⟩:=Vw hX H hn p2 v2 hk hps;refine⟨a,b,c,q1,q2,q3,q4,λK hK=> ?_⟩;have:=q5 K hK;unfold bL;simp only;cases hy:E.ty ty with
   | none=>rw [hy]at this;exact this.elim
   | some y=>
    rw [hy]at this;simp only [au]at this ⊢;rw [p1];simp only [aC];rw [v1];exact this
  .cases hk
 .rename_i c;split at hk
  .rename_i a b ty t2 h1 h2 h3;split at hk
   .rename_i av bv ha hb;obtain⟨pa,a1,a2⟩:=fC hX he ha;obtain⟨pb,b1,b2⟩:=fC hX he hb;obtain⟨pv,h'',j,q1,q2,q3,q4,q5⟩:=TJ hX H hn a2 b2 hk hps;refine⟨pv,h'',j,q1,q2,q3,q4,λK hK=> ?_⟩;have:=q5 K hK;unfold bL;simp only;rw [h1,h2,h3];simp only;cases hy:E.ty ty with
    | none=>rw [hy]at this;exact this.elim
    | some y=>
     rw [hy]at this;simp only [au]at this ⊢;split at this
     .rename_i e hd;cases hz:E.ty e with
      | none=>rw [hz]at this;exact this.elim
      | some z=>
       rw [hz]at this;simp only at this;rw [hd];simp only;rw [hz];simp only;rw [a1];simp only [aC];rw [b1];exact this
     .exact this.elim
   .cases hk
  .rename_i a ty h1 h2 h3;split at hk
   .rename_i av ha;obtain⟨pa,a1,a2⟩:=fC hX he ha;obtain⟨pv,h'',j,q1,q2,q3,q4,q5⟩:=Vx hX H hn a2 hk hps;refine⟨pv,h'',j,q1,q2,q3,q4,λK hK=> ?_⟩;have:=q5 K hK;unfold bL;simp only;rw [h1,h2,h3];simp only;cases hy:E.ty ty with
    | none=>rw [hy]at this;exact this.elim
    | some y=>
     rw [hy]at this;simp only [au]at this ⊢;split at this
     .rename_i e hd;cases hz:E.ty e with
      | none=>rw [hz]at this;exact this.elim
      | some z=>
       rw [hz]at this;simp only at this;obtain⟨zd,hzd,this⟩:=this;rw [hd];simp only;rw [hz];simp only;refine⟨zd,hzd,?_⟩;rw [a1];exact this
     .exact this.elim
   .cases hk
  .cases hk
 .cases hk
structure ELe{m:Nat}(a b:ES (std m)):Prop where
 ren:∀(i:Nat) (v:Option Nat),a.ren[i]? =some (some v)->b.ren[i]? =some (some v)
 len:b.ren.length=a.ren.length
 fro:∀x,x∈a.fro->x∈b.fro
 ck:∀x,x∈a.ck->x∈b.ck
 tr:∀(i:Nat) (v:Option Nat),a.ren[i]? =some (some v)->kP (std m) b i=kP (std m) a i
def ELe.refl{m:Nat}(a:ES (std m)):ELe a a:=⟨λ_ _ h=>h,rfl,λ_ h=>h,λ_ h=>h,λ_ _ _=>rfl⟩
def ELe.trans{m:Nat}{a b c:ES (std m)}(h:ELe a b)(k:ELe b c):ELe a c:=
 ⟨λi v hv=>k.ren i v (h.ren i v hv),k.len.trans h.len,λx hx=>k.fro x (h.fro x hx),λx hx=>k.ck x (h.ck x hx),λi v hv=>(k.tr i v (h.ren i v hv)).trans (h.tr i v hv)⟩
def rJ{m:Nat}{s s':ES (std m)}{i:Nat}{v:Option Nat}(h:sJ (std m) s i v=some s'):
  s'.ren[i]? =some (some v)/\ELe s s'/\s'.lv=s.lv/\s'.tr=s.tr/\s'.fro=s.fro/\s'.ck=s.ck:=by
 unfold sJ at h;split at h
 .rename_i hi;cases h;have hl:=(List.getElem?_eq_some_iff.1 hi).1;refine⟨by simp [hl],⟨λj w hj=> ?_,by simp,λ_ h=>h,λ_ h=>h,λ_ _ _=>rfl⟩,rfl,rfl,rfl,rfl⟩
  grind
 .rename_i w hi;split at h
  .rename_i e;subst e;cases h;exact⟨hi,.refl _,rfl,rfl,rfl,rfl⟩
  .cases h
 .cases h
def WC(c:Ctx)(w:World)(N:NM)(v:Value)(y:SC):Prop:=∃x,bM c w v x/\RC N x y
def Ee(k:Nat)(p:Option (Nat×Nat)):Option (Nat×Nat):=p.map λq=>(q.1,q.2+k)
def lS(p:Option (Nat×Nat)):Ee 0 p=p:=by cases p<;>rfl
def Q9(k:Nat)(p:Option (Nat×Nat)):(Ee k p).map (·.1)=p.map (·.1):=by cases p<;>rfl
def trK{m:Nat}(e:ES (std m))(h:List bE)(i l:Nat):Nat:=match kP (std m) e i,nmh h l with | some p,some q=>(p.1:Int).toNat*q.1 | _,_=>0
def pY{m:Nat}{e:ES (std m)}{h:List bE}{i l:Nat}(ht:kP (std m) e i=none):trK e h i l=0:=by unfold trK;rw [ht]
structure Ren{m:Nat}(e:ES (std m))(h:List bE)(c:Ctx)(nm:Nat->Nat)(fr:Bool)(c2:Ctx)(N2:NM):Prop where
 kt:∀b,c.K true b->c2.K true b
 kf:fr=false->∀b,c.K false b->c2.K false b
 sub:∀b,c.K true b->c.K false b
 agB:∀b,c2.K true b->c2.K false b
 fro:∀l f,(l,f)∈e.fro->(f=true\/fr=false)->∀b,c.μ l=some b->c2.K f b
 name:∀(i l:Nat),e.ren[i]? =some (some (some l))->nm i<c2.n/\c2.ν (nm i)=Ee (trK e h i l) (c.ν l)
 names:∀(i l sz n:Nat),e.ren[i]? =some (some (some l))->nmh h l=some (sz,n)->N2 (nm i)=some (sz,match kP (std m) e i with | some p=>min ((p.1:Int)+(p.2:Int)).toNat n- (p.1:Int).toNat | none=>n)
 nil:∀(i:Nat),e.ren[i]? =some (some none)->nm i<c2.n/\c2.ν (nm i)=none/\∃sz,N2 (nm i)=some (sz,0)
def Ra{c:Ctx}{w:World}{h':Heap}(H:bR c w h'){l sz lo n:Nat}{v:Value}{f:Bool}{es:List (List D)}(ho:AE.look h' l=some (.rows f sz es))(hlen:lo+n<=es.length)(hv:bM c w v (.os l sz lo n))
  {K2:Nat->Prop} (hK:∀b,c.K f b->K2 b) (hb:∀b,c.μ l=some b->K2 b):dZ K2 w v (.rows sz ((es.drop lo).take n)):=by
 have hro:=(H.obj l _ ho).2;cases hv with
 | os0 a _ _ hl hm=>rw [List.take_zero];exact .none _ _ _
 | osE a _ _ _ b hl hm=>rw [List.take_zero];exact .none _ _ _
 | os _ _ _ _ cap b oo hl hm hn hroom=>
  simp only [gu,hm]at hro;obtain⟨cells,E,hbk,hrow⟩:=hro;obtain⟨u,hu⟩:=hrow.aai;have hlen':((es.drop lo).take n).length=n:=by simp;omega
  have hg:∀i,i<n->((es.drop lo).take n).getD i []=es.getD (lo+i) []:=by grind
  refine .rows b (oo+lo*sz) cap sz n _ (λi j=>u (lo+i) j) (hb b (gW hm)) hlen'.symm hn ?_ ?_ ?_
  .intro i j hi hj;rw [hlen']at hi;have h1:=(hu (lo+i) j ah hj).1;rw [jm hbk];simpa only [l5,Nat.add_mul,Nat.add_assoc]using h1
  .intro i hi;rw [hlen']at hi;rw [hg i hi];exact(hrow (lo+i) ah).1
  .intro i j hi hj;rw [hlen']at hi;unfold gd;rw [hg i hi];exact((hu (lo+i) j ah hj).2).mono' hK
def bM.ajd{c c2:Ctx}{w:World}{v:Value}{l l' sz lo n:Nat}(h:bM c w v (.os l sz lo n))(hl':l'<c2.n)(hm':c2.ν l'=c.ν l):bM c2 w v (.os l' sz lo n):=by
 have hu:c2.μ l'=c.μ l:=by unfold Ctx.μ;rw [hm']
 cases h with
 | os0 a _ _ hl hm=>exact .os0 a l' sz hl' (hu.trans hm)
 | osE a _ _ _ b hl hm=>exact .osE a l' sz lo b hl' (hu.trans hm)
 | os _ _ _ _ cap b o hl hm hn hroom=>exact .os l' sz lo n cap b o hl' (hm'.trans hm) hn hroom
def bM.agC{c c2:Ctx}{w:World}{v:Value}{l l' sz lo n:Nat}(h:bM c w v (.os l sz lo n))(hl':l'<c2.n)(hm':c2.ν l'=Ee (lo*sz) (c.ν l)):bM c2 w v (.os l' sz 0 n):=by
 have hu:c2.μ l'=c.μ l:=by unfold Ctx.μ;rw [hm',Q9]
 cases h with
 | os0 a _ _ hl hm=>exact .os0 a l' sz hl' (hu.trans hm)
 | osE a _ _ _ b hl hm=>exact .osE a l' sz 0 b hl' (hu.trans hm)
 | os _ _ _ _ cap b o hl hm hn hroom=>
  rw [hm]at hm';have:=bM.os (c:=c2) (w:=w) l' sz 0 n cap b (o+lo*sz) hl' hm' hn (by simpa [Nat.add_mul,Nat.add_assoc]using hroom);simpa using this
def bM.Vy{c c2:Ctx}{w:World}{v:Value}{l l' sz i j:Nat}(h:bM c w v (.ptr l sz i j))(hl':l'<c2.n)(hm':c2.ν l'=c.ν l):bM c2 w v (.ptr l' sz i j):=by
 cases h with | ptr _ _ _ _ b o hl hm=>exact .ptr l' sz i j b o hl' (hm'.trans hm)
def Rb{m:Nat}{c:Ctx}{w:World}{h':Heap}{h:List bE}(H:bR c w h')(HR:gq h' h){s:Sh}{y:SC}{g:Bool}{x:LV aV}{ls:List Nat}(hk:gQ (std m) h s y=some (g,x,ls))
  {v:Value} (hv:WC c w (nmh h) v y) {f:Bool} {K2:Nat->Prop} (hf:f=true->g=true) (hK:∀b,c.K f b->K2 b) (hb:∀l∈ls,∀b,c.μ l=some b->K2 b):dZ K2 w v (lvD s x):=by
 have up:∀f',(f=true->f'=true)->∀b,c.K f' b->K2 b:=λf' hff b hb=>hK b (by
  cases f with
  | true=>simp_all
  | false=>cases f' with
   | true=>exact H.sub b hb
   | false=>exact hb)
 obtain⟨x0,hr,hc⟩:=hv;unfold gQ at hk;split at hk
 .rename_i f0 lf;split at hk
  .rename_i e;subst e;cases hk;cases hc with | d hx hff=>
   rename_i f' x1;subst hx;rw [Ea];cases hr with | d _ _ _ hd=>
   cases hs:lf.scalar with
   | true=>exact hd.dK _ (by rw [kC];exact hs)
   | false=>
    refine hd.mono' (up _ (λh=>(hff ?_).resolve_right (by simp [hs])));have:=hf h;cases lf<;>simp_all [Leaf.flag,Leaf.scalar]
  .cases hk
 .cases hc;split at hk
  .cases hk;cases hr;exact .none _ _ _
  .cases hk
 .rename_i f0 co xs;cases hc with | clip hff=>
  split at hk
  .rename_i e;subst e;cases hk;cases hr with | clip _ a n _ _ hd=>
   exact hd.mono' (up _ λh=>hff (hf h))
  .cases hk
 .rename_i l;cases hc with | own hN=>
  split at hk
  .rename_i f0 co xs hl;split at hk
   .rename_i e;subst e;cases hk;rw [eU hl]at hN;cases hN;obtain⟨o',ho',hO⟩:=HR.old l _ hl;cases hO with | rows hff=>
    have:=Ra H ho' (by rw [bN];omega) hr (up _ λh=>hff (hf h)) (hb l (by simp));rw [List.drop_zero,List.take_of_length_le (by grind [bN])]at this;exact this
   .cases hk
  .cases hk
 .cases hk
def oV{c2:Ctx}{w:World}{N2:NM}{v:Value}{f:Bool}{y:Leaf aV}(h:dZ (c2.K f) w v (nZ y)):WC c2 w N2 v (.d f y):=⟨.d f (nZ y),.d f v _ h,.d rfl λh=> .inl h⟩
def CX{m:Nat}{s s':ES (std m)}{i:Nat}(h:s.tr.any (·.1==i)=false)(e:s'.tr=s.tr):kP (std m) s' i=none:=by
 unfold kP;rw [e]
 grind [List.find?_eq_none,List.any_eq_true]
def Vz{c0 c2:Ctx}{w:World}{nm:Nat->Nat}{vs:List Value}{caps qC:List (Nat×Nat)}{i:Nat}(hi:i<caps.length)(hi':i<qC.length)(hsz:caps[i].2=qC[i].2)
  (h1:bM c0 w (vs.getD i undef) ((qC.map λp=>Cell.ptr p.1 p.2 0 0).getD i default)) (n1:nm caps[i].1<c2.n) (n2:c2.ν (nm caps[i].1)=c0.ν qC[i].1):
  bM c2 w (vs.getD i undef) (((caps.map λp=>(nm p.1,p.2)).map λp=>Cell.ptr p.1 p.2 0 0).getD i default):=by
 have h1':bM c0 w (vs.getD i undef) (.ptr qC[i].1 qC[i].2 0 0):=by simpa [List.getD,List.getElem?_eq_getElem hi']using h1
 have h3:=bM.Vy h1' n1 n2;rw [<-hsz]at h3;simpa [List.getD,List.getElem?_eq_getElem hi]using h3
def Lm{m:Nat}:∀ {ps:List ((Nat×Nat)×(Nat×Nat))} {s s':ES (std m)},ps.foldlM (λs p=>sJ (std m) s p.1.1 (some p.2.1)) s=some s'->
  (∀p∈ps,s'.ren[p.1.1]? =some (some (some p.2.1)))/\ELe s s'/\s'.lv=s.lv/\s'.tr=s.tr
 | [],s,s',h=>by cases h;exact⟨λ_ h=>(by simp at h),.refl _,rfl,rfl⟩
 | p::ps,s,s',h=>by
  rw [List.foldlM_cons]at h;cases h1:sJ (std m) s p.1.1 (some p.2.1)with
  | none=>simp_all
  | some s1=>
   rw [h1]at h;obtain⟨q1,q2,q3,q4⟩:=Lm (ps:=ps) h;obtain⟨r1,r2,r3,r4,_⟩:=rJ h1;refine⟨λx hx=> ?_,r2.trans q2,q3.trans r3,q4.trans r4⟩;cases hx with
   | head=>exact q2.ren _ _ r1
   | tail _ hx=>exact q1 x hx
def ELe.push{m:Nat}(s:ES (std m))(x:LV aV):ELe s (s.push (std m) x):=⟨λ_ _ h=>h,rfl,λ_ h=>h,λ_ h=>h,λ_ _ _=>rfl⟩
def TM{m:Nat}{h:List bE}{c:Co}{y:SC}{g:Bool}{x:LV aV}{ls:List Nat}(hx:gQ (std m) h (.rows c) y=some (g,x,ls)):∃xs:List c.den,x= .l c xs:=by
 unfold gQ at hx;split at hx
 .rename_i f0 lf;split at hx
  .rename_i e;cases hx;cases lf with
   | rows c' xs=>simp only [kN,Sh.rows.injEq]at e;subst e;exact⟨xs,rfl⟩
   | _=>simp [kN]at e
  .cases hx
 .grind
 .split at hx
  .rename_i e;cases hx;simp only [Sh.rows.injEq]at e;subst e;exact⟨_,rfl⟩
  .cases hx
 .split at hx
  .split at hx
   .rename_i e;cases hx;simp only [Sh.rows.injEq]at e;subst e;exact⟨_,rfl⟩
   .cases hx
  .cases hx
 .cases hx
def Rc{m:Nat}{h:List bE}(nm:Nat->Nat){k:SkC}{y:SC}{s s':ES (std m)}(hk:extC (std m) h k y s=some s'):
  ∃new y2,s'.lv=new.reverse++s.lv/\ELe s s'/\(∀rest,Vb aV nm k (new++rest)=some (y2,rest))/\
   ∀ {c:Ctx} {w:World} {h':Heap} {e:ES (std m)} {fr:Bool} {c2:Ctx} {N2:NM} {v:Value},bR c w h'->gq h' h->ELe s' e->(∀b∈e.ck,b=true)->Ren e h c nm fr c2 N2->(fr=true->k.fresh=true)->
    WC c w (nmh h) v y->WC c2 w N2 v y2:=by
 cases k with
 | int k=>
  simp only [extC]at hk;split at hk
  .rename_i f k' x;split at hk
   .rename_i e;subst e;cases hk;refine⟨[.i x],.d true (.int k x),rfl,.push _ _,λrest=>rfl,λH HR he hck R hfr hv=> ?_⟩;obtain⟨x0,hr,hc⟩:=hv;obtain⟨g,rfl⟩:=RC.int hc;cases hr with | d _ _ _ hd=>exact oV (hd.dK _ rfl)
   .cases hk
  .cases hk
 | bool=>
  simp only [extC]at hk;split at hk
  .rename_i f x;cases hk;refine⟨[.b x],.d true (.bool x),rfl,.push _ _,λrest=>rfl,λH HR he hck R hfr hv=> ?_⟩;obtain⟨x0,hr,hc⟩:=hv;obtain⟨g,rfl⟩:=RC.bool hc;cases hr with | d _ _ _ hd=>exact oV (hd.dK _ rfl)
  .cases hk
 | str=>
  simp only [extC]at hk;split at hk
  .rename_i f x;cases hk;refine⟨[.s x],.d true (.str x),rfl,.push _ _,λrest=>rfl,λH HR he hck R hfr hv=> ?_⟩;obtain⟨x0,hr,hc⟩:=hv;cases hc with | d hx _=>
   subst hx;cases hr with | d _ _ _ hd=>exact oV (y:= .str x) (hd.dK _ rfl)
  .cases hk
 | rows f c=>
  simp only [extC]at hk;split at hk
  .rename_i l lo n;split at hk
   .rename_i g c' xs hl;split at hk
    .rename_i hcond;cases hk;obtain⟨rfl,hfg⟩:=hcond
     refine⟨[.l c ((((xs:List c.den).take ((lo:Int)+(n:Int)).toNat)).drop ((lo:Int)).toNat)],.d f (.rows c ((((xs:List c.den).take ((lo:Int)+(n:Int)).toNat)).drop ((lo:Int)).toNat)),rfl,
      ⟨λ_ _ h=>h,rfl,λx hx=>List.mem_cons_of_mem _ hx,λx hx=>List.mem_append_right _ hx,λ_ _ _=>rfl⟩,λrest=>rfl,λ{c0 w h' e fr c2 N2 v} H HR he hck R hfr hv=> ?_⟩
     obtain⟨x0,hr,hc⟩:=hv;cases hc with | os hN=>
     rename_i sz lo n mm;rw [eU hl]at hN;cases hN;obtain⟨o',ho',hO⟩:=HR.old l _ hl;cases hO with | rows hff=>
     rename_i f';have aje:∀b∈mD (std m) h (.c (.os l (lo:Int) (n:Int))),b=true:=λb hb=>hck b (he.ck b (List.mem_append_left _ hb))
     simp only [mD,hl]at aje;have h3:(lo:Int)+(n:Int)<=(xs:List c.den).length:=by simp_all [cB]
     have vC:f=true\/fr=false:=by
      cases fr with
      | false=>exact .inr rfl
      | true=>exact .inl (hfr rfl)
     have hKf:∀b,c0.K f b->c2.K f b:=λb hb=>by
      cases f with
      | true=>exact R.kt b hb
      | false=>exact R.kf (vC.resolve_left (by simp)) b hb
     have hd:=Ra H ho' (lo:=lo) (n:=n) (by rw [bN];omega) hr (K2:=c2.K f) (λb hb=>hKf b (by
      cases f with
      | true=>simp_all
      | false=>cases f' with
       | true=>exact R.sub b hb
       | false=>exact hb)) (λb hb=>R.fro l f (he.fro _ (by simp)) vC b hb)
     have e1:bJ c (((xs:List c.den).take ((lo:Int)+(n:Int)).toNat).drop ((lo:Int)).toNat)=((bJ c xs).drop lo).take n:=by grind [Eb,vY]
     rw [<-e1]at hd;exact oV (y:= .rows c _) hd
    .cases hk
   .cases hk
  .split at hk
   .rename_i g x ls hx;split at hk
    .rename_i hfg;cases hk;have hxl:=TM hx;obtain⟨xs,rfl⟩:=hxl;refine⟨[.l c xs],.d f (.rows c xs),rfl,⟨λ_ _ h=>h,rfl,λx hx=>List.mem_append_right _ hx,λx hx=>hx,λ_ _ _=>rfl⟩,λrest=>rfl,λ{c0 w h' e fr c2 N2 v} H HR he hck R hfr hv=> ?_⟩;have vC:f=true\/fr=false:=by
      cases fr with
      | false=>exact .inr rfl
      | true=>exact .inl (hfr rfl)
     have hKf:∀b,c0.K f b->c2.K f b:=λb hb=>by
      cases f with
      | true=>exact R.kt b hb
      | false=>exact R.kf (vC.resolve_left (by simp)) b hb
     exact oV (y:= .rows c xs) (Rb H HR hx hv (λh=>by simp_all) hKf (λl hl b hb=>R.fro l f (he.fro _ (List.mem_append_left _ (List.mem_map.2 ⟨l,hl,rfl⟩))) vC b hb))
    .cases hk
   .cases hk
 | nil=>
  simp only [extC]at hk;split at hk
  .cases hk;refine⟨[],.nil,rfl,.refl _,λrest=>rfl,λH HR he hck R hfr hv=> ?_⟩;obtain⟨x0,hr,hc⟩:=hv;cases hc;cases hr;exact⟨.nil,.nil,.nil⟩
  .cases hk
 | own i=>
  simp only [extC]at hk;split at hk
  .rename_i l;split at hk
   .cases hk
   .rename_i htr;obtain⟨r1,r2,r3,r4,r5,r6⟩:=rJ hk;refine⟨[],.own (nm i),by simpa using r3,r2,λrest=>rfl,λH HR he hck R hfr hv=> ?_⟩;obtain⟨x0,hr,hc⟩:=hv;cases hc with | own hN=>
    rename_i sz n;obtain⟨n1,n2⟩:=R.name i l (he.ren _ _ r1);have hn:=R.names i l sz n (he.ren _ _ r1) hN;have ht:kP (std m) s' i=none:=CX (by cases hq:s.tr.any (·.1==i)with | true=>exact absurd hq htr | false=>rfl) r4;rw [he.tr i _ r1,ht]at hn;rw [pY ((he.tr i _ r1).trans ht),lS]at n2;exact⟨_,bM.ajd hr n1 n2,.own hn⟩
  .obtain⟨r1,r2,r3,r4,r5,r6⟩:=rJ hk;refine⟨[],.own (nm i),by simpa using r3,r2,λrest=>rfl,λH HR he hck R hfr hv=> ?_⟩;obtain⟨x0,hr,hc⟩:=hv;cases hc;cases hr;obtain⟨n1,n2,sz,n3⟩:=R.nil i (he.ren _ _ r1);exact⟨.os (nm i) sz 0 0,.os0 none _ sz n1 (agk n2),.own n3⟩
  .rename_i l lo n;split at hk
   .rename_i f0 c xs hri hl;cases hk;have hil:=(List.getElem?_eq_some_iff.1 hri).1;refine⟨[],.own (nm i),rfl,⟨λj w hj=> ?_,by simp,λ_ h=>h,λx hx=>List.mem_append_right _ hx,λj w hj=> ?_⟩,λrest=>rfl,λ{c0 w h' e fr c2 N2 v} H HR he hck R hfr hv=> ?_⟩
    .grind
    .grind [kP]
    .obtain⟨x0,hr,hc⟩:=hv;cases hc with | os hN=>
     rename_i sz lo n mm;have r1:=he.ren i (some l) (by simp [hil]);have ht:=he.tr i (some l) (by simp [hil]);obtain⟨n1,n2⟩:=R.name i l r1;have hn:=R.names i l sz mm r1 hN;rw [ht]at hn;have hle:(lo:Int)+(n:Int)<=(xs:List c.den).length:=by
      have:=hck (cB .leq ((lo:Int)+(n:Int)) ((xs:List c.den).length:Int)) (he.ck _ (by simp));simpa [cB]using this
     have hmm:=hN;rw [eU hl]at hmm;cases hmm;have hk0:trK e h i l=lo*c.size:=by unfold trK;rw [ht,eU hl];simp [kP]
     rw [hk0]at n2;simp [kP]at hn;have hn':N2 (nm i)=some (c.size,n):=hn.trans (by show some (c.size,min ((lo:Int)+(n:Int)).toNat (List.length xs)-lo)=some (c.size,n);congr 2;omega);exact⟨_,bM.agC hr n1 n2,.own hn'⟩
   .cases hk
  .cases hk
 | pb i sz j=>
  simp only [extC]at hk;split at hk
  .rename_i l sz' j';split at hk
   .rename_i hcond;obtain⟨rfl,rfl,htr⟩:=hcond;obtain⟨r1,r2,r3,r4,r5,r6⟩:=rJ hk;refine⟨[],.pb (nm i) sz j,by simpa using r3,r2,λrest=>rfl,λH HR he hck R hfr hv=> ?_⟩;obtain⟨x0,hr,hc⟩:=hv;cases hc;obtain⟨n1,n2⟩:=R.name i l (he.ren _ _ r1);have ht:kP (std m) s' i=none:=CX (by simpa using htr) r4;rw [pY ((he.tr i _ r1).trans ht),lS]at n2;exact⟨_,bM.Vy hr n1 n2,.pb⟩
   .cases hk
  .cases hk
 | pr i j=>
  simp only [extC]at hk;split at hk
  .rename_i l x j';split at hk
   .rename_i hcond;obtain⟨rfl,htr⟩:=hcond;split at hk
    .rename_i s1 hs1;cases hk;obtain⟨r1,r2,r3,r4,r5,r6⟩:=rJ hs1;refine⟨[.i x],.pr (nm i) x j,by simp [ES.push,r3],r2.trans (.push _ _),λrest=>rfl,λH HR he hck R hfr hv=> ?_⟩;obtain⟨x0,hr,hc⟩:=hv;cases hc with | pr hN=>
     rename_i sz i0 mm;have r1':=he.ren i (some l) r1;obtain⟨n1,n2⟩:=R.name i l r1';have ht:kP (std m) s1 i=none:=CX (by simpa using htr) r4;rw [pY ((he.tr i _ r1).trans ht),lS]at n2;exact⟨_,bM.Vy hr n1 n2,.pr (R.names i l sz mm r1' hN)⟩
    .cases hk
   .cases hk
  .cases hk
 | rp f c j=>
  simp only [extC]at hk;split at hk
  .rename_i g c' xs x j';split at hk
   .rename_i hcond;cases hk;obtain⟨rfl,rfl,hfg⟩:=hcond;refine⟨[.l c xs,.i x],.rp f c xs x j,rfl,(ELe.push _ _).trans (.push _ _),λrest=>rfl,λ{c0 w h' e fr c2 N2 v} H HR he hck R hfr hv=> ?_⟩;obtain⟨x0,hr,hc⟩:=hv;cases hc with | rp hff hi=>
    rename_i f' i0;have vC:f=true\/fr=false:=by
     cases fr with
     | false=>exact .inr rfl
     | true=>exact .inl (hfr rfl)
    have hKf:∀b,c0.K f' b->c2.K f b:=λb hb=>by
     cases f with
     | true=>have:=hff (by simpa using hfg);rw [this]at hb;exact R.kt b hb
     | false=>
      refine R.kf (vC.resolve_left (by simp)) b ?_;cases f' with
      | true=>exact R.sub b hb
      | false=>exact hb
    cases hr with | rp _ b off _ _ _ _ u hb h1 h2 h3 h4=>
    exact⟨.rp f c.size (bJ c xs) i0 j,.rp f b off _ _ _ _ u (hKf b hb) h1 h2 (λi j hi hj=>(h3 i j hi hj).mono' hKf) h4,.rp (λh=>h) hi⟩
   .cases hk
  .cases hk
 | gp g c=>
  simp only [extC]at hk;split at hk
  .rename_i g' c';split at hk
   .rename_i hcond;cases hk;obtain⟨rfl,rfl⟩:=hcond;refine⟨[],.gp g c,rfl,.refl _,λrest=>rfl,λ{c0 w h' e fr c2 N2 v} H HR he hck R hfr hv=> ?_⟩;obtain⟨x0,hr,hc⟩:=hv;cases hc;have vC:fr=false:=by grind [SkC.fresh]
    cases hr with | rp _ b off _ _ _ _ u hb h1 h2 h3 h4=>
    exact⟨_,.rp false b off _ _ _ _ u (R.kf vC b hb) h1 h2 (λi j hi hj=>(h3 i j hi hj).mono' (R.kf vC)) h4,.gp⟩
   .cases hk
  .cases hk
 | fn g caps=>
  simp only [extC]at hk;split at hk
  .rename_i g' qC;split at hk
   .rename_i hcond;obtain⟨rfl,hsz,htr⟩:=hcond;obtain⟨q1,q2,q3,q4⟩:=Lm hk;refine⟨[],.fn g (caps.map λp=>(nm p.1,p.2)),by simpa using q3,q2,λrest=>rfl,λ{c0 w h' e fr c2 N2 v} H HR he hck R hfr hv=> ?_⟩;obtain⟨x0,hr,hc⟩:=hv;cases hc;cases hr with | fn _ vs _ hl hcs=>
    have hlen:caps.length=qC.length:=by have:=congrArg List.length hsz;simpa using this
    refine⟨.fn g ((caps.map λp=>(nm p.1,p.2)).map λp=> .ptr p.1 p.2 0 0),.fn g vs _ (by simp_all) (λi hi=> ?_),.fn⟩;simp at hi;have hi':i<qC.length:=by omega
    have h1:=hcs i (by simp;exact hi');have hz:(caps.zip qC)[i]? =some (caps[i],qC[i]):=by simp_all
    have h2:=q1 _ (List.mem_of_getElem? hz);obtain⟨n1,n2⟩:=R.name _ _ (he.ren _ _ h2);have ht:kP (std m) s' caps[i].1=none:=CX (by simpa using List.all_eq_true.1 htr caps[i] (List.getElem_mem _)) q4;rw [pY ((he.tr _ _ h2).trans ht),lS]at n2;exact Vz hi hi' (by have:=congrArg (λl=>l[i]?) hsz;grind) h1 n1 n2
   .cases hk
  .cases hk
 | np=>
  simp only [extC]at hk;split at hk
  .cases hk;refine⟨[],.np,rfl,.refl _,λrest=>rfl,λH HR he hck R hfr hv=> ?_⟩;obtain⟨x0,hr,hc⟩:=hv;cases hc;cases hr;exact⟨.np,.np,.np⟩
  .cases hk
 | clip f c=>
  simp only [extC]at hk;split at hk
  .rename_i g c' xs;split at hk
   .rename_i hcond;cases hk;obtain⟨rfl,hfg⟩:=hcond;refine⟨[.l c xs],.clip f c xs,rfl,.push _ _,λrest=>rfl,λ{c0 w h' e fr c2 N2 v} H HR he hck R hfr hv=> ?_⟩;obtain⟨x0,hr,hc⟩:=hv;cases hc with | clip hff=>
    rename_i f';have vC:f=true\/fr=false:=by
     cases fr with
     | false=>exact .inr rfl
     | true=>exact .inl (hfr rfl)
    have hKf:∀b,c0.K f' b->c2.K f b:=λb hb=>by
     cases f with
     | true=>have:=hff (by simpa using hfg);rw [this]at hb;exact R.kt b hb
     | false=>
      refine R.kf (vC.resolve_left (by simp)) b ?_;cases f' with
      | true=>exact R.sub b hb
      | false=>exact hb
    cases hr with | clip _ a n _ _ hd=>exact⟨.clip f c.size (bJ c xs),.clip f a n _ _ (hd.mono' hKf),.clip λh=>h⟩
   .cases hk
  .cases hk
def Lp{m:Nat}{h:List bE}(nm:Nat->Nat):∀ {ks:List SkC} {ys:List SC} {s s':ES (std m)},D5 (std m) h ks ys s=some s'->
  ∃new ys2,s'.lv=new.reverse++s.lv/\ELe s s'/\(∀rest,I4 aV nm ks (new++rest)=some (ys2,rest))/\
   ∀ {c:Ctx} {w:World} {h':Heap} {e:ES (std m)} {fr:Bool} {c2:Ctx} {N2:NM} {us:List Value},bR c w h'->gq h' h->ELe s' e->(∀b∈e.ck,b=true)->Ren e h c nm fr c2 N2->(fr=true->ks.all SkC.fresh=true)->
    F2 (WC c w (nmh h)) us ys->F2 (WC c2 w N2) us ys2
 | [],[],s,s',hk=>by
  simp only [D5,Option.some.injEq]at hk;subst hk;exact⟨[],[],rfl,.refl _,λrest=>rfl,λ_ _ _ _ _ _ h=>by cases h;exact .nil⟩
 | [],_::_,s,s',hk=>by simp [D5]at hk
 | _::_,[],s,s',hk=>by simp [D5]at hk
 | k::ks,y::ys,s,s',hk=>by
  simp only [D5]at hk;split at hk
  .rename_i s1 h1;obtain⟨new1,y2,a1,a2,a3,a4⟩:=Rc nm h1;obtain⟨new2,ys2,b1,b2,b3,b4⟩:=Lp nm hk;refine⟨new1++new2,y2::ys2,by simp_all,a2.trans b2,λrest=> ?_,λH HR he hck R hfr hu=> ?_⟩
   .grind [I4,List.append_assoc]
   .cases hu with | cons u1 u2=>
    exact .cons (a4 H HR (b2.trans he) hck R (λh=>by simp_all) u1) (b4 H HR he hck R (λh=>by simp_all) u2)
  .cases hk
def GL{c c2:Ctx}{w:World}{N N2:NM}{f f':Bool}(hsub:∀b,c.K true b->c.K false b)(hK:∀b,c.K f b->c2.K f b):∀ {ys:List (Leaf aV)} {us:List Value},(f=true->f'=true\/∀y∈ys,y.scalar=true)->
  F2 (WC c w N) us (ys.map (.d f'))->F2 (WC c2 w N2) us (ys.map (.d f))
 | [],us,_,h=>by cases h;exact .nil
 | y::ys,us,hf,h=>by
  cases h with | cons h1 h2=>
  refine .cons ?_ (GL hsub hK (λh=>(hf h).imp id λq y hy=>q y (List.mem_cons_of_mem _ hy)) h2);obtain⟨x,hr,hc⟩:=h1;cases hc with | d hx hff=>
  rename_i g0 x0;subst hx;cases hr with | d _ _ _ hd=>
  cases hs:y.scalar with
  | true=>exact oV (hd.dK _ (by rw [kC];exact hs))
  | false=>
   refine oV (hd.mono' λb hb=>hK b ?_);cases f with
   | false=>cases g0 with
    | true=>exact hsub b hb
    | false=>exact hb
   | true=>simp_all
def Ef{c2:Ctx}{w:World}{N2:NM}{f:Bool}:∀ {ys:List (Leaf aV)} {us:List Value},F2 (dZ (c2.K f) w) us (ys.map nZ)->F2 (WC c2 w N2) us (ys.map (.d f))
 | [],us,h=>by cases h;exact .nil
 | y::ys,us,h=>by cases h with | cons h1 h2=>exact .cons (oV h1) (Ef h2)
def tT{m:Nat}{c:Ctx}{w:World}{h':Heap}{h:List bE}(H:bR c w h')(HR:gq h' h){f:Bool}{K2:Nat->Prop}(hK:∀b,c.K f b->K2 b):
  ∀ {ss:List Sh} {ys:List SC} {us:List Value} {g:Bool} {vs:List (LV aV)} {ls:List Nat},bF (std m) h ss ys=some (g,vs,ls)->F2 (WC c w (nmh h)) us ys->(f=true->g=true)->(∀l∈ls,∀b,c.μ l=some b->K2 b)->
   F2 (dZ K2 w) us (List.zipWith lvD ss vs)
 | [],[],us,g,vs,ls,hk,hu,hf,hb=>by simp [bF]at hk;obtain⟨_,rfl,_⟩:=hk;cases hu;exact .nil
 | [],_::_,_,_,_,_,hk,_,_,_=>by simp [bF]at hk
 | _::_,[],_,_,_,_,hk,_,_,_=>by simp [bF]at hk
 | s::ss,y::ys,us,g,vs,ls,hk,hu,hf,hb=>by
  cases hu with | cons h1 h2=>
  unfold bF at hk;split at hk
  .rename_i f1 v1 l1 hv1;split at hk
   .rename_i g2 vs2 ls2 hv2;split at hk<;>cases hk
    refine .cons (Rb H HR hv1 h1 (λh=> ?_) hK λl hl=>hb l (List.mem_append_left _ hl)) (tT H HR hK hv2 h2 (λh=> ?_) λl hl=>hb l (List.mem_append_right _ hl))
    all_goals simp_all
   .cases hk
  .cases hk
def Lr{m:Nat}{c c2:Ctx}{w:World}{h':Heap}{h:List bE}{N2:NM}(H:bR c w h')(HR:gq h' h){f:Bool}(hK:∀b,c.K f b->c2.K f b){co:Co}{q:SVal}{g:Bool}{x:co.den}{ls:List Nat}
  (hk:toX (std m) h co q=some (g,x,ls)) {us:List Value} (hu:F2 (WC c w (nmh h)) us (cellsS q)) (hf:f=true->g=true) (hb:∀l∈ls,∀b,c.μ l=some b->c2.K f b):F2 (WC c2 w N2) us (cellsS (.sv f co x)):=by
 unfold toX at hk;split at hk
 .rename_i f' c' x';split at hk
  .rename_i e;subst e;cases hk;refine GL H.sub hK (λh=> ?_) hu
   grind [lQ]
  .cases hk
 .cases hk
 .split at hk
  .rename_i f1 ys ls1 h1;split at hk
   .rename_i t ht;cases hk;rw [eP]at h1;have:=tT H HR hK h1 hu hf hb;rw [yX co t ht,<-nG 0 co]at this;exact Ef this
   .cases hk
  .cases hk
def qF:SVal->Bool | .tup _=>true | _=>false
theorem Rf{m:Nat}{h:List bE}(nm:Nat->Nat){k:SkV}{q:SVal}{s s':ES (std m)}(hk:FU (std m) h k q s=some s'):
  qF q=false/\∃new q2,s'.lv=new.reverse++s.lv/\ELe s s'/\(∀rest,yQ aV nm k (new++rest)=some (q2,rest))/\qF q2=false/\cZ (std 0) q2=cZ (std 0) q/\
   ∀ {c:Ctx} {w:World} {h':Heap} {e:ES (std m)} {fr:Bool} {c2:Ctx} {N2:NM} {us:List Value},bR c w h'->gq h' h->ELe s' e->(∀b∈e.ck,b=true)->Ren e h c nm fr c2 N2->(fr=true->k.fresh=true)->
    F2 (WC c w (nmh h)) us (cellsS q)->F2 (WC c2 w N2) us (cellsS q2):=by
 cases k with
 | c k=>
  simp only [FU]at hk;split at hk
  .rename_i x;obtain⟨new,y2,a1,a2,a3,a4⟩:=Rc nm hk;refine⟨rfl,new,.c y2,a1,a2,λrest=>by grind [yQ],rfl,rfl,λH HR he hck R hfr hu=> ?_⟩;cases hu with | cons h1 h2=>cases h2;exact .cons (a4 H HR he hck R hfr h1) .nil
  .cases hk
 | agg ks=>
  simp only [FU]at hk;split at hk
  .rename_i hst;rw [eP]at hk;obtain⟨new,y2,a1,a2,a3,a4⟩:=Lp nm hk;refine⟨by cases q<;>simp_all [cZ,qF],new,.agg y2,a1,a2,λrest=>by grind [yQ],rfl,by rw [BX m]at hst;rw [hst];rfl,λH HR he hck R hfr hu=>a4 H HR he hck R hfr hu⟩
  .cases hk
 | sv f co=>
  simp only [FU]at hk;split at hk
  .rename_i hst;split at hk
   .rename_i g x ls hx;split at hk
    .rename_i hfg;cases hk;refine⟨by cases q<;>simp_all [cZ,qF],[.x co x],.sv f co x,rfl,⟨λ_ _ h=>h,rfl,λx hx=>List.mem_append_right _ hx,λx hx=>hx,λ_ _ _=>rfl⟩,λrest=>rfl,rfl,by rw [BX m]at hst;rw [hst];rfl,λ{c w h' e fr c2 N2 us} H HR he hck R hfr hu=> ?_⟩;by_cases VA:co.flat=true
     ·
      have h1:F2 (WC {c2 with K:=λg b=>c2.K g b\/c.K g b\/∃l∈ls,c.μ l=some b} w N2) us (cellsS (.sv f co x)):=Lr H HR (λb hb=>Or.inr (Or.inl hb)) hx hu (λh=>by simp_all) (λl hl b hb=>Or.inr (Or.inr ⟨l,hl,hb⟩));have hsc:=lQ co VA x;have hcs:cellsS (.sv f co x)=(fF (std 0) co x 0 co.fields).map (.d f):=rfl;rw [hcs]at h1 ⊢
      clear hu hx hcs hfr hfg
      generalize fF (std 0) co x 0 co.fields=lv at h1 hsc
      induction lv generalizing us with
      | nil=>cases h1;exact .nil
      | cons y lv ih=>
       cases h1 with | cons q1 q2=>
       refine .cons ?_ (ih q2 λy hy=>hsc y (List.mem_cons_of_mem _ hy));obtain⟨x0,hr,hc⟩:=q1;cases hc with | d hx0 _=>
       subst hx0;cases hr with | d _ _ _ hd=>exact oV (hd.dK _ (by grind [kC]))
     .have vC:f=true\/fr=false:=by grind [SkV.fresh]
      have hKf:∀b,c.K f b->c2.K f b:=λb hb=>by
       cases f with
       | true=>exact R.kt b hb
       | false=>exact R.kf (vC.resolve_left (by simp)) b hb
      exact Lr H HR hKf hx hu (λh=>by simp_all) (λl hl b hb=>R.fro l f (he.fro _ (List.mem_append_left _ (List.mem_map.2 ⟨l,hl,rfl⟩))) vC b hb)
    .cases hk
   .cases hk
  .cases hk
def WV(c:Ctx)(w:World)(N:NM)(u:Value)(q:SVal):Prop:=∃p,bO c w u p/\PVR N p q
def F2.wc{c:Ctx}{w:World}{N:NM}{us:List Value}{cs:List Cell}{ys:List SC}(h1:F2 (bM c w) us cs)(h2:F2 (RC N) cs ys):F2 (WC c w N) us ys:=by
 induction h1 generalizing ys with
 | nil=>cases h2;exact .nil
 | cons a _ ih=>cases h2 with | cons b h2=>exact .cons ⟨_,a,b⟩ (ih h2)
def F2.agD{c:Ctx}{w:World}{N:NM}{us:List Value}{ys:List SC}(h:F2 (WC c w N) us ys):∃cs,F2 (bM c w) us cs/\F2 (RC N) cs ys:=by
 induction h with
 | nil=>exact⟨[],.nil,.nil⟩
 | cons h1 _ ih=>
  obtain⟨x,a,b⟩:=h1;obtain⟨cs,q1,q2⟩:=ih;exact⟨x::cs,.cons a q1,.cons b q2⟩
def WV.conv{c c2:Ctx}{w:World}{N N2:NM}{u:Value}{q q2:SVal}(h:WV c w N u q)(ht:qF q=false)(ht2:qF q2=false)(hs:cZ (std 0) q2=cZ (std 0) q)
  (hc:∀us,F2 (WC c w N) us (cellsS q)->F2 (WC c2 w N2) us (cellsS q2)):WV c2 w N2 u q2:=by
 obtain⟨p,hr,hp⟩:=h;cases hp with
 | tup _=>simp [qF]at ht
 | one hp=>
  cases hp with
  | c hx=>
   cases hr with | c _ _ hr=>
   have:=hc [u] (.cons ⟨_,hr,hx⟩ .nil);cases q2 with
   | c y=>cases this with | cons h1 _=>obtain⟨x,a,b⟩:=h1;exact⟨.c x,.c _ _ a,.ofC b⟩
   | agg _=>simp [cZ]at hs
   | sv _ _ _=>simp [cZ]at hs
   | tup _=>simp [qF]at ht2
  | agg hst hF=>
   cases hr with | agg us _ hr=>
   obtain⟨cs,a,b⟩:=F2.agD (hc us (F2.wc hr hF));exact⟨.agg cs,.agg _ _ a,.one (.agg (by simp_all) b)⟩
def vD{m:Nat}{h:List bE}(nm:Nat->Nat):∀ {ks:List SkV} {qs:List SVal} {s s':ES (std m)},qD (std m) h ks qs s=some s'->
  ∃new qs2,s'.lv=new.reverse++s.lv/\ELe s s'/\(∀rest,sM aV nm ks (new++rest)=some (qs2,rest))/\
   ∀ {c:Ctx} {w:World} {h':Heap} {e:ES (std m)} {fr:Bool} {c2:Ctx} {N2:NM} {us:List Value},bR c w h'->gq h' h->ELe s' e->(∀b∈e.ck,b=true)->Ren e h c nm fr c2 N2->(fr=true->ks.all SkV.fresh=true)->
    F2 (WV c w (nmh h)) us qs->F2 (WV c2 w N2) us qs2
 | [],[],s,s',hk=>by
  simp only [qD,Option.some.injEq]at hk;subst hk;exact⟨[],[],rfl,.refl _,λrest=>rfl,λ_ _ _ _ _ _ h=>by cases h;exact .nil⟩
 | [],_::_,s,s',hk=>by simp [qD]at hk
 | _::_,[],s,s',hk=>by simp [qD]at hk
 | k::ks,y::ys,s,s',hk=>by
  simp only [qD]at hk;split at hk
  .rename_i s1 h1;obtain⟨ht,new1,y2,a1,a2,a3,t2,st2,a4⟩:=Rf nm h1;obtain⟨new2,ys2,b1,b2,b3,b4⟩:=vD nm hk;refine⟨new1++new2,y2::ys2,by simp_all,a2.trans b2,λrest=> ?_,λH HR he hck R hfr hu=> ?_⟩
   .grind [sM,List.append_assoc]
   .cases hu with | cons u1 u2=>
    refine .cons (u1.conv ht t2 st2 λus hus=>a4 H HR (b2.trans he) hck R (λh=> ?_) hus) (b4 H HR he hck R (λh=> ?_) u2)
    all_goals simp_all
  .cases hk
structure OF{m:Nat}(e:ES (std m))(h:List bE)(nm:Nat->Nat)(i:Nat)(k:SkO)(old o2:bE):Prop where
 s1:∀(l sz n:Nat),k≠ .gone->e.ren[i]? =some (some (some l))->nmh h l=some (sz,n)->nmh [o2] 0=some (sz,match kP (std m) e i with | some p=>min ((p.1:Int)+(p.2:Int)).toNat n- (p.1:Int).toNat | none=>n)
 s2:k≠ .gone->e.ren[i]? =some (some none)->∃sz,nmh [o2] 0=some (sz,0)
 gone:k= .gone->o2=old
 live:k≠ .gone->∃v,e.ren[i]? =some (some v)
 ng:k≠ .gone->¬Gone [o2] 0
 rel:∀ {c:Ctx} {w:World} {h':Heap} {fr:Bool} {c2:Ctx} {N2:NM},bR c w h'->gq h' h->(∀b∈e.ck,b=true)->Ren e h c nm fr c2 N2->(fr=true->k.fresh=true)->
  ∃o2',OR N2 o2' o2/\gu c2 w (nm i) o2'/\(k= .gone->o2'= .gone)/\(∀l,k≠ .gone->e.ren[i]? =some (some (some l))->∃o',AE.look h' l=some o'/\o'.live)
def dL.pre{K:Nat->Prop}{w:World}{cells:Array Value}{sz n:Nat}{es:List (List D)}(h:dL K w cells sz es):dL K w cells sz (es.take n):=λi hi=>by
 simp at hi;have e:(es.take n).getD i []=es.getD i []:=by grind
 refine⟨by rw [e];exact(h i ah).1,λj hj=> ?_⟩;obtain⟨v,hv,hd⟩:=(h i ah).2 j hj
 grind [gd]
def dL.agE{K:Nat->Prop}{w:World}{cells:Array Value}{o sz k:Nat}{es:List (List D)}(h:dL K w (from_ cells o) sz es):dL K w (from_ cells (o+k*sz)) sz (es.drop k):=λi hi=>by
 rw [List.length_drop]at hi;have e:(es.drop k).getD i []=es.getD (k+i) []:=by grind
 refine⟨by rw [e];exact(h (k+i) ah).1,λj hj=> ?_⟩;obtain⟨v,hv,hd⟩:=(h (k+i) ah).2 j hj;refine⟨v,by simpa only [l5,Nat.add_mul,Nat.add_assoc]using hv,?_⟩;unfold gd;rw [e];exact hd
theorem VB{c:Co}(hf:c.flat=true)(x:c.den):∀d∈c.row x,d.dK=true:=by
 intro d hd;rw [<-nG 0]at hd
 grind [kC,lQ]
def dL.flat{K K2:Nat->Prop}{w:World}{cells:Array Value}{c:Co}(hf:c.flat=true){xs:List c.den}(h:dL K w cells c.size (bJ c xs)):dL K2 w cells c.size (bJ c xs):=λi hi=>by
 refine⟨(h i hi).1,λj hj=> ?_⟩;obtain⟨v,hv,hd⟩:=(h i hi).2 j hj;refine⟨v,hv,hd.dK _ ?_⟩
 grind [bJ,gd,List.getD,sN,default,VB,List.getElem_mem]
def Rh{m:Nat}{h:List bE}(nm:Nat->Nat){i:Nat}{k:SkO}{s s':ES (std m)}(hk:N7 (std m) h i k s=some s')(old:bE)(hold:Gone [old] 0):
  ∃new o2,s'.lv=new.reverse++s.lv/\ELe s s'/\(∀rest,Vd aV nm old k (new++rest)=some (o2,rest))/\∀e,ELe s' e->OF e h nm i k old o2:=by
 cases k with
 | gone=>
  have:s'=s:=by simp_all [N7]
  subst this;obtain⟨c,n,ho⟩:=hold;simp at ho;subst ho;exact⟨[],_,rfl,.refl _,λrest=>rfl,λe he=>⟨λ_ _ _ h=>absurd rfl h,λh=>absurd rfl h,λ_=>rfl,λh=>absurd rfl h,λh=>absurd rfl h,λ_ _ _ _ _=>⟨.gone,.gone,trivial,λ_=>rfl,λ_ h=>absurd rfl h⟩⟩⟩
 | box k=>
  rcases hr:s.ren[i]? with _ | _ | _ | l<;>simp only [N7,hr,reduceCtorEq]at hk
  ·
   split at hk
   .rename_i v hl;obtain⟨ht,new,q2,a1,a2,a3,t2,st2,a4⟩:=Rf nm hk;refine⟨new,.box q2,a1,a2,λrest=>by grind [Vd],λe he=> ?_⟩;have hre:=he.ren i _ (a2.ren i _ hr);refine⟨λl' sz n _ h1 h2=> ?_,λ_ h1=> ?_,λh=>(by cases h),λ_=>⟨_,hre⟩,λ_ ⟨c,n,hg⟩=>by simp at hg,λ{c w h' fr c2 N2} H HR hck R hfr=> ?_⟩
    .grind [nmh]
    .simp_all
    .obtain⟨o',ho',hO⟩:=HR.old l _ hl;cases hO with | box hF=>
     obtain⟨b,vs,E,hm,hb,hrc⟩:=(H.obj l _ ho').2;obtain⟨cs2,q1,q2'⟩:=F2.agD (a4 H HR he hck R (λh=>hfr h) (F2.wc hrc hF));obtain⟨n1,n2⟩:=R.name i l hre;have k0:trK e h i l=0:=by unfold trK;simp [nmh,hl]
     rw [k0,lS]at n2;exact⟨.box cs2,.box q2',⟨b,vs,E,n2.trans hm,hb,q1⟩,λh=>(by cases h),λl' _ h1=>by rw [hre]at h1;cases h1;exact⟨_,ho',trivial⟩⟩
   .cases hk
 | rows f c=>
  rcases hr:s.ren[i]? with _ | _ | _ | l<;>simp only [N7,hr,reduceCtorEq]at hk
  .cases hk;refine⟨[.l c []],.rows f c [],rfl,.push _ _,λrest=>rfl,λe he=> ?_⟩;have hre:=he.ren i _ (by exact hr);refine⟨λl' sz n _ h1 h2=> ?_,λ_ h1=>⟨c.size,by simp [nmh]⟩,λh=>(by cases h),λ_=>⟨_,hre⟩,λ_ ⟨c,n,hg⟩=>by simp at hg,λ{c0 w h' fr c2 N2} H HR hck R hfr=> ?_⟩
   .simp_all
   .obtain⟨n1,n2,_⟩:=R.nil i hre;refine⟨.rows f c.size (bJ c []),.rows λh=>h,?_,λh=>(by cases h),λl' _ h1=>by simp_all⟩;simp only [gu];rw [n2];rfl
  ·
   split at hk
   .rename_i g c' xs hl;split at hk
    .rename_i hcond;obtain⟨rfl,hfg⟩:=hcond;obtain⟨xs2,hx2,hn2,hpre⟩:∃xs2:List c.den,(match kP (std m) s i with | some p=>(std m).sub c xs p.1 ((std m).addN p.1 p.2) | none=>xs)=xs2/\xs2.length=(match kP (std m) s i with | some p=>min ((p.1:Int)+(p.2:Int)).toNat (xs:List c.den).length- (p.1:Int).toNat | none=>(xs:List c.den).length)/\∃q,xs2=((xs:List c.den).take q).drop (match kP (std m) s i with | some p=>(p.1:Int).toNat | none=>0):=by
      cases kP (std m) s i with
      | none=>exact⟨xs,rfl,rfl,(xs:List c.den).length,by simp⟩
      | some p=>exact⟨((xs:List c.den).take ((p.1:Int)+(p.2:Int)).toNat).drop (p.1:Int).toNat,rfl,by simp,_,rfl⟩
     have hs':s'=s.push (std m) (.l c xs2):=by grind
     subst hs';refine⟨[.l c xs2],.rows f c xs2,rfl,.push _ _,λrest=>rfl,λe he=> ?_⟩;have hre:=he.ren i _ (by exact hr);have htr:kP (std m) e i=kP (std m) s i:=he.tr i _ hr;refine⟨λl' sz n _ h1 h2=> ?_,λ_ h1=> ?_,λh=>(by cases h),λ_=>⟨_,hre⟩,λ_ ⟨c,n,hg⟩=>by simp at hg,λ{c0 w h' fr c2 N2} H HR hck R hfr=> ?_⟩
     .grind [eU,nmh,List.getElem?_cons_zero]
     .simp_all
     .obtain⟨o',ho',hO⟩:=HR.old l _ hl;cases hO with | rows hff=>
      rename_i g';have hro:=(H.obj l _ ho').2;obtain⟨n1,n2⟩:=R.name i l hre;refine⟨.rows f c.size (bJ c xs2),.rows λh=>h,?_,λh=>(by cases h),λl' _ h1=>by rw [hre]at h1;cases h1;exact⟨_,ho',trivial⟩⟩;obtain⟨q,hq⟩:=hpre;have hk0:trK e h i l=(match kP (std m) s i with | some p=>(p.1:Int).toNat | none=>0)*c.size:=by
       unfold trK;rw [htr,eU hl];cases kP (std m) s i<;>simp
      generalize (match kP (std m) s i with | some p=>(p.1:Int).toNat | none=>0)=kk at hq hk0;have hq':bJ c xs2=((bJ c xs).take q).drop kk:=by rw [hq];simp [bJ,List.map_take]
      rw [hk0]at n2;simp only [gu]at hro ⊢;rw [n2];cases hm:c0.ν l with
      | none=>rw [hm]at hro;have hro:bJ c xs=[]:=hro;show bJ c xs2=[];rw [hq',hro];simp
      | some p=>
       rw [hm]at hro;obtain⟨cells,E,hb,hrow⟩:=hro;refine⟨cells,E,hb,?_⟩;have hrow2:=dL.agE (k:=kk) (dL.pre (n:=q) hrow);rw [<-hq']at hrow2;by_cases VA:c.flat=true
       .exact dL.flat VA hrow2
       .have hfg:f=true->g=true:=λh=>by simp_all
        refine hrow2.mono (λb hb=> ?_) λ_ _=>rfl
        cases f with
        | true=>have:=hff (hfg rfl);rw [this]at hb;exact R.kt b hb
        | false=>
         have vC:fr=false:=by grind [SkO.fresh]
         refine R.kf vC b ?_;cases g' with
         | true=>exact R.sub b hb
         | false=>exact hb
    .cases hk
   .cases hk
def rM{m:Nat}{h:List bE}(nm:Nat->Nat)(old:Nat->bE)(hold:∀j,Gone [old j] 0):∀ {ks:List SkO} {i:Nat} {s s':ES (std m)},yO (std m) h i ks s=some s'->
  ∃new os2,s'.lv=new.reverse++s.lv/\ELe s s'/\(∀rest,uY aV nm old i ks (new++rest)=some (os2,rest))/\os2.length=ks.length/\
   ∀e,ELe s' e->∀(j:Nat) (k:SkO),ks[j]? =some k->∃o2,os2[j]? =some o2/\OF e h nm (i+j) k (old (i+j)) o2
 | [],i,s,s',hk=>by
  simp only [yO,Option.some.injEq]at hk;subst hk;exact⟨[],[],rfl,.refl _,λrest=>rfl,rfl,λe he j k hj=>by simp at hj⟩
 | k::ks,i,s,s',hk=>by
  simp only [yO]at hk;split at hk
  .rename_i s1 h1;obtain⟨new1,o2,a1,a2,a3,a4⟩:=Rh nm h1 (old i) (hold i);obtain⟨new2,os2,b1,b2,b3,b4,b5⟩:=rM nm old hold hk;refine⟨new1++new2,o2::os2,by simp_all,a2.trans b2,λrest=> ?_,by simp [b4],λe he j k' hj=> ?_⟩
   .grind [uY,List.append_assoc]
   .cases j with
    | zero=>simp at hj;subst hj;exact⟨o2,rfl,a4 e (b2.trans he)⟩
    | succ j=>grind
  .cases hk
def yY:∀ {r:List (Option (Option Nat))},distinct (dw r)=true->∀ {i j l:Nat},r[i]? =some (some (some l))->r[j]? =some (some (some l))->i=j
 | [],_,i,j,l,h,_=>by simp at h
 | x::r,hd,i,j,l,hi,hj=>by
  have mem:∀ {r:List (Option (Option Nat))} {i l:Nat},r[i]? =some (some (some l))->l∈dw r:=by
   intro r
   induction r with
   | nil=>simp_all
   | cons x r ih=>
    intro i l h;cases i with
    | zero=>grind [dw]
    | succ i=>
     have:=ih (by simpa using h)
     match x with
     | some (some y)=>simp [dw,this]
     | some none=>simpa [dw]using this
     | none=>simpa [dw]using this
  have hr:distinct (dw r)=true:=by
   match x with
   | some (some y)=>grind [dw,distinct]
   | some none=>simpa [dw]using hd
   | none=>simpa [dw]using hd
  cases i with
  | zero=>grind [dw,distinct,absurd]
  | succ i=>
   cases j with
   | zero=>grind [dw,distinct,absurd]
   | succ j=>
    have:=yY hr (i:=i) (j:=j) (l:=l) (by simpa using hi) (by simpa using hj);omega
theorem rO:∀ {r:List (Option (Option Nat))} {i l:Nat},r[i]? =some (some (some l))->l∈dw r
 | [],i,l,h=>by simp at h
 | x::r,i,l,h=>by
  cases i with
  | zero=>grind [dw]
  | succ i=>
   have:=rO (r:=r) (i:=i) (l:=l) (by simpa using h)
   match x with
   | some (some y)=>simp [dw,this]
   | some none=>simpa [dw]using this
   | none=>simpa [dw]using this
def wm:∀ {r:List (Option (Option Nat))} {l:Nat},l∈dw r->∃i:Nat,r[i]? =some (some (some l))
 | [],l,h=>by simp [dw]at h
 | x::r,l,h=>by
  have up:l∈dw r->∃i:Nat,(x::r)[i]? =some (some (some l)):=λh=>let⟨i,hi⟩:=wm h;⟨i+1,by simpa using hi⟩
  match x with
  | some (some y)=>
   simp only [dw,List.mem_cons]at h;rcases h with rfl | h
   .exact⟨0,rfl⟩
   .exact up h
  | some none=>grind [dw]
  | none=>grind [dw]
def Ca:∀ {os:List SkO} {r:List (Option (Option Nat))},rG os r=true->∀ {i:Nat} {v:Option Nat},r[i]? =some (some v)->os[i]? ≠some .gone
 | [],_,_,i,v,_=>by simp
 | o::os,[],_,i,v,h=>by simp at h
 | o::os,x::r,hg,i,v,h=>by
  have ht:rG os r=true:=by
   cases o<;>cases x<;>simp_all [rG]
  cases i with
  | zero=>grind [rG]
  | succ i=>simpa using Ca ht (i:=i) (v:=v) (by simpa using h)
structure agF{m:Nat}(h:List bE)(e:ES (std m))(os:List SkO):Prop where
 dist:∀ {i j l:Nat},e.ren[i]? =some (some (some l))->e.ren[j]? =some (some (some l))->i=j
 fro:∀l f,(l,f)∈e.fro->(∀i:Nat,e.ren[i]? ≠some (some (some l)))/\∃g c xs,h[l]? =some (.rows g c xs)
 gone:∀ {i:Nat} {v:Option Nat},e.ren[i]? =some (some v)->os[i]? ≠some .gone
def Jb{m:Nat}{h:List bE}{e:ES (std m)}{os:List SkO}(hf:ES.fine (std m) h e os=true):agF h e os:=by
 unfold ES.fine at hf;simp only [Bool.and_eq_true]at hf;obtain⟨⟨h1,h2⟩,h3⟩:=hf;refine⟨yY h1,λl f hl=> ?_,Ca h3⟩;have:=List.all_eq_true.1 h2 _ hl;simp only [Bool.and_eq_true,Bool.not_eq_true']at this;refine⟨λi hi=> ?_,?_⟩
 .grind [rO]
 .have h4:=this.2;unfold Va at h4;split at h4
  all_goals simp_all
def KX{m:Nat}(e:ES (std m))(ce:Ctx)(fr:Bool)(f:Bool)(b:Nat):Prop:=ce.K (f || fr) b\/∃l g,(l,g)∈e.fro/\ce.μ l=some b/\((f || fr)=true->g=true)
def tV(nm:Nat->Nat)(f:Nat->eO):List Nat->Heap->Heap
 | [],h=>h
 | i::r,h=>(nm i,f i)::tV nm f r h
def Ls{nm:Nat->Nat}{f:Nat->eO}{l:Nat}:∀ {is:List Nat} {h:Heap},(∀i∈is,nm i≠l)->AE.look (tV nm f is h) l=AE.look h l
 | [],_,_=>rfl
 | i::r,h,hn=>by simp only [tV];rw [ak _ _ (hn i (by simp))];exact Ls λj hj=>hn j (List.mem_cons_of_mem _ hj)
def Lu{nm:Nat->Nat}{f:Nat->eO}(P:Nat->Prop)(hinj:∀i j,P i->P j->nm i=nm j->i=j):∀ {is:List Nat} {h:Heap},(∀i∈is,P i)->∀i∈is,AE.look (tV nm f is h) (nm i)=some (f i)
 | [],_,_,i,hi=>by simp at hi
 | j::r,h,hp,i,hi=>by
  simp only [tV];by_cases e:nm j=nm i
  .grind [aK]
  .rw [ak _ _ e];cases hi with
   | head=>exact absurd rfl e
   | tail _ hi=>exact Lu P hinj (λj hj=>hp j (List.mem_cons_of_mem _ hj)) i hi
set_option maxHeartbeats 2000000 in
def xP{m:Nat}{w:World}{ce:Ctx}{he':Heap}{he:List bE}(He:bR ce w he')(HRe:gq he' he){e:ES (std m)}(hck:∀b∈e.ck,b=true){ks:List SkO}(kI:agF he e ks)(hrl:e.ren.length=ks.length)
  {nm:Nat->Nat} {old:Nat->bE} {os2:List bE} (hlen:os2.length=ks.length) (hof:∀(j:Nat) (k:SkO),ks[j]? =some k->∃o2,os2[j]? =some o2/\OF e he nm j k (old j) o2)
  {cb:Ctx} {hb':Heap} (Hb:bR cb w hb') (fr:Bool) (hfresh:fr=true->ks.all SkO.fresh=true)
  {ν2:Nat->Option (Nat×Nat)} {n2:Nat} (hn2:cb.n<=n2) (hν:∀l,l<cb.n->ν2 l=cb.ν l) (hlt:∀i,i<ks.length->nm i<n2) (hinj:∀i j,i<ks.length->j<ks.length->nm i=nm j->i=j)
  (hname:∀(i l:Nat),e.ren[i]? =some (some (some l))->ν2 (nm i)=Ee (trK e he i l) (ce.ν l)) (hnil:∀(i:Nat),e.ren[i]? =some (some none)->ν2 (nm i)=none)
  {h2:List bE} (hget:∀i,i<ks.length->h2[nm i]? =os2[i]?) (hbR:∀l o,(∀i,i<ks.length->nm i≠l)->h2[l]? =some o->∃o',AE.look hb' l=some o'/\OR (nmh h2) o' o) (hbN:∀l,h2.length<=l->AE.look hb' l=none)
  (sep:∀b,fD cb hb' b->fD ce he' b->False) (ajf:∀f b,cb.K f b->fD ce he' b->False) (adQ:∀f b,fD cb hb' b->KX e ce fr f b->False):
  ∃(o':Nat->eO),let c2:Ctx:={K:=λf b=>cb.K f b\/KX e ce fr f b,ν:=ν2,n:=n2};let h2':Heap:=tV nm o' (List.range ks.length) hb'
   bR c2 w h2'/\gq h2' h2/\Ren e he ce nm fr c2 (nmh h2)/\(∀b,fD c2 h2' b->fD cb hb' b\/∃(i lq:Nat) (q:eO),e.ren[i]? =some (some (some lq))/\AE.look he' lq=some q/\q.live/\ce.μ lq=some b)/\CLe cb c2/\(∀l,(∀i,i<ks.length->nm i≠l)->AE.look h2' l=AE.look hb' l):=by
 have hμ:∀l,l<cb.n->(ν2 l).map (·.1)=cb.μ l:=λl hl=>by rw [hν l hl];rfl
 have aj7:∀(i l:Nat),e.ren[i]? =some (some (some l))->(ν2 (nm i)).map (·.1)=ce.μ l:=λi l hi=>by rw [hname i l hi,Q9];rfl
 have aj1:∀(i:Nat),e.ren[i]? =some (some none)->(ν2 (nm i)).map (·.1)=none:=λi hi=>by rw [hnil i hi];rfl
 have ajg:∀(i:Nat) (o2:bE),i<ks.length->os2[i]? =some o2->nmh h2 (nm i)=nmh [o2] 0:=λi o2 hi ho=>by grind [nmh,List.getElem?_cons_zero]
 have hib:∀(i:Nat) (v:Option (Option Nat)),e.ren[i]? =some v->i<ks.length:=λi v h=>by grind
 have hks:∀i,i<ks.length->∃k,ks[i]? =some k:=λi hi=>⟨ks[i],List.getElem?_eq_getElem hi⟩
 have R:Ren e he ce nm fr {K:=λf b=>cb.K f b\/KX e ce fr f b,ν:=ν2,n:=n2} (nmh h2):={
  kt:=λb hb=> .inr (.inl (by simpa using hb))
  kf:=λhf b hb=> .inr (.inl (by simp_all))
  sub:=He.sub
  agB:=λb hb=>by
   rcases hb with hb | hb | ⟨l,g,h1,h2,h3⟩
   .exact .inl (Hb.sub b hb)
   .refine .inr (.inl ?_);cases fr with
    | true=>simpa using hb
    | false=>exact He.sub b (by simpa using hb)
   .exact .inr (.inr ⟨l,g,h1,h2,λ_=>h3 (by simp)⟩)
  fro:=λl f hl hf b hb=> .inr (.inr ⟨l,f,hl,hb,λh=>by grind⟩)
  name:=λi l hi=>⟨hlt i (hib i _ hi),hname i l hi⟩
  names:=λi l sz n hi hl=>by
   have hi':=hib i _ hi;obtain⟨k,hk⟩:=hks i hi';obtain⟨o2,q1,q2⟩:=hof i k hk;rw [ajg i o2 hi' q1];exact q2.s1 l sz n (λe=>kI.gone hi (by rw [hk,e])) hi hl
  nil:=λi hi=>by
   have hi':=hib i _ hi;obtain⟨k,hk⟩:=hks i hi';obtain⟨o2,q1,q2⟩:=hof i k hk;obtain⟨sz,hs⟩:=q2.s2 (λe=>kI.gone hi (by rw [hk,e])) hi;simp_all}
 have hex:∀i,∃o',∀k,ks[i]? =some k->∃o2,os2[i]? =some o2/\OR (nmh h2) o' o2/\gu {K:=λf b=>cb.K f b\/KX e ce fr f b,ν:=ν2,n:=n2} w (nm i) o'/\
   (o'.live->k≠ .gone/\∃v,e.ren[i]? =some (some v)/\∀l,v=some l->∃q,AE.look he' l=some q/\q.live):=by
  intro i;cases hk:ks[i]? with
  | none=>simp_all
  | some k=>
   obtain⟨o2,q1,q2⟩:=hof i k hk;obtain⟨o',r1,r2,r3,r4⟩:=q2.rel He HRe hck R (λh=>List.all_eq_true.1 (hfresh h) k (List.mem_of_getElem? hk));refine⟨o',λk' h=> ?_⟩;cases h;refine⟨o2,q1,r1,r2,λhl=> ?_⟩;have hng:k≠ .gone:=λe=>by rw [r3 e]at hl;exact hl
   obtain⟨v,hv⟩:=q2.live hng
   grind
 obtain⟨o',adR⟩:=Classical.axiomOfChoice hex;refine⟨o',?_⟩;have Lv:∀i,i<ks.length->AE.look (tV nm o' (List.range ks.length) hb') (nm i)=some (o' i):=λi hi=>
  Lu (λi=>i<ks.length) hinj (λi hi=>List.mem_range.1 hi) i (List.mem_range.2 hi)
 have vE:∀l,(∀i,i<ks.length->nm i≠l)->AE.look (tV nm o' (List.range ks.length) hb') l=AE.look hb' l:=λl hl=>Ls λi hi=>hl i (List.mem_range.1 hi)
 have cle:CLe cb {K:=λf b=>cb.K f b\/KX e ce fr f b,ν:=ν2,n:=n2}:=⟨λf b h=> .inl h,hn2,hν⟩;have hlow:∀f b,KX e ce fr f b->b<w.heap.size:=by
  rintro f b (h | ⟨l,g,h1,h2,h3⟩)
  .exact He.low _ b h
  .obtain⟨_,g',c,xs,hl⟩:=kI.fro l g h1;obtain⟨q,hq,hO⟩:=HRe.old l _ hl;cases hO with | rows _=>
   exact(He.obj l _ hq).2.lt trivial h2
 have kind:∀l o,AE.look (tV nm o' (List.range ks.length) hb') l=some o->o.live->∀b,(ν2 l).map (·.1)=some b->
   (∃i q lq,i<ks.length/\nm i=l/\e.ren[i]? =some (some (some lq))/\AE.look he' lq=some q/\q.live/\ce.μ lq=some b)\/((∀i,i<ks.length->nm i≠l)/\AE.look hb' l=some o/\cb.μ l=some b):=by
  intro l o hl hlv b hb;by_cases hx:∃i,i<ks.length/\nm i=l
  .obtain⟨i,hi,rfl⟩:=hx;rw [Lv i hi]at hl;cases hl;obtain⟨k,hk⟩:=hks i hi;obtain⟨o2,q1,q2,q3,q4⟩:=adR i k hk;obtain⟨hng,v,hv,hq⟩:=q4 hlv;cases v with
   | none=>simp_all
   | some lq=>grind
  .have hx':∀i,i<ks.length->nm i≠l:=λi hi h=>hx ⟨i,hi,h⟩
   rw [vE l hx']at hl;exact .inr ⟨hx',hl,by rw [<-hμ l (Hb.obj l o hl).1];exact hb⟩
 refine⟨?_,?_,R,?_,cle,vE⟩
 .refine⟨λl o hl=> ?_,λl o l' o1 b h1 hl1 h2 hl2 hb1 hb2=> ?_,?_,?_,λb hb=>R.agB b hb⟩
  .by_cases hx:∃i,i<ks.length/\nm i=l
   .grind
   .rw [vE l (λi hi h=>hx ⟨i,hi,h⟩)]at hl;obtain⟨a1,a2⟩:=Hb.obj l o hl;exact⟨Nat.lt_of_lt_of_le a1 hn2,a2.mono cle (λ_ _ _=>rfl) (.refl w) a1 (λ_ _ _=>rfl)⟩
  .rcases kind l o h1 hl1 b hb1 with⟨i,q,lq,hi,rfl,hr,hq,hqv,hm⟩ | ⟨hx,hq,hm⟩
   .rcases kind l' o1 h2 hl2 b hb2 with⟨j,q',lq',hj,rfl,hr',hq',adS,hm'⟩ | ⟨hx',hq',hm'⟩
    .have:=He.inj lq q lq' q' b hq hqv hq' adS hm hm';subst this;rw [kI.dist hr hr']
    .exact(sep b ⟨l',o1,hq',hl2,hm'⟩ ⟨lq,q,hq,hqv,hm⟩).elim
   .rcases kind l' o1 h2 hl2 b hb2 with⟨j,q',lq',hj,rfl,hr',hq',adS,hm'⟩ | ⟨hx',hq',hm'⟩
    .exact(sep b ⟨l,o,hq,hl1,hm⟩ ⟨lq',q',hq',adS,hm'⟩).elim
    .exact Hb.inj l o l' o1 b hq hl1 hq' hl2 hm hm'
  .rintro f b ⟨l,o,hl,hlv,hb⟩ hk;rcases kind l o hl hlv b hb with⟨i,q,lq,hi,rfl,hr,hq,hqv,hm⟩ | ⟨hx,hq,hm⟩
   .rcases hk with hk | hk | ⟨l2,g,k1,k2,k3⟩
    .exact ajf f b hk ⟨lq,q,hq,hqv,hm⟩
    .exact He.own _ b ⟨lq,q,hq,hqv,hm⟩ hk
    .obtain⟨hnn,g',c,xs,hl2⟩:=kI.fro l2 g k1;obtain⟨q',hq',hO⟩:=HRe.old l2 _ hl2;cases hO with | rows _=>
     have:=He.inj lq q l2 _ b hq hqv hq' trivial hm k2;simp_all
   .rcases hk with hk | hk
    .exact Hb.own f b ⟨l,o,hq,hlv,hm⟩ hk
    .exact adQ f b ⟨l,o,hq,hlv,hm⟩ hk
  .rintro f b (hk | hk)
   .exact Hb.low f b hk
   grind
 .refine⟨λl o hl=> ?_,λl hl=> ?_⟩
  .by_cases hx:∃i,i<ks.length/\nm i=l
   .obtain⟨i,hi,rfl⟩:=hx;obtain⟨k,hk⟩:=hks i hi;obtain⟨o2,q1,q2,q3,q4⟩:=adR i k hk;rw [hget i hi,q1]at hl;cases hl;exact⟨o' i,Lv i hi,q2⟩
   .have hx':∀i,i<ks.length->nm i≠l:=λi hi h=>hx ⟨i,hi,h⟩
    obtain⟨q,a1,a2⟩:=hbR l o hx' hl;exact⟨q,by rw [vE l hx'];exact a1,a2⟩
  .have hx':∀i,i<ks.length->nm i≠l:=λi hi h=>by
    obtain⟨k,hk⟩:=hks i hi;obtain⟨o2,q1,_⟩:=adR i k hk;have:=hget i hi;rw [q1,h]at this;have:=(List.getElem?_eq_some_iff.1 this).1;omega
   rw [vE l hx'];exact hbN l hl
 .rintro b ⟨l,o,hl,hlv,hb⟩;rcases kind l o hl hlv b hb with⟨i,q,lq,hi,rfl,hr,hq,hqv,hm⟩ | ⟨hx,hq,hm⟩
  .exact .inr ⟨i,lq,q,hr,hq,hqv,hm⟩
  .exact .inl ⟨l,o,hq,hlv,hm⟩
def cu{s:Sig}(ct:Ct aV s):Trans:=λargs h' nn K=>∃(m:Nat) (vs:List SVal) (h:List bE),F2 (PVR (nmh h)) args vs/\gq h' h/\h.length=nn/\
 ∃cr,jS (std m) h s ct vs=some cr/\(∀b∈cr.ck,b=true)/\∃v k,cr.k cr.y=some (v,k)/\
  ∀r h'' j,PVR (nmh k) r v->gq h'' k->jr h' h h'' k cr.touched->k.length=nm nn j->K r h'' j
def mF(C:Calls aV):gV:=λf=>match C f with | []=>none | l=>some λargs h n K=>∃ct∈l,cu ct.2 args h n K
def Mu{m:Nat}(T:(PV->Heap->Nat->Prop)->Prop)(n:Nat)(h':Heap)(h:List bE)(cr:CR (std m)):Prop:=
 ∃v k,cr.k cr.y=some (v,k)/\(cr.pure=true->k=h/\cr.touched=[])/\
  ∀K,(∀pv h'' j,PVR (nmh k) pv v->gq h'' k->jr h' h h'' k cr.touched->k.length=nm n j->K pv h'' j)->T K
def Jc(E:Tab)(G:gV)(op:Op)(t:Slots)(s:St)(K:PV->Heap->Nat->Prop):Prop:=
 match dM op with
 | 1=>bL E op t s.h s.n s.k K
 | _=>dH E G op {s with t:=t} K
def Jd{E:Tab}{G:gV}{o:Oper}{t:Slots}{s:St}{K:PV->Heap->Nat->Prop}(h:Jc E G o.op t s K):xJ E G o t s K:=by
 unfold Jc at h;unfold xJ;split at h<;>rename_i e
 .rw [e];exact .inl h
 .split
  .rename_i e2;exact absurd e2 e
  .exact h
def Mu.agG{m:Nat}{T:(PV->Heap->Nat->Prop)->Prop}{n:Nat}{h':Heap}{h:List bE}{cr:CR (std m)}{v:SVal}{k:List bE}{td:List Nat}(H:Hv2 T n h' h v k td)(h1:cr.k cr.y=some (v,k))(h2:cr.touched=td)(h3:cr.pure=false):Mu T n h' h cr:=by
 obtain⟨pv,h'',j,q1,q2,q3,q4,q5⟩:=H;exact⟨v,k,h1,λh=>(by rw [h3]at h;cases h),λK hK=>q5 K (hK pv h'' j q1 q2 (by rw [h2];exact q3) q4)⟩
def Ri{X:XT}{E:Tab}(hX:XOK X E){n:Nat}{N:NM}{t:Slots}{e:Nat->Option SVal}(he:EvR X E n N t e):∀ {xs:List Operand} {vs:List SVal},Lc (std n) X e xs=some vs->
  ∃ps,F2 (PVR N) ps vs/\∀K,K ps->gX E t xs K
 | [],vs,h=>by simp only [Lc,Option.some.injEq]at h;subst h;exact⟨[],.nil,λK hK=>hK⟩
 | x::r,vs,h=>by
  simp only [Lc]at h;split at h
  .rename_i v hv;split at h
   .rename_i vs' hvs;cases h;obtain⟨pv,p1,p2⟩:=fC hX he hv;obtain⟨ps,q1,q2⟩:=Ri hX he hvs;exact⟨pv::ps,.cons p2 q1,λK hK=>by unfold gX;rw [p1];exact q2 _ hK⟩
   .cases h
  .cases h
def yZ{m:Nat}{h:List bE}{vs:List SVal}{cr:CR (std m)}:∀ {l:List (Sigma (Ct aV))},yU (std m) h vs l=some cr->∃ct∈l,jS (std m) h ct.1 ct.2 vs=some cr
 | [],hk=>by simp [yU]at hk
 | ⟨s,ct⟩::r,hk=>by
  simp only [yU]at hk;split at hk
  .rename_i x hx;cases hk;exact⟨⟨s,ct⟩,by simp,hx⟩
  .obtain⟨ct',h1,h2⟩:=yZ hk;exact⟨ct',List.mem_cons_of_mem _ h1,h2⟩
def VD{m:Nat}{h:List bE}{s:Sig}{ct:Ct aV s}{vs:List SVal}{cr:CR (std m)}(hk:jS (std m) h s ct vs=some cr):cr.pure=true->(∀v k,cr.k cr.y=some (v,k)->k=h)/\cr.touched=[]:=by
 unfold jS at hk;split at hk
 .rename_i e1 he1;split at hk
  .rename_i e he;split at hk
   .split at hk
    .rename_i x hx;simp only [Option.some.injEq]at hk;subst hk;intro hp;simp only [Bool.and_eq_true,List.isEmpty_iff,Bool.or_eq_true]at hp;obtain⟨⟨ho,ho'⟩,hbr⟩:=hp;have ajh:e.ren=[]:=by
      obtain⟨_,_,_,l1,_⟩:=vD (m:=m) (λi=>i) he1;obtain⟨_,_,_,l2,_⟩:=rM (m:=m) (λi=>i) (λ_=> .gone .i64 0) (λ_=>⟨.i64,0,rfl⟩) he;have:=l2.len.trans l1.len;simp [es0,ho]at this;exact this
     refine⟨λv k hvk=> ?_,?_⟩
     .simp only [ho']at hvk;split at hvk
      .rename_i vs' r hvs;simp only [uY,List.length_nil]at hvk;simp only [Option.some.injEq,Prod.mk.injEq]at hvk;obtain⟨_,rfl⟩:=hvk;have:∀(h:List bE) (l:List Nat),jd (std m) h l []=h:=λh l=>by cases l<;>rfl
       rw [this];split
       .rfl
       .rename_i hnb;rcases hbr with hb | hb
        .exact absurd (by rw [Bool.and_eq_true];exact hb) hnb
        .rw [hb];rfl
      .cases hvk
     .simp only [ajh,dw,List.nil_append];split
      .rfl
      .rename_i hnb;rcases hbr with hb | hb
       .exact absurd (by rw [Bool.and_eq_true];exact hb) hnb
       .rw [hb];rfl
    .cases hk
   .cases hk
  .cases hk
 .cases hk
def VE{X:XT}{E:Tab}(hX:XOK X E){C:Calls aV}{m:Nat}{s:St}{h:List bE}(H:gq s.h h)(hn:h.length=nm s.n s.k){t:Slots}{e:Nat->Option SVal}(he:EvR X E m (nmh h) t e){op:Op}
  {cr:CR (std m)} (hk:QY (std m) X C e h op=some cr) (hps:∀b∈cr.ck,b=true) (hsome:∃v k,cr.k cr.y=some (v,k)):Mu (λK=>dH E (mF C) op {s with t:=t} K) s.n s.h h cr:=by
 unfold QY at hk;split at hk
 .rename_i c;split at hk
  .rename_i f hf;split at hk
   .rename_i g caps vs hfv hvs;obtain⟨pf,p1,p2⟩:=fC hX he hfv;obtain⟨x,rfl,hc⟩:=p2.cell;cases hc;obtain⟨ps,q1,q2⟩:=Ri hX he hvs;obtain⟨⟨sg,ct⟩,hct,hcr⟩:=yZ hk;obtain⟨v,k,hvk⟩:=hsome;refine⟨v,k,hvk,λhp=> ?_,λK hK=> ?_⟩
    .obtain⟨a,b⟩:=VD hcr hp;exact⟨a v k hvk,b⟩
    .unfold dH;simp only;rw [hf];simp only;unfold iO;simp only;rw [p1];refine q2 _ ?_;have htab:mF C g=some λargs h n K=>∃ct∈C g,cu ct.2 args h n K:=by
      unfold mF;split
      .rename_i hnil;rw [hnil]at hct;cases hct
      .rfl
     rw [htab];refine⟨_,hct,m,vs++caps.map λp=> .c (.pb p.1 p.2 0),h,?_,H,hn,cr,hcr,hps,v,k,hvk,λr h'' j a1 a2 a3 a4=>hK r h'' _ a1 a2 a3 (by rw [a4,Uv])⟩;refine q1.append ?_
     clear hvs hk hcr hfv p1 p2
     induction caps with
     | nil=>exact .nil
     | cons p caps ih=>exact .cons (.ofC .pb) ih
   .cases hk
  .cases hk
 .cases hk
def Ay{X:XT}{E:Tab}(hX:XOK X E){C:Calls aV}{m:Nat}{s:St}{h:List bE}(H:gq s.h h)(hn:h.length=nm s.n s.k){t:Slots}{e:Nat->Option SVal}(he:EvR X E m (nmh h) t e){op:Op}
  {cr:CR (std m)} (hk:Tz (std m) X C e h op=some cr) (hps:∀b∈cr.ck,b=true) (hsome:∃v k,cr.k cr.y=some (v,k)):Mu (Jc E (mF C) op t s) s.n s.h h cr:=by
 unfold Tz at hk;by_cases hcl:dM op=1
 .have hT:Jc E (mF C) op t s=bL E op t s.h s.n s.k:=by
   funext K;unfold Jc;split
   .rfl
   .rename_i h1;exact absurd hcl h1
  rw [hT]
  clear hT
  split at hk
  case h_2=>rename_i h1;exact absurd hcl h1
  clear hcl
  split at hk
  .rename_i ty p x _;split at hk
   .rename_i pv v hpv hv;split at hk
    .rename_i r hr;have key:∀cr':CR (std m),cr'.ck=r.chk->cr'.k cr'.y=some (r.v,r.h)->cr'.touched=r.touched->cr'.pure=false->cr'=cr->Mu (bL E (.store ty p x) t s.h s.n s.k) s.n s.h h cr:=by
      intro cr' e1 e2 e3 e4 e5;subst e5;have hheap:DZ (std m) X e h (.store ty p x)=some r:=by simp only [DZ,hpv,hv];exact hr
      exact .agG (Ja hX H hn he hheap (by rw [<-e1];exact hps)) e2 e3 e4
     split at hk
     .cases hk;exact key _ rfl (by simp only;rw [hr]) rfl rfl rfl
     .cases hk;exact key _ rfl (by simp only;rw [hr]) rfl rfl rfl
     .cases hk;exact key _ rfl (by simp only;rw [hr]) rfl rfl rfl
     .cases hk;exact key _ rfl (by simp only;rw [hr]) rfl rfl rfl
     .cases hk;exact key _ rfl rfl rfl rfl rfl
    .cases hk
   .cases hk
  .split at hk
   .rename_i r hr;have key:∀cr':CR (std m),cr'.ck=r.chk->cr'.k cr'.y=some (r.v,r.h)->cr'.touched=r.touched->cr'.pure=false->cr'=cr->Mu (bL E op t s.h s.n s.k) s.n s.h h cr:=by
     intro cr' e1 e2 e3 e4 e5;subst e5;exact .agG (Ja hX H hn he hr (by rw [<-e1];exact hps)) e2 e3 e4
    split at hk
    .rename_i l hrv;split at hk
     .rename_i f c xs hl;cases hk;refine key _ rfl ?_ rfl rfl rfl;simp only;have:r.h.set l (.rows f c xs)=r.h:=by
       apply List.ext_getElem?;intro i;rw [List.getElem?_set];split
       .rename_i e1;subst e1;rw [hl];split
        .rfl
        .rename_i hh;exact absurd (List.getElem?_eq_some_iff.1 hl).1 hh
       .rfl
      rw [this]
     .cases hk
    .cases hk;exact key _ rfl rfl rfl rfl rfl
   .cases hk
 .have hT:Jc E (mF C) op t s=λK=>dH E (mF C) op {s with t:=t} K:=by
   funext K;unfold Jc;split
   .rename_i h1;exact absurd h1 hcl
   .rfl
  have hk:QY (std m) X C e h op=some cr:=by
   revert hk;split
   .rename_i h1;exact absurd h1 hcl
   .exact id
  obtain⟨a,b,c,d,e⟩:=VE hX H hn he hk hps hsome;rw [hT];exact⟨a,b,c,d,e⟩
section
variable {n:Nat}
def y7(gs:List (GE (std n)))(t':Slots)(N:NM)(i:Nat)(sv:SV (std n)):Prop:=match sv.tag with
 | none=>∃pv,aB t' i=some pv/\PVR N pv sv.v
 | some t=>∃e,gs[t]? =some e/\(e.g=true->∃pv,aB t' i=some pv/\PVR N pv sv.v)/\(e.g=false->aB t' i=some oU)
structure GOK(gs:List (GE (std n)))(t':Slots)(e:GE (std n)):Prop where
 yes:∀d,e.slot=some d->e.g=true->∃f,aB t' d=some (.c (.d f (.bool e.want)))
 no:∀d,e.slot=some d->e.g=false->(∃f,aB t' d=some (.c (.d f (.bool (!e.want)))))\/aB t' d=some oU
 dead:e.dead=true->e.g=false
 par:∀p,e.par=some p->∃q,gs[p]? =some q/\(e.g=true->q.g=true)
structure SR(s':St)(s:RSt (std n)):Prop where
 heap:gq s'.h s.h
 len:s.h.length=nm s'.n s'.k
 m:s'.m=s.m
 val:∀i sv,eZ (std n) s.t i=some sv->y7 s.gs s'.t (nmh s.h) i sv
 gs:∀(t:Nat) (e:GE (std n)),s.gs[t]? =some e->GOK s.gs s'.t e
def Keep(k:Nat)(h0 h:List bE):Prop:=∀i,i<k->(Gone h0 i->Gone h i)/\∀x,nmh h0 i=some x->Gone h i\/nmh h i=some x
theorem Keep.refl(k:Nat)(h:List bE):Keep k h h:=λ_ _=>⟨id,λ_ h=> .inr h⟩
theorem Keep.trans{k:Nat}{a b c:List bE}(x:Keep k a b)(y:Keep k b c):Keep k a c:=λi hi=>
 ⟨λh=>(y i hi).1 ((x i hi).1 h),λv hv=>((x i hi).2 v hv).elim (λh=> .inl ((y i hi).1 h)) λh=>(y i hi).2 v h⟩
theorem jr.mG{a' b':Heap}{a b:List bE}{td:List Nat}(x:jr a' a b' b td)(k:Nat):Keep k a b:=λi _=>⟨x.gone i,λv hv=> .inr (x.same i v hv)⟩
theorem qb{d i:Nat}{sv:SV (std n)}{t:List (Nat×SV (std n))}:eZ (std n) ((d,sv)::t) i=if d=i then some sv else eZ (std n) t i:=by
 simp only [eZ,beq_iff_eq]
theorem y7.mono{gs gs2:List (GE (std n))}{t' t2:Slots}{N M:NM}{i:Nat}{sv:SV (std n)}(h:y7 gs t' N i sv)(hg:∀(t:Nat) (e:GE (std n)),gs[t]? =some e->∃e2,gs2[t]? =some e2/\e2.g=e.g)(hl:aB t2 i=aB t' i)(hN:∀l x,N l=some x->M l=some x):y7 gs2 t2 M i sv:=by
 unfold y7 at h ⊢;cases hs:sv.tag with
 | none=>
  rw [hs]at h;simp only at h ⊢;obtain⟨pv,h1,h2⟩:=h;exact⟨pv,by rw [hl];exact h1,h2.mono hN⟩
 | some t=>
  rw [hs]at h;simp only at h ⊢;obtain⟨e,h1,h2,h3⟩:=h;obtain⟨e2,h4,h5⟩:=hg t e h1;refine⟨e2,h4,λh=> ?_,λh=>by simp_all⟩;obtain⟨pv,q1,q2⟩:=h2 (h5▸h);exact⟨pv,by rw [hl];exact q1,q2.mono hN⟩
theorem nQ(d:Nat)(e:GE (std n)):(oK (std n) d e).g=e.g:=by grind [oK]
theorem sP{d:Nat}{e:GE (std n)}{x:Nat}(h:(oK (std n) d e).slot=some x):e.slot=some x/\x≠d:=by grind [oK]
theorem jT(d:Nat)(e:GE (std n)):(oK (std n) d e).want=e.want/\(oK (std n) d e).par=e.par/\(oK (std n) d e).dead=e.dead:=by grind [oK]
theorem SR.put{s':St}{s:RSt (std n)}(S:SR s' s){d:Option Nat}{tag:Option Nat}{v:SVal}{ov:Option PV}
  (hv:match tag with
   | none=>∃pv,ov=some pv/\PVR (nmh s.h) pv v
   | some t=>∃e,s.gs[t]? =some e/\(e.g=true->∃pv,ov=some pv/\PVR (nmh s.h) pv v)/\(e.g=false->ov=some oU)):SR (s'.put d ov) (s.put (std n) d tag v):=by
 cases d with
 | none=>exact S
 | some d=>
  have hg:∀(t:Nat) (e:GE (std n)),s.gs[t]? =some e->∃e2,(s.gs.map (oK (std n) d))[t]? =some e2/\e2.g=e.g:=λt e h=>⟨oK (std n) d e,by simp [h],nQ d e⟩
  refine⟨S.heap,S.len,S.m,λi sv hi=> ?_,λt e he=> ?_⟩
  .simp only [RSt.put]at hi;rw [qb]at hi;split at hi
   .rename_i e;subst e;cases hi;unfold y7;cases tag with
    | none=>
     obtain⟨pv,h1,h2⟩:=hv;exact⟨pv,by grind [St.put,iP],h2⟩
    | some t=>
     obtain⟨e,h1,h2,h3⟩:=hv;obtain⟨e2,h4,h5⟩:=hg t e h1;refine⟨e2,h4,λh=> ?_,λh=> ?_⟩
     .obtain⟨pv,q1,q2⟩:=h2 (h5▸h);exact⟨pv,by grind [St.put,iP],q2⟩
     grind [St.put,iP]
   .rename_i e;exact(S.val i sv hi).mono hg (by grind [St.put,iP]) (λ_ _ h=>h)
  .simp only [RSt.put,List.getElem?_map,Option.map_eq_some_iff]at he;obtain⟨e0,h0,rfl⟩:=he;have G:=S.gs t e0 h0;have hl:∀x,x≠d->aB (St.put s' (some d) ov).t x=aB s'.t x:=λx hx=>by grind [St.put,iP]
   refine⟨λx hx hgt=> ?_,λx hx hgf=> ?_,λhd=> ?_,λp hp=> ?_⟩
   .obtain⟨a,b⟩:=sP hx;rw [hl x b,(jT d e0).1];exact G.yes x a (by grind [nQ])
   .obtain⟨a,b⟩:=sP hx;rw [hl x b,(jT d e0).1];exact G.no x a (by grind [nQ])
   .rw [nQ];exact G.dead (by grind [jT])
   .obtain⟨q,h1,h2⟩:=G.par p (by grind [jT])
    grind [oK,RSt.put,nQ]
theorem sQ{d i:Nat}:∀ {t:List (Nat×SV (std n))} {sv:SV (std n)},eZ (std n) (t.filter λp=> !(p.1==d)) i=some sv->i≠d/\eZ (std n) t i=some sv
 | [],_,h=>by cases h
 | (j,x)::r,sv,h=>by
  by_cases c:j=d
  .subst c;rw [List.filter_cons_of_neg (by simp)]at h;obtain⟨h1,h2⟩:=sQ h
   grind [qb]
  .rw [List.filter_cons_of_pos (by simpa using c),qb]at h;rw [qb];split at h
   .simp_all
   .rename_i e;rw [if_neg e];exact sQ h
theorem SR.del{s':St}{s:RSt (std n)}(S:SR s' s){d:Option Nat}:SR (s'.put d none) (s.del (std n) d):=by
 cases d with
 | none=>exact S
 | some d=>
  have hg:∀(t:Nat) (e:GE (std n)),s.gs[t]? =some e->∃e2,(s.gs.map (oK (std n) d))[t]? =some e2/\e2.g=e.g:=λt e h=>⟨oK (std n) d e,by simp [h],nQ d e⟩
  refine⟨S.heap,S.len,S.m,λi sv hi=> ?_,λt e he=> ?_⟩
  .simp only [RSt.del]at hi;obtain⟨e,hi⟩:=sQ hi;exact(S.val i sv hi).mono hg (by grind [St.put,iP]) (λ_ _ h=>h)
  .simp only [RSt.del,List.getElem?_map,Option.map_eq_some_iff]at he;obtain⟨e0,h0,rfl⟩:=he;have G:=S.gs t e0 h0;have hl:∀x,x≠d->aB (St.put s' (some d) none).t x=aB s'.t x:=λx hx=>by grind [St.put,iP]
   refine⟨λx hx hgt=> ?_,λx hx hgf=> ?_,λhd=> ?_,λp hp=> ?_⟩
   .obtain⟨a,b⟩:=sP hx;rw [hl x b,(jT d e0).1];exact G.yes x a (by grind [nQ])
   .obtain⟨a,b⟩:=sP hx;rw [hl x b,(jT d e0).1];exact G.no x a (by grind [nQ])
   .rw [nQ];exact G.dead (by grind [jT])
   .obtain⟨q,h1,h2⟩:=G.par p (by grind [jT])
    grind [oK,RSt.del,nQ]
theorem agH{s:RSt (std n)}{d:Option Nat}:(s.del (std n) d).h=s.h/\(s.del (std n) d).m=s.m:=by cases d<;>exact⟨rfl,rfl⟩
theorem SR.xQ{s':St}{s:RSt (std n)}(S:SR s' s){h'':Heap}{k:List bE}{j:Nat}(hs:Same s.h k)(hR:gq h'' k)(hl:k.length=nm s'.n j):SR {s' with h:=h'',k:=j} {s with h:=k}:=
 ⟨hR,hl,S.m,λi sv hi=>(S.val i sv hi).mono (λ_ e h=>⟨e,h,rfl⟩) rfl hs,S.gs⟩
theorem Eh:∀ {gs:List (GE (std n))} {d:Nat} {w:Bool} {i t:Nat},iG (std n) gs d w i=some t->∃e,i<=t/\gs[t-i]? =some e/\e.slot=some d/\e.want=w
 | [],_,_,_,_,h=>by simp [iG]at h
 | e::r,d,w,i,t,h=>by
  simp only [iG]at h;split at h
  .simp_all
  .obtain⟨e',h1,h2,h3⟩:=Eh h
   grind
theorem vF{gs:List (GE (std n))}{d:Nat}{w:Bool}{t:Nat}(h:iG (std n) gs d w 0=some t):∃e,gs[t]? =some e/\e.slot=some d/\e.want=w:=by
 obtain⟨e,_,h2,h3⟩:=Eh h;simp_all
theorem qG{gs:List (GE (std n))}{t':Slots}(hg:∀(t:Nat) (e:GE (std n)),gs[t]? =some e->GOK gs t' e):∀ {f:Nat} {o:Option Nat},(∀t,o=some t->∃e,gs[t]? =some e/\e.g=true)->∀t∈N8 (std n) gs f o,∃e,gs[t]? =some e/\e.g=true
 | 0,_,_,t,ht=>by simp [N8]at ht
 | _+1,none,_,t,ht=>by simp [N8]at ht
 | f+1,some x,h,t,ht=>by
  simp only [N8,List.mem_cons]at ht;rcases ht with rfl | ht
  .exact h t rfl
  .obtain⟨e,h1,h2⟩:=h x rfl;rw [h1]at ht;refine qG hg (o:=e.par) (λp hp=> ?_) t ht;obtain⟨q,q1,q2⟩:=(hg x e h1).par p hp;simp_all
theorem rP{X:XT}{E:Tab}{gs:List (GE (std n))}{t' tt:Slots}{N:NM}{lk:Nat->Option (SV (std n))}(htt:∀d,(lk d).isSome->aB tt d=aB t' d)(hv:∀i sv,lk i=some sv->y7 gs t' N i sv){al:List Nat}(hal:∀t∈al,∃e,gs[t]? =some e/\e.g=true):
  EvR X E n N tt (iM (std n) lk al):=by
 intro i v hi;unfold iM at hi;split at hi
 .rename_i v' hl;cases hi;rw [htt i (by rw [hl];rfl)];exact hv i _ hl
 .rename_i t v' hl;split at hi
  .rename_i hc;cases hi;obtain⟨e,h1,h2⟩:=hal t (by simpa using hc);obtain⟨e',h3,h4,_⟩:=hv i _ hl;simp_all
  .cases hi
 .cases hi
theorem gZ{ρ:Type}{Q:ρ->Prop}:∀ {ps:List Bool} {mm:(ρ->Prop)->Prop},je (std n) ps mm Q->(∀b∈ps,b=true)/\mm Q
 | [],mm,h=>⟨λ_ h=>by simp at h,h⟩
 | b::ps,mm,h=>by
  obtain⟨hb,h⟩:b=true/\je (std n) ps mm Q:=h;obtain⟨h1,h2⟩:=gZ (ps:=ps) h;simp_all
theorem y8{g:Bool}{ps:List Bool}(h:∀b∈under (std n) g ps,b=true)(hg:g=true):∀b∈ps,b=true:=λb hb=>by
 have:=h (!g || b) (List.mem_map.2 ⟨b,hb,rfl⟩);simp_all
theorem CY{ρ:Type}(op:Op)(v:SVal)(K:SVal->(ρ->Prop)->Prop):QZ (std n) op v K=K v:=by
 unfold QZ;split
 .split<;>rfl
 .rfl
theorem Az{ρ:Type}{cr:CR (std n)}{K:SVal->List bE->(ρ->Prop)->Prop}{Q:ρ->Prop}(h:tN (std n) cr K Q):∃v k,cr.k cr.y=some (v,k)/\K v k Q:=by
 obtain⟨ck,ts,y,k,td,p⟩:=cr;unfold tN at h;cases ts with
 | nil=>
  simp only at h ⊢;cases hk:k y with
  | none=>simp_all
  | some x=>rw [hk]at h;grind
 | cons a b=>
  simp only at h ⊢;cases hk:k y with
  | none=>simp_all
  | some x=>rw [hk]at h;grind
theorem wo{X:XT}{E:Tab}(hX:XOK X E){h':Heap}{h:List bE}(H:gq h' h){gs:List (GE (std n))}{t' tt:Slots}(hg:∀(t:Nat) (e:GE (std n)),gs[t]? =some e->GOK gs t' e)
  {lk:Nat->Option (SV (std n))} (htt:∀d,(lk d).isSome->aB tt d=aB t' d) (hv:∀i sv,lk i=some sv->y7 gs t' (nmh h) i sv) {cur:Option Nat} (hcur:∀t,cur=some t->∃e,gs[t]? =some e/\e.g=true) {op:Op} {v:SVal} {ps:List Bool}
  (hk:uZ (std n) X lk gs h cur op=some (ps,v)) (hps:∀b∈ps,b=true):Gv (aF E op tt h') (nmh h) v:=by
 have hal:=qG hg hcur (f:=gs.length+1);have he:EvR X E n (nmh h) tt (iM (std n) lk (gB (std n) gs cur)):=rP htt hv hal;unfold uZ at hk;split at hk
 .rename_i c a b;simp only at hk;split at hk
  .rename_i fq q hc;obtain⟨pc,c1,c2⟩:=fC hX he hc;obtain⟨g,rfl⟩:=c2.bool;have halt:∀w,q=w->∀t∈(match c with | .tmp d=>(match iG (std n) gs d w 0 with | some t=>gB (std n) gs (some t)++gB (std n) gs cur | none=>gB (std n) gs cur) | _=>gB (std n) gs cur),∃e,gs[t]? =some e/\e.g=true:=by
    intro w hw t ht;split at ht
    .rename_i d;split at ht
     .rename_i t0 hf;obtain⟨e,e1,e2,e3⟩:=vF hf;rcases List.mem_append.1 ht with ht | ht
      .refine qG hg (λx hx=> ?_) t ht;cases hx;refine⟨e,e1,?_⟩;cases hgg:e.g with
       | true=>rfl
       | false=>
        have hls:(lk d).isSome:=by
         have hc':iM (std n) lk (gB (std n) gs cur) d=some (.c (.d fq (.bool q))):=hc
         grind [iM]
        have hd:aB t' d=some (.c (.d g (.bool q))):=by rw [<-htt d hls];exact c1
        rcases(hg t0 e e1).no d e2 hgg with⟨f,hh⟩ | hh
        all_goals grind [Option.some.injEq,PV.c.injEq,Cell.d.injEq,D.bool.injEq,oU]
      .exact hal t ht
     .exact hal t ht
    .exact hal t ht
   have hea:q=true->∀ {v},evX (std n) X (iM (std n) lk (match c with | .tmp d=>(match iG (std n) gs d true 0 with | some t=>gB (std n) gs (some t)++gB (std n) gs cur | none=>gB (std n) gs cur) | _=>gB (std n) gs cur)) a=some v->∃pv,ev E tt a=some pv/\PVR (nmh h) pv v:=
    λhq v hva=>fC hX (rP htt hv (halt true hq)) hva
   have heb:q=false->∀ {v},evX (std n) X (iM (std n) lk (match c with | .tmp d=>(match iG (std n) gs d false 0 with | some t=>gB (std n) gs (some t)++gB (std n) gs cur | none=>gB (std n) gs cur) | _=>gB (std n) gs cur)) b=some v->∃pv,ev E tt b=some pv/\PVR (nmh h) pv v:=
    λhq v hva=>fC hX (rP htt hv (halt false hq)) hva
   have fin:∀pv,PVR (nmh h) pv v->(q=true->ev E tt a=some pv)->(q=false->ev E tt b=some pv)->Gv (aF E (.pick c a b) tt h') (nmh h) v:=by
    intro pv h1 h2 h3;refine⟨pv,h1,λK hK=> ?_⟩;unfold aF;simp only;rw [c1];exact⟨λhq=>jq (h2 hq) _ hK,λhq=>jq (h3 hq) _ hK⟩
   split at hk
   .rename_i y hx hy;cases hk;have hq:q=false:=by simp_all
    grind
   .rename_i x hx hy;cases hk;have hq:q=true:=by simp_all
    grind
   .rename_i x y hx hy _ _;unfold K7 at hk;split at hk
    .rename_i z hz;cases hk;cases hq:q with
     | true=>
      obtain⟨pv,p1,p2⟩:=hea hq ‹_›;have:=Lh (N:=nmh h) (px:=pv) (py:=pv) (q:=q) (λ_=>p2) (λh=>by simp_all) hz
      grind
     | false=>
      obtain⟨pv,p1,p2⟩:=heb hq ‹_›;have:=Lh (N:=nmh h) (px:=pv) (py:=pv) (q:=q) (λh=>by simp_all) (λ_=>p2) hz;rw [hq]at this;exact fin pv this (λh=>by rw [hq]at h;cases h) λ_=>p1
    .cases hk
   .cases hk
  .cases hk
 .exact Vr hX H he hk hps
inductive GM (s':St) (s:RSt (std n)) (tt:Slots) (d:Nat) (want:Bool):GR (std n)->Prop
 | skip:(∀T F:Prop,F->nC (aB tt d) want T F)->GM s' s tt d want .skip
 | run {gs:List (GE (std n))} {t:Nat} {g:Bool} {e:GE (std n)}:SR s' {s with gs:=gs}->gs[t]? =some e->e.g=g->(∀i sv,eZ (std n) s.t i=some sv->y7 gs s'.t (nmh s.h) i sv)->
  (g=true->∀T F:Prop,T->nC (aB tt d) want T F)->(g=false->∀T F:Prop,F->nC (aB tt d) want T F)->GM s' s tt d want (.run gs t g)
theorem Ei{s':St}{s:RSt (std n)}(S:SR s' s){lk:Nat->Option (SV (std n))}(hlk:∀i sv,lk i=some sv->eZ (std n) s.t i=some sv){tt:Slots}{d:Nat}{want:Bool}(htt:(lk d).isSome->aB tt d=aB s'.t d){r:GR (std n)}(hr:D6 (std n) lk s.gs d want=r)(hb:r≠ .bad):
    GM s' s tt d want r:=by
  unfold D6 at hr;split at hr
  · exact absurd hr.symm hb
  · rename_i tg v hd;have hL:=htt (by rw [hd];rfl);have hval:=S.val d _ (hlk d _ hd);split at hr
    · rename_i t hf;obtain⟨e,e1,e2,e3⟩:=vF hf;rw [e1]at hr;simp only at hr;have G:=S.gs t e e1;have hT:e.g=true->∀T F:Prop,T->nC (aB tt d) want T F:=λhg T F hT=>by
        obtain⟨f,hl⟩:=G.yes d e2 hg;rw [hL,hl,e3];exact fE (λ_=>hT) (λh=>absurd rfl h)
      have hF:e.g=false->∀T F:Prop,F->nC (aB tt d) want T F:=λhg T F hF=>by
        rcases G.no d e2 hg with⟨f,hl⟩ | hl
        · rw [hL,hl,e3];exact fE (λh=>by cases want<;>simp at h) (λ_=>hF)
        · rw [hL,hl];exact hF
      split at hr
      · rename_i agI;subst hr;exact .skip (hF (G.dead agI))
      · subst hr;exact .run S e1 rfl S.val hT hF
    · split at hr
      · rename_i f b;obtain⟨b,rfl⟩:∃b':Bool,b'=b:=⟨b,rfl⟩;have hg0:(if want then b else !b)=(b==want):=by cases want<;>cases b<;>rfl
        simp only at hr;have ext:∀(e:GE (std n)) (gs:List (GE (std n))),gs=s.gs++ [e]->GOK gs s'.t e->SR s' {s with gs:=gs}/\(∀i sv,eZ (std n) s.t i=some sv->y7 gs s'.t (nmh s.h) i sv)/\gs[s.gs.length]? =some e:=by
          intro e gs hgs hG;subst hgs;have hmono:∀(t:Nat) (x:GE (std n)),s.gs[t]? =some x->(s.gs++ [e])[t]? =some x:=λt x hx=>by rw [List.getElem?_append_left (List.getElem?_eq_some_iff.1 hx).1];exact hx
          have rQ:∀i sv,eZ (std n) s.t i=some sv->y7 (s.gs++ [e]) s'.t (nmh s.h) i sv:=λi sv hi=>(S.val i sv hi).mono (λt x hx=>⟨x,hmono t x hx,rfl⟩) rfl (λ_ _ h=>h)
          refine⟨⟨S.heap,S.len,S.m,rQ,λt x hx=> ?_⟩,rQ,by simp⟩;by_cases hlt:t<s.gs.length
          · simp only at hx;rw [List.getElem?_append_left hlt]at hx;have G:=S.gs t x hx;exact⟨G.yes,G.no,G.dead,λp hp=>let⟨q,q1,q2⟩:=G.par p hp;⟨q,hmono p q q1,q2⟩⟩
          · simp only at hx;rw [List.getElem?_append_right ah]at hx;have:t-s.gs.length=0:=by
              have:=(List.getElem?_eq_some_iff.1 hx).1;simp at this;omega
            rw [this]at hx;simp at hx;subst hx;exact hG
        split at hr
        · subst hr;obtain⟨pv,p1,p2⟩:=hval;obtain⟨g,rfl⟩:=p2.bool;have hG:GOK (s.gs++ [⟨some d,want,none,if want then b else !b,false⟩]) s'.t ⟨some d,want,none,if want then b else !b,false⟩:=by
            refine⟨λx hx hgt=> ?_,λx hx hgf=> ?_,λh=>(by cases h),λp hp=>(by cases hp)⟩
            · cases hx;have hgt:(if want then b else !b)=true:=hgt;rw [hg0]at hgt
              exact ⟨g, by rw [p1]; have : b = want := by simpa using hgt
                           rw [this]⟩
            · cases hx;have hgf:(if want then b else !b)=false:=hgf;rw [hg0]at hgf;refine .inl ⟨g,?_⟩;rw [p1];have:b= !want:=by cases b<;>cases want<;>simp_all
              rw [this]
          obtain⟨q1,q2,q3⟩:=ext ⟨some d,want,none,if want then b else !b,false⟩ _ rfl hG;refine .run q1 q3 rfl q2 (λhg T F hT=> ?_) (λhg T F hF=> ?_)
          · rw [hL,p1];refine fE (λ_=>hT) (λh=> ?_);have hg:(if want then b else !b)=true:=hg;rw [hg0]at hg;exact absurd (by simpa using hg) h
          · rw [hL,p1];refine fE (λh=> ?_) (λ_=>hF);have hg:(if want then b else !b)=false:=hg;rw [hg0,h]at hg;simp at hg
        · rename_i t';split at hr
          · rename_i e0 he0;subst hr;obtain⟨e0',h3,h4,h5⟩:=hval;rw [he0]at h3;cases h3;have hboth:e0.g=true->∃g,aB s'.t d=some (.c (.d g (.bool b))):=λhg=>by
              obtain⟨pv,p1,p2⟩:=h4 hg;obtain⟨g,rfl⟩:=p2.bool;exact⟨g,p1⟩
            have hT:(e0.g&& (if want then b else !b))=true->∃g,aB s'.t d=some (.c (.d g (.bool want))):=λh=>by
              simp only [Bool.and_eq_true]at h;obtain⟨g,hh⟩:=hboth h.1;have:=h.2;rw [hg0]at this
              exact ⟨g, by rw [hh]; have : b = want := by simpa using this
                           rw [this]⟩
            have hF:(e0.g&& (if want then b else !b))=false->(∃g,aB s'.t d=some (.c (.d g (.bool (!want)))))\/aB s'.t d=some oU:=λh=>by
              cases hg:e0.g with
              | false=>exact .inr (h5 hg)
              | true=>
                rw [hg]at h;simp only [Bool.true_and]at h;rw [hg0]at h;obtain⟨g,hh⟩:=hboth hg;refine .inl ⟨g,?_⟩;rw [hh];have:b= !want:=by cases b<;>cases want<;>simp_all
                rw [this]
            have hG:GOK (s.gs++ [⟨some d,want,some t',e0.g&& (if want then b else !b),false⟩]) s'.t ⟨some d,want,some t',e0.g&& (if want then b else !b),false⟩:=by
              refine⟨λx hx hgt=> ?_,λx hx hgf=> ?_,λh=>(by cases h),λp hp=> ?_⟩
              · cases hx;exact hT hgt
              · cases hx;exact hF hgf
              · cases hp;refine⟨e0,by rw [List.getElem?_append_left (List.getElem?_eq_some_iff.1 he0).1];exact he0,λh=> ?_⟩;have h:(e0.g&& (if want then b else !b))=true:=h;simp only [Bool.and_eq_true]at h;exact h.1
            obtain⟨q1,q2,q3⟩:=ext ⟨some d,want,some t',e0.g&& (if want then b else !b),false⟩ _ rfl hG;refine .run q1 q3 rfl q2 (λhg T F hTT=> ?_) (λhg T F hFF=> ?_)
            · obtain⟨g,hh⟩:=hT hg;rw [hL,hh];exact fE (λ_=>hTT) (λh=>absurd rfl h)
            · rcases hF hg with⟨g,hh⟩ | hh
              · rw [hL,hh];exact fE (λh=>by cases want<;>simp at h) (λ_=>hFF)
              · rw [hL,hh];exact hFF
          · exact absurd hr.symm hb
      · split at hr
        · subst hr;obtain⟨pv,p1,p2⟩:=hval;have:pv=oU:=by
            cases p2 with
            | one h=>cases h with
              | agg hs _=>simp [cZ]at hs
            | tup h=>cases h;rfl
          subst this;exact .skip λT F hF=>by rw [hL,p1];exact hF
        · exact absurd hr.symm hb
      · exact absurd hr.symm hb
end
end Go.TX
namespace Go.TX
open Go Go.AE
section
variable {n:Nat}
theorem SR.kill{s':St}{s:RSt (std n)}(S:SR s' s){t:Nat}{e:GE (std n)}(he:s.gs[t]? =some e)(hg:e.g=false):SR s' {s with gs:=yR (std n) s.gs t}:=by
 have hk:yR (std n) s.gs t=s.gs.set t {e with dead:=true}:=by unfold yR;rw [he]
 have hl:=(List.getElem?_eq_some_iff.1 he).1;have hmono:∀(i:Nat) (x:GE (std n)),s.gs[i]? =some x->∃x2,(s.gs.set t {e with dead:=true})[i]? =some x2/\x2.g=x.g:=λi x hx=>by
  by_cases h:t=i
  .subst h;rw [he]at hx;cases hx;exact⟨_,List.getElem?_set_self hl,rfl⟩
  .exact⟨x,by rw [List.getElem?_set_ne h];exact hx,rfl⟩
 rw [hk];refine⟨S.heap,S.len,S.m,λi sv hi=>(S.val i sv hi).mono hmono rfl (λ_ _ h=>h),λi x hx=> ?_⟩;have par:∀ {x:GE (std n)},(∀p,x.par=some p->∃q,s.gs[p]? =some q/\(x.g=true->q.g=true))->∀p,x.par=some p->∃q,(s.gs.set t {e with dead:=true})[p]? =some q/\(x.g=true->q.g=true):=λh p hp=>by
  obtain⟨q,q1,q2⟩:=h p hp;obtain⟨q',r1,r2⟩:=hmono p q q1;exact⟨q',r1,λh=>by rw [r2];exact q2 h⟩
 by_cases h:t=i
 .subst h;simp only [List.getElem?_set_self hl,Option.some.injEq]at hx;subst hx;have G:=S.gs t e he;exact⟨G.yes,G.no,λ_=>hg,par G.par⟩
 .simp only [List.getElem?_set_ne h]at hx;have G:=S.gs i x hx;exact⟨G.yes,G.no,G.dead,par G.par⟩
theorem Ej{E:Tab}{G:gV}{o:Oper}{s:St}{K:St->Prop}(h:dM o.op≠0)(hd:dOK s.m o.dst)(hm:Jc E G o.op s.t s λv h k=>K (St.put {s with h:=h,k:=k} o.dst (some v))):Dr E G o s K:=by
 refine⟨hd,?_⟩;unfold Jc at hm;split
 .rename_i h0;exact absurd h0 h
 .rename_i h1;rw [h1]at hm;exact .inl hm
 .rename_i h0 h1;split at hm
  .rename_i h2;exact absurd h2 h1
  .exact hm
theorem GN{E:Tab}{G:gV}{o:Oper}{s:St}{K:St->Prop}(h:dM o.op=0)(hd:dOK s.m o.dst)(hm:aF E o.op s.t s.h λv=>K (s.put o.dst (some v))):Dr E G o s K:=by
 refine⟨hd,?_⟩;rw [h];exact hm
theorem VF{m:Nat}{d:Option Nat}(h:QX m d=true):dOK m d:=by
 cases d with
 | none=>trivial
 | some d=>unfold QX at h;exact(by simpa using h:d<m)
theorem ab3{s:RSt (std n)}{d tag:Option Nat}{v:SVal}:(s.put (std n) d tag v).h=s.h/\(s.put (std n) d tag v).m=s.m:=by cases d<;>exact⟨rfl,rfl⟩
theorem VG{N:NM}:PVR N oU (.tup []):= .tup .nil
theorem GQ{X:XT}{E:Tab}(hX:XOK X E){C:Calls aV}{ops:List Oper}{ρ:Type}{K:RSt (std n)->(ρ->Prop)->Prop}{r:ρ->Prop}{h0:List bE}{m0:Nat}:∀ {rest:List Oper} {s':St} {s:RSt (std n)},SR s' s->(∀k,Keep k h0 s.h)->s.m=m0->gG (std n) X C ops rest K s r->
  aP E (mF C) ops rest (λs1'=>∃s1,SR s1' s1/\(∀k,Keep k h0 s1.h)/\s1.m=m0/\K s1 r) s'
 | [],s',s,S,hK0,hm0,hk=>⟨s,S,hK0,hm0,hk⟩
 | o::rest,s',s,S,hK0,hm0,hk=>by
  generalize hM:gG (std n) X C ops (o::rest) K s=M at hk;unfold gG at hM;split at hM
  .rename_i hdst;have hd:dOK s'.m o.dst:=by rw [S.m];exact VF hdst
   have go:∀ {s2':St} {s2:RSt (std n)} {tag:Option Nat} {v:SVal},SR s2' (s2.put (std n) o.dst tag v)->(∀k,Keep k s.h s2.h)->s2.m=s.m->gG (std n) X C ops rest K (s2.put (std n) o.dst tag v) r->
     aP E (mF C) ops rest (λs1'=>∃s1,SR s1' s1/\(∀k,Keep k h0 s1.h)/\s1.m=m0/\K s1 r) s2':=by
    intro s2' s2 tag v S2 hkeep hm2 hk2;have e1:=ab3 (n:=n) (s:=s2) (d:=o.dst) (tag:=tag) (v:=v);exact GQ hX (rest:=rest) S2 (λk=>by rw [e1.1];exact(hK0 k).trans (hkeep k)) (by rw [e1.2,hm2,hm0]) hk2
   have hev:∀ {gs:List (GE (std n))},SR s' {s with gs:=gs}->∀ {al:List Nat},(∀t∈al,∃e,gs[t]? =some e/\e.g=true)->EvR X E n (nmh s.h) s'.t (iM (std n) (eZ (std n) s.t) al):=λS _ hal=>rP (λ_ _=>rfl) S.val hal
   unfold aP pq;split at hM
   .rename_i hguard;rw [hguard];simp only;split at hM
    .rename_i hcl;have hcl:dM o.op=0:=by simpa using hcl
     split at hM
     .rename_i ps v hv;subst hM;obtain⟨hps,hk⟩:=gZ hk;rw [CY]at hk;obtain⟨pv,p1,p2⟩:=wo hX S.heap S.gs (tt:=s'.t) (λ_ _=>rfl) S.val (cur:=none) (λt h=>by cases h) hv hps;refine GN hcl hd (p2 _ (go (S.put (tag:=none) ⟨pv,rfl,p1⟩) (λ_=> .refl _ _) rfl hk))
     ·(subst hM;exact hk.elim)
    .rename_i hcl;have hcl:dM o.op≠0:=by simpa using hcl
     split at hM
     .rename_i cr hcr;subst hM;obtain⟨hps,hk⟩:=gZ hk;obtain⟨v,k,hvk,hk⟩:=Az hk;obtain⟨v',k',e1,_,e3⟩:=Ay hX S.heap S.len (hev S (al:=[]) (λt h=>by simp at h)) hcr hps ⟨v,k,hvk⟩;rw [hvk]at e1;cases e1;refine Ej hcl hd (e3 _ λpv h'' j a1 a2 a3 a4=> ?_);have S2:=S.xQ a3.same a2 a4;exact go (s2:={s with h:=k}) (S2.put (tag:=none) ⟨pv,rfl,a1⟩) a3.mG rfl hk
     ·(subst hM;exact hk.elim)
   .rename_i j want hguard;rw [hguard];simp only;refine⟨hd,?_⟩;split at hM
    .rename_i d hgs;rw [hgs];simp only [wV];have hgm:=λhb=>Ei S (lk:=eZ (std n) s.t) (λ_ _ h=>h) (tt:=s'.t) (d:=d) (want:=want) (λ_=>rfl) rfl hb
     split at hM
     .rename_i hr;rw [hr]at hgm;subst hM;cases hgm (by simp)with | skip h=>
      refine h _ _ (go (s2:=s) (S.put (tag:=none) ⟨oU,rfl,VG⟩) (λ_=> .refl _ _) rfl hk)
     .rename_i gs t g hr;rw [hr]at hgm;cases hgm (by simp)with | run S1 hget hg rQ hT hF=>
      rename_i e;subst hg;have hcur:e.g=true->∀t0,some t=some t0->∃e,gs[t0]? =some e/\e.g=true:=λh t0 ht=>by cases ht;exact⟨e,hget,h⟩
      split at hM
      .rename_i hcl;have hcl:dM o.op=0:=by simpa using hcl
       split at hM
       .rename_i ps v hv;subst hM;obtain⟨hps,hk⟩:=gZ hk;cases hg:e.g with
        | true=>
         obtain⟨pv,p1,p2⟩:=wo hX S1.heap S1.gs (tt:=s'.t) (λ_ _=>rfl) rQ (hcur hg) hv (y8 hps hg);refine hT hg _ _ (GN hcl hd (p2 _ (go (s2:={s with gs:=gs}) (S1.put (tag:=some t) ⟨e,hget,λ_=>⟨pv,rfl,p1⟩,λh=>by rw [hg]at h;cases h⟩) (λ_=> .refl _ _) rfl hk)))
        | false=>
         exact hF hg _ _ (go (s2:={s with gs:=gs}) (S1.put (tag:=some t) ⟨e,hget,λh=>(by rw [hg]at h;cases h),λ_=>rfl⟩) (λ_=> .refl _ _) rfl hk)
       ·(subst hM;exact hk.elim)
      .rename_i hcl;have hcl:dM o.op≠0:=by simpa using hcl
       split at hM
       .rename_i cr hcr;split at hM
        .rename_i hpure;subst hM;obtain⟨hps,hk⟩:=gZ hk;obtain⟨v,k,hvk,hk⟩:=Az hk;cases hg:e.g with
         | true=>
          obtain⟨v',k',e1,e2,e3⟩:=Ay hX S1.heap S1.len (hev S1 (qG S1.gs (hcur hg) (f:=gs.length+1))) hcr (y8 hps hg) ⟨v,k,hvk⟩;rw [hvk]at e1;cases e1;obtain⟨rfl,htd⟩:=e2 hpure;refine hT hg _ _ (Ej hcl hd (e3 _ λpv h'' j a1 a2 a3 a4=> ?_));have S2:=S1.xQ (Same.refl _) a2 a4;exact go (s2:={s with gs:=gs}) (S2.put (tag:=some t) ⟨e,hget,λ_=>⟨pv,rfl,a1⟩,λh=>by rw [hg]at h;cases h⟩) (λ_=> .refl _ _) rfl hk
         | false=>
          exact hF hg _ _ (go (s2:={s with gs:=gs}) (S1.put (tag:=some t) ⟨e,hget,λh=>(by rw [hg]at h;cases h),λ_=>rfl⟩) (λ_=> .refl _ _) rfl hk)
        .subst hM;obtain⟨hkT,hkF⟩:(e.g=true->je (std n) cr.ck (tN (std n) cr λv h=>gG (std n) X C ops rest K (RSt.put (std n) {s with h:=h,gs:=gs} o.dst none v)) r)/\(e.g=false->gG (std n) X C ops rest K (RSt.put (std n) {s with gs:=yR (std n) gs t} o.dst none (.tup [])) r):=hk;cases hg:e.g with
         | true=>
          obtain⟨hps,hk⟩:=gZ (hkT hg);obtain⟨v,k,hvk,hk⟩:=Az hk;obtain⟨v',k',e1,e2,e3⟩:=Ay hX S1.heap S1.len (hev S1 (qG S1.gs (hcur hg) (f:=gs.length+1))) hcr hps ⟨v,k,hvk⟩;rw [hvk]at e1;cases e1;refine hT hg _ _ (Ej hcl hd (e3 _ λpv h'' j a1 a2 a3 a4=> ?_));have S2:=S1.xQ a3.same a2 a4;exact go (s2:={s with h:=k,gs:=gs}) (S2.put (tag:=none) ⟨pv,rfl,a1⟩) a3.mG rfl hk
         | false=>
          have hk:=hkF hg;have S2:=S1.kill hget hg;exact hF hg _ _ (go (s2:={s with gs:=yR (std n) gs t}) (S2.put (tag:=none) ⟨oU,rfl,VG⟩) (λ_=> .refl _ _) rfl hk)
       ·(subst hM;exact hk.elim)
     ·(subst hM;exact hk.elim)
    ·(subst hM;exact hk.elim)
  ·(subst hM;exact hk.elim)
end
end Go.TX
namespace Go.TX
open Go Go.AE
variable [bI]
section
variable {n:Nat}
theorem VH{t:Slots}{r:Nat}:∀ {rs:List Nat},r∈rs->aB (cut t rs) r=aB t r
 | [],h=>by simp at h
 | x::rs,h=>by
  simp only [cut,aB];split
  .rename_i e;rw [e]
  .rename_i e;cases h with
   | head=>exact absurd rfl e
   | tail _ h=>exact VH h
theorem adT{h:List bE}{x:Cell}{y:SC}(hr:RC (nmh h) x y){s:Sh}{f:Bool}{v:LV aV}(hk:gQ (std n) h s y=some (f,v,[])):∃g,(f=true->g=true)/\ZC x g (lvD s v):=by
 unfold gQ at hk;split at hk
 .rename_i f0 lf;split at hk
  .rename_i e;subst e;cases hk;cases hr with | d hx hf=>
   rename_i g0 x0;subst hx;rw [Ea];refine⟨g0 || (nZ lf).dK,λh=> ?_,.d _ _⟩;rw [kC];cases lf with
   | rows c xs=>grind [Leaf.flag,Leaf.scalar]
   | _=>simp [Leaf.scalar]
  .cases hk
 .cases hr;split at hk
  .cases hk;exact⟨true,λ_=>rfl,.nil _⟩
  .cases hk
 .rename_i f0 c xs;cases hr with | clip hf=>
  split at hk
  .rename_i e;subst e;cases hk;exact⟨_,hf,.clip _ _ _⟩
  .cases hk
 .split at hk
  all_goals simp_all
 .cases hk
theorem Lx{h:List bE}:∀ {ss:List Sh} {ys:List SC} {xs:List Cell} (_:F2 (RC (nmh h)) xs ys) {f:Bool} {vs:List (LV aV)},bF (std n) h ss ys=some (f,vs,[])->∃g,(f=true->g=true)/\ZCs xs g (List.zipWith lvD ss vs)
 | [],[],xs,hF,f,vs,hk=>by simp [bF]at hk;obtain⟨rfl,rfl⟩:=hk;cases hF;exact⟨true,λ_=>rfl,.nil⟩
 | [],_::_,_,_,_,_,hk=>by simp [bF]at hk
 | _::_,[],_,_,_,_,hk=>by simp [bF]at hk
 | s::ss,y::ys,xs,hF,f,vs,hk=>by
  cases hF with | cons h1 h2=>
  unfold bF at hk;split at hk
  .rename_i f1 v1 l1 hv1;split at hk
   .rename_i g2 vs2 ls2 hv2;split at hk
    .simp only [Option.some.injEq,Prod.mk.injEq,List.append_eq_nil_iff]at hk;obtain⟨rfl,rfl,rfl,rfl⟩:=hk;obtain⟨ga,a1,a2⟩:=adT h1 hv1;obtain⟨gb,b1,b2⟩:=Lx h2 hv2;exact⟨ga&&gb,λh=>by simp_all,.cons a2 b2⟩
    .cases hk
   .cases hk
  .cases hk
theorem GU{N:NM}:∀ {ys:List (Leaf aV)} {xs:List Cell} {f:Bool},F2 (RC N) xs (ys.map (.d f))->∃g,(f=true\/(∀y∈ys,y.scalar=true)->g=true)/\ZCs xs g (ys.map nZ)
 | [],_,_,h=>by cases h;exact⟨true,λ_=>rfl,.nil⟩
 | y::ys,_,f,.cons h1 h2=>by
  obtain⟨g,q1,q2⟩:=GU h2;cases h1 with | d hx hf=>
  rename_i g0 x0;subst hx;refine⟨(g0 || (nZ y).dK)&&g,λh=> ?_,.cons (.d _ _) q2⟩
  grind [kC,List.mem_cons_of_mem]
theorem agJ{h:List bE}{p:PV}{q:SVal}(hp:PVR (nmh h) p q){c:Co}{f:Bool}{x:c.den}(hk:toX (std n) h c q=some (f,x,[])):∃g,(f=true->g=true)/\ZCs (aR p) g (c.row x):=by
 unfold toX at hk;split at hk
 .rename_i f' c' x';split at hk
  .rename_i e;subst e;cases hk;have hF:=hp.cells;have hx:cellsS (.sv f' c' x')=(fF (std 0) c' x' 0 c'.fields).map (.d f'):=rfl;rw [hx]at hF;obtain⟨g,q1,q2⟩:=GU hF;rw [nG]at q2
   grind [lQ]
  .cases hk
 .cases hk
 .split at hk
  .rename_i f1 ys ls1 h1;split at hk
   .rename_i t ht;simp only [Option.some.injEq,Prod.mk.injEq]at hk;obtain⟨rfl,rfl,rfl⟩:=hk;rw [eP]at h1;obtain⟨g,q1,q2⟩:=Lx hp.cells h1
    grind [yX]
   .cases hk
  .cases hk
theorem Rj{X:XT}{E:Tab}(hX:XOK X E){t:Slots}{e:Nat->Option SVal}{c:Co}{h:List bE}(he:EvR X E n (nmh h) t e):∀ {parts:List (Nat×Operand)} {f:Bool} {xs:List c.den} {k:List bE},sI (std n) X e c h parts=some (f,xs,k,[])->
  ∃g,(f=true->g=true)/\xs.length=parts.length/\ZPs E t c.size parts g (bJ c xs)
 | [],f,xs,k,hk=>by
  simp only [sI,Option.some.injEq,Prod.mk.injEq]at hk;obtain⟨rfl,rfl,_⟩:=hk;exact⟨true,λ_=>rfl,rfl,.nil⟩
 | (i,x)::r,f,xs,k,hk=>by
  simp only [sI]at hk;split at hk
  .rename_i v hv;split at hk
   .rename_i f1 y l1 hy;split at hk
    .rename_i g1 ys k1 l2 hys;simp only [Option.some.injEq,Prod.mk.injEq,List.append_eq_nil_iff]at hk;obtain⟨rfl,rfl,_,rfl,rfl⟩:=hk;obtain⟨pv,p1,p2⟩:=fC hX he hv;obtain⟨ga,a1,a2⟩:=agJ p2 hy;obtain⟨gb,b1,b2,b3⟩:=Rj hX he (h:=h) hys;have hl:(aR pv).length=c.size:=by
      have:∀ {cs:List Cell} {g:Bool} {ds:List D},ZCs cs g ds->cs.length=ds.length:=by
       intro cs g ds hz
       induction hz with
       | nil=>rfl
       | cons _ _ ih=>simp [ih]
      rw [this a2,sN]
     exact⟨ga&&gb,λh=>by simp_all,by simp [b2],.cons p1 hl a2 b3⟩
    .cases hk
   .cases hk
  .cases hk
theorem aji{X:XT}{E:Tab}(hX:XOK X E){t:Slots}{e:Nat->Option SVal}{h:List bE}(he:EvR X E n (nmh h) t e){op:Op}{ps:List Bool}{v:SVal}(hk:zX (std n) X e h op=some (ps,v)):Gv (zA E op t) (nmh h) v:=by
 unfold zX at hk;split at hk
 .rename_i ty len parts;rw [hX.ty]at hk;split at hk
  .rename_i y hy;split at hk
   .rename_i el hd;split at hk
    .rename_i z c hz hco;split at hk
     .rename_i hcond;simp only [Bool.and_eq_true,Bool.not_eq_true',beq_iff_eq,beq_eq_false_iff_ne,ne_eq]at hcond;obtain⟨⟨⟨hsz,hne⟩,hrange⟩,hbig⟩:=hcond;have hbig:=Nat.le_of_ble_eq_true hbig;obtain⟨z',hz',hzs⟩:=iD hX hsz;rw [hz]at hz';cases hz';split at hk
      .rename_i f xs k hps;cases hk;obtain⟨g,q1,q2,q3⟩:=Rj hX he hps;have hlen:xs.length=len:=by
        have:=congrArg List.length hrange
        grind
       refine⟨.c (.clip g c.size (bJ c xs)),.ofC (.clip q1),λK hK=> ?_⟩
       grind [zA,au,bJ,bN]
      .cases hk
     .cases hk
    .cases hk
   .cases hk
  .cases hk
 .cases hk
theorem LA{E:Tab}{N:NM}{h' h'':Heap}{ty:TypeId}{pv:PV}{q:SVal}(hp:PVR N pv q)(hl:∀l∈vk (std n) q,AE.look h'' l=AE.look h' l)(K:PV->Prop):aL E h'' ty pv K=aL E h' ty pv K:=by
 have key:∀l sz i j,pv= .c (.ptr l sz i j)->AE.look h'' l=AE.look h' l:=by
  intro l sz i j e;subst e;cases hp with | one hp=>cases hp with | c hc=>
  cases hc with
  | pb=>simp_all [vk]
  | pr _=>simp_all [vk]
 grind [aL,au]
theorem stable{X:XT}{E:Tab}(hX:XOK X E){N:NM}{h' h'':Heap}{t:Slots}{e:Nat->Option SVal}(he:EvR X E n N t e){op:Op}(hl:∀l∈iQ (std n) X e op,AE.look h'' l=AE.look h' l)(hev:isLoad op=true->∃ty x q,op= .load ty x/\evX (std n) X e x=some q)(K:PV->Prop):
  aF E op t h'' K=aF E op t h' K:=by
 cases hL:isLoad op with
 | false=>rw [xI hL]
 | true=>
  obtain⟨ty,x,q,rfl,hq⟩:=hev hL;obtain⟨pv,p1,p2⟩:=fC hX he hq;simp only [iQ,hq]at hl;unfold aF;simp only;rw [p1];simp only [aC];exact LA p2 hl K
def HI(E:Tab)(ops:List Oper)(h':Heap)(h:List bE)(hs':List Held)(hs:List (Nat×List Nat)):Prop:=∀p∈hs,(∀l∈p.2,l<h.length)/\∃o t v,jH hs' p.1=some (o,t,v)/\
 ∀h'',(∀l∈p.2,AE.look h'' l=AE.look h' l)->fV E ops o t h'' (λv'=>v'=v)
theorem HI.turn{E:Tab}{ops:List Oper}{h' h'':Heap}{h k:List bE}{hs':List Held}{hs:List (Nat×List Nat)}(H:HI E ops h' h hs' hs){td:List Nat}(x:jr h' h h'' k td):HI E ops h'' k hs' (pW hs td):=by
 intro p hp;simp only [pW,List.mem_filter]at hp;obtain⟨hp,hn⟩:=hp;obtain⟨h1,o,t,v,h2,h3⟩:=H p hp;refine⟨λl hl=>Nat.lt_of_lt_of_le (h1 l hl) x.len,o,t,v,h2,λh3' hh=>h3 h3' λl hl=> ?_⟩;have:=List.all_eq_true.1 hn l hl;rw [hh l hl,(x.keep l (h1 l hl) (by simpa using this)).2]
theorem y9(hs:List (Nat×List Nat)):pW hs []=hs:=by grind [pW,List.filter_eq_self]
theorem CZ{E:Tab}{ops:List Oper}{h' h'':Heap}{h k:List bE}{hs':List Held}{hs:List (Nat×List Nat)}(H:HI E ops h' h hs' hs){td:List Nat}(x:jr h' h h'' k td):∀ {cs:List Nat},cs.all (I5 hs td)=true->mX E ops h'' hs' cs
 | [],_=>trivial
 | j::r,hc=>by
  simp only [List.all_cons,Bool.and_eq_true]at hc;refine⟨?_,CZ H x hc.2⟩;have hj:=hc.1;simp only [I5,List.any_eq_true,Bool.and_eq_true,beq_iff_eq]at hj;obtain⟨p,hp,hpj,hall⟩:=hj;obtain⟨h1,o,t,v,h2,h3⟩:=H p hp;rw [<-hpj,h2];refine h3 h'' λl hl=>(x.keep l (h1 l hl) ?_).2
  simp_all
theorem HI.push{E:Tab}{ops:List Oper}{h':Heap}{h:List bE}{hs':List Held}{hs:List (Nat×List Nat)}(H:HI E ops h' h hs' hs){i:Nat}(hi:¬(hs.any λp=>p.1==i)=true){ns:List Nat}{o:Oper}{t:Slots}{v:Option PV}
  (hns:∀l∈ns,l<h.length) (hst:∀h'',(∀l∈ns,AE.look h'' l=AE.look h' l)->fV E ops o t h'' (λv'=>v'=v)):HI E ops h' h ((i,o,t,v)::hs') ((i,ns)::hs):=by
 intro p hp;cases hp with
 | head=>exact⟨hns,o,t,v,by simp [jH],hst⟩
 | tail _ hp=>
  obtain⟨h1,o',t',v',h2,h3⟩:=H p hp;have hne:i≠p.1:=λe=>hi (by rw [List.any_eq_true];exact⟨p,hp,by simp [e]⟩)
  grind [KY]
theorem GV{E:Tab}{X:XT}{N:NM}{t:Slots}{e:Nat->Option SVal}(he:EvR X E n N t e){k:Int}:∀ {l:List (Int×Nat)} {b:Bool},CW (std n) e k l=some b->∀K:Bool->Prop,K b->Dz t k l K
 | [],b,h,K,hb=>by cases h;exact hb
 | (k',r)::rest,b,h,K,hb=>by
  unfold CW at h;split at h
  .rename_i f b1 hr;split at h
   .rename_i q hq;cases h;obtain⟨pv,h1,h2⟩:=he r _ hr;obtain⟨g,rfl⟩:=h2.bool;refine⟨g,b1,h1,?_⟩;have hb:K (bif decide (k=k')then b1 else q):=hb;by_cases c:k=k'
    .simp_all
    .rw [if_neg c];rw [decide_eq_false c]at hb;exact GV he hq K hb
   .cases h
  .cases h
theorem Oh{X:XT}{ops:List Oper}{e:Nat->Option SVal}{h:List bE}{op:Op}(hp:DF op=true):N9 (std n) X ops e h op=match zX (std n) X e h op with | some r=>some (some r) | none=>none:=by
 cases op
 case makeMap=>cases hp
 case insert=>cases hp
 case move=>cases hp
 case lookup a b q d=>cases q<;>first | rfl | cases hp
 all_goals grind [N9,zX]
theorem map_ok{X:XT}{E:Tab}(hX:XOK X E){ops:List Oper}{t:Slots}{e:Nat->Option SVal}{h:List bE}(he:EvR X E n (nmh h) t e){op:Op}{r:Option (List Bool×SVal)}(hk:N9 (std n) X ops e h op=some r):
  match r with | none=>∀K:Option PV->Prop,K none->zM E ops op t K | some (_,v)=>∃pv,PVR (nmh h) pv v/\∀K:Option PV->Prop,K (some pv)->zM E ops op t K:=by
 by_cases hp:DF op=true
 .rw [Oh hp]at hk;split at hk
  .rename_i q hq;cases hk;obtain⟨ps,v⟩:=q;obtain⟨pv,p1,p2⟩:=aji hX he hq
   grind [yH]
  .cases hk
 .cases op
  case makeMap=>cases hk;exact λK h=>h
  case insert a b c v=>
   cases v with
   | tmp r=>
    simp only [N9]at hk;cases hq:e r with
    | some q=>
     rw [hq]at hk;cases hk;obtain⟨pv,p1,_⟩:=he _ _ hq;exact λK h=>⟨⟨pv,p1⟩,h⟩
    | none=>grind
   | _=>cases hk
  case move x=>
   simp only [N9]at hk;split at hk
   .rename_i hs;cases hk;exact λK h=>⟨hs,h⟩
   .cases hk
  case lookup a b q d=>
   cases q with
   | tmp q=>
    simp only [N9]at hk;split at hk
    .rename_i f m hq;split at hk
     .rename_i bb hb;cases hk;obtain⟨pv,p1,p2⟩:=he _ _ hq;obtain⟨g,rfl⟩:=p2.int;exact⟨_,.ofC (.d rfl λ_=> .inl rfl),λK hK=>⟨g,m,p1,GV he hb _ hK⟩⟩
     .cases hk
    .cases hk
   | _=>exact absurd rfl hp
  all_goals exact absurd rfl hp
theorem xR{X:XT}{gs:List (GE (std n))}{lk:Nat->Option (SV (std n))}{h:List bE}{cur:Option Nat}{op:Op}{ps:List Bool}{v:SVal}(hk:uZ (std n) X lk gs h cur op=some (ps,v))(hl:isLoad op=true):
  (∃ty x q,op= .load ty x/\evX (std n) X (iM (std n) lk (gB (std n) gs cur)) x=some q)/\∀l∈iQ (std n) X (iM (std n) lk (gB (std n) gs cur)) op,l<h.length:=by
 cases op<;>simp only [isLoad,Bool.false_eq_true]at hl
 rename_i ty x;simp only [uZ,QV]at hk;obtain⟨q,hq,hk⟩:=fQ hk;refine⟨⟨ty,x,q,rfl,hq⟩,λl hl=> ?_⟩;simp only [iQ,hq]at hl;unfold K8 at hk;split at hk
 .cases hk
 .unfold vk at hl;split at hl
  all_goals grind
end
end Go.TX
namespace Go.TX
open Go Go.AE
variable [bI]
section
variable {n:Nat}
theorem AA(gs:List (GE (std n))):gB (std n) gs none=[]:=by unfold gB;rw [N8];simp
theorem El{E:Tab}{ops:List Oper}{o:Oper}(hg:o.guard=none)(t:Slots)(h:Heap)(K:Option PV->Prop):fV E ops o t h K=aF E o.op t h λv=>K (some v):=by unfold fV;rw [hg]
theorem sS{E:Tab}{ops:List Oper}{o:Oper}{j d:Nat}{w:Bool}(hg:o.guard=some (j,w))(hd:gslot ops j=some d)(t:Slots)(h:Heap)(K:Option PV->Prop):
 fV E ops o t h K=nC (aB t d) w (aF E o.op t h λv=>K (some v)) (K (some oU)):=by unfold fV;rw [hg];simp only;rw [hd];rfl
theorem Je{X:XT}{E:Tab}(hX:XOK X E){C:Calls aV}{ops:List Oper}{ρ:Type}{K:RSt (std n)->(ρ->Prop)->Prop}{r:ρ->Prop}{h0:List bE}{m0:Nat}:∀ {rest:List eY} {hs:List (Nat×List Nat)} {hs':List Held} {s':St} {s:RSt (std n)},SR s' s->(∀k,Keep k h0 s.h)->s.m=m0->
    HI E ops s'.h s.h hs' hs->jI (std n) X C ops rest hs K s r->
    bP E (mF C) ops rest hs' (λs1'=>∃s1,SR s1' s1/\(∀k,Keep k h0 s1.h)/\s1.m=m0/\K s1 r) s'
  | [],hs,hs',s',s,S,hK0,hm0,HH,hk=>⟨s,S,hK0,hm0,hk⟩
  | (i,rs,cs)::rest,hs,hs',s',s,S,hK0,hm0,HH,hk=>by
    generalize hM:jI (std n) X C ops ((i,rs,cs)::rest) hs K s=M at hk;unfold jI at hM;unfold bP;split at hM
    · (subst hM;exact hk.elim)
    · rename_i o ho;rw [ho];simp only [KV];split at hM
      · rename_i hdst;have hd:dOK s'.m o.dst:=by rw [S.m];exact VF hdst
        refine⟨hd,?_⟩;simp only at hM;have hlk:∀i sv,(if rs.contains i then eZ (std n) s.t i else none)=some sv->eZ (std n) s.t i=some sv:=λi sv h=>by
          split at h
          · exact h
          · cases h
        have VI:∀d,(if rs.contains d then eZ (std n) s.t d else none).isSome->aB (cut s'.t rs) d=aB s'.t d:=λd h=>by
          split at h
          · rename_i hc;exact VH (by simpa using hc)
          · cases h
        have hev:∀ {gs:List (GE (std n))},SR s' {s with gs:=gs}->∀ {al:List Nat},(∀t∈al,∃e,gs[t]? =some e/\e.g=true)->EvR X E n (nmh s.h) (cut s'.t rs) (iM (std n) (λi=>if rs.contains i then eZ (std n) s.t i else none) al):=
          λS1 _ hal=>rP (t':=s'.t) VI (λi sv h=>S1.val i sv (hlk i sv h)) hal
        have go:∀ {s2':St} {s2:RSt (std n)} {tag:Option Nat} {v:SVal} {hs2:List (Nat×List Nat)} {adU:List Held},SR s2' (s2.put (std n) o.dst tag v)->(∀k,Keep k s.h s2.h)->s2.m=s.m->HI E ops s2'.h s2.h adU hs2->jI (std n) X C ops rest hs2 K (s2.put (std n) o.dst tag v) r->
            bP E (mF C) ops rest adU (λs1'=>∃s1,SR s1' s1/\(∀k,Keep k h0 s1.h)/\s1.m=m0/\K s1 r) s2':=by
          intro s2' s2 tag v hs2 adU S2 hkeep hm2 HI2 hk2;have e1:=ab3 (n:=n) (s:=s2) (d:=o.dst) (tag:=tag) (v:=v);exact Je hX (rest:=rest) S2 (λk=>by rw [e1.1];exact(hK0 k).trans (hkeep k)) (by rw [e1.2,hm2,hm0]) (by rw [e1.1];exact HI2) hk2
        have Jf:∀(d:Option Nat) (v:Option PV),(s'.put d v).h=s'.h:=λd v=>by cases d<;>rfl
        split at hM
        ·
          rename_i hkind;split at hM
          · (subst hM;exact hk.elim)
          rename_i hnew;split at hM
          · rename_i hguard;rw [hkind];split at hM
            · rename_i ps v hv;subst hM;obtain⟨hps,hk⟩:=gZ hk;rw [CY]at hk;have rQ:∀i sv,(if rs.contains i then eZ (std n) s.t i else none)=some sv->y7 s.gs s'.t (nmh s.h) i sv:=λi sv h=>S.val i sv (hlk i sv h)
              obtain⟨pv,p1,p2⟩:=wo hX S.heap S.gs VI rQ (cur:=none) (λt h=>by cases h) hv hps;simp only;rw [El hguard];have hE0:=hev S (al:=gB (std n) s.gs none) (λt h=>by rw [AA]at h;simp at h);rw [AA]at hE0;have hln:=λhL=>xR hv hL
              rw [AA]at hln;have hst:∀h'',(∀l∈iQ (std n) X (iM (std n) (λi=>if rs.contains i then eZ (std n) s.t i else none) []) o.op,AE.look h'' l=AE.look s'.h l)->fV E ops o (cut s'.t rs) h'' (λv'=>v'=some pv):=λh'' hh=>by
                rw [El hguard,stable hX hE0 hh (λhL=>(hln hL).1)];exact p2 _ rfl
              have hns:∀l∈iQ (std n) X (iM (std n) (λi=>if rs.contains i then eZ (std n) s.t i else none) []) o.op,l<s.h.length:=λl hl=>by
                cases hL:isLoad o.op with
                | true=>exact(hln hL).2 l hl
                | false => unfold iQ at hl; split at hl
                           · rename_i hop;rw [hop]at hL;simp [isLoad]at hL
                           · simp at hl
              exact p2 _ (go (s2:=s) (S.put (tag:=none) ⟨pv,rfl,p1⟩) (λ_=> .refl _ _) rfl (by rw [Jf];exact HH.push hnew hns hst) hk)
            · (subst hM;exact hk.elim)
          · rename_i j want hguard;rw [hkind];split at hM
            · rename_i d hgs;have hgm:=λhb=>Ei S (lk:=λi=>if rs.contains i then eZ (std n) s.t i else none) hlk (tt:=cut s'.t rs) (d:=d) (want:=want) (VI d) rfl hb
              simp only;rw [sS hguard hgs];split at hM
              · rename_i hr;rw [hr]at hgm;subst hM;cases hgm (by simp)with | skip h=>
                refine h _ _ (go (s2:=s) (S.put (tag:=none) ⟨oU,rfl,VG⟩) (λ_=> .refl _ _) rfl (by rw [Jf];exact HH.push hnew (λl hl=>by simp at hl) (λh'' _=>by rw [sS hguard hgs];exact h _ _ rfl)) hk)
              · rename_i gs t g hr;rw [hr]at hgm;cases hgm (by simp)with | run S1 hget hg rQ hT hF=>
                rename_i e;subst hg;split at hM
                · rename_i ps v hv;subst hM;obtain⟨hps,hk⟩:=gZ hk;have hns:∀l∈iQ (std n) X (iM (std n) (λi=>if rs.contains i then eZ (std n) s.t i else none) (gB (std n) gs (some t))) o.op,l<s.h.length:=λl hl=>by
                    cases hL:isLoad o.op with
                    | true=>exact(xR hv hL).2 l hl
                    | false => unfold iQ at hl; split at hl
                               · rename_i hop;rw [hop]at hL;simp [isLoad]at hL
                               · simp at hl
                  cases hg:e.g with
                  | true=>
                    have hcur:∀t0,some t=some t0->∃e,gs[t0]? =some e/\e.g=true:=λt0 ht=>by cases ht;exact⟨e,hget,hg⟩
                    obtain⟨pv,p1,p2⟩:=wo hX S1.heap S1.gs VI (λi sv h=>rQ i sv (hlk i sv h)) hcur hv (y8 hps hg);have hE0:EvR X E n (nmh s.h) (cut s'.t rs) (iM (std n) (λi=>if rs.contains i then eZ (std n) s.t i else none) (gB (std n) gs (some t))):=hev S1 (qG S1.gs hcur (f:=gs.length+1));refine hT hg _ _ (p2 _ (go (s2:={s with gs:=gs}) (S1.put (tag:=some t) ⟨e,hget,λ_=>⟨pv,rfl,p1⟩,λh=>by rw [hg]at h;cases h⟩) (λ_=> .refl _ _) rfl (by
                      rw [Jf];refine HH.push hnew hns (λh'' hh=> ?_);rw [sS hguard hgs,stable hX hE0 hh (λhL=>(xR hv hL).1)];exact hT hg _ _ (p2 _ rfl)) hk))
                  | false=>
                    exact hF hg _ _ (go (s2:={s with gs:=gs}) (S1.put (tag:=some t) ⟨e,hget,λh=>(by rw [hg]at h;cases h),λ_=>rfl⟩) (λ_=> .refl _ _) rfl (by
                      rw [Jf];refine HH.push hnew hns (λh'' hh=> ?_);rw [sS hguard hgs];exact hF hg _ _ rfl) hk)
                · (subst hM;exact hk.elim)
              · (subst hM;exact hk.elim)
            · (subst hM;exact hk.elim)
        · rename_i hkind;rw [hkind];split at hM
          · rename_i ps v hv;subst hM;obtain⟨hps,hk⟩:=gZ hk;obtain⟨pv,p1,p2⟩:=map_ok hX (ops:=ops) (hev S (al:=[]) (λt h=>by simp at h)) hv;simp only;exact p2 _ (go (s2:=s) (S.put (tag:=none) ⟨pv,rfl,p1⟩) (λ_=> .refl _ _) rfl (by rw [Jf];exact HH) hk)
          · rename_i hv;subst hM;have p2:=map_ok hX (ops:=ops) (hev S (al:=[]) (λt h=>by simp at h)) hv;simp only;refine p2 _ ?_;have e1:=agH (n:=n) (s:=s) (d:=o.dst);exact Je hX (rest:=rest) S.del (λk=>by rw [e1.1];exact hK0 k) (by rw [e1.2,hm0]) (by rw [e1.1,Jf];exact HH) hk
          · (subst hM;exact hk.elim)
        · rename_i hkind;rw [hkind];split at hM
          · rename_i hr hv;subst hM;obtain⟨hps,hk⟩:=gZ hk;have he0:EvR X E n (nmh s.h) [] (λ_=>none):=λi v h=>by cases h
            obtain⟨pv,h'',j,q1,q2,q3,q4,q5⟩:=Ja hX S.heap S.len he0 hv hps;simp only;have S2:=S.xQ q3.same q2 q4;have htd:hr.touched=[]:=by
              unfold kindOf at hkind;split at hkind
              · rename_i ty hop;rw [hop]at hv;simp only [DZ]at hv;split at hv
                · split at hv
                  · split at hv<;>(cases hv;rfl)
                  · cases hv;rfl
                  · cases hv
                · cases hv
              all_goals first | cases hkind | (split at hkind<;>cases hkind)
            have HI2:=HH.turn q3;rw [htd,y9]at HI2;exact q5 _ (go (s2:={s with h:=hr.h}) (S2.put (tag:=none) ⟨pv,rfl,q1⟩) q3.mG rfl (by cases o.dst<;>exact HI2) hk)
          · (subst hM;exact hk.elim)
        · rename_i hk0 hk1 hk2;split at hM
          · rename_i hguard;split at hM
            · rename_i cr hcr;split at hM
              · rename_i hcs;subst hM;obtain⟨hps,hk⟩:=gZ hk;obtain⟨v,k,hvk,hk⟩:=Az hk;obtain⟨v',k',e1,_,e3⟩:=Ay hX S.heap S.len (hev S (al:=[]) (λt h=>by simp at h)) hcr hps ⟨v,k,hvk⟩;rw [hvk]at e1;cases e1;split
                · rename_i h;exact absurd h hk0
                · rename_i h;exact absurd h hk1
                · rename_i h;exact absurd h hk2
                · rw [hguard];refine Jd (e3 _ λpv h'' j a1 a2 a3 a4=>⟨CZ HH a3 hcs,?_⟩);have S2:=S.xQ a3.same a2 a4;exact go (s2:={s with h:=k}) (S2.put (tag:=none) ⟨pv,rfl,a1⟩) a3.mG rfl (by cases o.dst<;>exact HH.turn a3) hk
              · (subst hM;exact hk.elim)
            · (subst hM;exact hk.elim)
          · rename_i j want hguard;split at hM
            · rename_i d hgs;have hgm:=λhb=>Ei S (lk:=λi=>if rs.contains i then eZ (std n) s.t i else none) hlk (tt:=cut s'.t rs) (d:=d) (want:=want) (VI d) rfl hb
              have goal:nC (aB (cut s'.t rs) d) want
                  (xJ E (mF C) o (cut s'.t rs) s' λv h k=>mX E ops h hs' cs/\bP E (mF C) ops rest hs' (λs1'=>∃s1,SR s1' s1/\(∀k,Keep k h0 s1.h)/\s1.m=m0/\K s1 r) (St.put {s' with h:=h,k:=k} o.dst (some v)))
                  (bP E (mF C) ops rest hs' (λs1'=>∃s1,SR s1' s1/\(∀k,Keep k h0 s1.h)/\s1.m=m0/\K s1 r) (s'.put o.dst (some oU))):=by
                split at hM
                · rename_i hr;rw [hr]at hgm;subst hM;cases hgm (by simp)with | skip h=>
                  exact h _ _ (go (s2:=s) (S.put (tag:=none) ⟨oU,rfl,VG⟩) (λ_=> .refl _ _) rfl (by rw [Jf];exact HH) hk)
                · rename_i gs t g hr;rw [hr]at hgm;cases hgm (by simp)with | run S1 hget hg rQ hT hF=>
                  rename_i e;subst hg;have hcur:e.g=true->∀t0,some t=some t0->∃e,gs[t0]? =some e/\e.g=true:=λh t0 ht=>by cases ht;exact⟨e,hget,h⟩
                  split at hM
                  · rename_i cr hcr;split at hM
                    · rename_i hcs;split at hM
                      · rename_i hpure;subst hM;obtain⟨hps,hk⟩:=gZ hk;obtain⟨v,k,hvk,hk⟩:=Az hk;cases hg:e.g with
                        | true=>
                          obtain⟨v',k',e1,e2,e3⟩:=Ay hX S1.heap S1.len (hev S1 (qG S1.gs (hcur hg) (f:=gs.length+1))) hcr (y8 hps hg) ⟨v,k,hvk⟩;rw [hvk]at e1;cases e1;obtain⟨rfl,htd⟩:=e2 hpure;refine hT hg _ _ (Jd (e3 _ λpv h'' j a1 a2 a3 a4=>⟨CZ HH a3 hcs,?_⟩));have S2:=S1.xQ (Same.refl _) a2 a4;have HI2:=HH.turn a3;rw [htd,y9]at HI2;exact go (s2:={s with gs:=gs}) (S2.put (tag:=some t) ⟨e,hget,λ_=>⟨pv,rfl,a1⟩,λh=>by rw [hg]at h;cases h⟩) (λ_=> .refl _ _) rfl (by cases o.dst<;>exact HI2) hk
                        | false=>
                          exact hF hg _ _ (go (s2:={s with gs:=gs}) (S1.put (tag:=some t) ⟨e,hget,λh=>(by rw [hg]at h;cases h),λ_=>rfl⟩) (λ_=> .refl _ _) rfl (by rw [Jf];exact HH) hk)
                      · subst hM;obtain⟨hkT,hkF⟩:(e.g=true->je (std n) cr.ck (tN (std n) cr λv h=>jI (std n) X C ops rest (pW hs cr.touched) K (RSt.put (std n) {s with h:=h,gs:=gs} o.dst none v)) r)/\(e.g=false->jI (std n) X C ops rest hs K (RSt.put (std n) {s with gs:=yR (std n) gs t} o.dst none (.tup [])) r):=hk;cases hg:e.g with
                        | true=>
                          obtain⟨hps,hk⟩:=gZ (hkT hg);obtain⟨v,k,hvk,hk⟩:=Az hk;obtain⟨v',k',e1,e2,e3⟩:=Ay hX S1.heap S1.len (hev S1 (qG S1.gs (hcur hg) (f:=gs.length+1))) hcr hps ⟨v,k,hvk⟩;rw [hvk]at e1;cases e1;refine hT hg _ _ (Jd (e3 _ λpv h'' j a1 a2 a3 a4=>⟨CZ HH a3 hcs,?_⟩));have S2:=S1.xQ a3.same a2 a4;exact go (s2:={s with h:=k,gs:=gs}) (S2.put (tag:=none) ⟨pv,rfl,a1⟩) a3.mG rfl (by cases o.dst<;>exact HH.turn a3) hk
                        | false=>
                          have hk:=hkF hg;have S2:=S1.kill hget hg;exact hF hg _ _ (go (s2:={s with gs:=yR (std n) gs t}) (S2.put (tag:=none) ⟨oU,rfl,VG⟩) (λ_=> .refl _ _) rfl (by rw [Jf];exact HH) hk)
                    · (subst hM;exact hk.elim)
                  · (subst hM;exact hk.elim)
                · (subst hM;exact hk.elim)
              split
              · rename_i h;exact absurd h hk0
              · rename_i h;exact absurd h hk1
              · rename_i h;exact absurd h hk2
              · rw [hguard];simp only;rw [hgs];exact goal
            · (subst hM;exact hk.elim)
      · (subst hM;exact hk.elim)
end
end Go.TX
