/- Part 4 of a proof: what the last part needs. No condition. -/
import Derived.Test.YthiiicchooeapaaGreatZc
import Derived.Test.YthiiicchooeapaaGreatProg
import Derived.KernelRfl
import Derived.Lib.Bytes
set_option maxHeartbeats 1000000
set_option linter.all false
set_option linter.unusedSectionVars false
set_option linter.unusedVariables false
set_option linter.unusedSimpArgs false
namespace Go.TX
open Go Go.AE
def lead:Nat->Code->Code
 | k+1,.seq x c=> .seq x (lead k c)
 | _,_=> .skip
def last:Nat->Code->Code
 | k+1,.seq _ c=>last k c
 | _,c=>c
def adJ:Nat->Code->Bool
 | 0,_=>true
 | k+1,.seq _ c=>adJ k c
 | _,_=>false
theorem NT:∀ {k:Nat} {c:Code},adJ k c=true->Tail (last k c) (lead k c) c
 | 0,c,_=>by cases c<;>exact .here
 | k+1,c,h=>by
  cases c with
  | seq x c=>exact .seq (NT (k:=k) h)
  | _=>cases h
variable [aQ]
def afK(A:Alg)(sk:j6)(e:Exit)(s:RSt A):A.M (Tup A.aC sk.tys):=match e with
 | .normal=>(match Bu A 0 sk s with | some (ck,t)=>jc A ck (A.ret sk.tys t) | none=>A.fail)
 | _=>A.fail
def runT(A:Alg)(X:XT)(C:Calls A.aC)(ord:Nat->List dK)(chk:Nat->Array Oper->Nat->Bool)(an:Ann)(args:List SkV)(sk:j6)(m:Nat)(code:Code)(x:Tup A.aC (SkV.sw args)):A.M (Tup A.aC sk.tys):=
 match oI A.aC (λi=>i) args (unpack A.aC _ x)with
 | some (vs,_)=>bM A X C ord chk 0 an code {t:=(List.range vs.length).zip (vs.map λv=>⟨none,v⟩),gs:=[],h:=[],m:=vs.length+(m-vs.length)} (afK A sk)
 | none=>A.fail
section
variable {X:XT} {E:Tab} (hE:aR E) (hX:XOK X E) {C:Calls aJ} (hG:jZ E (lg C)) (hm:E.P.follows .mixedOrders=true) {ord:Nat->List dK} {chk:Nat->Array Oper->Nat->Bool} (Ad:∀id ops m,chk id ops m=true->Static E ord id ops m)
include hE hX hG hm Ad
theorem acJ{G:fO}(hG2:jZ E G){dr:jI}(hD:Eo E dr){f:FuncId}{fn:Func}{code lc L:Code}(hf:E.P.funcs[f]? =some fn)(hb:fn.body=some code)(hent:Enters E.P f)(ht:Tail L lc code){args:List SkV}{sk:j6}{an:Ann}{R:Trans}
  (hR:∀av h n K,R av h n K->h=[]/\n=0/\∃(x:iR (SkV.sw args)) (qs:List SVal) (q:List (LV aJ)),oI aJ (λi=>i) args (unpack aJ _ x)=some (qs,q)/\F2 (PVR (nmh [])) av qs/\∃r,runT (std 0) X C ord chk an args sk fn.ntmps lc x r/\
   ∀y,r y->∀s,SR s (qd (std 0) sk (qs.length+(fn.ntmps-qs.length)) y)->s.n=0->aw E G dr L (pX E fn.results.toList 0 K) s):aK E f R where
 enters:=hent
 calls:=by
  intro av h n K hr c w vs hn hargs H Gl;obtain⟨rfl,rfl,x,qs,q,hq,hp,r,hrun,haw⟩:=hR av h n K hr;refine calls_of_wp hf hb ?_;have hl1:=hargs.length;have hl2:=hp.length;have A1:jR E {t:=(List.range qs.length).zip (av.map some),h:=[],n:=0,k:=0,m:=qs.length+(fn.ntmps-qs.length)} c w {tmps:=vs.toArray++Array.replicate (fn.ntmps-vs.toArray.size) undef,defers:=[]}:=by
   refine⟨⟨λi u hu=>Ac hargs ?_ i u hu,H,Gl⟩,by simpa [nm]using hn,rfl,by simp [hl1,hl2]⟩;refine F2.sZ (by simp [hl1,hl2]) λj i u hj hu=> ?_
   have:i=j:=by
    have h3:=(List.getElem?_eq_some_iff.1 hj).1;simp at h3;rw [List.getElem?_range h3]at hj;cases hj;rfl
   subst this;have hlt:i<vs.length:=(List.getElem?_eq_some_iff.1 hu).1;simp only;rw [Array.getElem?_append_left (by simpa using hlt)];simpa using hu
  have S1:SR {t:=(List.range qs.length).zip (av.map some),h:=[],n:=0,k:=0,m:=qs.length+(fn.ntmps-qs.length)}
    ({t:=(List.range qs.length).zip (qs.map λv=>⟨none,v⟩),gs:=[],h:=[],m:=qs.length+(fn.ntmps-qs.length)}:RSt (std 0)):=by
   refine⟨Xu,rfl,rfl,λi sv hi=> ?_,λt e he=>by simp at he⟩;obtain⟨q1,q2⟩:=Ab hp i sv hi;unfold yF;rw [q1];exact q2
  unfold runT at hrun;have hq':oI (std 0).aC (λi=>i) args (unpack (std 0).aC (SkV.sw args) x)=some (qs,q):=hq;rw [hq']at hrun;refine VG hE hX hG hm Ad hn (H0:=[]) (m0:=qs.length+(fn.ntmps-qs.length)) (K:=afK (std 0) sk) (r:=r) (λa w' hl=> ?_) (λe a w' he hl=> ?_) ht hrun A1 (.refl _ _ _) S1 (.refl _ _) rfl
  .obtain⟨cx,s',s1,g,A,S,_,hs,h6⟩:=hl;unfold afK at h6;generalize hx:Bu (std 0) 0 sk s1=o at h6
   match o,hx,h6 with
   | none,_,h6=>exact h6.elim
   | some (ck,t),hx,h6=>
   obtain⟨hck,hrt⟩:=ig h6;obtain⟨c2,s2,g2,A2,S2,_,_⟩:=DW hx hck S A hn g hs;have A3:jR E {s2 with n:=0,k:=nm s2.n s2.k} c2 w' a:=⟨A2.abs,by rw [A2.n];simp [nm],A2.defers,A2.size⟩;have S3:SR {s2 with n:=0,k:=nm s2.n s2.k} (qd (std 0) sk (qs.length+(fn.ntmps-qs.length)) t):=⟨S2.heap,by rw [S2.len];simp [nm],S2.m,S2.val,S2.gs⟩;refine wp_mono (og hE hG2 hD L A3 g2 (haw t hrt _ S3 rfl)) ?_;intro e a' w' he
   have fin:∀c1 s1,Grow c w [] c1 w' s1.h->jR E s1 c1 w' a'->oh E s1 fn.results.toList (λvs=>K (one vs) s1.h s1.k)->s1.n=0->a'.defers=[]/\∃v,(results fn a'.tmps).run E.P w'= .ok v w'/\
     Post (λv w'=>∃c' r h' j,Grow c w [] c' w' h'/\bC c' w' h'/\c'.n=nm 0 j/\bg c' w' v r/\K r h' j) (.returned v) w':=by
    intro c1 s1 g1 A1 hr hn1;obtain⟨us,ps,h1,h2,h3⟩:=rY hE A1 _ _ hr;exact⟨A1.defers,_,vF h1,c1,_,_,_,g1,A1.abs.heap,by rw [A1.n,hn1],TA h2,h3⟩
   cases e with
   | normal=>
    obtain⟨c1,s1,g1,A1,hn1,hr⟩:=he;exact fin c1 s1 g1 A1 hr hn1
   | ret=>
    obtain⟨c1,s1,g1,A1,hn1,hr⟩:=he;exact fin c1 s1 g1 A1 hr hn1
   | exit i=>obtain⟨_,_,_,_,hf⟩:=he;exact hf.elim
   | goto l=>exact he.elim
   | panic ch=>exact he.elim
   | outgrown=>exact he.elim
  .cases e with
   | normal=>exact(he rfl).elim
   | ret=>obtain⟨_,_,_,_,_,_,_,_,h6⟩:=hl;exact h6.elim
   | exit i=>obtain⟨_,_,_,_,_,_,_,_,h6⟩:=hl;exact h6.elim
   | goto l=>exact hl.elim
   | panic ch=>exact hl.elim
   | outgrown=>exact hl.elim
end
def RuT(X:XT)(E:Tab)(A:Alg)(ord:List (Nat×List dK))(an:Ann)(args:List SkV)(sk:j6)(m:Nat)(code:Code)(l:List (FuncId×Sigma (Ct A.aC)))(F:Tup A.aC (SkV.sw args)->A.M (Tup A.aC sk.tys)):Prop:=
 ∀x,runT A X (ofL A.aC l) (Ko ord) (Xy E ord) an args sk m code x=F x
def aiY(k:aQ)(X:XT)(a:Ann)(args:List SkV)(sk:j6)(m:Nat)(code:Code)(l:List (Nat×Sig)):Pg:=
 (runT aiQ X (ofL Hl (scs l 0)) (Ko (NI code)) (λ_ _ _=>true) a args sk m code (vT (SkV.sw args) 0)).run 1
structure GtT(k:aQ)(X:XT)(E:Tab)(a:Ann)(args:List SkV)(sk:j6)(m:Nat)(code:Code)(l:List (Nat×Sig)) where
 F:Cs (std 0) l->iR (SkV.sw args)->(iR sk.tys->Prop)->Prop
 h:∀C,RuT X E (std 0) (NI code) a args sk m code (csl (std 0) l C) (F C)
def gmT{k:aQ}{X:XT}{E:Tab}{a:Ann}{args:List SkV}{sk:j6}{m:Nat}{code:Code}{l:List (Nat×Sig)}{F:(A:Alg)->Cs A l->Tup A.aC (SkV.sw args)->A.M (Tup A.aC sk.tys)}
 (_g:∀A (P:∀ {α β:Type},α×β->α) (Q:∀ {α β:Type},α×β->β) (U:Unit), @P= @Prod.fst-> @Q= @Prod.snd->U=()->∀C x,Hx (den A (λn=>A.lit (Nat.cast n)) (λn=>A.lit (-(Nat.cast n))) A.st P Q U l C (aiY k X a args sk m code l) (.t sk.tys) 1 [⟨SkV.sw args,x⟩]) (F A C x):=by
  intro A P Q U hP hQ hU C x;generalize hL:(λn:Nat=>A.lit (Nat.cast n))=L;generalize hZ:(λn:Nat=>A.lit (-(Nat.cast n)))=Z
  conv=>arg 1;arg 10;reduce
  conv=>arg 1;reduce
  subst hL hZ hP hQ hU
  try dsimp only [nz]
  exact .r _)
 (h:∀A C,RuT X E A (NI code) a args sk m code (csl A l C) (F A C):=by intro _ _ _;kernel_rfl):GtT k X E a args sk m code l:=⟨F (std 0),h (std 0)⟩
end Go.TX
namespace Go.TX.Seat
open Go Go.AE Go.TX Go.Proofs
set_option maxRecDepth 100000
abbrev z0:Cell:= .d true (.int .i64 0)
abbrev z1:Cell:= .d true (.bool false)
abbrev u0:TY:=⟨(.int .i64),1,8,[z0]⟩
abbrev u1:TY:=⟨(.int .u8),1,1,[.d true (.int .u8 0)]⟩
abbrev u2:TY:=⟨(.struct [(0,2),(1,3),(2,4),(3,6)]),4,24,[z0,z0,z1,.d true (.int .u8 0)]⟩
abbrev u3:TY:=⟨.str,1,16,[.d true (.str ⟨#[]⟩)]⟩
abbrev u4:TY:=⟨(.int .u64),1,8,[.d true (.int .u64 0)]⟩
abbrev u5:TY:=⟨(.struct [(0,9),(1,12)]),2,24,[.d true (.str ⟨#[]⟩),.d true (.int .u64 0)]⟩
abbrev u6:TY:=⟨.scalar,1,8,[.np]⟩
abbrev u7:TY:=⟨(.int .i32),1,4,[.d true (.int .i32 0)]⟩
abbrev u8:TY:=⟨(.struct [(0,3),(1,3),(2,45),(3,3),(4,3),(5,3),(6,3)]),7,72,[z0,z0,.nil,z0,z0,z0,z0]⟩
abbrev u9:TY:=⟨(.struct [(0,49),(1,50),(2,3),(3,35),(4,35),(5,3)]),6,112,[.nil,.nil,z0,.nil,.nil,z0]⟩
abbrev u10:TY:=⟨(.struct [(0,3),(1,3),(2,55),(3,3),(4,3),(5,3),(6,3)]),7,72,[z0,z0,.nil,z0,z0,z0,z0]⟩
abbrev u11:TY:=⟨(.struct [(0,3),(1,3),(2,35),(3,35)]),4,64,[z0,z0,.nil,.nil]⟩
abbrev u12:TY:=⟨(.struct [(0,3),(1,3),(2,3),(3,3),(4,3)]),5,40,[z0,z0,z0,z0,z0]⟩
abbrev u13:TY:=⟨(.struct [(0,3),(1,3),(2,35),(3,35),(4,50)]),5,88,[z0,z0,.nil,.nil,.nil]⟩
abbrev u14:TY:=⟨(.struct [(0,32),(1,4)]),2,32,[.nil,z1]⟩
abbrev u15:TY:=⟨(.struct [(0,3),(1,3),(2,27),(3,27)]),4,64,[z0,z0,.nil,.nil]⟩
abbrev u16:TY:=⟨(.struct [(0,3),(1,124)]),2,32,[z0,.nil]⟩
abbrev u17:TY:=⟨(.struct [(0,17),(1,17),(2,17),(3,9)]),4,40,[.np,.np,.np,.d true (.str ⟨#[]⟩)]⟩
def ty:TypeId->Option TY
 | 2=>some u0
 | 3=>some u0
 | 4=>some ⟨.bool,1,1,[z1]⟩
 | 5=>some u1
 | 6=>some u1
 | 7=>some u2
 | 8=>some u2
 | 9=>some u3
 | 10=>some u3
 | 11=>some u3
 | 12=>some u4
 | 13=>some u5
 | 14=>some u5
 | 15=>some u6
 | 16=>some u6
 | 17=>some u6
 | 18=>some ⟨(.struct [(0,17)]),1,8,[.np]⟩
 | 19=>some ⟨(.struct [(0,17)]),1,8,[.np]⟩
 | 21=>some u7
 | 22=>some ⟨(.slice 122),1,24,[.nil]⟩
 | 23=>some ⟨(.struct [(0,22)]),1,24,[.nil]⟩
 | 24=>some ⟨(.struct [(0,22)]),1,24,[.nil]⟩
 | 25=>some ⟨(.slice 126),1,24,[.nil]⟩
 | 26=>some ⟨(.struct [(0,25)]),1,24,[.nil]⟩
 | 27=>some ⟨(.struct [(0,25)]),1,24,[.nil]⟩
 | 30=>some ⟨(.slice 90),1,24,[.nil]⟩
 | 31=>some ⟨(.struct [(0,30)]),1,24,[.nil]⟩
 | 32=>some ⟨(.struct [(0,30)]),1,24,[.nil]⟩
 | 33=>some ⟨(.slice 134),1,24,[.nil]⟩
 | 34=>some ⟨(.struct [(0,33)]),1,24,[.nil]⟩
 | 35=>some ⟨(.struct [(0,33)]),1,24,[.nil]⟩
 | 45=>some ⟨(.slice 150),1,24,[.nil]⟩
 | 46=>some u8
 | 47=>some u8
 | 49=>some ⟨(.slice 97),1,24,[.nil]⟩
 | 50=>some ⟨(.slice 35),1,24,[.nil]⟩
 | 51=>some u9
 | 52=>some u9
 | 55=>some ⟨(.slice 93),1,24,[.nil]⟩
 | 56=>some u10
 | 57=>some u10
 | 89=>some u11
 | 90=>some u11
 | 92=>some u12
 | 93=>some u12
 | 96=>some u13
 | 97=>some u13
 | 104=>some u6
 | 105=>some u14
 | 106=>some u14
 | 121=>some u15
 | 122=>some u15
 | 124=>some ⟨(.slice 3),1,24,[.nil]⟩
 | 125=>some u16
 | 126=>some u16
 | 134=>some u16
 | 150=>some u12
 | 177=>some ⟨(.slice 33),1,24,[.nil]⟩
 | 179=>some ⟨(.slice 124),1,24,[.nil]⟩
 | 183=>some u4
 | 186=>some u0
 | 193=>some ⟨(.int .u32),1,4,[.d true (.int .u32 0)]⟩
 | 195=>some u4
 | 198=>some u4
 | 202=>some u6
 | 204=>some u6
 | 208=>some u17
 | 209=>some u17
 | 214=>some u1
 | 215=>some u1
 | 217=>some u6
 | 218=>some u7
 | 219=>some u7
 | _=>none
def yA{P:Program}{t:TypeId}{y:TY}(i:TypeInfo)(d:JE P t y.desc)(h:P.info? t=some i:=by kernel_rfl)(s:i.size=y.size:=by rfl)(b:i.bytes=y.bytes:=by rfl)
 (z:∃z,i.zero=some z/\zcs z.cells.toList=some y.zero:=by exact⟨_,rfl,rfl⟩) (l:y.zero.length=y.size:=by rfl):V5 P t y:=⟨⟨i,h,s,b,z.elim λx h=>⟨x,h.1,λ_ _=>SE h.2⟩⟩,d,l⟩
def yS{P:Program}{t:TypeId}{y:TY}{F:Array Field}(i:TypeInfo)(u:P.underlying t=some (.struct F))(e:y.desc= .struct (F.toList.map λf=>(f.offset,f.type)):=by rfl)(h:P.info? t=some i:=by kernel_rfl)(s:i.size=y.size:=by rfl)(b:i.bytes=y.bytes:=by rfl)
 (z:∃z,i.zero=some z/\zcs z.cells.toList=some y.zero:=by exact⟨_,rfl,rfl⟩) (l:y.zero.length=y.size:=by rfl):V5 P t y:=yA i (by rw [e];exact⟨F,u,rfl⟩) h s b z l
def yP{P:Program}{t:TypeId}{y:TY}{e:TypeId}(i:TypeInfo)(u:P.underlying t=some (.pointer e))(e:y.desc= .scalar:=by rfl)(h:P.info? t=some i:=by kernel_rfl)(s:i.size=y.size:=by rfl)(b:i.bytes=y.bytes:=by rfl)
 (z:∃z,i.zero=some z/\zcs z.cells.toList=some y.zero:=by exact⟨_,rfl,rfl⟩) (l:y.zero.length=y.size:=by rfl):V5 P t y:=yA i (by rw [e];exact⟨_,u,(λ_ h=>by cases h),(λ_ _ h=>by cases h)⟩) h s b z l
def alT:∀t y,ty t=some y->V5 Tryz.prog t y:=by
 intro t y h;unfold ty at h;split at h<;>cases h
 .exact yA Tryz.t2 Tryz.underlying2
 .exact yA Tryz.t3 Tryz.underlying3
 .exact yA Tryz.t4 Tryz.underlying4
 .exact yA Tryz.t5 Tryz.underlying5
 .exact yA Tryz.t6 Tryz.underlying6
 .exact yS Tryz.t7 Tryz.underlying7
 .exact yS Tryz.t8 Tryz.underlying8
 .exact yA Tryz.t9 Tryz.underlying9
 .exact yA Tryz.t10 Tryz.underlying10
 .exact yA Tryz.t11 Tryz.underlying11
 .exact yA Tryz.t12 Tryz.underlying12
 .exact yS Tryz.t13 Tryz.underlying13
 .exact yS Tryz.t14 Tryz.underlying14
 .exact yP Tryz.t15 Tryz.underlying15
 .exact yP Tryz.t16 Tryz.underlying16
 .exact yP Tryz.t17 Tryz.underlying17
 .exact yS Tryz.t18 Tryz.underlying18
 .exact yS Tryz.t19 Tryz.underlying19
 .exact yA Tryz.t21 Tryz.underlying21
 .exact yA Tryz.t22 Tryz.underlying22
 .exact yS Tryz.t23 Tryz.underlying23
 .exact yS Tryz.t24 Tryz.underlying24
 .exact yA Tryz.t25 Tryz.underlying25
 .exact yS Tryz.t26 Tryz.underlying26
 .exact yS Tryz.t27 Tryz.underlying27
 .exact yA Tryz.t30 Tryz.underlying30
 .exact yS Tryz.t31 Tryz.underlying31
 .exact yS Tryz.t32 Tryz.underlying32
 .exact yA Tryz.t33 Tryz.underlying33
 .exact yS Tryz.t34 Tryz.underlying34
 .exact yS Tryz.t35 Tryz.underlying35
 .exact yA Tryz.t45 Tryz.underlying45
 .exact yS Tryz.t46 Tryz.underlying46
 .exact yS Tryz.t47 Tryz.underlying47
 .exact yA Tryz.t49 Tryz.underlying49
 .exact yA Tryz.t50 Tryz.underlying50
 .exact yS Tryz.t51 Tryz.underlying51
 .exact yS Tryz.t52 Tryz.underlying52
 .exact yA Tryz.t55 Tryz.underlying55
 .exact yS Tryz.t56 Tryz.underlying56
 .exact yS Tryz.t57 Tryz.underlying57
 .exact yS Tryz.t89 Tryz.underlying89
 .exact yS Tryz.t90 Tryz.underlying90
 .exact yS Tryz.t92 Tryz.underlying92
 .exact yS Tryz.t93 Tryz.underlying93
 .exact yS Tryz.t96 Tryz.underlying96
 .exact yS Tryz.t97 Tryz.underlying97
 .exact yP Tryz.t104 Tryz.underlying104
 .exact yS Tryz.t105 Tryz.underlying105
 .exact yS Tryz.t106 Tryz.underlying106
 .exact yS Tryz.t121 Tryz.underlying121
 .exact yS Tryz.t122 Tryz.underlying122
 .exact yA Tryz.t124 Tryz.underlying124
 .exact yS Tryz.t125 Tryz.underlying125
 .exact yS Tryz.t126 Tryz.underlying126
 .exact yS Tryz.t134 Tryz.underlying134
 .exact yS Tryz.t150 Tryz.underlying150
 .exact yA Tryz.t177 Tryz.underlying177
 .exact yA Tryz.t179 Tryz.underlying179
 .exact yA Tryz.t183 Tryz.underlying183
 .exact yA Tryz.t186 Tryz.underlying186
 .exact yA Tryz.t193 Tryz.underlying193
 .exact yA Tryz.t195 Tryz.underlying195
 .exact yA Tryz.t198 Tryz.underlying198
 .exact yP Tryz.t202 Tryz.underlying202
 .exact yP Tryz.t204 Tryz.underlying204
 .exact yS Tryz.t208 Tryz.underlying208
 .exact yS Tryz.t209 Tryz.underlying209
 .exact yA Tryz.t214 Tryz.underlying214
 .exact yA Tryz.t215 Tryz.underlying215
 .exact yP Tryz.t217 Tryz.underlying217
 .exact yA Tryz.t218 Tryz.underlying218
 .exact yA Tryz.t219 Tryz.underlying219
def co:TypeId->Option Co
 | 3=>some .i64
 | 4=>some .bool
 | 5=>some .u8
 | 9=>some .str
 | 24=>some .tab
 | 27=>some .poly
 | 32=>some .tab
 | 33=>some .poly
 | 35=>some .poly
 | 47=>some .blk
 | 52=>some .sym
 | 57=>some .blk
 | 90=>some .atom
 | 93=>some .iop
 | 97=>some .ev
 | 122=>some .atom
 | 124=>some .ints
 | 126=>some .mono
 | 134=>some .mono
 | 150=>some .iop
 | _=>none
def ieq:TypeId->Option Co
 | 93=>some .iop
 | 150=>some .iop
 | _=>none
def X:XT:={ty:=ty,co:=co,glob:=λg=>none,ieq:=ieq}
noncomputable def E:Tab:={P:=Tryz.prog,ty:=ty,glob:=λg=>none,ieq:=λt=>(ieq t).map λc=>c.size}
end Go.TX.Seat
namespace Go.TX.F
open Go Go.AE Go.TX
set_option maxRecDepth 100000
abbrev Uf:Sig:=⟨[.r false .i64,.i],[],[.i],[]⟩
abbrev adK:Sig:=⟨[.sv false .mono,.i],[],[.i],[]⟩
abbrev FU:Sig:=⟨[.r false .mono,.i],[],[.i],[]⟩
abbrev Ug:Sig:=⟨[.sv false .poly,.i],[],[.i],[]⟩
abbrev adL:Sig:=⟨[.sv false .atom,.i],[],[.i],[]⟩
abbrev Uh:Sig:=⟨[.r false .atom,.i],[],[.i],[]⟩
abbrev adM:Sig:=⟨[.sv false .tab,.i],[],[.i],[]⟩
abbrev iy:Sig:=⟨[.i,.i,.i],[],[.b],[]⟩
abbrev KT:Sig:=⟨[.sv false .mono],[],[.b],[]⟩
abbrev qp:Sig:=⟨[.r false .i64,.r false .i64],[],[.i],[]⟩
abbrev mR:Sig:=⟨[.sv false .poly],[],[.b],[]⟩
abbrev FV:Sig:=⟨[.sv false .poly,.i],[],[.b],[]⟩
abbrev Ya:Sig:=⟨[.sv false .atom],[],[.b],[]⟩
abbrev BU:Sig:=⟨[.sv false .atom,.i],[],[.b],[]⟩
abbrev wh:Sig:=⟨[.sv false .poly,.sv false .poly],[],[.i],[]⟩
abbrev yO:Sig:=⟨[.sv false .atom,.sv false .atom],[],[.b],[]⟩
abbrev KU:Sig:=⟨[.sv false .tab],[],[.b],[]⟩
abbrev rH:Sig:=⟨[.r false .mono],[],[.agg [.own 0]],[.rows true .mono]⟩
abbrev Qk:Sig:=⟨[.sv false .atom],[],[.agg [.i,.i,.own 0,.own 1]],[.rows true .mono,.rows true .mono]⟩
abbrev KV:Sig:=⟨[.agg [.own 0],.sv false .atom],[.rows true .atom],[.agg [.own 1],.i],[.gone,.rows true .atom]⟩
abbrev lS:Sig:=⟨[.i],[],[.agg [.own 0]],[.rows true .mono]⟩
abbrev uf:Sig:=⟨[.i],[],[.i],[]⟩
abbrev Ql:Sig:=⟨[.r false .mono,.sv false .mono],[],[.o 0],[.rows false .mono]⟩
abbrev Qm:Sig:=⟨[.r false .mono],[],[.agg [.own 0],.b],[.rows true .mono]⟩
abbrev ug:Sig:=⟨[.sv false .poly,.sv false .poly],[],[.agg [.own 0],.b],[.rows true .mono]⟩
abbrev iI:Sig:=⟨[.i],[],[.b],[]⟩
abbrev KW:Sig:=⟨[.sv false .poly,.i],[],[.agg [.own 0]],[.rows true .mono]⟩
abbrev Yb:Sig:=⟨[.r false .i64,.r false .i64],[],[.o 0],[.e]⟩
abbrev KY:Sig:=⟨[.i,.sv false .poly,.sv false .poly],[],[.agg [.own 0],.b],[.rows true .mono]⟩
abbrev BX:Sig:=⟨[.sv false .poly],[],[.i,.b],[]⟩
abbrev KZ:Sig:=⟨[.i,.i,.i],[],[.i],[]⟩
abbrev Yc:Sig:=⟨[.i,.i,.sv false .poly],[],[.agg [.own 0],.b],[.rows true .mono]⟩
abbrev Yd:Sig:=⟨[.agg [.own 0],.i,.sv false .poly,.sv false .poly],[.rows true .atom],[.agg [.own 1],.agg [.own 2]],[.gone,.rows true .atom,.rows true .mono]⟩
abbrev Ye:Sig:=⟨[.sv false .tab],[],[.agg [.own 0]],[.rows true .atom]⟩
abbrev adN:Sig:=⟨[.r false .i64],[],[.o 0],[.e]⟩
abbrev adO:Sig:=⟨[.i,.p 0 1],[.box (.i)],[.b],[.box (.i)]⟩
abbrev Yf:Sig:=⟨[.r false .i64,.c (.fn 100 [(0,1)])],[.box (.i)],[.i],[.box (.i)]⟩
abbrev adP:Sig:=⟨[.r false .i64,.c (.fn 100 [(0,1)])],[.box (.i)],[.b],[.box (.i)]⟩
abbrev acK:Sig:=⟨[.i,.i],[],[.b],[]⟩
abbrev Yg:Sig:=⟨[.r false .i64],[],[.b],[]⟩
abbrev afL:Sig:=⟨[.r false .i64],[],[.i],[]⟩
abbrev acL:Sig:=⟨[.i,.i],[],[.i],[]⟩
abbrev Yh:Sig:=⟨[.r false .mono,.c (.fn 98 [])],[],[.i],[]⟩
abbrev adQ:Sig:=⟨[.r false .mono,.c (.fn 98 [])],[],[.b],[]⟩
abbrev Dc:Sig:=⟨[.sv false .poly,.sv false .poly],[],[.b],[]⟩
abbrev adR:Sig:=⟨[.sv false .atom,.p 0 4],[.s false .atom],[.b],[.s false .atom]⟩
abbrev Yi:Sig:=⟨[.r false .atom,.c (.fn 137 [(0,4)])],[.s false .atom],[.i],[.s false .atom]⟩
abbrev Yj:Sig:=⟨[.sv false .tab,.sv false .atom],[],[.i],[]⟩
abbrev Yk:Sig:=⟨[.sv false .mono,.sv false .mono],[],[.i],[]⟩
abbrev Yl:Sig:=⟨[.o 0,.i,.i,.c (.fn 169 [])],[.rows false .mono],[],[.rows false .mono]⟩
abbrev yQ:Sig:=⟨[.o 0,.i,.i,.i,.c (.fn 169 [])],[.rows false .mono],[],[.rows false .mono]⟩
abbrev Qn:Sig:=⟨[.o 0,.i,.i,.i,.c (.fn 169 [])],[.rows false .mono],[],[.rows false .mono]⟩
abbrev Ym:Sig:=⟨[.o 0,.i,.c (.fn 169 [])],[.rows false .mono],[],[.rows false .mono]⟩
abbrev Yn:Sig:=⟨[.o 0,.c (.fn 169 [])],[.rows false .mono],[],[.rows false .mono]⟩
abbrev Yo:Sig:=⟨[.o 0],[.rows false .mono],[.agg [.own 1],.b],[.rows false .mono,.rows true .mono]⟩
abbrev Yp:Sig:=⟨[.c (.nil),.i],[],[.o 0],[.rows true .mono]⟩
abbrev adS:Sig:=⟨[.r false .poly],[],[.o 0],[.rows false .mono]⟩
abbrev Yq:Sig:=⟨[.c (.nil),.i],[],[.o 0],[.e]⟩
abbrev adT:Sig:=⟨[.r false .ints],[],[.o 0],[.e]⟩
abbrev FW:Sig:=⟨[.o 0,.i,.i],[.e],[],[.e]⟩
abbrev Yr:Sig:=⟨[.o 0,.i,.i],[.e],[],[.e]⟩
abbrev Yt:Sig:=⟨[.o 0,.i,.i],[.e],[],[.e]⟩
abbrev Qo:Sig:=⟨[.o 0,.i,.i],[.e],[.i,.i],[.e]⟩
abbrev Yu:Sig:=⟨[.o 0,.i,.i],[.e],[],[.e]⟩
abbrev Qp:Sig:=⟨[.o 0,.i,.i],[.e],[.b],[.e]⟩
abbrev Qq:Sig:=⟨[.o 0,.i,.i,.i],[.e],[.i],[.e]⟩
abbrev Qr:Sig:=⟨[.o 0,.i,.i,.i],[.e],[.i,.b],[.e]⟩
abbrev FX:Sig:=⟨[.o 0,.i,.i,.i],[.e],[],[.e]⟩
abbrev adU:Sig:=⟨[.c (.int .u64)],[],[.i],[]⟩
abbrev Yv:Sig:=⟨[.o 0],[.e],[],[.e]⟩
abbrev adV:Sig:=⟨[.i,.sv true .poly,.sv true .poly],[],[.sv true .poly,.b],[]⟩
abbrev adW:Sig:=⟨[.r true .atom],[],[.c (.clip true .atom)],[]⟩
abbrev Yw:Sig:=⟨[.sv true .tab,.sv true .atom],[],[.sv true .tab,.i],[]⟩
abbrev adX:Sig:=⟨[.sv true .tab,.i,.sv true .poly,.sv true .poly],[],[.sv true .tab,.sv true .poly,.b],[]⟩
abbrev adY:Sig:=⟨[.r false .i64,.r false .i64],[],[.b],[]⟩
abbrev adZ:Sig:=⟨[.sv false .mono,.sv false .mono],[],[.b],[]⟩
abbrev ad1:Sig:=⟨[.r false .mono,.r false .mono],[],[.b],[]⟩
abbrev ad2:Sig:=⟨[.r false .atom,.r false .atom],[],[.b],[]⟩
abbrev aiZ:Sig:=⟨[.sv false .tab,.sv false .tab],[],[.b],[]⟩
abbrev ad3:Sig:=⟨[.r false .iop,.i],[],[.i],[]⟩
abbrev ai0:Sig:=⟨[.sv false .blk,.i],[],[.i],[]⟩
abbrev FY:Sig:=⟨[.r false .iop,.i,.i],[],[.b],[]⟩
abbrev wm:Sig:=⟨[.sv false .blk],[],[.b],[]⟩
abbrev Yx:Sig:=⟨[],[],[.agg [.own 0],.o 1],[.rows true .atom,.rows true .poly]⟩
abbrev Yy:Sig:=⟨[.o 0,.i],[.rows false .poly],[.sv false .poly],[.rows false .poly]⟩
abbrev K4:Sig:=⟨[.r false .ev,.i],[],[.i],[]⟩
abbrev Yz:Sig:=⟨[.agg [.own 0],.r false .ev,.i],[.rows true .atom],[.agg [.own 1],.agg [.own 2]],[.gone,.rows true .atom,.rows true .mono]⟩
abbrev K6:Sig:=⟨[.r false .poly],[],[.o 0],[.rows true .poly]⟩
abbrev YA:Sig:=⟨[.sv false .iop,.sv false .poly,.sv false .poly,.r false .poly],[],[.agg [.i,.i,.own 0,.own 1,.own 2]],[.rows true .mono,.rows true .mono,.rows true .poly]⟩
abbrev K7:Sig:=⟨[.sv false .blk],[],[.i],[]⟩
abbrev Qs:Sig:=⟨[.sv false .sym,.i],[],[.agg [.rows false .ev,.rows false .poly,.i,.nil,.nil,.i]],[]⟩
abbrev K8:Sig:=⟨[.sv false .sym,.i],[],[.sv false .sym],[]⟩
abbrev afM:Sig:=⟨[.sv false .tab,.sv false .blk],[],[.sv false .tab,.sv false .sym],[]⟩
abbrev YB:Sig:=⟨[.sv false .iop],[],[.b,.b,.b,.b],[]⟩
abbrev Ui:Sig:=⟨[.sv false .iop],[],[.b],[]⟩
abbrev afN:Sig:=⟨[.sv false .blk,.i,.i],[],[.b],[]⟩
abbrev ai1:Sig:=⟨[.sv false .blk,.i],[],[.b],[]⟩
abbrev afO:Sig:=⟨[.sv false .blk],[],[.b,.b,.b],[]⟩
abbrev YC:Sig:=⟨[.p 0 2,.i,.i],[.g [.rows true .atom,.bool]],[.sv true .poly],[.g [.rows true .atom,.bool]]⟩
abbrev ad4:Sig:=⟨[.p 0 2],[.g [.rows true .atom,.bool]],[.o 1],[.g [.rows true .atom,.bool],.rows true .poly]⟩
abbrev ad5:Sig:=⟨[.o 0],[.rows true .poly],[.o 1],[.rows true .poly,.rows true .poly]⟩
abbrev YD:Sig:=⟨[.r false .poly,.r false .poly],[],[.b],[]⟩
abbrev ad6:Sig:=⟨[.sv false .ev,.sv false .ev],[],[.b],[]⟩
abbrev ad7:Sig:=⟨[.r false .ev,.r false .ev],[],[.b],[]⟩
abbrev ai2:Sig:=⟨[.sv false .sym,.sv false .sym],[],[.b],[]⟩
abbrev ad8:Sig:=⟨[.sv false .iop,.sv false .iop],[],[.b],[]⟩
abbrev ad9:Sig:=⟨[.r false .iop,.r false .iop],[],[.b],[]⟩
abbrev ai3:Sig:=⟨[.sv false .blk,.sv false .blk],[],[.b],[]⟩
abbrev YE:Sig:=⟨[.r false .poly,.i],[],[.i],[]⟩
abbrev ai4:Sig:=⟨[.sv false .sym,.i],[],[.i],[]⟩
abbrev qq2:List SkC:=[.nil,.nil,.i,.nil,.nil,.i]
abbrev NU:List SkC:=[.rows true .atom,.bool]
abbrev qq0:j6:=⟨[(3,.p 0 7),(4,.p 1 1),(5,.p 2 6),(6,.p 3 2),(7,.p 4 6),(8,.o 5),(9,.i),(10,.i),(57,.r false .iop),(58,.i),(59,.i)],[.s false .blk,.g [.nil],.g qq2,.g NU,.g [.own 6,.own 7,.i,.nil,.nil,.i],.rows true .poly,.rows true .ev,.rows true .poly]⟩
abbrev qq1:List SkO:=[.g qq2,.g [.own 2,.own 3,.i,.own 4,.own 5,.i],.rows true .ev,.rows true .poly,.rows true .mono,.rows true .mono]
abbrev qq3:j6:=⟨[(3,.p 0 7),(4,.p 1 1),(5,.p 2 6),(6,.p 3 2),(7,.p 4 6),(8,.o 5),(9,.i),(10,.i),(11,.i),(12,.p 6 5),(17,.p 7 1),(18,.p 8 1),(57,.r false .iop),(58,.i),(59,.i)],[.s false .blk,.g [.nil],.g qq2,.g NU,.g [.own 9,.own 10,.i,.nil,.nil,.i],.rows true .poly,.s false .iop,.s true .poly,.s true .poly,.rows true .ev,.rows true .poly]⟩
abbrev qq4:Ann:=(.cond .u .u)
abbrev qq5:List SkO:=[.rows false .mono]
abbrev qq6:j6:=⟨[(3,.p 0 7),(4,.p 1 1),(5,.p 2 6),(6,.p 3 1),(7,.p 4 6),(9,.o 5),(13,.o 6),(14,.i),(18,.p 7 1)],[.s false .blk,.g [.nil],.g qq2,.g [.own 8],.g [.own 9,.nil,.i,.nil,.nil,.i],.rows false .poly,.rows false .poly,.g [.own 10],.rows true .atom,.rows true .ev,.rows true .mono]⟩
abbrev qq7:j6:=⟨[(3,.p 0 7),(4,.p 1 1),(5,.p 2 6),(6,.p 3 1),(7,.p 4 6),(9,.o 5),(13,.o 6),(14,.i),(18,.p 7 1)],[.s false .blk,.g [.nil],.g qq2,.g [.own 8],.g [.own 9,.nil,.i,.nil,.nil,.i],.rows false .poly,.rows false .poly,.s false .poly,.rows true .atom,.rows true .ev]⟩
abbrev qq8:j6:=⟨[(0,.r false .mono),(3,.p 0 2),(5,.o 1),(6,.b),(7,.i)],[.s false .mono,.rows false .mono]⟩
abbrev qq9:j6:=⟨[(2,.p 0 1),(3,.p 1 1),(4,.p 2 1),(6,.o 3),(7,.i),(8,.i)],[.s false .poly,.s false .poly,.g [.nil],.rows false .mono]⟩
abbrev afP:j6:=⟨[(0,.o 0),(1,.i),(2,.i),(3,.i),(8,.b),(9,.b)],[.e]⟩
abbrev alU:j6:=⟨[(4,.p 0 6),(5,.p 1 6)],qq1⟩
abbrev ai5:j6:=⟨[(0,.o 0),(1,.i),(2,.i),(3,.i),(4,.c (.fn 169 [])),(18,.i),(19,.i),(20,.i),(21,.i),(22,.i)],qq5⟩
abbrev ai6:j6:=⟨[(0,.o 0),(2,.p 1 1),(4,.p 2 1),(5,.i)],[.rows false .mono,.g [.nil],.g [.own 3],.rows true .mono]⟩
abbrev ai7:j6:=⟨[(1,.i),(2,.p 0 1),(4,.p 1 1),(5,.o 2),(6,.i)],[.s false .poly,.g [.nil],.rows false .mono]⟩
abbrev ai8:Ann:=(.v (.v (.seq (.v (.block (.loop ⟨[(0,.r false .i64),(1,.r false .i64),(5,.i)],[]⟩ .u))) .u)))
abbrev ai9:Ann:=(.block (.loop ⟨[(0,.o 0),(1,.i),(2,.c (.fn 169 [])),(6,.i),(7,.i),(8,.i)],qq5⟩ .u))
abbrev aja:Ann:=(.v (.seq (.v (.block (.loop ⟨[(0,.r false .mono),(1,.i),(5,.i)],[]⟩ .u))) .u))
abbrev ajb:Ann:=(.v (.seq (.v (.block (.loop ⟨[(0,.r false .atom),(1,.i),(5,.i)],[]⟩ .u))) .u))
abbrev ajc:j6:=⟨[(0,.r false .i64),(1,.r false .i64),(5,.o 0),(6,.i),(7,.i)],[.e]⟩
abbrev ajd:j6:=⟨[(0,.o 0),(2,.i),(4,.c (.fn 169 [])),(14,.i),(15,.i)],qq5⟩
abbrev aje:j6:=⟨[(0,.o 0),(2,.i),(4,.c (.fn 169 [])),(10,.i),(11,.i)],qq5⟩
abbrev ajf:j6:=⟨[(0,.o 0),(1,.i),(4,.c (.fn 169 [])),(10,.i),(11,.i)],qq5⟩
abbrev ajg:j6:=⟨[(0,.o 0),(1,.i),(2,.c (.fn 169 [])),(6,.i)],qq5⟩
abbrev ajh:j6:=⟨[(0,.r false .ev),(1,.i),(5,.i),(6,.i)],[]⟩
end Go.TX.F
noncomputable section
namespace Go.TX.F
open Go Go.AE Go.TX Go.TX.Seat Go.Proofs
set_option maxRecDepth 100000
set_option maxHeartbeats 4000000
def YF:Gt aQ.z X E .u Uf Tryz.f125 []:=gm
def YG:Gt aQ.z X E .u adK Tryz.f81 [(125,Uf)]:=gm
def YH:Gt aQ.z X E (.v (.v aja)) FU Tryz.f27 [(81,adK)]:=gm
def YI:Gt aQ.z X E .u Ug Tryz.f6 [(27,FU)]:=gm
def YJ:Gt aQ.z X E .u adL Tryz.f80 [(6,Ug)]:=gm
def YK:Gt aQ.z X E (.v (.v ajb)) Uh Tryz.f26 [(80,adL)]:=gm
def YL:Gt aQ.z X E .u adM Tryz.f5 [(26,Uh)]:=gm
def Qt:Gt aQ.z X E .u iy Tryz.f29 []:=gm
def Qu:Gt aQ.z X E (.v (.v (.seq (.v (.block (.loop ⟨[(1,.p 0 2),(3,.i)],[.s false .mono]⟩ .u))) .u))) KT Tryz.f127 [(29,iy)]:=gm
def Qv:Gt aQ.z X E ai8 qp Tryz.f128 []:=gm
def Qw:Gt aQ.z X E (.v (.v (.seq (.v (.block (.loop ⟨[(1,.p 0 1),(3,.i)],[.s false .poly]⟩ .u))) .u))) mR Tryz.f84 [(127,KT),(128,qp)]:=gm
def Qx:Gt aQ.z X E (.v (.seq (.v (.block (.loop ⟨[(1,.i),(2,.p 0 1),(5,.i)],[.s false .poly]⟩ (.v (.seq (.block (.v (.block (.loop ⟨[(1,.i),(2,.p 0 1),(5,.i),(6,.i)],[.s false .poly]⟩ .u)))) .u))))) .u)) FV Tryz.f85 []:=gm
def Qy:Gt aQ.z X E .u Ya Tryz.f126 []:=gm
def Qz:Gt aQ.z X E (.v (.seq (.v (.block (.v (.cond .u (.seq (.v (.cut ⟨[(1,.i),(2,.p 0 4),(6,.i),(16,.b)],[.s false .atom]⟩ qq4)) .u))))) .u)) BU Tryz.f82 [(29,iy),(84,mR),(85,FV),(126,Ya)]:=gm
def QA:Gt aQ.z X E (.v (.v (.seq (.v (.block (.loop ⟨[(2,.p 0 1),(3,.p 1 1),(5,.i)],[.s false .poly,.s false .poly]⟩ .u))) .u))) wh Tryz.f88 [(128,qp)]:=gm
def QB:Gt aQ.z X E .u yO Tryz.f83 [(88,wh)]:=gm
def QC:Gt aQ.z X E (.v (.v (.seq (.v (.block (.loop ⟨[(1,.p 0 1),(3,.i)],[.s false .tab]⟩ (.v (.seq (.block (.v (.v (.block (.loop ⟨[(1,.p 0 1),(3,.i),(4,.i)],[.s false .tab]⟩ .u))))) .u))))) .u))) KU Tryz.f28 [(82,BU),(83,yO)]:=gm
def QD:Gt ⟨[26],[]⟩ X E (.v (.v (.seq (.v (.block (.loop ⟨[(0,.r false .mono),(2,.p 0 1),(3,.p 1 1),(4,.i)],[.g [.nil],.g [.own 2],.rows true .mono]⟩ .u))) .u))) rH Tryz.f58 []:=gm
def QE:Gt aQ.z X E .u Qk Tryz.f89 [(58,rH)]:=gm
def QF:Gt ⟨[38],[]⟩ X E (.v (.v (.seq (.v (.block (.loop ⟨[(2,.p 1 1),(3,.p 2 4),(4,.p 3 1),(6,.i)],[.rows true .atom,.g [.own 0],.s false .atom,.g [.nil]]⟩ .u))) .u))) KV Tryz.f51 [(82,BU),(83,yO),(89,Qk)]:=gm
def QG:Gt aQ.z X E .u lS Tryz.f52 [(29,iy)]:=gm
def QH:Gt aQ.z X E (.v (.v (.seq (.v (.cut ⟨[(3,.i)],[]⟩ qq4)) .u))) uf Tryz.f158 []:=gm
def QI:Gt aQ.z X E (.v (.v (.v (.seq (.v (.block (.loop qq8 (.v (.seq (.block (.v (.seq (.v (.cut ⟨[(0,.r false .mono),(3,.p 0 2),(5,.o 1),(6,.b),(7,.i),(8,.i)],[.s false .mono,.rows false .mono]⟩ qq4)) (.v (.cut qq8 (.cond (.v (.v (.v (.cut qq8 qq4)))) .u)))))) .u))))) (.seq (.v (.cut ⟨[(5,.o 0)],qq5⟩ qq4)) .u))))) Ql Tryz.f156 [(128,qp),(158,uf)]:=gm
def QJ:Gt aQ.z X E (.v (.v (.seq (.v (.block (.loop ⟨[(0,.r false .mono),(2,.p 0 1),(4,.i)],[.g [.nil]]⟩ .u))) .u))) Qm Tryz.f157 [(58,rH)]:=gm
def QK:Gt aQ.z X E (.v (.v (.v (.seq (.v (.block (.loop ⟨[(3,.p 0 1),(4,.p 1 1),(6,.r false .mono),(7,.i)],[.s false .poly,.g [.nil]]⟩ .u))) .u)))) ug Tryz.f129 [(84,mR),(156,Ql),(157,Qm)]:=gm
end Go.TX.F
end
noncomputable section
namespace Go.TX.F
open Go Go.AE Go.TX Go.TX.Seat Go.Proofs
set_option maxRecDepth 100000
set_option maxHeartbeats 4000000
def QL:Gt aQ.z X E .u iI Tryz.f151 []:=gm
def QM:Gt aQ.z X E (.v (.v (.v (.seq (.v (.block (.loop ai7 (.v (.seq (.block (.v (.v (.cut ai7 qq4)))) .u))))) .u)))) KW Tryz.f130 [(84,mR),(158,uf),(58,rH),(151,iI)]:=gm
def QN:Gt aQ.z X E (.v (.v (.v (.seq (.v (.block (.loop ajc (.v (.seq (.block (.seq (.block (.loop ajc .u)) .u)) .u))))) .u)))) Yb Tryz.f159 []:=gm
def QO:Gt aQ.z X E (.v (.v (.v (.seq (.v (.block (.loop ⟨[(2,.p 0 1),(3,.p 1 1),(4,.p 2 1),(6,.o 3),(7,.i)],[.s false .poly,.s false .poly,.g [.nil],.rows false .mono]⟩ (.v (.seq (.block (.v (.block (.loop qq9 (.v (.seq (.block (.v (.v (.cut qq9 qq4)))) .u)))))) .u))))) .u)))) ug Tryz.f131 [(84,mR),(158,uf),(156,Ql),(159,Yb),(157,Qm)]:=gm
def QS:Gt aQ.z X E .u KY Tryz.f86 [(131,ug),(129,ug),(130,KW)]:=gm
def QT:Gt aQ.z X E .u lS Tryz.f54 [(29,iy)]:=gm
def QU:Gt aQ.z X E .u BX Tryz.f113 [(84,mR)]:=gm
def QV:Gt aQ.z X E .u KZ Tryz.f132 [(158,uf),(151,iI)]:=gm
def QW:Gt aQ.z X E .u Yc Tryz.f133 [(58,rH)]:=gm
def QX:Gt aQ.z X E .u KY Tryz.f87 [(88,wh),(58,rH),(132,KZ),(54,lS),(113,BX),(133,Yc)]:=gm
def QY:Gt aQ.z X E (.v (.v (.seq (.v (.cut ⟨[(1,.i),(4,.p 1 1),(6,.p 2 1),(7,.p 3 1),(8,.p 4 1),(9,.p 5 1),(10,.p 6 1),(11,.b)],[.rows true .atom,.g [.own 0],.s false .poly,.s false .poly,.g [.nil],.g [.nil],.g [.own 7],.rows true .mono]⟩ qq4)) (.v (.v (.seq (.v (.cut ⟨[(4,.p 1 1),(8,.p 2 1),(9,.p 3 1),(12,.p 4 4)],[.rows true .atom,.g [.own 0],.g [.nil],.g [.nil],.g [.i,.i,.rows false .mono,.rows false .mono]]⟩ qq4)) .u)))))) Yd Tryz.f31 [(52,lS),(88,wh),(86,KY),(87,KY),(51,KV)]:=gm
def QZ:Gt ⟨[20],[]⟩ X E (.v (.v (.seq (.v (.block (.loop ⟨[(1,.p 0 1),(2,.p 1 1),(3,.p 2 1),(4,.i)],[.s false .tab,.g [.nil],.g [.own 3],.rows true .atom]⟩ .u))) .u))) Ye Tryz.f32 [(89,Qk)]:=gm
def YM:Gt aQ.z X E .u iy Tryz.f94 []:=gm
def YN:Gt aQ.z X E .u iI Tryz.f36 [(94,iy)]:=gm
def YO:Gt aQ.z X E .u adO Tryz.f100 []:=gm
def Q0:Gt aQ.z X E (.v (.seq (.v (.block (.loop ⟨[(0,.r false .i64),(1,.c (.fn 100 [(0,1)])),(7,.i),(8,.i)],[.box (.i)]⟩ .u))) .u)) Yf Tryz.f144 [(100,adO)]:=gm
def YP:Gt aQ.z X E .u adP Tryz.f99 [(144,Yf)]:=gm
def YQ:Gt aQ.z X E (.v (.seq (.v (.block (.loop ⟨[(3,.p 0 1),(8,.r false .mono),(9,.i),(10,.i)],[.box (.i)]⟩ .u))) .u)) FV Tryz.f38 [(99,adP)]:=gm
def afQ:Gt aQ.z X E .u iI Tryz.f160 []:=gm
def afR:Gt aQ.z X E .u acK Tryz.f139 [(160,iI)]:=gm
def Q5:Gt aQ.z X E (.v (.seq (.v (.block (.loop ⟨[(0,.r false .i64),(3,.i)],[]⟩ .u))) .u)) Yg Tryz.f95 [(139,acK)]:=gm
def afS:Gt aQ.z X E (.v (.v (.seq (.v (.block (.loop ⟨[(3,.i),(6,.r false .i64),(7,.i),(8,.i)],[]⟩ .u))) .u))) afL Tryz.f140 []:=gm
def afT:Gt aQ.z X E .u acL Tryz.f141 [(160,iI)]:=gm
def YR:Gt aQ.z X E (.v (.seq (.v (.block (.loop ⟨[(0,.r false .i64),(1,.r false .i64),(9,.r false .i64),(10,.i),(11,.i)],[]⟩ .u))) .u)) qp Tryz.f142 [(141,acL)]:=gm
def YS:Gt aQ.z X E .u qp Tryz.f96 [(140,afL),(141,acL),(142,qp)]:=gm
end Go.TX.F
end
noncomputable section
namespace Go.TX.F
open Go Go.AE Go.TX Go.TX.Seat Go.Proofs
set_option maxRecDepth 100000
set_option maxHeartbeats 4000000
def YT:Gt aQ.z X E .u KT Tryz.f98 []:=gm
def Q6:Gt aQ.z X E (.v (.seq (.v (.block (.loop ⟨[(0,.r false .mono),(1,.c (.fn 98 [])),(7,.i),(8,.i)],[]⟩ .u))) .u)) Yh Tryz.f143 [(98,KT)]:=gm
def YU:Gt aQ.z X E .u adQ Tryz.f97 [(143,Yh)]:=gm
def YV:Gt aQ.z X E (.v (.seq (.v (.block (.loop ⟨[(1,.p 0 1),(6,.r false .mono),(7,.i),(8,.i)],[.s false .poly]⟩ .u))) .u)) mR Tryz.f37 [(94,iy),(38,FV),(95,Yg),(96,qp),(97,adQ)]:=gm
def YW:Gt aQ.z X E .u iI Tryz.f135 [(94,iy)]:=gm
def YX:Gt aQ.z X E .u BU Tryz.f92 [(94,iy),(36,iI),(38,FV),(37,mR),(135,iI)]:=gm
def YZ:Gt aQ.z X E (.v (.v (.seq (.v (.block (.loop ⟨[(3,.p 0 1),(20,.r false .mono),(21,.i),(22,.i)],[.s false .poly]⟩ .u))) .u))) wh Tryz.f102 [(140,afL),(141,acL),(96,qp)]:=gm
def Y0:Gt aQ.z X E .u Dc Tryz.f121 [(102,wh)]:=gm
def Za:Gt aQ.z X E .u yO Tryz.f138 [(121,Dc)]:=gm
def Zb:Gt aQ.z X E .u adR Tryz.f137 [(138,yO)]:=gm
def Q7:Gt aQ.z X E (.v (.seq (.v (.block (.loop ⟨[(0,.r false .atom),(1,.c (.fn 137 [(0,4)])),(7,.i),(8,.i)],[.s false .atom]⟩ .u))) .u)) Yi Tryz.f136 [(137,adR)]:=gm
def Zc:Gt aQ.z X E .u Yj Tryz.f93 [(136,Yi)]:=gm
def Zd:Gt aQ.z X E (.v (.seq (.v (.block (.loop ⟨[(1,.p 0 1),(6,.r false .atom),(7,.i),(8,.i)],[.s false .tab]⟩ .u))) .u)) KU Tryz.f35 [(92,BU),(93,Yj)]:=gm
def Ze:Gt aQ.z X E .u lS Tryz.f68 [(94,iy)]:=gm
def Zf:Gt aQ.z X E .u BX Tryz.f120 [(37,mR)]:=gm
def Zg:Gt aQ.z X E .u adN Tryz.f105 []:=gm
def Zh:Gt aQ.z X E .u uf Tryz.f165 []:=gm
def Zi:Gt aQ.z X E .u Yk Tryz.f169 [(96,qp)]:=gm
def Q8:Gt aQ.z X E (.v (.block (.loop ⟨[(0,.o 0),(1,.i),(2,.i),(3,.c (.fn 169 [])),(8,.i)],qq5⟩ (.v (.seq (.block (.v (.block (.loop ⟨[(0,.o 0),(1,.i),(2,.i),(3,.c (.fn 169 [])),(8,.i),(9,.i)],qq5⟩ .u)))) .u))))) Yl Tryz.f185 [(169,Yk)]:=gm
def Q9:Gt aQ.z X E (.v (.block (.loop ⟨[(0,.o 0),(1,.i),(2,.i),(3,.i),(10,.i)],qq5⟩ .u))) yQ Tryz.f194 []:=gm
def Ra:Gt aQ.z X E (.v (.v (.seq (.block (.loop aje (.v (.block (.v (.cut aje qq4)))))) .u))) yQ Tryz.f192 [(194,yQ)]:=gm
def FZ:Gt aQ.z X E (.seq (.v (.cond (.v (.v (.seq (.block (.loop ajf (.v (.block (.v (.v (.cut ajf qq4))))))) (.seq (.v (.block (.loop ⟨[(0,.o 0),(10,.i),(13,.i)],qq5⟩ .u))) .u)))) .u)) (.seq (.v (.cond (.v (.v (.seq (.block (.loop ajd (.v (.block (.v (.v (.cut ajd qq4))))))) (.seq (.v (.block (.loop ⟨[(0,.o 0),(14,.i),(17,.i)],qq5⟩ .u))) .u)))) .u)) (.v (.v (.v (.seq (.v (.cut ⟨[(0,.o 0),(1,.i),(2,.i),(3,.i),(4,.c (.fn 169 [])),(18,.i),(19,.i),(20,.i),(21,.i)],qq5⟩ qq4)) (.v (.seq (.block (.loop ai5 (.v (.block (.v (.v (.cut ai5 qq4))))))) (.v (.seq (.v (.cut ⟨[(0,.o 0),(1,.i),(3,.i),(4,.c (.fn 169 [])),(18,.i),(20,.i),(24,.i)],qq5⟩ qq4)) (.seq (.v (.cut ⟨[(0,.o 0),(3,.i),(4,.c (.fn 169 [])),(18,.i),(24,.i)],qq5⟩ qq4)) (.v (.cut ⟨[],qq5⟩ qq4))))))))))))) yQ Tryz.f186 [(169,Yk),(192,yQ),(186,yQ)]:=gm
end Go.TX.F
end
noncomputable section
namespace Go.TX.F
open Go Go.AE Go.TX Go.TX.Seat Go.Proofs
set_option maxRecDepth 100000
set_option maxHeartbeats 4000000
def Rb:Gt aQ.z X E (.v (.v (.seq ai9 (.v (.block (.loop ajg (.v (.block (.v (.seq ai9 (.seq (.v (.v (.cut ajg qq4))) .u))))))))))) Ym Tryz.f174 [(185,Yl),(186,yQ)]:=gm
def Rc:Gt aQ.z X E .u Yn Tryz.f168 [(174,Ym)]:=gm
def Zj:Gt ⟨[51],[]⟩ X E (.v (.v (.v (.seq (.v (.block (.loop ai6 (.v (.block (.v (.seq (.block (.loop ⟨[(0,.o 0),(2,.p 1 1),(4,.p 2 1),(5,.i),(6,.i),(7,.p 3 2)],[.rows false .mono,.g [.nil],.g [.own 4],.s false .mono,.rows true .mono]⟩ .u)) (.v (.cut ai6 qq4))))))))) .u)))) Yo Tryz.f161 [(96,qp),(37,mR),(165,uf),(105,adN),(168,Yn)]:=gm
def Rf:Gt aQ.z X E (.v (.v (.seq (.v (.v (.cut ⟨[(0,.o 0)],[.rows true .mono]⟩ qq4))) .u))) Yp Tryz.f170 []:=gm
def Zk:Gt aQ.z X E (.v (.v (.seq (.v (.block (.loop ⟨[(0,.r false .poly),(3,.i),(9,.r false .poly),(10,.i),(11,.i)],[]⟩ .u))) (.v (.seq (.v (.block (.loop ⟨[(6,.o 0),(25,.r false .poly),(26,.i),(27,.i)],qq5⟩ .u))) .u))))) adS Tryz.f162 [(170,Yp)]:=gm
def Zl:Gt aQ.z X E .u ug Tryz.f145 [(37,mR),(161,Yo),(162,adS)]:=gm
def Rh:Gt aQ.z X E (.v (.v (.seq (.v (.v (.cut ⟨[(0,.o 0)],[.e]⟩ qq4))) .u))) Yq Tryz.f171 []:=gm
def Zm:Gt aQ.z X E (.v (.v (.seq (.v (.block (.loop ⟨[(0,.r false .ints),(3,.i),(9,.r false .ints),(10,.i),(11,.i)],[]⟩ .u))) (.v (.seq (.v (.block (.loop ⟨[(6,.o 0),(25,.r false .ints),(26,.i),(27,.i)],[.e]⟩ .u))) .u))))) adT Tryz.f163 [(171,Yq)]:=gm
def Ri:Gt aQ.z X E (.v (.block (.loop ⟨[(0,.o 0),(1,.i),(2,.i),(6,.i)],[.e]⟩ (.v (.seq (.block (.v (.block (.loop ⟨[(0,.o 0),(1,.i),(2,.i),(6,.i),(7,.i)],[.e]⟩ .u)))) .u))))) FW Tryz.f175 [(139,acK)]:=gm
def Rj:Gt aQ.z X E (.v (.v (.block (.loop afP (.cut afP (.block (.v (.v (.v (.seq (.v (.cut ⟨[(0,.o 0),(1,.i),(2,.i),(3,.i),(8,.b),(9,.b),(10,.i)],[.e]⟩ qq4)) (.v (.seq (.v (.cut ⟨[(0,.o 0),(1,.i),(2,.i),(3,.i),(8,.b),(9,.b),(10,.i),(11,.i),(12,.i)],[.e]⟩ qq4)) (.seq (.v (.cut ⟨[(0,.o 0),(1,.i),(2,.i),(3,.i),(8,.b),(9,.b),(10,.i),(11,.i)],[.e]⟩ qq4)) (.v (.v (.v (.v (.v (.v (.cut afP qq4)))))))))))))))))))) FX Tryz.f172 [(139,acK),(175,FW),(176,FW),(177,FW),(178,Qo),(179,FW),(180,Qp),(181,Qq),(182,Qr),(172,FX)]:=gm
def Rk:Gt aQ.z X E .u Yv Tryz.f164 [(172,FX),(173,adU)]:=gm
def Zn:Gt aQ.z X E (.v (.v (.v (.seq (.v (.block (.loop ⟨[(3,.p 0 1),(4,.p 1 1),(6,.o 2),(22,.r false .mono),(23,.i),(24,.i)],[.s false .poly,.g [.nil],.rows true .mono]⟩ (.v (.v (.seq (.block (.v (.v (.block (.loop ⟨[(3,.p 0 1),(4,.p 1 1),(6,.o 2),(8,.p 3 2),(22,.r false .mono),(23,.i),(24,.i),(29,.r false .mono),(30,.i),(31,.i)],[.s false .poly,.g [.nil],.rows true .mono,.s false .mono]⟩ .u))))) .u)))))) .u)))) ug Tryz.f147 [(37,mR),(165,uf),(161,Yo),(163,adT),(164,Yv)]:=gm
def Zo:Gt aQ.z X E .u iI Tryz.f153 [(94,iy)]:=gm
def Zp:Gt aQ.z X E .u KW Tryz.f146 [(37,mR),(68,lS),(153,iI),(147,ug)]:=gm
def Zq:Gt aQ.z X E .u KZ Tryz.f148 [(153,iI),(165,uf)]:=gm
def Zr:Gt aQ.z X E (.v (.v (.v (.v (.v (.seq (.v (.cut ⟨[(0,.i),(4,.p 0 1),(6,.p 1 1),(10,.i),(11,.b)],[.s true .poly,.g [.nil]]⟩ qq4)) .u)))))) adV Tryz.f101 [(121,Dc),(68,lS),(148,KZ),(145,ug),(147,ug),(146,KW),(120,BX)]:=gm
end Go.TX.F
end
noncomputable section
namespace Go.TX.F
open Go Go.AE Go.TX Go.TX.Seat Go.Proofs
set_option maxRecDepth 100000
set_option maxHeartbeats 4000000
def Zt:Gt aQ.z X E .u adW Tryz.f149 []:=gm
def Zu:Gt aQ.z X E .u Yw Tryz.f103 [(92,BU),(93,Yj),(149,adW)]:=gm
def Zv:Gt aQ.z X E .u lS Tryz.f104 [(94,iy)]:=gm
def Zw:Gt aQ.z X E (.v (.v (.seq (.v (.cut ⟨[(1,.i),(4,.p 0 1),(6,.p 1 1),(7,.p 2 1),(8,.p 3 1),(9,.p 4 1)],[.s true .tab,.s true .poly,.s true .poly,.g [.nil],.g [.nil]]⟩ qq4)) .u))) adX Tryz.f39 [(102,wh),(101,adV),(103,Yw),(104,lS)]:=gm
def Zx:Gt aQ.z X E ai8 adY Tryz.f150 []:=gm
def Zy:Gt aQ.z X E .u adZ Tryz.f107 [(150,adY)]:=gm
def Zz:Gt aQ.z X E (.v (.v (.seq (.v (.block (.loop ⟨[(0,.r false .mono),(1,.r false .mono),(5,.i)],[]⟩ .u))) .u))) ad1 Tryz.f43 [(107,adZ)]:=gm
def ZA:Gt aQ.z X E .u Dc Tryz.f12 [(43,ad1)]:=gm
def ZB:Gt aQ.z X E .u yO Tryz.f106 [(12,Dc)]:=gm
def ZE:Gt aQ.z X E (.v (.v (.seq (.v (.block (.loop ⟨[(0,.r false .atom),(1,.r false .atom),(5,.i)],[]⟩ .u))) .u))) ad2 Tryz.f42 [(106,yO)]:=gm
def ZF:Gt aQ.z X E .u aiZ Tryz.f11 [(42,ad2)]:=gm
def ZG:Gt aQ.z X E (.v (.seq (.v (.block (.loop ⟨[(0,.r false .i64),(1,.i),(5,.i)],[]⟩ .u))) .u)) Uf Tryz.f109 []:=gm
def ZH:Gt aQ.z X E aja FU Tryz.f47 [(109,Uf)]:=gm
def ZI:Gt aQ.z X E ajb Uh Tryz.f46 [(47,FU)]:=gm
def ZJ:Gt aQ.z X E .u adM Tryz.f15 [(46,Uh)]:=gm
def ZK:Gt aQ.z X E .u Ug Tryz.f16 [(47,FU)]:=gm
def ZL:Gt aQ.z X E .u ad3 Tryz.f48 []:=gm
def ZM:Gt aQ.z X E .u ai0 Tryz.f17 [(48,ad3)]:=gm
def Rl:Gt aQ.z X E .u iI Tryz.f166 [(29,iy)]:=gm
def Rm:Gt aQ.z X E .u FY Tryz.f152 [(166,iI)]:=gm
def Rn:Gt aQ.z X E (.v (.v (.seq (.v (.block (.v (.cond .u (.v (.cond .u (.v (.cond .u (.seq (.v (.cut ⟨[(0,.r false .iop),(1,.i),(2,.i),(7,.p 0 5),(13,.i),(78,.b)],[.s false .iop]⟩ qq4)) .u))))))))) .u))) FY Tryz.f110 [(151,iI),(29,iy),(152,FY)]:=gm
def Ro:Gt aQ.z X E (.v (.v (.seq (.v (.block (.v (.cond .u (.v (.cond .u (.seq (.v (.cut ⟨[(1,.p 0 7),(3,.i),(42,.b)],[.s false .blk]⟩ qq4)) .u))))))) .u))) wm Tryz.f111 [(151,iI),(152,FY)]:=gm
def Rp:Gt aQ.z X E (.v (.v (.seq (.v (.block (.loop ⟨[(1,.p 0 7),(3,.i)],[.s false .blk]⟩ .u))) .u))) wm Tryz.f49 [(29,iy),(111,wm),(110,FY)]:=gm
def Rq:Gt aQ.z X E (.v (.v (.v (.seq (.v (.block (.loop ⟨[(0,.p 0 1),(2,.p 1 1),(3,.o 2),(4,.i)],[.g [.nil],.g [.own 3],.rows true .poly,.rows true .atom]⟩ .u))) .u)))) Yx Tryz.f50 [(52,lS)]:=gm
def Rs:Gt aQ.z X E .u Yy Tryz.f53 []:=gm
def Rt:Gt aQ.z X E (.v (.v (.seq (.v (.block (.loop ajh (.v (.seq (.block (.v (.cut ajh qq4))) .u))))) .u))) K4 Tryz.f112 []:=gm
def Rv:Gt aQ.z X E (.v (.v (.seq (.v (.cut ⟨[(3,.p 1 1),(6,.p 2 1),(7,.p 3 1),(8,.p 4 4)],[.rows true .atom,.g [.own 0],.g [.nil],.g [.nil],.g [.i,.i,.nil,.nil]]⟩ qq4)) .u))) Yz Tryz.f55 [(52,lS),(51,KV),(112,K4)]:=gm
end Go.TX.F
end
noncomputable section
namespace Go.TX.F
open Go Go.AE Go.TX Go.TX.Seat Go.Proofs
set_option maxRecDepth 100000
set_option maxHeartbeats 4000000
def Rw:Gt aQ.z X E (.v (.v (.seq (.v (.block (.loop ⟨[(0,.r false .poly),(3,.o 0),(4,.i)],[.rows true .poly]⟩ .u))) .u))) K6 Tryz.f57 [(58,rH)]:=gm
def Rx:Gt aQ.z X E (.v (.v (.seq (.v (.cut ⟨[(3,.r false .poly),(4,.p 0 5),(6,.p 1 1),(8,.p 2 5),(9,.p 3 5)],[.s false .iop,.s false .poly,.g [.i,.i,.nil,.nil,.nil],.g [.i,.i,.own 4,.nil,.nil],.rows true .mono]⟩ qq4)) (.seq (.v (.cut ⟨[(3,.r false .poly),(4,.p 0 5),(8,.p 1 5),(9,.p 2 5)],[.s false .iop,.g [.i,.i,.nil,.nil,.nil],.g [.i,.i,.own 3,.own 4,.nil],.rows true .mono,.rows true .mono]⟩ qq4)) (.seq (.v (.cut ⟨[(8,.p 0 5),(9,.p 1 5)],[.g [.i,.i,.nil,.nil,.nil],.g [.i,.i,.own 2,.own 3,.own 4],.rows true .mono,.rows true .mono,.rows true .poly]⟩ qq4)) .u))))) YA Tryz.f56 [(58,rH),(57,K6)]:=gm
def Ry:Gt aQ.z X E .u K7 Tryz.f59 []:=gm
def Rz:Gt aQ.z X E .u K7 Tryz.f60 []:=gm
def RA:Gt aQ.z X E .u Qs Tryz.f114 []:=gm
def RD:Gt aQ.z X E (.v (.v (.v (.v (.seq (.block (.seq (.v (.cut ⟨[(1,.i),(2,.p 0 6),(4,.p 1 6),(6,.b),(8,.b),(9,.b),(29,.b)],[.s false .sym,.g qq2]⟩ qq4)) (.cond .u (.seq (.v (.cut ⟨[(1,.i),(2,.p 0 6),(4,.p 1 6),(54,.b)],[.s false .sym,.g qq2]⟩ qq4)) .u)))) (.seq (.v (.cut ⟨[(2,.p 0 6),(4,.p 1 6)],[.s false .sym,.g qq2]⟩ qq4)) .u)))))) K8 Tryz.f115 [(113,BX),(88,wh),(114,Qs)]:=gm
def RF:Gt ⟨[53],[]⟩ X E (.v (.v (.v (.v (.seq (.v (.block (.loop ⟨[(1,.i),(2,.p 0 6),(4,.p 1 6),(5,.p 2 6),(6,.i)],[.s false .sym,.g qq2,.g [.own 3,.rows false .poly,.i,.rows false .mono,.rows false .mono,.i],.rows true .ev]⟩ .u))) (.v (.v (.v (.seq (.v (.block (.v (.cut alU (.cond .u (.seq (.v (.cut ⟨[(1,.i),(4,.p 0 6),(5,.p 1 6),(85,.b)],qq1⟩ qq4)) .u)))))) .u))))))))) K8 Tryz.f61 [(113,BX),(84,mR),(58,rH),(114,Qs),(115,K8),(57,K6)]:=gm
def RG:Gt ⟨[116],[]⟩ X E (.v (.v (.v (.v (.v (.seq (.v (.block (.loop ⟨[(3,.p 0 7),(4,.p 1 1),(5,.p 2 6),(6,.p 3 1),(7,.p 4 6),(9,.o 5),(10,.i)],[.s false .blk,.g [.nil],.g qq2,.g [.own 6],.g qq2,.rows true .poly,.rows true .atom]⟩ .u))) (.v (.seq (.v (.block (.loop ⟨[(3,.p 0 7),(4,.p 1 1),(5,.p 2 6),(6,.p 3 1),(7,.p 4 6),(9,.o 5),(13,.o 6),(14,.i)],[.s false .blk,.g [.nil],.g qq2,.g [.own 7],.g [.own 8,.nil,.i,.nil,.nil,.i],.rows false .poly,.rows false .poly,.rows true .atom,.rows true .ev]⟩ (.v (.seq (.block (.v (.v (.v (.v (.seq (.v (.block (.v (.cut qq7 (.cond .u (.v (.cut qq7 (.cond .u (.v (.cut qq6 (.cond .u (.v (.cut qq6 (.cond .u (.seq (.v (.cut ⟨[(3,.p 0 7),(4,.p 1 1),(5,.p 2 6),(6,.p 3 1),(7,.p 4 6),(9,.o 5),(13,.o 6),(14,.i),(15,.p 7 5),(16,.p 8 1),(17,.p 9 1),(18,.p 10 1)],[.s false .blk,.g [.nil],.g qq2,.g [.own 11],.g [.own 12,.nil,.i,.nil,.nil,.i],.rows false .poly,.rows false .poly,.s false .iop,.s false .poly,.s false .poly,.g [.own 13],.rows true .atom,.rows true .ev,.rows true .mono]⟩ qq4)) .u))))))))))))))) .u)))))) .u))))) .u)))))))) afM Tryz.f18 [(49,wm),(52,lS),(54,lS),(61,K8),(50,Yx),(28,KU),(58,rH),(32,Ye),(31,Yd),(51,KV),(55,Yz),(56,YA),(53,Yy),(57,K6),(59,K7),(60,K7)]:=gm
def ZN:Gt aQ.z X E .u YB Tryz.f65 [(94,iy)]:=gm
def ZO:Gt aQ.z X E .u Ui Tryz.f167 [(94,iy)]:=gm
def afU:Gt aQ.z X E .u afN Tryz.f154 [(167,Ui),(94,iy)]:=gm
def afV:Gt ⟨[],[27,40]⟩ X E .u ai1 Tryz.f117 [(154,afN),(65,YB),(153,iI),(94,iy),(36,iI),(135,iI)]:=gm
end Go.TX.F
end
noncomputable section
namespace Go.TX.F
open Go Go.AE Go.TX Go.TX.Seat Go.Proofs
set_option maxRecDepth 100000
set_option maxHeartbeats 4000000
def afW:Gt aQ.z X E .u afO Tryz.f70 []:=gm
def afX:Gt aQ.z X E .u wm Tryz.f118 [(70,afO),(154,afN),(153,iI),(94,iy)]:=gm
def afY:Gt aQ.z X E (.v (.v (.seq (.v (.block (.loop ⟨[(1,.p 0 7),(25,.i),(26,.i)],[.s false .blk]⟩ .u))) .u))) wm Tryz.f63 [(118,wm),(117,ai1),(94,iy)]:=gm
def ZP:Gt aQ.z X E .u YC Tryz.f69 [(104,lS),(103,Yw)]:=gm
def ZQ:Gt aQ.z X E (.v (.v (.seq (.v (.block (.loop ⟨[(0,.p 0 2),(3,.o 1),(5,.i)],[.g NU,.rows true .poly]⟩ .u))) .u))) ad4 Tryz.f64 [(69,YC)]:=gm
def afZ:Gt aQ.z X E .u Ui Tryz.f66 [(94,iy)]:=gm
def ZR:Gt aQ.z X E .u ad5 Tryz.f67 []:=gm
def ZU:Gt aQ.z X E .u iy Tryz.f122 [(153,iI)]:=gm
end Go.TX.F
end
noncomputable section
namespace Go.TX.F
open Go Go.AE Go.TX Go.TX.Seat Go.Proofs
set_option maxRecDepth 100000
set_option maxHeartbeats 4000000
def ZV:Gt aQ.z X E (.v (.v (.seq (.v (.block (.loop ⟨[(0,.r false .poly),(1,.r false .poly),(5,.i)],[]⟩ .u))) .u))) YD Tryz.f73 [(12,Dc)]:=gm
def ZW:Gt aQ.z X E .u ad6 Tryz.f123 [(12,Dc),(73,YD)]:=gm
def ZX:Gt aQ.z X E (.v (.v (.seq (.v (.block (.loop ⟨[(0,.r false .ev),(1,.r false .ev),(5,.i)],[]⟩ .u))) .u))) ad7 Tryz.f72 [(123,ad6)]:=gm
def ZY:Gt aQ.z X E .u ai2 Tryz.f21 [(72,ad7),(12,Dc),(73,YD)]:=gm
def Z0:Gt aQ.z X E .u ad8 Tryz.f124 []:=gm
def Z4:Gt aQ.z X E (.v (.v (.seq (.v (.block (.loop ⟨[(0,.r false .iop),(1,.r false .iop),(5,.i)],[]⟩ .u))) .u))) ad9 Tryz.f74 [(124,ad8)]:=gm
def Z5:Gt aQ.z X E .u ai3 Tryz.f22 [(74,ad9)]:=gm
def Z6:Gt aQ.z X E (.v (.seq (.v (.block (.loop ⟨[(0,.r false .poly),(1,.i),(5,.i)],[]⟩ .u))) .u)) YE Tryz.f79 [(47,FU)]:=gm
def Z7:Gt aQ.z X E (.v (.seq (.v (.block (.loop ⟨[(0,.r false .ev),(1,.i),(5,.i)],[]⟩ .u))) .u)) K4 Tryz.f78 [(47,FU),(79,YE)]:=gm
def Z8:Gt aQ.z X E .u ai4 Tryz.f25 [(78,K4),(16,Ug),(79,YE)]:=gm
end Go.TX.F
end

namespace Go.TX
open Go Go.AE
theorem af0(x y:Int):bP .lss x y=decide (x<y):=rfl
theorem af2(x y:Int):bP .leq x y=decide (x<=y):=rfl
theorem af3(x y:Int):bP .gtr x y=decide (y<x):=rfl
theorem af4(x y:Int):bP .geq x y=decide (y<=x):=rfl
theorem af5(x y:Int):bP .eql x y=decide (x=y):=rfl
theorem af6(x y:Int):bP .neq x y= !decide (x=y):=rfl
theorem af7(k:IntKind)(x y:Int):lN .add k x y=k.wrap (x+y):=rfl
theorem af8(k:IntKind)(x y:Int):lN .sub k x y=k.wrap (x-y):=rfl
theorem af9(k:IntKind)(x y:Int):lN .mul k x y=k.wrap (x*y):=rfl
theorem aga(k:IntKind)(x y:Int):lN .quo k x y=k.wrap (x.tdiv y):=rfl
theorem Z9(k:IntKind)(x y:Int):lN .rem k x y=x.tmod y:=rfl
theorem w64{x:Int}(h1: -9223372036854775808<=x)(h2:x<=9223372036854775807):IntKind.i64.wrap x=x:=IntWalk.i64_in _ ah
theorem acM(m:ak):mE .mono 0 m=m.bL:=rfl
theorem acN(m:ak):rA .mono 1 .i64 m=m.atoms:=rfl
theorem agb(p:List ak):rA .poly 0 .mono p=p:=rfl
theorem aji(p:List Atom):rA .tab 0 .atom p=p:=rfl
theorem agc(p:List Int):rA .ints 0 .i64 p=p:=rfl
theorem acO(m:Atom):mE .atom 0 m=m.kind:=rfl
theorem acP(m:Atom):mE .atom 1 m=m.k:=rfl
theorem acQ(m:Atom):rA .atom 2 .mono m=m.x:=rfl
theorem acR(m:Atom):rA .atom 3 .mono m=m.y:=rfl
theorem ajj(n:Int):mE .i64 0 n=n:=rfl
theorem alV(n:Int):mE .u8 0 n=n:=rfl
theorem acS(x):Co.mk .mono x=⟨x.1,x.2.1⟩:=rfl
theorem acT(x):Co.mk .poly x=x.1:=rfl
theorem agd(x):Co.mk .tab x=x.1:=rfl
theorem acU(x):Co.mk .ints x=x.1:=rfl
theorem agf(x):Co.mk .i64 x=x.1:=rfl
theorem acV(x):Co.mk .atom x=⟨x.1,x.2.1,x.2.2.1,x.2.2.2.1⟩:=rfl
def aG{α ρ:Type}{f:α->(α ⊕ ρ->Prop)->Prop}{x:α}{Q:ρ->Prop}(I:α->Prop)(μ:α->Nat)(h0:I x)(hs:∀y,I y->f y (Dr (λz _=>I z/\μ z<μ y) Q)):Tg f x Q:=⟨I,μ,h0,hs⟩
theorem aac{α ρ:Type}(k:α->(ρ->Prop)->Prop)(Q:ρ->Prop)(x:α):Dr k Q (.inl x)=k x Q:=rfl
theorem aad{α ρ:Type}(k:α->(ρ->Prop)->Prop)(Q:ρ->Prop)(r:ρ):Dr k Q (.inr r)=Q r:=rfl
def getD_lt{α:Type}{xs:List α}{d:α}{i:Nat}(h:i<xs.length):xs.getD i d=xs[i]:=by simp [List.getD,h]
def dN{α:Type}{xs:List α}{d:α}{i:Int}(h0:0<=i)(h:i<xs.length):xs.getD i.toNat d∈xs:=by
 rw [getD_lt ah];exact List.getElem_mem _
def RR:(∀(x y:Int),bP BinOp.lss x y=decide (x<y))/\(∀(x y:Int),bP BinOp.leq x y=decide (x<=y))/\(∀(x y:Int),bP BinOp.gtr x y=decide (y<x))/\(∀(x y:Int),bP BinOp.geq x y=decide (y<=x))/\(∀(x y:Int),bP BinOp.eql x y=decide (x=y))/\(∀(x y:Int),bP BinOp.neq x y= !decide (x=y))/\(∀(k:IntKind) (x y:Int),lN BinOp.add k x y=k.wrap (x+y))/\(∀(k:IntKind) (x y:Int),lN BinOp.sub k x y=k.wrap (x-y))/\(∀(k:IntKind) (x y:Int),lN BinOp.mul k x y=k.wrap (x*y))/\(∀(k:IntKind) (x y:Int),lN BinOp.quo k x y=k.wrap (x.tdiv y))/\(∀(k:IntKind) (x y:Int),lN BinOp.rem k x y=x.tmod y)/\(∀ {x:Int}, -9223372036854775808<=x->x<=9223372036854775807->IntKind.i64.wrap x=x)/\(∀(m:ak),mE Co.mono 0 m=m.bL)/\(∀(m:ak),rA Co.mono 1 Co.i64 m=m.atoms)/\(∀(p:List ak),rA Co.poly 0 Co.mono p=p)/\(∀(p:List Atom),rA Co.tab 0 Co.atom p=p)/\(∀(p:List Int),rA Co.ints 0 Co.i64 p=p)/\(∀(m:Atom),mE Co.atom 0 m=m.kind)/\(∀(m:Atom),mE Co.atom 1 m=m.k)/\(∀(m:Atom),rA Co.atom 2 Co.mono m=m.x)/\(∀(m:Atom),rA Co.atom 3 Co.mono m=m.y)/\(∀(n:Int),mE Co.i64 0 n=n)/\(∀(n:Int),mE Co.u8 0 n=n)/\(∀(x:iR Co.mono.su),Co.mono.mk x=ak.mk x.fst x.snd.fst)/\(∀(x:iR Co.poly.su),Co.poly.mk x=x.fst)/\(∀(x:iR Co.tab.su),Co.tab.mk x=x.fst)/\(∀(x:iR Co.ints.su),Co.ints.mk x=x.fst)/\(∀(x:iR Co.i64.su),Co.i64.mk x=x.fst)/\(∀(x:iR Co.atom.su),Co.atom.mk x=Atom.mk x.fst x.snd.fst x.snd.snd.fst x.snd.snd.snd.fst)/\(∀ {α ρ:Type} (k:α->(ρ->Prop)->Prop) (Q:ρ->Prop) (x:α),Dr k Q (Sum.inl x)=k x Q)/\(∀ {α ρ:Type} (k:α->(ρ->Prop)->Prop) (Q:ρ->Prop) (r:ρ),Dr k Q (Sum.inr r)=Q r)/\(∀(c f:Bool),(bif c then true else f)=(c || f))/\(∀(c t:Bool),(bif c then t else false)=(c&&t))/\(∀(c f:Bool),(bif c then false else f)=(!c&&f))/\(∀(c t:Bool),(bif c then t else true)=(!c || t))/\(∀(a b:Bool),((a || b)=true)=(a=true\/b=true))/\(∀ {x y:Bool},(x || y)=false↔x=false/\y=false)/\(∀(a b:Bool),((a&&b)=true)=(a=true/\b=true))/\(∀ {p:Prop} [inst:Decidable p],(decide p=true)=p)/\(∀ {p:Prop} {x:Decidable p},decide p=false↔¬p)/\(∀(b:Bool),((!b)=true)=(b=false))/\(∀(b:Bool),((!b)=false)=(b=true))/\(∀(b:Bool),(!!b)=b)/\(∀(p:Prop),(True/\p)=p)/\(∀(p:Prop),(p/\True)=p)/\(∀ {α:Type} [inst:LE α] {x y:α},x>=y↔y<=x)/\(¬True)=False/\(¬False)=True/\(false=true)=False/\(true=false)=False/\(∀(p:Prop),(False->p)=True)/\(∀(p:Prop),(True->p)=p)/\(∀(α:Prop),(α->True)=True)/\(∀(α:Type),(∀(a:α),True)=True)/\(∀(p:Prop),(False\/p)=p)/\(∀(p:Prop),(p\/False)=p)/\(∀(p:Prop),(True\/p)=True)/\(∀(p:Prop),(p\/True)=True)/\(∀ {α:Type} {x:Decidable True} (t e:α),(if True then t else e)=t)/\∀ {α:Type} {x:Decidable False} (t e:α),(if False then t else e)=e:=And.intro (@af0)<| And.intro (@af2)<| And.intro (@af3)<| And.intro (@af4)<| And.intro (@af5)<| And.intro (@af6)<| And.intro (@af7)<| And.intro (@af8)<| And.intro (@af9)<| And.intro (@aga)<| And.intro (@Z9)<| And.intro (@w64)<| And.intro (@acM)<| And.intro (@acN)<| And.intro (@agb)<| And.intro (@aji)<| And.intro (@agc)<| And.intro (@acO)<| And.intro (@acP)<| And.intro (@acQ)<| And.intro (@acR)<| And.intro (@ajj)<| And.intro (@alV)<| And.intro (@acS)<| And.intro (@acT)<| And.intro (@agd)<| And.intro (@acU)<| And.intro (@agf)<| And.intro (@acV)<| And.intro (@aac)<| And.intro (@aad)<| And.intro (@Bool.cond_true_left)<| And.intro (@Bool.cond_false_right)<| And.intro (@Bool.cond_false_left)<| And.intro (@Bool.cond_true_right)<| And.intro (@Bool.or_eq_true)<| And.intro (@Bool.or_eq_false_iff)<| And.intro (@Bool.and_eq_true)<| And.intro (@decide_eq_true_eq)<| And.intro (@decide_eq_false_iff_not)<| And.intro (@Bool.not_eq_true')<| And.intro (@Bool.not_eq_false')<| And.intro (@Bool.not_not)<| And.intro (@true_and)<| And.intro (@and_true)<| And.intro (@ge_iff_le.{0})<| And.intro (@not_true_eq_false)<| And.intro (@not_false_eq_true)<| And.intro (@Bool.false_eq_true)<| And.intro (@Bool.true_eq_false)<| And.intro (@false_implies)<| And.intro (@true_implies)<| And.intro (@implies_true.{0})<| And.intro (@implies_true.{1})<| And.intro (@false_or)<| And.intro (@or_false)<| And.intro (@true_or)<| And.intro (@or_true)<| And.intro (@if_true.{1})<| @if_false.{1}
end Go.TX
namespace Go.TX.F
open Go Go.AE Go.TX
def inB(a lo hi:Int):Bool:=decide (lo<=a)&&decide (a<=hi)
def ajk(a b c:Int):YM.F () (a,b,c,()) (λy=>y=(inB a b c,())):=by
 dsimp only [YM,gm];simp (disch:=omega) only [RR];rfl
abbrev Y1(pp:Int×Int×Int×Unit->Bool)(ff:Int×Int×Int×Unit->Bool×Unit):Prop:=∀a b c,pp (a,b,c,())=true/\ff (a,b,c,())=(inB a b c,())
def ajl{p f}(U:Y1 p f)(a:Int):Zo.F (p,f,()) (a,()) (λy=>y=(inB a 0 65535,())):=by
 dsimp only [Zo,gm];simp (disch:=omega) only [RR,U]
def ajm{p f}(U:Y1 p f)(a:Int):YN.F (p,f,()) (a,()) (λy=>y=(inB a 1 5,())):=by
 dsimp only [YN,gm];simp (disch:=omega) only [RR,U]
def ajn{p f}(U:Y1 p f)(a:Int):YW.F (p,f,()) (a,()) (λy=>y=(inB a 0 3,())):=by
 dsimp only [YW,gm];simp (disch:=omega) only [RR,U]
def alW(a:Int):afQ.F () (a,()) (λy=>y=(false,())):=by
 dsimp only [afQ,gm];simp (disch:=omega) only [RR];simp
def je(a b:Int):Int:=if a<b then-1 else if b<a then 1 else 0
abbrev Y2(pp:Int×Unit->Bool)(ff:Int×Unit->Bool×Unit):Prop:=∀a,pp (a,())=true/\ff (a,())=(false,())
def alX{p f}(U:Y2 p f)(a b:Int):afT.F (p,f,()) (a,b,()) (λy=>y=(je a b,())):=by
 dsimp only [afT,gm];simp (disch:=omega) only [RR,U];unfold je;refine⟨λh=>by simp [h],λh=>⟨λh2=>by simp [h,h2],λh2=>by simp [h,h2]⟩⟩
def alY{p f}(U:Y2 p f)(a b:Int):afR.F (p,f,()) (a,b,()) (λy=>y=(decide (a<b),())):=by
 dsimp only [afR,gm];simp (disch:=omega) only [RR,U];simp
def or2(a b:Int):Int:=if a≠0 then a else b
def alZ(a b:Int):afS.F () ([a,b],()) (λy=>y=(or2 a b,())):=by
 dsimp only [afS,gm];refine aG (λ(y:Int×List Int×Int×Int×Unit)=>y.1=0/\y.2.1=[a,b]/\y.2.2.1=2/\0<=y.2.2.2.1/\y.2.2.2.1<=2/\(0<y.2.2.2.1->a=0)/\(1<y.2.2.2.1->b=0)) (λy=>(2-y.2.2.2.1).toNat) ⟨rfl,rfl,rfl,by simp,by simp,λh=>absurd h (by simp),λh=>absurd h (by simp)⟩ ?_;rintro⟨(z:Int),(l:List Int),(n:Int),(i:Int),⟨⟩⟩ hI;dsimp only at hI ⊢;obtain⟨rfl,rfl,rfl,h1,h2,h3,h4⟩:=hI;simp (disch:=omega) only [RR];have hi:i=0\/i=1\/i=2:=by omega
 rcases hi with rfl | rfl | rfl
 .by_cases ha:a=0<;>simp [or2,ha]<;>(try omega)
 .have:=h3 ah;by_cases hb:b=0<;>simp [or2,this,hb]<;>(try omega)
 .have:=h3 ah;have:=h4 ah;simp [or2, *]
def mU:List Int->List Int->Int
 | [],[]=>0
 | [],_::_=> -1
 | _::_,[]=>1
 | a::az,b::bs=>if je a b≠0 then je a b else mU az bs
def BZ(a b:List Int)(i:Nat):(h1:i<a.length)->(h2:i<b.length)->mU (a.drop i) (b.drop i)=if je a[i] b[i]≠0 then je a[i] b[i]else mU (a.drop (i+1)) (b.drop (i+1)):=by
 intro h1 h2;rw [List.drop_eq_getElem_cons h1,List.drop_eq_getElem_cons h2];rfl
def aae(l:List Int)(h:l≠ []):mU l []=1:=by cases l<;>simp_all [mU]
abbrev Y3(pp:Int×Int×Unit->Bool)(ff:Int×Int×Unit->Int×Unit):Prop:=∀a b,pp (a,b,())=true/\ff (a,b,())=(je a b,())
def ajo{p f}(U:Y3 p f)(a b:List Int)(ha:a.length<1000000000):
  YR.F (p,f,()) (a,b,()) (λy=>y=(mU a b,())):=by
 dsimp only [YR,gm]
 refine aG (λ(y:List Int×List Int×List Int×Int×Int×Unit)=>y.1=a/\y.2.1=b/\y.2.2.1=a/\y.2.2.2.1=a.length/\0<=y.2.2.2.2.1/\y.2.2.2.2.1<=a.length/\y.2.2.2.2.1<=b.length/\mU a b=mU (a.drop y.2.2.2.2.1.toNat) (b.drop y.2.2.2.2.1.toNat))
  (λy=>(a.length-y.2.2.2.2.1).toNat) ⟨rfl,rfl,rfl,rfl,by simp,by simp,by simp,by simp⟩ ?_
 rintro⟨(l1:List Int),(l2:List Int),(l3:List Int),(n:Int),(i:Int),⟨⟩⟩ hI;dsimp only at hI ⊢;obtain⟨rfl,rfl,rfl,rfl,h1,h2,h3,h4⟩:=hI;simp (disch:=omega) only [RR,U];refine⟨λhi=>⟨h1,hi,λhj=> ?_,λhj=>⟨h1,ah,λhc=> ?_,λhc=> ?_⟩⟩,λhi=>⟨λhj=> ?_,λhj=> ?_⟩⟩
 .rw [h4,List.drop_eq_nil_of_le (show l2.length<=i.toNat by omega),aae _ (by simp;omega)]
 .rw [h4,BZ l3 l2 i.toNat ah ah];rw [getD_lt ah,getD_lt ah]at hc;rw [getD_lt ah,getD_lt ah,if_pos hc]
 .rw [getD_lt ah,getD_lt ah]at hc;refine⟨⟨ah,ah,ah,?_⟩,ah⟩;rw [h4,BZ l3 l2 i.toNat ah ah,if_neg (by simpa using hc),show(i+1).toNat=i.toNat+1 by omega]
 .rw [h4,List.drop_eq_nil_of_le (show l3.length<=i.toNat by omega)];have:∃q r,l2.drop i.toNat=q::r:=by
   cases hq:l2.drop i.toNat with
   | nil=>have:=congrArg List.length hq;simp at this;omega
   | cons q r=>exact⟨q,r,rfl⟩
  obtain⟨q,r,hq⟩:=this;rw [hq];rfl
 .rw [h4,List.drop_eq_nil_of_le (show l3.length<=i.toNat by omega),List.drop_eq_nil_of_le (show l2.length<=i.toNat by omega)];rfl
def gG(a b:List Int):Int:=or2 (je a.length b.length) (mU a b)
abbrev Y4(pp:List Int×Unit->Bool)(ff:List Int×Unit->Int×Unit):Prop:=∀a b,pp ([a,b],())=true/\ff ([a,b],())=(or2 a b,())
def ajp{p1 f1 p3 f3}{p2:List Int×List Int×Unit->Bool}{f2:List Int×List Int×Unit->Int×Unit}(U1:Y3 p1 f1)(U2:∀a b,a.length<1000000000->p2 (a,b,())=true/\f2 (a,b,())=(mU a b,()))(U3:Y4 p3 f3)(a b:List Int)(ha:a.length<1000000000):
  YS.F (p3,f3,p1,f1,p2,f2,()) (a,b,()) (λy=>y=(gG a b,())):=by
 dsimp only [YS,gm];simp (disch:=omega) only [RR,U1,U2 a b ha,U3];rfl
noncomputable def bp (P:Prop):Bool:= @decide P (Classical.propDecidable P)
theorem eO{P:Prop}(h:P):bp P=true:=by simp [bp,h]
theorem bU{P:Prop}(h:¬P):bp P=false:=by simp [bp,h]
theorem bD{P:Prop}:bp P=true↔P:=by simp [bp]
def iP{P:Prop}:bp P=false↔¬P:=by simp [bp]
def Ca{P Q:Prop}:bp (P/\Q)=(bp P&&bp Q):=by by_cases h1:P<;>by_cases h2:Q<;>simp [bp,h1,h2]
def K9{P Q:Prop}(h:P↔Q):bp P=bp Q:=by simp [bp,h]
def All(n:Int)(G:Int->Prop):Prop:=∀j,0<=j->j<n->G j
def All.zero{G:Int->Prop}:All 0 G:=λj h1 h2=>absurd h2 ah
def All.snoc{n:Int}{G:Int->Prop}(h:All n G)(hi:G n):All (n+1) G:=λj h1 h2=>by
 by_cases hj:j=n
 .exact hj▸hi
 .exact h j h1 ah
def All.le{n m:Int}{G:Int->Prop}(h:All n G)(hi:m<=n):All m G:=λj h1 h2=>h j h1 ah
def Idx(n:Int)(G:Int->Prop)(r:Int):Prop:=(r= -1/\All n (λj=>¬G j))\/(0<=r/\r<n/\G r/\All r (λj=>¬G j))
def Idx.ge{n:Int}{G:Int->Prop}{r:Int}(h:Idx n G r):(0<=r)↔¬All n (λj=>¬G j):=by
 rcases h with⟨rfl,h⟩ | ⟨h1,h2,h3,h4⟩
 .simp [h]
 .simp only [h1,true_iff];exact λh=>h r h1 h2 h3
def Srt(l:List Int):Prop:=All (l.length-1) (λi=>l.getD i.toNat default<=l.getD (i+1).toNat default)
abbrev Y5(pp:Int×Int×Unit->Bool)(ff:Int×Int×Unit->Bool×Unit):Prop:=∀a b,pp (a,b,())=true/\ff (a,b,())=(decide (a<b),())
def agh{p f}(U:Y5 p f)(a:List Int)(ha:a.length<1000000000):
  Q5.F (p,f,()) (a,()) (λy=>y=(bp (Srt a),())):=by
 dsimp only [Q5,gm];simp (disch:=omega) only [RR,U];refine aG (λ(y:List Int×Int×Unit)=>y.1=a/\ -1<=y.2.1/\y.2.1<=a.length-1/\∀j,y.2.1<=j->0<=j->j< (a.length:Int)-1->a.getD j.toNat default<=a.getD (j+1).toNat default) (λy=>(y.2.1+1).toNat) ⟨rfl,by simp;omega,by simp,by simp;omega⟩ ?_;rintro⟨(l:List Int),(i:Int),⟨⟩⟩ hI;dsimp only at hI ⊢;obtain⟨rfl,h1,h2,h3⟩:=hI;simp (disch:=omega) only [RR,U];refine⟨λh4=>⟨ah,ah,ah,ah,λh5=> ?_,λh5=>⟨⟨ah,ah,λj h6 h7 h8=> ?_⟩,ah⟩⟩,λh4=> ?_⟩
 .rw [bU];intro h;have:=h (i-1) ah ah;dsimp only at this;rw [show i-1+1=i by omega]at this;omega
 .by_cases hj:j=i-1
  .subst hj;rw [show i-1+1=i by omega];omega
  .exact h3 j ah h7 h8
 .rw [eO];exact λj h6 h7=>h3 j ah h6 h7
def ajq(a n:Int):YO.F () (a,n,()) (λy=>y=(decide (n<=a),n,())):=by
 dsimp only [YO,gm];simp (disch:=omega) only [RR]
def agi{p:Int×Int×Unit->Bool}{f:Int×Int×Unit->Bool×Int×Unit}(U:∀a b,p (a,b,())=true/\f (a,b,())=(decide (b<=a),b,()))(a:List Int)(n:Int)(ha:a.length<1000000000):
  Q0.F (p,f,()) (a,n,()) (λy=>Idx a.length (λi=>n<=a.getD i.toNat default) y.1/\y.2.1=n):=by
 dsimp only [Q0,gm];refine aG (λ(y:List Int×Int×Int×Int×Unit)=>y.1=a/\y.2.1=a.length/\y.2.2.2.1=n/\0<=y.2.2.1/\y.2.2.1<=a.length/\All y.2.2.1 (λi=>¬n<=a.getD i.toNat default)) (λy=>(a.length-y.2.2.1).toNat) ⟨rfl,rfl,rfl,by simp,by simp,All.zero⟩ ?_;rintro⟨(l:List Int),(m:Int),(i:Int),(n':Int),⟨⟩⟩ hI;dsimp only at hI ⊢;obtain⟨rfl,rfl,rfl,h1,h2,h3⟩:=hI;simp (disch:=omega) only [RR,U];refine⟨λh4=>⟨ah,ah,λh5=> ?_,λh5=>⟨⟨ah,ah,h3.snoc h5⟩,ah⟩⟩,λh4=> ?_⟩
 .exact Or.inr ⟨ah,ah,h5,h3⟩
 .exact Or.inl ⟨rfl,h3.le ah⟩
def ajr{p:List Int×Int×Unit->Bool}{f:List Int×Int×Unit->Int×Int×Unit}(hp:∀a b,a.length<1000000000->p (a,b,())=true)
  (hf:∀a n,a.length<1000000000->Idx a.length (λi=>n<=a.getD i.toNat default) (f (a,n,())).1/\(f (a,n,())).2.1=n) (a:List Int) (n:Int) (ha:a.length<1000000000):
  YP.F (p,f,()) (a,n,()) (λy=>y=(bp (¬All a.length (λi=>¬n<=a.getD i.toNat default)),n,())):=by
 obtain⟨h1,h2⟩:=hf a n ha;dsimp only [YP,gm];simp (disch:=omega) only [RR,hp a n ha,h2];rw [show decide ((0:Int)<=(f (a,n,())).1)=bp (¬All a.length (λi=>¬n<=a.getD i.toNat default))from ?_];rw [<-K9 h1.ge];simp [bp]
def La(n:Int)(m:ak):Prop:=All m.atoms.length (λi=>¬n<=m.atoms.getD i.toNat default)
def bH(p:List ak)(n:Int):Prop:=All p.length (λi=>La n (p.getD i.toNat default))
def Sh(p:List ak):Prop:=p.length<1000000000/\∀m∈p,m.atoms.length<1000000000
def Sh.at{p:List ak}(h:Sh p)(n:Nat):(p.getD n default).atoms.length<1000000000:=by
 by_cases h1:n<p.length
 .rw [getD_lt h1];exact h.2 _ (List.getElem_mem _)
 .simp only [List.getD,List.getElem?_eq_none (by omega:p.length<=n)];decide
def ajs{p:List Int×Int×Unit->Bool}{f:List Int×Int×Unit->Bool×Int×Unit}(hp:∀a b,a.length<1000000000->p (a,b,())=true)
  (hf:∀a n,a.length<1000000000->f (a,n,())=(bp (¬All a.length (λi=>¬n<=a.getD i.toNat default)),n,())) (a:List ak) (n:Int) (ha:Sh a):
  YQ.F (p,f,()) (a,n,()) (λy=>y=(bp (bH a n),())):=by
 have hlen:=ha.1;dsimp only [YQ,gm];refine aG (λ(y:List ak×Int×Int×Int×Unit)=>y.1=a/\y.2.1=a.length/\y.2.2.2.1=n/\0<=y.2.2.1/\y.2.2.1<=a.length/\All y.2.2.1 (λi=>La n (a.getD i.toNat default))) (λy=>(a.length-y.2.2.1).toNat) ⟨rfl,rfl,rfl,by simp,by simp,All.zero⟩ ?_;rintro⟨(l:List ak),(m:Int),(i:Int),(n':Int),⟨⟩⟩ hI;dsimp only at hI ⊢;obtain⟨rfl,rfl,rfl,h1,h2,h3⟩:=hI;simp (disch:=omega) only [RR];refine⟨λh4=> ?_,λh4=> ?_⟩
 .have h5:=ha.at i.toNat;rw [hp _ _ h5,hf _ _ h5];refine⟨ah,ah,rfl,λh6=> ?_,λh6=>⟨⟨rfl,ah,ah,h3.snoc ?_⟩,ah⟩⟩
  .rw [bU (λh=> ?_)];exact bD.1 h6 (h i h1 h4)
  .exact Classical.byContradiction (λh=>iP.1 h6 h)
 .rw [eO (show bH l n' from h3.le ah)]
def ajt(m:ak):YT.F () (m,()) (λy=>y=(bp (0<m.atoms.length/\m.atoms.getD 0 default<0),())):=by
 dsimp only [YT,gm];simp (disch:=omega) only [RR];refine⟨ah,ah,?_⟩;rw [Ca];by_cases h1:0<m.atoms.length
 .by_cases h2:m.atoms.getD 0 default<0
  .rw [eO h1,eO h2,show Int.toNat 0=0 from rfl,decide_eq_true h2,decide_eq_true ah]
  .rw [eO h1,bU h2,show Int.toNat 0=0 from rfl,decide_eq_false h2,Bool.and_false,Bool.and_false]
 .rw [bU h1,decide_eq_false ah,Bool.false_and,Bool.false_and]
def agj{p:ak×Unit->Bool}{f:ak×Unit->Bool×Unit}(G:ak->Prop)(U:∀a,p (a,())=true/\f (a,())=(bp (G a),()))(a:List ak)(ha:a.length<1000000000):
  Q6.F (p,f,()) (a,()) (λy=>Idx a.length (λi=>G (a.getD i.toNat default)) y.1):=by
 dsimp only [Q6,gm];refine aG (λ(y:List ak×Int×Int×Unit)=>y.1=a/\y.2.1=a.length/\0<=y.2.2.1/\y.2.2.1<=a.length/\All y.2.2.1 (λi=>¬G (a.getD i.toNat default))) (λy=>(a.length-y.2.2.1).toNat) ⟨rfl,rfl,by simp,by simp,All.zero⟩ ?_;rintro⟨(l:List ak),(m:Int),(i:Int),⟨⟩⟩ hI;dsimp only at hI ⊢;obtain⟨rfl,rfl,h1,h2,h3⟩:=hI;simp (disch:=omega) only [RR,U];refine⟨λh4=>⟨ah,ah,λh5=> ?_,λh5=>⟨⟨ah,ah,h3.snoc (iP.1 h5)⟩,ah⟩⟩,λh4=> ?_⟩
 .exact Or.inr ⟨ah,ah,bD.1 h5,h3⟩
 .exact Or.inl ⟨rfl,h3.le ah⟩
def aju{p:List ak×Unit->Bool}{f:List ak×Unit->Int×Unit}(G:ak->Prop)(U:∀a,a.length<1000000000->p (a,())=true/\(Idx a.length (λi=>G (a.getD i.toNat default)) (f (a,())).1))(a:List ak)(ha:a.length<1000000000):
  YU.F (p,f,()) (a,()) (λy=>y=(bp (¬All a.length (λi=>¬G (a.getD i.toNat default))),())):=by
 have h1:=(U a ha).2;dsimp only [YU,gm];simp (disch:=omega) only [RR,(U a ha).1];rw [show decide ((0:Int)<=(f (a,())).1)=bp (¬All a.length (λi=>¬G (a.getD i.toNat default)))from ?_];rw [<-K9 h1.ge];simp [bp]
def mOk(m:ak):Prop:=(1<=m.bL/\m.bL<=65535)/\m.atoms.length<=4/\Srt m.atoms
def aV(p:List ak):Prop:=All p.length (λi=>mOk (p.getD i.toNat default)/\(0<i->gG (p.getD (i-1).toNat default).atoms (p.getD i.toNat default).atoms<0))/\p.length<=12/\bH p 200
 /\All p.length (λi=>¬(0< (p.getD i.toNat default).atoms.length/\(p.getD i.toNat default).atoms.getD 0 default<0))
abbrev Y6(pp:List ak×Int×Unit->Bool)(ff:List ak×Int×Unit->Bool×Unit):Prop:=∀a n,Sh a->pp (a,n,())=true/\ff (a,n,())=(bp (bH a n),())
abbrev Y7(pp:List Int×List Int×Unit->Bool)(ff:List Int×List Int×Unit->Int×Unit):Prop:=∀a b,a.length<1000000000->pp (a,b,())=true/\ff (a,b,())=(gG a b,())
def ajv{p1 f1 p2 f2 p4 f4}{p3:List Int×Unit->Bool}{f3:List Int×Unit->Bool×Unit}{p5:List ak×Unit->Bool}{f5:List ak×Unit->Bool×Unit}(U1:Y1 p1 f1)(U2:Y6 p2 f2)(U3:∀a,a.length<1000000000->p3 (a,())=true/\f3 (a,())=(bp (Srt a),()))(U4:Y7 p4 f4)(U5:∀a,a.length<1000000000->p5 (a,())=true/\(f5 (a,())=(bp (¬All a.length (λi=>¬(0< (a.getD i.toNat default).atoms.length/\(a.getD i.toNat default).atoms.getD 0 default<0))),())))(a:List ak)(ha:Sh a):YV.F (p1,f1,p2,f2,p3,f3,p4,f4,p5,f5,()) (a,()) (λy=>y=(bp (aV a),())):=by
 have hlen:=ha.1;dsimp only [YV,gm];refine aG (λ(y:List ak×Int×Int×List ak×Unit)=>y.1=a/\y.2.1=a.length/\y.2.2.2.1=a/\0<=y.2.2.1/\y.2.2.1<=a.length/\All y.2.2.1 (λi=>mOk (a.getD i.toNat default)/\(0<i->gG (a.getD (i-1).toNat default).atoms (a.getD i.toNat default).atoms<0))) (λy=>(a.length-y.2.2.1).toNat) ⟨rfl,rfl,rfl,by simp,by simp,All.zero⟩ ?_;rintro⟨(l:List ak),(m:Int),(i:Int),(l':List ak),⟨⟩⟩ hI;dsimp only at hI ⊢;obtain⟨rfl,rfl,rfl,h1,h2,h3⟩:=hI;simp (disch:=omega) only [RR,U1,U2 l' _ ha,U5 l' hlen];refine⟨λh4=> ?_,λh4=> ?_⟩
 .simp (disch:=omega) only [RR,U3 _ (ha.at _),U4 _ _ (ha.at _),bD,iP,inB];refine⟨ah,ah,by by_cases h:i<=0<;>simp [h]<;>omega,ah,λh5=> ?_,λh5=>⟨⟨ah,ah,h3.snoc ?_⟩,ah⟩⟩
  .rw [bU (λh=> ?_)];have:=h.1 i h1 h4;dsimp only [mOk]at this;obtain⟨⟨h6,h7,h8⟩,h9⟩:=this;rcases h5 with((h5 | h5) | h5) | ⟨h5,h10⟩
   .simp [-List.getD_eq_getElem?_getD]at h5;omega
   .omega
   .exact h5 h8
   .have:=h9 h5;omega
  .refine⟨⟨ah,ah,h5.1.2⟩,λh6=> ?_⟩;have:=h5.2;simp only [decide_eq_true h6,Bool.true_and,decide_eq_false_iff_not]at this;omega
 .unfold aV;rw [show All (↑l'.length) (λi=>mOk (l'.getD i.toNat default)/\(0<i->gG (l'.getD (i-1).toNat default).atoms (l'.getD i.toNat default).atoms<0))=True from eq_true (h3.le ah)];rw [true_and,Ca,Ca,Bool.and_assoc];refine congrArg (λb=>(b,())) ?_
  congr 1
  .by_cases h:l'.length<=12<;>simp [bp,h]<;>omega
  .congr 1
   simp [bp]
def Lb(a b:ak):Int:=or2 (gG a.atoms b.atoms) (je a.bL b.bL)
def Cc:List ak->List ak->Int
 | a::az,b::bs=>if Lb a b≠0 then Lb a b else Cc az bs
 | _,_=>0
def iD(a b:List ak):Int:=if je a.length b.length≠0 then je a.length b.length else Cc a b
def Ce(a b:List ak)(i:Nat):(h1:i<a.length)->(h2:i<b.length)->Cc (a.drop i) (b.drop i)=if Lb a[i] b[i]≠0 then Lb a[i] b[i]else Cc (a.drop (i+1)) (b.drop (i+1)):=by
 intro h1 h2;rw [List.drop_eq_getElem_cons h1,List.drop_eq_getElem_cons h2];rfl
def ajw{p1 f1 p2 f2 p4 f4}(U1:Y4 p1 f1)(U2:Y3 p2 f2)(U4:Y7 p4 f4)(a b:List ak)(ha:Sh a):YZ.F (p1,f1,p2,f2,p4,f4,()) (a,b,()) (λy=>y=(iD a b,())):=by
 have hlen:=ha.1;dsimp only [YZ,gm];simp (disch:=omega) only [RR,U2];refine⟨λh=>by rw [iD,if_pos h],λh=> ?_⟩;have hl:a.length=b.length:=by unfold je at h;split at h<;>(try split at h)<;>omega
 rw [show iD a b=Cc a b by rw [iD,if_neg (by simp [h])]];refine aG (λ(y:List ak×Int×Int×List ak×Unit)=>y.1=a/\y.2.1=a.length/\y.2.2.2.1=b/\0<=y.2.2.1/\y.2.2.1<=a.length/\Cc a b=Cc (a.drop y.2.2.1.toNat) (b.drop y.2.2.1.toNat)) (λy=>(a.length-y.2.2.1).toNat) ⟨rfl,rfl,rfl,by simp,by simp,by simp⟩ ?_;rintro⟨(l:List ak),(m:Int),(i:Int),(l':List ak),⟨⟩⟩ hI;dsimp only at hI ⊢;obtain⟨rfl,rfl,rfl,h1,h2,h3⟩:=hI;simp (disch:=omega) only [RR,U1,U4 _ _ (ha.at _)];refine⟨λh4=>⟨ah,ah,ah,ah,ah,ah,λh5=> ?_,λh5=>⟨⟨ah,ah,?_⟩,ah⟩⟩,λh4=> ?_⟩
 .rw [h3,Ce _ _ _ ah ah];rw [getD_lt ah,getD_lt ah]at h5 ⊢;exact((if_pos (c:=Lb l[i.toNat] l'[i.toNat]≠0) h5).trans rfl).symm▸rfl
 .rw [h3,Ce _ _ _ ah ah];rw [getD_lt ah,getD_lt ah]at h5;rw [if_neg (show¬(Lb l[i.toNat] l'[i.toNat]≠0)from λh=>h h5),show(i+1).toNat=i.toNat+1 by omega]
 .rw [h3,List.drop_eq_nil_of_le ah];rfl
abbrev Y8(pp:List ak×List ak×Unit->Bool)(ff:List ak×List ak×Unit->Int×Unit):Prop:=∀a b,Sh a->pp (a,b,())=true/\ff (a,b,())=(iD a b,())
def ajx{p1 f1}(U1:Y8 p1 f1)(a b:List ak)(ha:Sh a):
  Y0.F (p1,f1,()) (a,b,()) (λy=>y=(decide (iD a b=0),())):=by
 dsimp only [Y0,gm];simp (disch:=omega) only [RR,U1 a b ha]
theorem RH(k:IntKind)(x y:Int):lN .and k x y=xW .and k x y:=rfl
theorem aaf(k:IntKind)(x y:Int):lN .xor k x y=xW .xor k x y:=rfl
def aag(x:Int):xW .and .i64 x 65535=x%65536:=by
 unfold xW;dsimp only;rw [BitVec.toNat_and,BitVec.toNat_ofInt,BitVec.toNat_ofInt];have h1:((65535:Int)% ((2^IntKind.i64.bits:Nat):Int)).toNat=2^16-1:=by decide
 rw [h1,Nat.and_two_pow_sub_one_eq_mod];rw [w64 ah ah];have h2:((2^IntKind.i64.bits:Nat):Int)=18446744073709551616:=by decide
 rw [h2];omega
def ajy(a:Int):Zh.F () (a,()) (λy=>y=(a%65536,())):=by
 dsimp only [Zh,gm];simp (disch:=omega) only [RR,RH,aag]
def wdo(op a b:Int):Int:=if(0<=a/\a<=65535)/\(0<=b/\b<=65535)then
 (if op=1 then(a+b)%65536 else if op=2 then(a-b)%65536 else if op=3 then(a*b)%65536 else if op=4 then xW .and .i64 a b else if op=5 then xW .xor .i64 a b else 0)else 0
theorem fC{a b c:Int}:inB a b c=true↔(b<=a/\a<=c):=by simp [inB]
def qw{a b c:Int}:inB a b c=false↔¬(b<=a/\a<=c):=by rw [<-fC,Bool.not_eq_true]
abbrev Y9(pp:Int×Unit->Bool)(ff:Int×Unit->Bool×Unit):Prop:=∀a,pp (a,())=true/\ff (a,())=(inB a 0 65535,())
abbrev Y10(pp:Int×Unit->Bool)(ff:Int×Unit->Int×Unit):Prop:=∀a,pp (a,())=true/\ff (a,())=(a%65536,())
def ajz{p1 f1 p2 f2}(U1:Y9 p1 f1)(U2:Y10 p2 f2)(op a b:Int):
  Zq.F (p1,f1,p2,f2,()) (op,a,b,()) (λy=>y=(wdo op a b,())):=by
 dsimp only [Zq,gm];simp (disch:=omega) only [RR,U1,U2,RH,aaf,fC,qw];by_cases ha:(0<=a/\a<=65535)/\(0<=b/\b<=65535)
 .have hm:0<=a*b/\a*b<=65535*65535:=⟨Int.mul_nonneg ha.1.1 ha.2.1,Int.mul_le_mul ha.1.2 ha.2.2 ha.2.1 ah⟩
  grind [w64,wdo,absurd]
 grind [absurd,wdo]
def gF(n:Int):List ak:=if 1<=n/\n<=65535 then [⟨n,[]⟩]else []
def ajA{p1 f1}(U1:Y1 p1 f1)(a:Int):
  Ze.F (p1,f1,()) (a,()) (λy=>y=(gF a,())):=by
 dsimp only [Ze,gm];simp (disch:=omega) only [RR,U1,fC,qw]
 grind [gF]
def jN(n:Int):List ak:=if 0<=n/\n<=199 then [⟨1,[n]⟩]else []
def ajB{p1 f1}(U1:Y1 p1 f1)(a:Int):
  Zv.F (p1,f1,()) (a,()) (λy=>y=(jN a,())):=by
 dsimp only [Zv,gm];simp (disch:=omega) only [RR,U1,fC,qw]
 grind [jN]
noncomputable def bI (p:List ak):Int×Bool:=if bp (aV p)then(if p.length=0 then(0,true)else if p.length=1/\(p.getD 0 default).atoms.length=0 then((p.getD 0 default).bL,true)else(0,false))else(0,false)
abbrev Y11(pp:List ak×Unit->Bool)(ff:List ak×Unit->Bool×Unit):Prop:=∀a,Sh a->pp (a,())=true/\ff (a,())=(bp (aV a),())
def ajC{p1 f1}(U1:Y11 p1 f1)(a:List ak)(ha:Sh a):
  Zf.F (p1,f1,()) (a,()) (λy=>y=((bI a).1,(bI a).2,())):=by
 dsimp only [Zf,gm];simp (disch:=omega) only [RR,U1 a ha]
 grind [bI,Int.toNat,default,decide_eq_true,decide_eq_false_iff_not]
def ajD(a:List Int)(ha:a.length<=1073741824):Zg.F () (a,()) (λy=>y=(a,())):=by
 dsimp only [Zg,gm];simp (disch:=omega) only [RR];omega
def gT{α:Type}{l:List α}{i:Int}{d x:α}(h0:0<=i)(h:i<l.length)(e:x=l.getD i.toNat d):l.take i.toNat++ [x]=l.take (i+1).toNat:=by
 rw [e,getD_lt ah,show(i+1).toNat=i.toNat+1 by omega,List.take_succ_eq_append_getElem ah]
abbrev Y12(pp:List Int×Unit->Bool)(ff:List Int×Unit->List Int×Unit):Prop:=∀a,a.length<=1073741824->pp (a,())=true/\ff (a,())=(a,())
def ShA(a:Atom):Prop:=Sh a.x/\Sh a.y
def ShT(t:List Atom):Prop:=t.length<1000000000/\∀a∈t,ShA a
def ShT.at{p:List Atom}(h:ShT p)(n:Nat):ShA (p.getD n default):=by
 by_cases h1:n<p.length
 .rw [getD_lt h1];exact h.2 _ (List.getElem_mem _)
 .simp only [List.getD,List.getElem?_eq_none (by omega:p.length<=n)];refine⟨⟨by decide,λm hm=> ?_⟩,⟨by decide,λm hm=> ?_⟩⟩<;>exact absurd hm (by simp [default,instInhabitedAtom.default])
abbrev Y13(pp:List ak×Unit->Bool)(ff:List ak×Unit->List ak×Unit):Prop:=∀a,Sh a->pp (a,())=true/\ff (a,())=(a,())
def ajE{p4 f4}(U4:Y7 p4 f4)(a b:ak)(ha:a.atoms.length<1000000000):
  Zi.F (p4,f4,()) (a,b,()) (λy=>y=(gG a.atoms b.atoms,())):=by
 dsimp only [Zi,gm];simp (disch:=omega) only [RR,U4 a.atoms b.atoms ha]
def ajF(a:List Atom):Zt.F () (a,()) (λy=>y=(a,())):=by
 dsimp only [Zt,gm];simp (disch:=omega) only [RR];simp_all
def uJ(a b:Atom):Bool:=decide (a.kind=b.kind)&&decide (a.k=b.k)&&decide (iD a.x b.x=0)&&decide (iD a.y b.y=0)
abbrev Y14(pp:List ak×List ak×Unit->Bool)(ff:List ak×List ak×Unit->Bool×Unit):Prop:=∀a b,Sh a->pp (a,b,())=true/\ff (a,b,())=(decide (iD a b=0),())
def ajG{p1 f1}(U1:Y14 p1 f1)(a b:Atom)(ha:ShA a):
  Za.F (p1,f1,()) (a,b,()) (λy=>y=(uJ a b,())):=by
 dsimp only [Za,gm];simp (disch:=omega) only [RR,U1 a.x b.x ha.1,U1 a.y b.y ha.2];rfl
abbrev Y15(pp:Atom×Atom×Unit->Bool)(ff:Atom×Atom×Unit->Bool×Unit):Prop:=∀a b,ShA a->pp (a,b,())=true/\ff (a,b,())=(uJ a b,())
def ajH{p1 f1}(U1:Y15 p1 f1)(a b:Atom)(hb:ShA b):
  Zb.F (p1,f1,()) (a,b,()) (λy=>y=(uJ b a,b,())):=by
 dsimp only [Zb,gm];simp_all
noncomputable def idxOf (n:Int) (G:Int->Prop):Int:= @dite _ (∃r,Idx n G r) (Classical.propDecidable _) (λh=>Classical.choose h) (λ_=> -1)
def Idx.uniq{n:Int}{G:Int->Prop}{r s:Int}(h:Idx n G r)(h':Idx n G s):r=s:=by
 rcases h with⟨h1,h2⟩ | ⟨h1,h2,h3,h4⟩<;>rcases h' with⟨g1,g2⟩ | ⟨g1,g2,g3,g4⟩
 .omega
 .exact absurd g3 (h2 s g1 g2)
 .exact absurd h3 (g2 r h1 h2)
 .by_cases h5:r<s
  .exact absurd h3 (g4 r h1 h5)
  .by_cases h6:s<r
   .exact absurd g3 (h4 s g1 h6)
   .omega
def Idx.eq{n:Int}{G:Int->Prop}{r:Int}(h:Idx n G r):r=idxOf n G:=by
 unfold idxOf;have he:∃r,Idx n G r:=⟨r,h⟩;rw [dif_pos he];exact h.uniq (Classical.choose_spec he)
def agk{p:Atom×Atom×Unit->Bool}{f:Atom×Atom×Unit->Bool×Atom×Unit}(U:∀a b,ShA b->p (a,b,())=true/\f (a,b,())=(uJ b a,b,()))(a:List Atom)(b:Atom)(ha:a.length<1000000000)(hb:ShA b):
  Q7.F (p,f,()) (a,b,()) (λy=>y=(idxOf a.length (λi=>uJ b (a.getD i.toNat default)=true),b,())):=by
 dsimp only [Q7,gm];refine aG (λ(y:List Atom×Int×Int×Atom×Unit)=>y.1=a/\y.2.1=a.length/\y.2.2.2.1=b/\0<=y.2.2.1/\y.2.2.1<=a.length/\All y.2.2.1 (λi=>¬uJ b (a.getD i.toNat default)=true)) (λy=>(a.length-y.2.2.1).toNat) ⟨rfl,rfl,rfl,by simp,by simp,All.zero⟩ ?_;rintro⟨(l:List Atom),(m:Int),(i:Int),(b':Atom),⟨⟩⟩ hI;dsimp only at hI ⊢;obtain⟨rfl,rfl,rfl,h1,h2,h3⟩:=hI;simp (disch:=omega) only [RR,U _ _ hb];refine⟨λh4=>⟨ah,ah,λh5=> ?_,λh5=>⟨⟨ah,ah,h3.snoc (by simp only [h5];simp)⟩,ah⟩⟩,λh4=> ?_⟩
 .rw [<-Idx.eq (Or.inr ⟨ah,ah,h5,h3⟩)]
 .rw [<-Idx.eq (Or.inl ⟨rfl,h3.le ah⟩)]
noncomputable def wo (t:List Atom) (a:Atom):Int:=idxOf t.length (λi=>uJ a (t.getD i.toNat default)=true)
def ajI{p:List Atom×Atom×Unit->Bool}{f:List Atom×Atom×Unit->Int×Atom×Unit}(U:∀a b,a.length<1000000000->ShA b->p (a,b,())=true/\(f (a,b,())=(idxOf a.length (λi=>uJ b (a.getD i.toNat default)=true),b,())))(a:List Atom)(b:Atom)(ha:a.length<1000000000)(hb:ShA b):
  Zc.F (p,f,()) (a,b,()) (λy=>y=(wo a b,())):=by
 dsimp only [Zc,gm];simp (disch:=omega) only [RR,U a b ha hb];rfl
def kr(a:Atom)(n:Int):Prop:=if a.kind=4 then(1<=a.k/\a.k<=5)/\aV a.x/\aV a.y/\bH a.x n/\bH a.y n else
 (a.x=[]/\a.y=[])/\((a.kind=1/\0<=a.k/\a.k<=3)\/(a.kind=2\/a.kind=3)/\0<=a.k/\a.k<=199)
abbrev Y16(pp:Int×Unit->Bool)(ff:Int×Unit->Bool×Unit):Prop:=∀a,pp (a,())=true/\ff (a,())=(inB a 1 5,())
abbrev Y17(pp:Int×Unit->Bool)(ff:Int×Unit->Bool×Unit):Prop:=∀a,pp (a,())=true/\ff (a,())=(inB a 0 3,())
def ajJ{p1 f1 p2 f2 p3 f3 p4 f4 p5 f5}(U1:Y1 p1 f1)(U2:Y16 p2 f2)(U3:Y6 p3 f3)(U4:Y11 p4 f4)(U5:Y17 p5 f5)(a:Atom)(n:Int)(ha:ShA a):
  YX.F (p1,f1,p2,f2,p3,f3,p4,f4,p5,f5,()) (a,n,()) (λy=>y=(bp (kr a n),())):=by
 obtain⟨hx,hy⟩:=ha;have hx1:=hx.1;have hy1:=hy.1;dsimp only [YX,gm];simp (disch:=omega) only [RR,U1,U2,U3 a.x n hx,U3 a.y n hy,U4 a.x hx,U4 a.y hy,U5];unfold kr;refine⟨λh=> ?_,λh=>⟨λh1=> ?_,λh1=> ?_⟩⟩
 .grind [bD,fC]
 .rw [if_neg h,bU]
  grind
 .rw [if_neg h];have h2:a.x=[]:=List.eq_nil_of_length_eq_zero ah;have h3:a.y=[]:=List.eq_nil_of_length_eq_zero ah
  grind [bD,fC]
def aR(t:List Atom):Prop:=All t.length (λi=>kr (t.getD i.toNat default) i/\wo t (t.getD i.toNat default)=i)/\t.length<=200
abbrev Y18(pp:Atom×Int×Unit->Bool)(ff:Atom×Int×Unit->Bool×Unit):Prop:=∀a n,ShA a->pp (a,n,())=true/\ff (a,n,())=(bp (kr a n),())
abbrev Y19(pp:List Atom×Atom×Unit->Bool)(ff:List Atom×Atom×Unit->Int×Unit):Prop:=∀a b,a.length<1000000000->ShA b->pp (a,b,())=true/\ff (a,b,())=(wo a b,())
def ajK{p1 f1 p2 f2}(U1:Y18 p1 f1)(U2:Y19 p2 f2)(a:List Atom)(ha:ShT a):
  Zd.F (p1,f1,p2,f2,()) (a,()) (λy=>y=(bp (aR a),())):=by
 have hlen:=ha.1;dsimp only [Zd,gm];refine aG (λ(y:List Atom×Int×Int×List Atom×Unit)=>y.1=a/\y.2.1=a.length/\y.2.2.2.1=a/\0<=y.2.2.1/\y.2.2.1<=a.length/\All y.2.2.1 (λi=>kr (a.getD i.toNat default) i/\wo a (a.getD i.toNat default)=i)) (λy=>(a.length-y.2.2.1).toNat) ⟨rfl,rfl,rfl,by simp,by simp,All.zero⟩ ?_;rintro⟨(l:List Atom),(m:Int),(i:Int),(b':List Atom),⟨⟩⟩ hI;dsimp only at hI ⊢;obtain⟨rfl,rfl,rfl,h1,h2,h3⟩:=hI;simp (disch:=omega) only [RR,U1 _ _ (ha.at _),U2 _ _ ha.1 (ha.at _),bD,iP];refine⟨λh4=>⟨ah,ah,λh5=> ?_,λh5=>⟨⟨ah,ah,h3.snoc h5⟩,ah⟩⟩,λh4=> ?_⟩
 .rw [bU (λh=> ?_)];have:=h.1 i h1 h4;simp_all
 grind [eO,aR,decide_eq_true,bU,decide_eq_false]
noncomputable def cu (t:List Atom) (a:Atom):List Atom×Int:=if 0<=wo t a then(t,wo t a)else @ite _ (¬kr a t.length\/t.length=200) (Classical.propDecidable _) (t, -1) (t++ [a],(t.length:Int))
def ajL{p1 f1 p2 f2}{p3:List Atom×Unit->Bool}{f3:List Atom×Unit->List Atom×Unit}(U1:Y18 p1 f1)(U2:Y19 p2 f2)(U3:∀a,p3 (a,())=true/\f3 (a,())=(a,()))(t:List Atom)(a:Atom)(ht:t.length<1000000000)(ha:ShA a):
  Zu.F (p1,f1,p2,f2,p3,f3,()) (t,a,()) (λy=>y=((cu t a).1,(cu t a).2,())):=by
 dsimp only [Zu,gm];simp (disch:=omega) only [RR,U1 a t.length ha,U2 t a ht ha,U3,bD,iP]
 grind [cu,List.length_cons,List.length_nil,absurd]
def Jo(a b:Int):je b a= -je a b:=by unfold je;repeat' split<;>omega
def kL{a b:Int}:je a b=0↔a=b:=by unfold je;constructor<;>intro h<;>(repeat' split at*)<;>omega
def Jp:∀a b:List Int,mU b a= -mU a b
 | [],[]=>rfl | [],_::_=>rfl | _::_,[]=>rfl
 | a::az,b::bs=>by
  simp only [mU,Jo a b,Jp az bs];split<;>split<;>omega
def Jq:∀ {a b:List Int},mU a b=0->a=b
 | [],[],_=>rfl | [],_::_,h=>by simp [mU]at h
 | _::_,[],h=>by simp [mU]at h
 | a::az,b::bs,h=>by
  simp only [mU]at h;split at h
  .exact absurd h (by assumption)
  .rename_i h1;rw [kL.1 (Classical.not_not.1 h1),Jq h]
def Jr:∀a:List Int,mU a a=0
 | []=>rfl
 | a::az=>by simp only [mU,show je a a=0 from kL.2 rfl];simp [Jr az]
def F3:∀ {a b c:List Int},mU a b<=0->mU b c<=0->mU a c<=0
 | [],_,[],_,_=>by simp [mU]
 | [],_,_::_,_,_=>by simp [mU]
 | _::_,[],_,h,_=>by simp [mU]at h
 | _::_,_::_,[],_,h=>by simp [mU]at h
 | a::az,b::bs,c::cs,h1,h2=>by
  have ih:= @F3 az bs cs;simp only [mU]at h1 h2 ⊢;unfold je at h1 h2 ⊢
  repeat' split at h1
  all_goals (repeat' split at h2)
  all_goals (repeat' split)
  all_goals omega
def sQ(a b:List Int):gG b a= -gG a b:=by
 unfold gG or2;rw [Jo,Jp];repeat' split<;>omega
def l9{a b:List Int}:gG a b=0↔a=b:=by
 constructor
 .intro h;unfold gG or2 at h;split at h
  .exact absurd h (by assumption)
  .exact Jq h
 .rintro rfl;unfold gG or2;rw [show je (a.length:Int) a.length=0 from kL.2 rfl,Jr];rfl
def yR{a b c:List Int}(h1:gG a b<=0)(h2:gG b c<=0):gG a c<=0:=by
 have ih:= @F3 a b c;unfold gG or2 je at*
 repeat' split at h1
 all_goals (repeat' split at h2)
 all_goals (repeat' split)
 all_goals omega
def le(x y:ak):Prop:=gG x.atoms y.atoms<=0
def le.trans{x y z:ak}(h1:le x y)(h2:le y z):le x z:=yR h1 h2
def sS{x y:ak}(h:¬gG y.atoms x.atoms<0):le x y:=by unfold le;rw [sQ];omega
def le_of_lt{x y:ak}(h:gG x.atoms y.atoms<0):le x y:=by unfold le;omega
def le_refl(x:ak):le x x:=by unfold le;rw [l9.2 rfl];omega
def fK{x y z:ak}(h1:le x y)(h2:gG y.atoms z.atoms<0):gG x.atoms z.atoms<0:=by
 have h3:=yR h1 (le_of_lt h2);by_cases h:gG x.atoms z.atoms=0
 .have e:=l9.1 h;unfold le at h1;rw [e,sQ]at h1;omega
 .omega
def mg{x y z:ak}(h1:gG x.atoms y.atoms<0)(h2:le y z):gG x.atoms z.atoms<0:=by
 have h3:=yR (le_of_lt h1) h2;by_cases h:gG x.atoms z.atoms=0
 .have e:=l9.1 h;unfold le at h2;rw [<-e,sQ]at h2;omega
 .omega
def Lc(g:ak->Int)(x:ak):∀(d:List ak) (n:Nat) (h:n<d.length),((d.set n x).map g).sum=(d.map g).sum-g d[n]+g x
 | [],_,h=>absurd h (by simp)
 | a::d,0,h=>by simp;omega
 | a::d,n+1,h=>by
  have:=Lc g x d n (by simpa using h);simp only [List.set_cons_succ,List.map_cons,List.sum_cons,List.getElem_cons_succ];omega
structure Sm(d d':List ak):Prop where
 len:d'.length=d.length
 sum:∀g:ak->Int,(d'.map g).sum=(d.map g).sum
def Sm.refl(d:List ak):Sm d d:=⟨rfl,λ_=>rfl⟩
def Sm.trans{a b c:List ak}(h1:Sm a b)(h2:Sm b c):Sm a c:=⟨h2.1.trans h1.1,λg=>(h2.2 g).trans (h1.2 g)⟩
def Ld(x:ak):∀d:List ak,0<=(d.map (λy=>if y=x then(1:Int)else 0)).sum/\(0< (d.map (λy=>if y=x then(1:Int)else 0)).sum↔x∈d)
 | []=>by simp
 | a::d=>by
  have:=Ld x d;simp only [List.map_cons,List.sum_cons,List.mem_cons];by_cases h:a=x
  .rw [if_pos h];refine⟨ah,⟨λ_=>Or.inl h.symm,λ_=>by omega⟩⟩
  .rw [if_neg h];refine⟨ah,⟨λh2=>Or.inr (this.2.1 ah),λh2=> ?_⟩⟩;rcases h2 with h2 | h2
   .exact absurd h2.symm h
   .have:=this.2.2 h2;omega
def Sm.mem{a b:List ak}(h:Sm a b){x:ak}(hx:x∈b):x∈a:=by
 rw [<-(Ld x a).2,<-h.2];exact(Ld x b).2.2 hx
def Sm.sh{a b:List ak}(h:Sm a b)(hs:Sh a):Sh b:=⟨by have:=hs.1;have:=h.1;omega,λm hm=>hs.2 m (h.mem hm)⟩
def swp(d:List ak)(i j:Int):List ak:=(d.set i.toNat ((d).getD (j).toNat default)).set j.toNat ((d).getD (i).toNat default)
def acW(d:List ak)(i j:Int):(swp d i j).length=d.length:=by simp [swp]
def at_set{d:List ak}{i j:Int}{x:ak}(h1:0<=i)(h2:i<d.length)(h3:0<=j):((d.set i.toNat x).getD (j).toNat default)=if j=i then x else((d).getD (j).toNat default):=by
 simp only [List.getD];by_cases h:j=i
 .subst h;rw [if_pos rfl,List.getElem?_set_self ah];rfl
 .rw [if_neg h,List.getElem?_set_ne ah]
def wu{d:List ak}{i j k:Int}(h1:0<=i)(h2:i<d.length)(h3:0<=j)(h4:j<d.length)(h5:0<=k):((swp d i j).getD (k).toNat default)=if k=j then((d).getD (i).toNat default)else if k=i then((d).getD (j).toNat default)else((d).getD (k).toNat default):=by
 unfold swp;rw [at_set h3 (by simp;omega) h5,at_set h1 h2 h5]
def Le{d:List ak}{i j:Int}(h1:0<=i)(h2:i<d.length)(h3:0<=j)(h4:j<d.length):Sm d (swp d i j):=by
 refine⟨acW d i j,λg=> ?_⟩;unfold swp;rw [getD_lt (show i.toNat<d.length by omega),getD_lt (show j.toNat<d.length by omega),Lc g _ _ _ (by simp;omega),Lc g _ _ _ ah,List.getElem_set];split
 .rename_i h;have:i=j:=by omega
  subst this;omega
 .omega
def Swp(d d':List ak)(a b n:Int):Prop:=Sm d d'/\∀k,0<=k->((d').getD (k).toNat default)=if a<=k/\k<a+n then((d).getD (k+(b-a)).toNat default)else if b<=k/\k<b+n then((d).getD (k- (b-a)).toNat default)else((d).getD (k).toNat default)
theorem agl(a b n:Int)(d:List ak)(hl:d.length<1000000000)(h1:0<=a)(h2:0<=n)(h3:a+n<=b)(h4:b+n<=d.length):
  Q9.F () (a,b,n,d,()) (λy=>Swp d y.1 a b n):=by
 dsimp only [Q9,gm]
 refine aG (λ(y:Int×Int×Int×Int×List ak×Unit)=>y.1=a/\y.2.1=b/\y.2.2.1=n/\0<=y.2.2.2.1/\y.2.2.2.1<=n/\Swp d y.2.2.2.2.1 a b y.2.2.2.1) (λy=>(n-y.2.2.2.1).toNat)
  ⟨rfl,rfl,rfl,by simp,by simp;omega,Sm.refl d,λk hk=>by dsimp only;rw [if_neg ah,if_neg ah]⟩ ?_
 rintro⟨(a':Int),(b':Int),(n':Int),(i:Int),(e:List ak),⟨⟩⟩ hI;dsimp only at hI ⊢;obtain⟨rfl,rfl,rfl,h5,h6,h7,h8⟩:=hI;have hle:=h7.1;simp (disch:=omega) only [RR,List.length_set];refine⟨λh9=> ?_,λh9=> ?_⟩
 .have e1:(e.set (a'+i).toNat ((e).getD (b'+i).toNat default)).set (b'+i).toNat ((e).getD (a'+i).toNat default)=swp e (a'+i) (b'+i):=rfl;rw [e1];refine⟨ah,ah,ah,ah,ah,ah,ah,ah,ah,ah,ah,ah,ah,ah,ah,ah,⟨ah,ah,h7.trans (Le ah ah ah ah),λk hk=> ?_⟩,ah⟩;rw [wu ah ah ah ah hk];rw [h8 _ ah,h8 _ ah,h8 _ hk]
  repeat' split
  all_goals first | rfl | (exfalso;omega) | (congr 2;omega)
 .have:i=n':=by omega
  subst this;exact⟨h7,h8⟩
def Rot(d d':List ak)(a m b:Int):Prop:=Sm d d'/\∀k,0<=k->((d').getD (k).toNat default)=if a<=k/\k<a+(b-m)then((d).getD (k+(m-a)).toNat default)else if a+(b-m)<=k/\k<b then((d).getD (k- (b-m)).toNat default)else((d).getD (k).toNat default)
def agm{p:Int×Int×Int×List ak×Unit->Bool}{f:Int×Int×Int×List ak×Unit->List ak×Unit}(U:∀(a b n:Int) (d:List ak),d.length<1000000000->0<=a->0<=n->a+n<=b->b+n<=d.length->p (a,b,n,d,())=true/\Swp d (f (a,b,n,d,())).1 a b n)(a m b:Int)(d:List ak)(hl:d.length<1000000000)(h1:0<=a)(h2:a<m)(h3:m<b)(h4:b<=d.length):
  Ra.F (p,f,()) (a,m,b,d,()) (λy=>Rot d y.1 a m b):=by
 dsimp only [Ra,gm];simp (disch:=omega) only [RR]
 refine aG (λ(y:Int×Int×Int×List ak×Unit)=>y.1=m/\0<y.2.1/\0<y.2.2.1/\a<=m-y.2.1/\m+y.2.2.1<=b/\Sm d y.2.2.2.1/\
   ∀k,0<=k->(if a<=k/\k<a+(b-m)then((d).getD (k+(m-a)).toNat default)else if a+(b-m)<=k/\k<b then((d).getD (k- (b-m)).toNat default)else((d).getD (k).toNat default))
    =(if m-y.2.1<=k/\k<m-y.2.1+y.2.2.1 then((y.2.2.2.1).getD (k+y.2.1).toNat default)else if m-y.2.1+y.2.2.1<=k/\k<m+y.2.2.1 then((y.2.2.2.1).getD (k-y.2.2.1).toNat default)else((y.2.2.2.1).getD (k).toNat default))) (λy=>(y.2.1+y.2.2.1).toNat)
  ⟨rfl,by simp;omega,by simp;omega,by simp;omega,by simp;omega,Sm.refl d,λk hk=>by
   dsimp only;rw [show m- (m-a)=a by omega,show m+(b-m)=b by omega]⟩ ?_
 rintro⟨(m':Int),(i:Int),(j:Int),(e:List ak),⟨⟩⟩ hI;dsimp only at hI ⊢;obtain⟨rfl,h5,h6,h7,h8,h9,h10⟩:=hI;have hle:=h9.1;simp (disch:=omega) only [RR];refine⟨λh11=>⟨λh12=> ?_,λh12=> ?_⟩,λh11=> ?_⟩
 .obtain⟨s1,s2⟩:=(U (m'-i) m' j e ah ah ah ah ah).2;refine⟨(U _ _ _ _ ah ah ah ah ah).1,⟨ah,ah,ah,ah,h9.trans s1,λk hk=> ?_⟩,ah⟩;rw [h10 k hk];generalize (f (m'-i,m',j,e,())).1=e' at s1 s2 ⊢;by_cases c1:m'-i<=k/\k<m'-i+j
  .rw [if_pos c1,if_neg ah,if_neg ah,s2 k hk,if_pos c1];congr 2;omega
  .rw [if_neg c1];by_cases c2:m'-i+j<=k/\k<m'+j
   .rw [if_pos c2];by_cases c3:m'- (i-j)<=k/\k<m'- (i-j)+j
    .rw [if_pos c3,s2 _ ah,if_neg ah,if_pos ah];congr 2;omega
    .rw [if_neg c3,if_pos ah,s2 _ ah,if_neg ah,if_neg ah]
   .rw [if_neg c2,if_neg ah,if_neg ah,s2 _ hk,if_neg ah,if_neg ah]
 .obtain⟨s1,s2⟩:=(U (m'-i) (m'+j-i) i e ah ah ah ah ah).2;refine⟨(U _ _ _ _ ah ah ah ah ah).1,⟨ah,ah,ah,ah,h9.trans s1,λk hk=> ?_⟩,ah⟩;rw [h10 k hk];generalize (f (m'-i,m'+j-i,i,e,())).1=e' at s1 s2 ⊢;by_cases c1:m'-i<=k/\k<m'-i+j
  .rw [if_pos c1];by_cases c3:k<m'-i+(j-i)
   .rw [if_pos ah,s2 _ ah];by_cases c4:k<m'
    .by_cases c5:k+i<m'+j-i
     .rw [if_neg ah,if_neg ah]
     .exfalso;omega
    .by_cases c5:k+i<m'+j-i
     .rw [if_neg ah,if_neg ah]
     .exfalso;omega
   .by_cases c6:k<m'
    .rw [if_neg ah,if_pos ah,s2 _ ah,if_pos ah];congr 2;omega
    .rw [if_neg ah,if_pos ah,s2 _ ah];by_cases c7:k- (j-i)<m'
     .rw [if_pos ah];congr 2;omega
     .exfalso;omega
  .rw [if_neg c1];by_cases c2:m'-i+j<=k/\k<m'+j
   .rw [if_pos c2,if_neg ah,if_neg ah,s2 _ hk,if_neg ah,if_pos ah];congr 2;omega
   .rw [if_neg c2,if_neg ah,if_neg ah,s2 _ hk,if_neg ah,if_neg ah]
 .have hij:i=j:=by omega
  subst hij;obtain⟨s1,s2⟩:=(U (m'-i) m' i e ah ah ah ah ah).2;refine⟨(U _ _ _ _ ah ah ah ah ah).1,h9.trans s1,λk hk=> ?_⟩;rw [h10 k hk,s2 k hk]
  repeat' split
  all_goals first | rfl | (exfalso;omega) | (congr 2;omega)
def oL(d:List ak)(a b:Int):Prop:=∀p q,a<=p->p<=q->q<b->le ((d).getD (p).toNat default) ((d).getD (q).toNat default)
def Out(d d':List ak)(a b:Int):Prop:=∀k,0<=k->(k<a\/b<=k)->((d').getD (k).toNat default)=((d).getD (k).toNat default)
abbrev Y20(pp:ak×ak×Unit->Bool)(ff:ak×ak×Unit->Int×Unit):Prop:=∀x y,x.atoms.length<1000000000->pp (x,y,())=true/\ff (x,y,())=(gG x.atoms y.atoms,())
theorem agn{p f}(U:Y20 p f)(a b:Int)(d:List ak)(hd:Sh d)(h1:0<=a)(h2:a<=b)(h3:b<=d.length):
  Q8.F (p,f,()) (a,b,d,()) (λy=>Sm d y.1/\Out d y.1 a b/\oL y.1 a b):=by
 have hlen:=hd.1;dsimp only [Q8,gm];simp (disch:=omega) only [RR]
 refine aG (λ(y:Int×Int×Int×List ak×Unit)=>y.1=a/\y.2.1=b/\a+1<=y.2.2.1/\(y.2.2.1<=b\/y.2.2.1=a+1)/\Sm d y.2.2.2.1/\Out d y.2.2.2.1 a b/\oL y.2.2.2.1 a y.2.2.1) (λy=>(b-y.2.2.1).toNat)
  ⟨rfl,rfl,by simp,Or.inr rfl,Sm.refl d,λk _ _=>rfl,λp q h1 h2 h3=>by dsimp only at h3;rw [show p=q by omega];exact le_refl _⟩ ?_
 rintro⟨(a':Int),(b':Int),(i:Int),(e:List ak),⟨⟩⟩ hI;dsimp only at hI ⊢;obtain⟨rfl,rfl,h4,h5,h6,h7,h8⟩:=hI;have hle:=h6.1;simp (disch:=omega) only [RR];refine⟨λh9=> ?_,λh9=>⟨h6,h7,λp q g1 g2 g3=>h8 p q g1 g2 ah⟩⟩
 refine aG (λ(y:Int×Int×Int×Int×List ak×Unit)=>y.1=a'/\y.2.1=b'/\y.2.2.1=i/\a'<=y.2.2.2.1/\y.2.2.2.1<=i/\Sm d y.2.2.2.2.1/\Out d y.2.2.2.2.1 a' b'
   /\(∀p q,a'<=p->p<=q->q<=i->p≠y.2.2.2.1->q≠y.2.2.2.1->le ((y.2.2.2.2.1).getD (p).toNat default) ((y.2.2.2.2.1).getD (q).toNat default))/\(∀q,y.2.2.2.1<q->q<=i->le ((y.2.2.2.2.1).getD (y.2.2.2.1).toNat default) ((y.2.2.2.2.1).getD (q).toNat default))) (λy=>y.2.2.2.1.toNat)
  ⟨rfl,rfl,rfl,by simp;omega,by simp,h6,h7,λp q g1 g2 g3 g4 g5=>h8 p q g1 g2 (by dsimp only at g3 g5;omega),λq g1 g2=>by dsimp only at g1;omega⟩ ?_
 rintro⟨(a'':Int),(b'':Int),(i':Int),(j:Int),(e':List ak),⟨⟩⟩ hI;dsimp only at hI ⊢;obtain⟨rfl,rfl,rfl,h10,h11,h12,h13,h14,h15⟩:=hI;have hle':=h12.1;have hs:=h12.sh hd;simp (disch:=omega) only [RR,List.length_set,U _ _ (hs.at _)];have e1:(e'.set j.toNat ((e').getD (j-1).toNat default)).set (j-1).toNat ((e').getD (j).toNat default)=swp e' j (j-1):=rfl;rw [e1]
 repeat' (refine And.intro ?_ ?_)
 all_goals try omega
 .intro ⟨g1,g2⟩
  repeat' (refine And.intro ?_ ?_)
  all_goals try omega
  .exact h12.trans (Le ah ah ah ah)
  .intro k hk hk2;rw [wu ah ah ah ah hk,if_neg ah,if_neg ah];exact h13 k hk hk2
  .intro p q k1 k2 k3 k4 k5;rw [wu ah ah ah ah ah,if_neg k4,wu ah ah ah ah ah,if_neg k5];by_cases c1:p=j
   .rw [if_pos c1];by_cases c2:q=j
    .rw [if_pos c2];exact le_refl _
    .rw [if_neg c2];exact h14 _ _ ah ah ah ah ah
   .rw [if_neg c1];by_cases c2:q=j
    .rw [if_pos c2];exact h14 _ _ ah ah ah ah ah
    .rw [if_neg c2];exact h14 _ _ ah ah ah ah ah
  .intro q k1 k2;rw [wu ah ah ah ah ah,if_pos rfl,wu ah ah ah ah ah,if_neg ah];by_cases c2:q=j
   .rw [if_pos c2];exact le_of_lt g2
   .rw [if_neg c2];exact h15 q ah k2
 .intro g;refine⟨⟨ah,ah,h12,h13,?_⟩,ah⟩;have hj:a''<j->le ((e').getD (j-1).toNat default) ((e').getD (j).toNat default):=λc=>sS (by
   simp only [decide_eq_true c,Bool.true_and,decide_eq_false_iff_not]at g;exact g)
  intro p q k1 k2 k3;by_cases c1:p=j
  .subst c1;by_cases c2:q=p
   .rw [c2];exact le_refl _
   .exact h15 q ah ah
  .by_cases c2:q=j
   .subst c2;by_cases c3:p=q-1
    .rw [c3];exact hj ah
    .exact(h14 p (q-1) k1 ah ah c1 ah).trans (hj ah)
   .exact h14 p q k1 k2 ah c1 c2
def half{x:Int}(h1:0<=x)(h2:x<=4000000000):IntKind.i64.wrap (lN .shr .u64 (IntKind.u64.wrap x) 1)=x/2:=by grind [IntKind.wrap,IntKind.bits,IntKind.signed,lN,min,Int.toNat,Int.fdiv_eq_ediv_of_nonneg,w64]
structure Mrg(d d':List ak)(a b:Int):Prop where
 sm:Sm d d'
 out:Out d d' a b
 ins:∀k,a<=k->k<b->∃j,a<=j/\j<b/\((d').getD (k).toNat default)=((d).getD (j).toNat default)
 srt:oL d' a b
structure F4(a m b:Int)(d:List ak):Prop where
 sh:Sh d
 h1:0<=a
 h2:a<m
 h3:m<b
 h4:b<=d.length
 s1:oL d a m
 s2:oL d m b
def Cg{P Q:Prop}[Decidable P][Decidable Q]:((decide P&&decide Q)=false)↔¬(P/\Q):=by simp_all
def NV{p2:Int×Int×Int×List ak×Unit->Bool}{f2:Int×Int×Int×List ak×Unit->List ak×Unit}
    (hp2:∀(a m b:Int) (d:List ak),d.length<1000000000->0<=a->a<m->m<b->b<=d.length->p2 (a,m,b,d,())=true) (hf2:∀(a m b:Int) (d:List ak),d.length<1000000000->0<=a->a<m->m<b->b<=d.length->Rot d (f2 (a,m,b,d,())).1 a m b)
    {p3:Int×Int×Int×List ak×Unit->Bool} {f3:Int×Int×Int×List ak×Unit->List ak×Unit}
    (K:Int) (hp3:∀(a m b:Int) (d:List ak),F4 a m b d->b-a<K->p3 (a,m,b,d,())=true) (hf3:∀(a m b:Int) (d:List ak),F4 a m b d->b-a<K->Mrg d (f3 (a,m,b,d,())).1 a b)
    (a m b mid i E:Int) (d:List ak) (hd:F4 a m b d) (hK:b-a<=K) (hmid:mid=(a+b)/2) (hE:E=mid+m-i)
    (b1:a<=i) (b2:i<=m) (b3:m<=E) (b4:E<=b) (b5:a<mid) (b6:mid<b)
    (fA:i=a\/E=b\/le ((d).getD (i-1).toNat default) ((d).getD (E).toNat default)) (fB:E=m\/i=m\/le ((d).getD (E-1).toNat default) ((d).getD (i).toNat default)):
      (i<m/\m<E->
          p2 (i,m,E,d,())=true/\
            (a<i/\i<mid->
                p3 (a,i,mid,(f2 (i,m,E,d,())).fst,())=true/\
                  (mid<E/\E<b->
                      p3 (mid,E,b,(f3 (a,i,mid,(f2 (i,m,E,d,())).fst,())).fst,())=true/\
                        Mrg d (f3 (mid,E,b,(f3 (a,i,mid,(f2 (i,m,E,d,())).fst,())).fst,())).fst
                          a b)/\
                    ((decide (mid<E)&&decide (E<b))=false->
                      Mrg d (f3 (a,i,mid,(f2 (i,m,E,d,())).fst,())).fst a b))/\
              ((decide (a<i)&&decide (i<mid))=false->
                (mid<E/\E<b->
                    p3 (mid,E,b,(f2 (i,m,E,d,())).fst,())=true/\
                      Mrg d (f3 (mid,E,b,(f2 (i,m,E,d,())).fst,())).fst a b)/\
                  ((decide (mid<E)&&decide (E<b))=false->
                    Mrg d (f2 (i,m,E,d,())).fst a b)))/\
        ((decide (i<m)&&decide (m<E))=false->
          (a<i/\i<mid->
              p3 (a,i,mid,d,())=true/\
                (mid<E/\E<b->
                    p3 (mid,E,b,(f3 (a,i,mid,d,())).fst,())=true/\
                      Mrg d (f3 (mid,E,b,(f3 (a,i,mid,d,())).fst,())).fst a b)/\
                  ((decide (mid<E)&&decide (E<b))=false->
                    Mrg d (f3 (a,i,mid,d,())).fst a b))/\
            ((decide (a<i)&&decide (i<mid))=false->
              (mid<E/\E<b->
                  p3 (mid,E,b,d,())=true/\Mrg d (f3 (mid,E,b,d,())).fst a b)/\
                ((decide (mid<E)&&decide (E<b))=false->Mrg d d a b))):=by
  obtain⟨hs,h1,h2,h3,h4,hA,hB⟩:=hd;have hlen:=hs.1;have cross:∀x y,((a<=x/\x<i)\/(m<=x/\x<E))->((i<=y/\y<m)\/(E<=y/\y<b))->le ((d).getD (x).toNat default) ((d).getD (y).toNat default):=by
    rintro x y (hx | hx) (hy | hy)
    · exact hA x y hx.1 ah hy.2
    · rcases fA with fA | fA | fA
      · omega
      · omega
      · exact((hA x (i-1) hx.1 ah ah).trans fA).trans (hB E y b3 hy.1 hy.2)
    · rcases fB with fB | fB | fB
      · omega
      · omega
      · exact((hB x (E-1) hx.1 ah ah).trans fB).trans (hA i y b1 hy.1 hy.2)
    · exact hB x y hx.1 ah hy.2
  have ajM : ∀ e, Rot d e i m E -> ∀ R : Prop, R = Mrg d e a b -> (a < i /\ i < mid ->
              p3 (a,i,mid,e,())=true/\
                (mid<E/\E<b->
                    p3 (mid,E,b,(f3 (a,i,mid,e,())).fst,())=true/\
                      Mrg d (f3 (mid,E,b,(f3 (a,i,mid,e,())).fst,())).fst a b)/\
                  ((decide (mid<E)&&decide (E<b))=false->
                    Mrg d (f3 (a,i,mid,e,())).fst a b))/\
            ((decide (a<i)&&decide (i<mid))=false->
              (mid<E/\E<b->
                  p3 (mid,E,b,e,())=true/\Mrg d (f3 (mid,E,b,e,())).fst a b)/\
                ((decide (mid<E)&&decide (E<b))=false->R)):=by
    rintro e ⟨r1,r2⟩ R rfl;have hle:=r1.1;have hes:=r1.sh hs;have lo:∀k,a<=k->k<mid->∃x,((a<=x/\x<i)\/(m<=x/\x<E))/\((e).getD (k).toNat default)=((d).getD (x).toNat default):=by
      intro k k1 k2;rw [r2 k ah];by_cases c1:i<=k/\k<i+(E-m)
      · grind
      · rw [if_neg c1,if_neg ah];exact⟨k,ah,rfl⟩
    have hi:∀k,mid<=k->k<b->∃x,((i<=x/\x<m)\/(E<=x/\x<b))/\((e).getD (k).toNat default)=((d).getD (x).toNat default):=by
      intro k k1 k2;rw [r2 k ah,if_neg ah];by_cases c1:i+(E-m)<=k/\k<E
      all_goals grind
    have S1:oL e a i:=by
      intro p q q1 q2 q3;rw [r2 p ah,r2 q ah,if_neg ah,if_neg ah,if_neg ah,if_neg ah];exact hA p q q1 q2 ah
    have S2:oL e i mid:=by
      intro p q q1 q2 q3;rw [r2 p ah,r2 q ah,if_pos ah,if_pos ah];exact hB _ _ ah ah ah
    have S3:oL e mid E:=by
      intro p q q1 q2 q3;rw [r2 p ah,r2 q ah,if_neg ah,if_pos ah,if_neg ah,if_pos ah];exact hA _ _ ah ah ah
    have S4:oL e E b:=by
      intro p q q1 q2 q3;rw [r2 p ah,r2 q ah,if_neg ah,if_neg ah,if_neg ah,if_neg ah];exact hB _ _ ah ah ah
    have fin:∀e1 e2,Mrg e e1 a mid->Mrg e1 e2 mid b->Mrg d e2 a b:=by
      intro e1 e2 m1 m2;refine⟨(r1.trans m1.sm).trans m2.sm,λk k1 k2=> ?_,λk k1 k2=> ?_,λp q q1 q2 q3=> ?_⟩
      · rw [m2.out k k1 ah,m1.out k k1 ah,r2 k k1,if_neg ah,if_neg ah]
      · by_cases c:k<mid
        · rw [m2.out k ah ah];obtain⟨j,j1,j2,j3⟩:=m1.ins k k1 c;obtain⟨x,x1,x2⟩:=lo j j1 j2;rw [j3,x2];exact⟨x,ah,ah,rfl⟩
        · obtain⟨j,j1,j2,j3⟩:=m2.ins k ah k2;rw [j3,m1.out j ah ah];obtain⟨x,x1,x2⟩:=hi j j1 j2;rw [x2];exact⟨x,ah,ah,rfl⟩
      · by_cases c:q<mid
        · rw [m2.out p ah ah,m2.out q ah ah];exact m1.srt p q q1 q2 c
        · by_cases c2:mid<=p
          · exact m2.srt p q c2 q2 q3
          · rw [m2.out p ah ah];obtain⟨j,j1,j2,j3⟩:=m1.ins p q1 ah;obtain⟨x,x1,x2⟩:=lo j j1 j2;obtain⟨j',j1',j2',j3'⟩:=m2.ins q ah q3;obtain⟨x',x1',x2'⟩:=hi j' j1' j2';rw [j3,x2,j3',m1.out j' ah ah,x2'];exact cross x x' x1 x1'
    have triv:∀e' a' b',oL e' a' b'->Mrg e' e' a' b':=λe' a' b' h=>⟨Sm.refl _,λ_ _ _=>rfl,λk k1 k2=>⟨k,k1,k2,rfl⟩,h⟩
    have last : ∀ e1, Mrg e e1 a mid -> (mid < E /\ E < b ->
                    p3 (mid,E,b,e1,())=true/\
                      Mrg d (f3 (mid,E,b,e1,())).fst a b)/\
                  ((decide (mid<E)&&decide (E<b))=false->
                    Mrg d e1 a b):=by
      intro e1 m1;have hle1:=m1.sm.1;have O:∀a' b',mid<=a'->b'<=b->oL e a' b'->oL e1 a' b':=λa' b' g1 g2 g p q q1 q2 q3=>by
        rw [m1.out p ah ah,m1.out q ah ah];exact g p q q1 q2 q3
      refine⟨λc=> ?_,λc=> ?_⟩
      · have pre:F4 mid E b e1:=⟨m1.sm.sh hes,ah,c.1,c.2,ah,O _ _ ah ah S3,O _ _ ah ah S4⟩;exact⟨hp3 _ _ _ _ pre ah,fin _ _ m1 (hf3 _ _ _ _ pre ah)⟩
      · rw [Cg]at c;refine fin _ _ m1 (triv _ _ _ ?_);by_cases c2:mid<E
        · have:E=b:=by omega
          subst this;exact O _ _ ah ah S3
        · have:E=mid:=by omega
          rw [this]at S4;exact O _ _ ah ah S4
    refine⟨λc=> ?_,λc=> ?_⟩
    · have pre:F4 a i mid e:=⟨hes,ah,c.1,c.2,ah,S1,S2⟩;exact⟨hp3 _ _ _ _ pre ah,last _ (hf3 _ _ _ _ pre ah)⟩
    · rw [Cg]at c;refine last e (triv _ _ _ ?_);by_cases c2:a<i
      · have:i=mid:=by omega
        rw [<-this];exact S1
      · have:i=a:=by omega
        rw [this]at S2;exact S2
  refine⟨λc=>⟨hp2 _ _ _ _ hlen ah c.1 c.2 ah,ajM _ (hf2 _ _ _ _ hlen ah c.1 c.2 ah) _ rfl⟩,λc=>ajM d ?_ _ rfl⟩;rw [Cg]at c;refine⟨Sm.refl _,λk k1=> ?_⟩
  repeat' split
  all_goals first | rfl | (exfalso;omega) | (congr 2;omega)
theorem agp{p f}{p2:Int×Int×Int×List ak×Unit->Bool}{f2:Int×Int×Int×List ak×Unit->List ak×Unit}{p3:Int×Int×Int×List ak×Unit->Bool}{f3:Int×Int×Int×List ak×Unit->List ak×Unit}(U:Y20 p f)(U2:∀(a m b:Int) (d:List ak),d.length<1000000000->0<=a->a<m->m<b->b<=d.length->p2 (a,m,b,d,())=true/\Rot d (f2 (a,m,b,d,())).1 a m b)(K:Int)(U3:∀(a m b:Int) (d:List ak),F4 a m b d->b-a<K->p3 (a,m,b,d,())=true/\Mrg d (f3 (a,m,b,d,())).1 a b)(a m b:Int)(d:List ak)(hd:F4 a m b d)(hK:b-a<=K):
  FZ.F (p,f,p2,f2,p3,f3,()) (a,m,b,d,()) (λy=>Mrg d y.1 a b):=by
 obtain⟨hs,h1,h2,h3,h4,hA,hB⟩:=hd;have hlen:=hs.1;dsimp only [FZ,gm];simp (disch:=omega) only [RR];refine⟨λh5=> ?_,λh5=>⟨λh6=> ?_,λh6=> ?_⟩⟩
 ·
  have hm:m=a+1:=by omega
  subst hm
  refine aG (λ(y:Int×Int×Int×List ak×Unit)=>y.1=a/\y.2.2.2.1=d/\a+1<=y.2.1/\y.2.1<=y.2.2.1/\y.2.2.1<=b/\(∀q,a+1<=q->q<y.2.1->gG ((d).getD (q).toNat default).atoms ((d).getD (a).toNat default).atoms<0)/\(∀q,y.2.2.1<=q->q<b->¬gG ((d).getD (q).toNat default).atoms ((d).getD (a).toNat default).atoms<0)) (λy=>(y.2.2.1-y.2.1).toNat)
   ⟨rfl,rfl,by simp,by simp;omega,by simp,λq g1 g2=>by dsimp only at g2;omega,λq g1 g2=>by dsimp only at g1;omega⟩ ?_
  rintro⟨(a':Int),(i:Int),(j:Int),(d':List ak),⟨⟩⟩ hI;dsimp only at hI ⊢;obtain⟨rfl,rfl,g1,g2,g3,g4,g5⟩:=hI;simp (disch:=omega) only [RR,half,U _ _ (hs.at _)];refine⟨λg6=>⟨ah,ah,ah,ah,ah,ah,ah,ah,ah,λg7=>⟨⟨ah,ah,ah,λq k1 k2=> ?_,g5⟩,ah⟩,λg7=>⟨⟨ah,ah,ah,g4,λq k1 k2=> ?_⟩,ah⟩⟩,λg6=> ?_⟩
  .exact fK (hB q ((i+j)/2) k1 ah ah) g7
  .intro g8;exact g7 (fK (hB ((i+j)/2) q ah ah k2) g8)
  have hij:i=j:=by omega
  subst hij
  refine aG (λ(y:Int×Int×List ak×Unit)=>y.1=i/\a'<=y.2.1/\y.2.1<=i-1/\Sm d' y.2.2.1/\(∀k,0<=k->((y.2.2.1).getD (k).toNat default)=if a'<=k/\k<y.2.1 then((d').getD (k+1).toNat default)else if k=y.2.1 then((d').getD (a').toNat default)else((d').getD (k).toNat default))) (λy=>(i-y.2.1).toNat)
   ⟨rfl,by simp,by simp;omega,Sm.refl _,λk hk=>by dsimp only;rw [if_neg ah];split;(· congr 2);(· rfl)⟩ ?_
  rintro⟨(i':Int),(k:Int),(e:List ak),⟨⟩⟩ hI;dsimp only at hI ⊢;obtain⟨rfl,k1,k2,k3,k4⟩:=hI;have hle:=k3.1;simp (disch:=omega) only [RR,List.length_set];have e1:(e.set k.toNat ((e).getD (k+1).toNat default)).set (k+1).toNat ((e).getD (k).toNat default)=swp e k (k+1):=rfl;rw [e1];refine⟨λg7=>⟨ah,ah,ah,ah,ah,ah,ah,ah,ah,ah,ah,ah,ah,ah,ah,ah,⟨ah,ah,k3.trans (Le ah ah ah ah),λq hq=> ?_⟩,ah⟩,λg7=> ?_⟩
  .rw [wu ah ah ah ah hq,k4 _ ah,k4 _ ah,k4 _ hq]
   repeat' split
   all_goals grind
  .have hk:k=i'-1:=by omega
   subst hk;refine⟨k3,λq hq hq2=> ?_,λq hq hq2=> ?_,λq r q1 q2 q3=> ?_⟩
   .rw [k4 q hq,if_neg ah,if_neg ah]
   .rw [k4 q ah]
    repeat' split
    .exact⟨q+1,ah,ah,rfl⟩
    .exact⟨a',ah,ah,rfl⟩
    .exact⟨q,ah,ah,rfl⟩
   .rw [k4 q ah,k4 r ah];by_cases c1:a'<=q/\q<i'-1
    .rw [if_pos c1];by_cases c2:a'<=r/\r<i'-1
     .rw [if_pos c2];exact hB _ _ ah ah ah
     .rw [if_neg c2];by_cases c3:r=i'-1
      .rw [if_pos c3];exact le_of_lt (g4 _ ah ah)
      .rw [if_neg c3];exact hB _ _ ah ah ah
    .rw [if_neg c1,if_neg (by omega:¬(a'<=r/\r<i'-1))];by_cases c3:q=i'-1
     .rw [if_pos c3];by_cases c4:r=i'-1
      .rw [if_pos c4];exact le_refl _
      .rw [if_neg c4];exact sS (g5 r ah ah)
     .rw [if_neg c3,if_neg ah];exact hB _ _ ah ah ah
 ·
  have hm:b=m+1:=by omega
  subst hm
  refine aG (λ(y:Int×Int×Int×List ak×Unit)=>y.1=m/\y.2.2.2.1=d/\a<=y.2.1/\y.2.1<=y.2.2.1/\y.2.2.1<=m/\(∀q,a<=q->q<y.2.1->¬gG ((d).getD (m).toNat default).atoms ((d).getD (q).toNat default).atoms<0)/\(∀q,y.2.2.1<=q->q<m->gG ((d).getD (m).toNat default).atoms ((d).getD (q).toNat default).atoms<0)) (λy=>(y.2.2.1-y.2.1).toNat)
   ⟨rfl,rfl,by simp,by simp;omega,by simp,λq g1 g2=>by dsimp only at g2;omega,λq g1 g2=>by dsimp only at g1;omega⟩ ?_
  rintro⟨(m':Int),(i:Int),(j:Int),(d':List ak),⟨⟩⟩ hI;dsimp only at hI ⊢;obtain⟨rfl,rfl,g1,g2,g3,g4,g5⟩:=hI;simp (disch:=omega) only [RR,half,U _ _ (hs.at _)];refine⟨λg6=>⟨ah,ah,ah,ah,ah,ah,ah,ah,ah,λg7=>⟨⟨ah,ah,ah,λq k1 k2=> ?_,g5⟩,ah⟩,λg7=>⟨⟨ah,ah,ah,g4,λq k1 k2=> ?_⟩,ah⟩⟩,λg6=> ?_⟩
  .intro g8;have:=hA q ((i+j)/2) k1 ah ah;apply g7;have h7:=mg g8 this;exact h7
  .exact mg g7 (hA ((i+j)/2) q ah ah k2)
  have hij:i=j:=by omega
  subst hij
  refine aG (λ(y:Int×Int×List ak×Unit)=>y.1=i/\i<=y.2.1/\y.2.1<=m'/\Sm d' y.2.2.1/\(∀k,0<=k->((y.2.2.1).getD (k).toNat default)=if y.2.1<k/\k<=m' then((d').getD (k-1).toNat default)else if k=y.2.1 then((d').getD (m').toNat default)else((d').getD (k).toNat default))) (λy=>(y.2.1-i).toNat)
   ⟨rfl,by simp;omega,by simp,Sm.refl _,λk hk=>by dsimp only;rw [if_neg ah];split;(· congr 2);(· rfl)⟩ ?_
  rintro⟨(i':Int),(k:Int),(e:List ak),⟨⟩⟩ hI;dsimp only at hI ⊢;obtain⟨rfl,k1,k2,k3,k4⟩:=hI;have hle:=k3.1;simp (disch:=omega) only [RR,List.length_set];have e1:(e.set k.toNat ((e).getD (k-1).toNat default)).set (k-1).toNat ((e).getD (k).toNat default)=swp e k (k-1):=rfl;rw [e1];refine⟨λg7=>⟨ah,ah,ah,ah,ah,ah,ah,ah,ah,ah,ah,ah,ah,ah,ah,ah,⟨ah,ah,k3.trans (Le ah ah ah ah),λq hq=> ?_⟩,ah⟩,λg7=> ?_⟩
  .rw [wu ah ah ah ah hq,k4 _ ah,k4 _ ah,k4 _ hq]
   repeat' split
   all_goals first | rfl | (exfalso;omega) | (congr 2;omega)
  .have hk:k=i':=by omega
   subst hk;refine⟨k3,λq hq hq2=> ?_,λq hq hq2=> ?_,λq r q1 q2 q3=> ?_⟩
   .rw [k4 q hq,if_neg ah,if_neg ah]
   .rw [k4 q ah]
    repeat' split
    .exact⟨q-1,ah,ah,rfl⟩
    .exact⟨m',ah,ah,rfl⟩
    .exact⟨q,ah,ah,rfl⟩
   .rw [k4 q ah,k4 r ah];by_cases c1:k<q/\q<=m'
    .rw [if_pos c1,if_pos ah];exact hA _ _ ah ah ah
    .rw [if_neg c1];by_cases c3:q=k
     .rw [if_pos c3];by_cases c2:k<r/\r<=m'
      .rw [if_pos c2];exact le_of_lt (g5 _ ah ah)
      .rw [if_neg c2,if_pos ah];exact le_refl _
     .rw [if_neg c3];by_cases c2:k<r/\r<=m'
      .rw [if_pos c2];exact hA _ _ ah ah ah
      .rw [if_neg c2];by_cases c4:r=k
       .rw [if_pos c4];exact sS (g4 _ ah ah)
       .rw [if_neg c4];exact hA _ _ ah ah ah
 ·
  simp (disch:=omega) only [RR,half];refine⟨ah,λh7=> ?_,λh7=> ?_⟩
  .refine aG (λ(y:Int×Int×Int×Int×Int×Int×Int×Int×List ak×Unit)=>y.1=a/\y.2.1=m/\y.2.2.1=b/\y.2.2.2.1=(a+b)/2/\y.2.2.2.2.1=(a+b)/2+m/\y.2.2.2.2.2.2.2.1=(a+b)/2+m-1/\y.2.2.2.2.2.2.2.2.1=d/\(a+b)/2+m-b<=y.2.2.2.2.2.1/\y.2.2.2.2.2.1<=y.2.2.2.2.2.2.1/\y.2.2.2.2.2.2.1<=(a+b)/2
     /\(∀q,(a+b)/2+m-b<=q->q<y.2.2.2.2.2.1->¬gG ((d).getD ((a+b)/2+m-1-q).toNat default).atoms ((d).getD (q).toNat default).atoms<0)/\(∀q,y.2.2.2.2.2.2.1<=q->q< (a+b)/2->gG ((d).getD ((a+b)/2+m-1-q).toNat default).atoms ((d).getD (q).toNat default).atoms<0)) (λy=>(y.2.2.2.2.2.2.1-y.2.2.2.2.2.1).toNat)
    ⟨rfl,rfl,rfl,rfl,rfl,rfl,rfl,by simp,by simp;omega,by simp,λq g1 g2=>by dsimp only at g2;omega,λq g1 g2=>by dsimp only at g1;omega⟩ ?_
   rintro⟨(a':Int),(m':Int),(b':Int),(mid:Int),(n:Int),(i:Int),(j:Int),(r:Int),(d':List ak),⟨⟩⟩ hI;dsimp only at hI ⊢;obtain⟨rfl,rfl,rfl,hmid,hn,hr,rfl,g1,g2,g3,g4,g5⟩:=hI;rw [<-hmid]at g1 g3 g4 g5 h7;simp (disch:=omega) only [RR,half,U _ _ (hs.at _)];refine⟨λg6=>⟨ah,ah,ah,ah,ah,ah,ah,ah,ah,λg7=>⟨⟨hmid,hn,hr,ah,ah,ah,λq k1 k2=> ?_,by rw [<-hmid];exact g5⟩,ah⟩,λg7=>⟨⟨hmid,hn,hr,ah,ah,ah,by rw [<-hmid];exact g4,λq k1 k2=> ?_⟩,ah⟩⟩,λg6=> ?_⟩
   .rw [<-hmid]at k1 ⊢;intro g8;apply g7;rw [hr,<-hmid];exact fK (hB _ _ ah ah ah) (mg g8 (hA _ _ ah ah ah))
   .rw [<-hmid]at k2 ⊢;rw [hr,<-hmid]at g7;exact fK (hB _ _ ah ah ah) (mg g7 (hA _ _ ah ah ah))
   .have hij:i=j:=by omega
    subst hij;refine NV (λz1 z2 z3 z4 z5 z6 z7 z8 z9=>(U2 z1 z2 z3 z4 z5 z6 z7 z8 z9).1) (λz1 z2 z3 z4 z5 z6 z7 z8 z9=>(U2 z1 z2 z3 z4 z5 z6 z7 z8 z9).2) K (λz1 z2 z3 z4 z5 z6=>(U3 z1 z2 z3 z4 z5 z6).1) (λz1 z2 z3 z4 z5 z6=>(U3 z1 z2 z3 z4 z5 z6).2) a' m' b' mid i (n-i) d' ⟨hs,h1,h2,h3,h4,hA,hB⟩ hK hmid ah ah ah ah ah ah ah ?_ ?_
    .by_cases c:i=mid+m'-b'
     .first | exact Or.inl ah | exact Or.inr (Or.inl ah)
     .refine Or.inr (Or.inr ?_);have:=g4 (i-1) ah ah;rw [show mid+m'-1- (i-1)=n-i by omega]at this;exact sS this
    .by_cases c:i=mid
     .first | exact Or.inl ah | exact Or.inr (Or.inl ah)
     .refine Or.inr (Or.inr ?_);have:=g5 i ah ah;rw [show mid+m'-1-i=n-i-1 by omega]at this;exact le_of_lt this
  .refine aG (λ(y:Int×Int×Int×Int×Int×Int×Int×Int×List ak×Unit)=>y.1=a/\y.2.1=m/\y.2.2.1=b/\y.2.2.2.1=(a+b)/2/\y.2.2.2.2.1=(a+b)/2+m/\y.2.2.2.2.2.2.2.1=(a+b)/2+m-1/\y.2.2.2.2.2.2.2.2.1=d/\a<=y.2.2.2.2.2.1/\y.2.2.2.2.2.1<=y.2.2.2.2.2.2.1/\y.2.2.2.2.2.2.1<=m
     /\(∀q,a<=q->q<y.2.2.2.2.2.1->¬gG ((d).getD ((a+b)/2+m-1-q).toNat default).atoms ((d).getD (q).toNat default).atoms<0)/\(∀q,y.2.2.2.2.2.2.1<=q->q<m->gG ((d).getD ((a+b)/2+m-1-q).toNat default).atoms ((d).getD (q).toNat default).atoms<0)) (λy=>(y.2.2.2.2.2.2.1-y.2.2.2.2.2.1).toNat)
    ⟨rfl,rfl,rfl,rfl,rfl,rfl,rfl,by simp,by simp;omega,by simp,λq g1 g2=>by dsimp only at g2;omega,λq g1 g2=>by dsimp only at g1;omega⟩ ?_
   rintro⟨(a':Int),(m':Int),(b':Int),(mid:Int),(n:Int),(i:Int),(j:Int),(r:Int),(d':List ak),⟨⟩⟩ hI;dsimp only at hI ⊢;obtain⟨rfl,rfl,rfl,hmid,hn,hr,rfl,g1,g2,g3,g4,g5⟩:=hI;rw [<-hmid]at g4 g5 h7;simp (disch:=omega) only [RR,half,U _ _ (hs.at _)];refine⟨λg6=>⟨ah,ah,ah,ah,ah,ah,ah,ah,ah,λg7=>⟨⟨hmid,hn,hr,ah,ah,ah,λq k1 k2=> ?_,by rw [<-hmid];exact g5⟩,ah⟩,λg7=>⟨⟨hmid,hn,hr,ah,ah,ah,by rw [<-hmid];exact g4,λq k1 k2=> ?_⟩,ah⟩⟩,λg6=> ?_⟩
   .rw [<-hmid];intro g8;apply g7;rw [hr,<-hmid];exact fK (hB _ _ ah ah ah) (mg g8 (hA _ _ ah ah ah))
   .rw [<-hmid];rw [hr,<-hmid]at g7;exact fK (hB _ _ ah ah ah) (mg g7 (hA _ _ ah ah ah))
   .have hij:i=j:=by omega
    subst hij;refine NV (λz1 z2 z3 z4 z5 z6 z7 z8 z9=>(U2 z1 z2 z3 z4 z5 z6 z7 z8 z9).1) (λz1 z2 z3 z4 z5 z6 z7 z8 z9=>(U2 z1 z2 z3 z4 z5 z6 z7 z8 z9).2) K (λz1 z2 z3 z4 z5 z6=>(U3 z1 z2 z3 z4 z5 z6).1) (λz1 z2 z3 z4 z5 z6=>(U3 z1 z2 z3 z4 z5 z6).2) a' m' b' mid i (n-i) d' ⟨hs,h1,h2,h3,h4,hA,hB⟩ hK hmid ah ah ah ah ah ah ah ?_ ?_
    .by_cases c:i=a'
     .first | exact Or.inl ah | exact Or.inr (Or.inl ah)
     .refine Or.inr (Or.inr ?_);have:=g4 (i-1) ah ah;rw [show mid+m'-1- (i-1)=n-i by omega]at this;exact sS this
    .by_cases c:i=m'
     .first | exact Or.inl ah | exact Or.inr (Or.inl ah)
     .refine Or.inr (Or.inr ?_);have:=g5 i ah ah;rw [show mid+m'-1-i=n-i-1 by omega]at this;exact le_of_lt this
def wW{s a x:Int}(h:s ∣ a)(h1:a<x)(h2:x<a+s):¬s ∣ x:=λh3=>by
 have:=Int.le_of_dvd ah (Int.dvd_sub h3 h);omega
def oL.adj{d:List ak}{a b:Int}(h:∀p,a<=p->p+1<b->le ((d).getD (p).toNat default) ((d).getD (p+1).toNat default)):oL d a b:=by
 intro p q h1 h2 h3;obtain⟨n,hn⟩:∃n:Nat,q=p+n:=⟨(q-p).toNat,ah⟩;subst hn
 clear h2
 induction n with
 | zero=>rw [show p+((0:Nat):Int)=p by omega];exact le_refl _
 | succ n ih=>
  have:=h (p+n) ah ah;rw [show p+((n+1:Nat):Int)=p+n+1 by omega];exact(ih ah).trans this
def oL.at1{d:List ak}{a b p:Int}(h:oL d a b)(h1:a<=p)(h2:p+1<b):le ((d).getD (p).toNat default) ((d).getD (p+1).toNat default):=h p (p+1) h1 ah h2
def Bl(d:List ak)(s n:Int):Prop:=∀p,0<=p->p+1<n->¬s ∣ p+1->le ((d).getD (p).toNat default) ((d).getD (p+1).toNat default)
def agq{p:Int×Int×List ak×Unit->Bool}{f:Int×Int×List ak×Unit->List ak×Unit}{p3:Int×Int×Int×List ak×Unit->Bool}{f3:Int×Int×Int×List ak×Unit->List ak×Unit}(U:∀(a b:Int) (d:List ak),Sh d->0<=a->a<=b->b<=d.length->p (a,b,d,())=true/\Sm d (f (a,b,d,())).1/\Out d (f (a,b,d,())).1 a b/\oL (f (a,b,d,())).1 a b)(U3:∀(a m b:Int) (d:List ak),F4 a m b d->p3 (a,m,b,d,())=true/\Mrg d (f3 (a,m,b,d,())).1 a b)(n:Int)(d:List ak)(hd:Sh d)(hn:n=d.length):
  Rb.F (p,f,p3,f3,()) (n,d,()) (λy=>Sm d y.1/\oL y.1 0 n):=by
 have hlen:=hd.1;dsimp only [Rb,gm];simp (disch:=omega) only [RR]
 refine aG (λ(y:Int×Int×Int×Int×List ak×Unit)=>y.1=n/\y.2.1=20/\0<=y.2.2.1/\y.2.2.1<=n/\(20:Int) ∣ y.2.2.1/\y.2.2.2.1=y.2.2.1+20/\Sm d y.2.2.2.2.1/\Bl y.2.2.2.2.1 20 y.2.2.1) (λy=>(n+20-y.2.2.2.1).toNat)
  ⟨rfl,rfl,by simp,by simp;omega,⟨0,by simp⟩,rfl,Sm.refl _,λp h1 h2=>by dsimp only at h2;omega⟩ ?_
 rintro⟨(n':Int),(s:Int),(a:Int),(b:Int),(e:List ak),⟨⟩⟩ hI;dsimp only at hI ⊢;obtain⟨rfl,rfl,h1,h2,h3,rfl,h5,h6⟩:=hI;have hle:=h5.1;have hs:=h5.sh hd;simp (disch:=omega) only [RR];have bl:∀a c (e e':List ak),0<=a->(20:Int) ∣ a->c<=a+20->Bl e 20 a->Out e e' a c->oL e' a c->Bl e' 20 c:=by
  intro a c e e' c0 c1 c2 c3 c4 c5 q q1 q2 q3;by_cases k1:q+1<a
  .rw [c4 q q1 ah,c4 (q+1) ah ah];exact c3 q q1 k1 q3
  .exact c5.at1 ah q2
 refine⟨λh7=> ?_,λh7=> ?_⟩
 .obtain⟨t1,t2,t3⟩:=(U a (a+20) e hs h1 ah ah).2;exact⟨(U a (a+20) e hs h1 ah ah).1,⟨ah,ah,ah,h5.trans t1,bl a (a+20) _ _ h1 h3 ah h6 t2 t3⟩,ah⟩
 obtain⟨t1,t2,t3⟩:=(U a n' e hs h1 ah ah).2;refine⟨(U a n' e hs h1 ah ah).1,?_⟩;have t4:=bl a n' _ _ h1 h3 ah h6 t2 t3;generalize (f (a,n',e,())).1=e2 at t1 t2 t3 t4 ⊢;have u1:=h5.trans t1
 clear t1 t2 t3 h5 h6
 refine aG (λ(y:Int×Int×List ak×Unit)=>y.1=n'/\0<y.2.1/\(y.2.1<=20\/y.2.1<=2*n')/\Sm d y.2.2.1/\Bl y.2.2.1 y.2.1 n') (λy=>(n'-y.2.1).toNat)
  ⟨rfl,by simp,Or.inl (by simp),u1,t4⟩ ?_
 rintro⟨(n:Int),(s:Int),(e3:List ak),⟨⟩⟩ hI;dsimp only at hI ⊢;obtain⟨rfl,g1,g2,g3,g4⟩:=hI;simp (disch:=omega) only [RR];refine⟨λg5=> ?_,λg5=>⟨g3,oL.adj λq q1 q2=>g4 q q1 q2 (wW (a:=0) ⟨0,by simp⟩ ah ah)⟩⟩
 refine aG (λ(y:Int×Int×Int×Int×List ak×Unit)=>y.1=n/\y.2.1=s/\0<=y.2.2.1/\y.2.2.1<=n/\(2*s) ∣ y.2.2.1/\y.2.2.2.1=y.2.2.1+2*s/\Sm d y.2.2.2.2.1
   /\∀p,0<=p->p+1<n->¬(2*s) ∣ p+1->(p+1<y.2.2.1\/¬s ∣ p+1)->le ((y.2.2.2.2.1).getD (p).toNat default) ((y.2.2.2.2.1).getD (p+1).toNat default)) (λy=>(n+2*s-y.2.2.2.1).toNat)
  ⟨rfl,rfl,by simp,by simp;omega,⟨0,by simp⟩,by simp,g3,λq q1 q2 q3 q4=>g4 q q1 q2 (by dsimp only at q4;rcases q4 with q4 | q4;(· omega);(· exact q4))⟩ ?_
 rintro⟨(n':Int),(s':Int),(a:Int),(b:Int),(e4:List ak),⟨⟩⟩ hI;dsimp only at hI ⊢;obtain⟨rfl,rfl,k1,k2,k3,rfl,k5,k6⟩:=hI;have hle:=k5.1;have hs:=k5.sh hd;have ks:s' ∣ a:=Int.dvd_trans ⟨2,ah⟩ k3;simp (disch:=omega) only [RR];have blk:∀x,x<=n'->a+s'<x->x<=a+2*s'->F4 a (a+s') x e4:=λx x1 x2 x3=>
  ⟨hs,k1,ah,x2,ah,oL.adj λq q1 q2=>by
   refine k6 q ah ah (wW k3 ah ah) (Or.inr (wW ks ah ah)),
   oL.adj λq q1 q2=>by
   refine k6 q ah ah (wW k3 ah ah) (Or.inr (wW (Int.dvd_add ks (Int.dvd_refl s')) ah ah))⟩
 have stp:∀x e5,x<=n'->(x=a+2*s'\/x=n')->x<=a+2*s'->Mrg e4 e5 a x->∀p,0<=p->p+1<n'->¬(2*s') ∣ p+1->(p+1<x\/¬s' ∣ p+1)->le ((e5).getD (p).toNat default) ((e5).getD (p+1).toNat default):=by
  intro x e5 x1 x2 x3 m1 q q1 q2 q3 q4;by_cases c1:q+1<a
  .rw [m1.out q q1 ah,m1.out (q+1) ah ah];exact k6 q q1 q2 q3 (Or.inl c1)
  .by_cases c2:q+1=a
   .rw [c2]at q3;exact absurd k3 q3
   .by_cases c3:q+1<x
    .exact m1.srt.at1 ah c3
    .by_cases c4:q+1=x
     .exfalso;rcases x2 with x2 | x2
      .rw [c4,x2]at q3;exact q3 (Int.dvd_add k3 (Int.dvd_refl _))
      .omega
     .rw [m1.out q q1 ah,m1.out (q+1) ah ah];refine k6 q q1 q2 q3 (Or.inr ?_);rcases q4 with q4 | q4
      .omega
      .exact q4
 refine⟨λk7=> ?_,λk7=>⟨λk8=> ?_,λk8=> ?_⟩⟩
 .have pre:=blk (a+2*s') k7 ah ah;have m1:=(U3 _ _ _ _ pre).2;exact⟨(U3 _ _ _ _ pre).1,⟨ah,ah,Int.dvd_add k3 (Int.dvd_refl _),k5.trans m1.sm,stp _ _ k7 (Or.inl rfl) ah m1⟩,ah⟩
 .have pre:=blk n' ah k8 ah;have m1:=(U3 _ _ _ _ pre).2;refine⟨(U3 _ _ _ _ pre).1,⟨ah,Or.inr ah,k5.trans m1.sm,λq q1 q2 q3=> ?_⟩,ah⟩;exact stp _ _ ah (Or.inr rfl) ah m1 q q1 q2 (by rw [Int.mul_comm];exact q3) (Or.inl q2)
 .refine⟨⟨ah,Or.inr ah,k5,λq q1 q2 q3=> ?_⟩,ah⟩;rw [Int.mul_comm]at q3;by_cases c1:q+1<a
  .exact k6 q q1 q2 q3 (Or.inl c1)
  .by_cases c2:q+1=a
   .rw [c2]at q3;exact absurd k3 q3
   .exact k6 q q1 q2 q3 (Or.inr (wW ks ah ah))
def agr{p:Int×List ak×Unit->Bool}{f:Int×List ak×Unit->List ak×Unit}(U:∀(n:Int) (d:List ak),Sh d->n=d.length->p (n,d,())=true/\Sm d (f (n,d,())).1/\oL (f (n,d,())).1 0 n)(d:List ak)(hd:Sh d):
  Rc.F (p,f,()) (d,()) (λy=>Sm d y.1/\oL y.1 0 d.length):=by
 have:=(U _ d hd rfl).2;dsimp only [Rc,gm];exact⟨(U _ d hd rfl).1,this⟩
def cf(l:List ak)(k:List Int):Int:=(l.map λm=>if m.atoms=k then m.bL else 0).sum
theorem mW(k:List Int):cf [] k=0:=rfl
def dL(m:ak)(l:List ak)(k:List Int):cf (m::l) k=(if m.atoms=k then m.bL else 0)+cf l k:=by simp [cf]
def dU(a b:List ak)(k:List Int):cf (a++b) k=cf a k+cf b k:=by simp [cf]
def jO{k:List Int}:∀ {l:List ak},(∀m∈l,m.atoms≠k)->cf l k=0
 | [],_=>rfl
 | m::l,h=>by rw [dL,if_neg (h m (by simp)),jO (λm hm=>h m (by simp [hm]))];rfl
def Sm.cf{a b:List ak}(h:Sm a b)(k:List Int):cf b k=cf a k:=h.sum _
def lt(a b:ak):Prop:=gG a.atoms b.atoms<0
def lt.ne{a b:ak}(h:lt a b):a.atoms≠b.atoms:=λe=>by unfold lt at h;rw [e,l9.2 rfl]at h;omega
structure Nf(o:List ak):Prop where
 ss:o.Pairwise lt
 co:∀m∈o,1<=m.bL/\m.bL<=65535
def Uj:∀ {o1 o2:List ak},Nf o1->Nf o2->(∀k,cf o1 k=cf o2 k)->o1=o2
 | [],[],_,_,_=>rfl
 | [],m::o,_,h2,h=>by
  have:=h m.atoms;rw [dL,if_pos rfl,jO (λm' hm'=>((List.rel_of_pairwise_cons h2.ss hm').ne).symm),mW]at this;have:=(h2.co m (by simp));omega
 | m::o,[],h1,_,h=>by
  have:=h m.atoms;rw [dL,if_pos rfl,jO (λm' hm'=>((List.rel_of_pairwise_cons h1.ss hm').ne).symm),mW]at this;have:=(h1.co m (by simp));omega
 | m1::o1,m2::o2,h1,h2,h=>by
  have c1:=h1.co m1 (by simp);have c2:=h2.co m2 (by simp);have z1:cf o1 m1.atoms=0:=jO λm' hm'=>((List.rel_of_pairwise_cons h1.ss hm').ne).symm
  have z2:cf o2 m2.atoms=0:=jO λm' hm'=>((List.rel_of_pairwise_cons h2.ss hm').ne).symm
  have tr:∀ {a b c:ak},lt a b->lt b c->lt a c:=λg1 g2=>fK (le_of_lt g1) g2
  have e:m1.atoms=m2.atoms:=by
   by_cases g1:lt m1 m2
   .have:=h m1.atoms;rw [dL,if_pos rfl,z1,dL,if_neg (λe=>g1.ne e.symm),jO (λm' hm'=>((tr g1 (List.rel_of_pairwise_cons h2.ss hm')).ne).symm)]at this;omega
   .by_cases g2:lt m2 m1
    .have:=h m2.atoms;rw [dL,if_neg (λe=>g2.ne e.symm),jO (λm' hm'=>((tr g2 (List.rel_of_pairwise_cons h1.ss hm')).ne).symm),dL,if_pos rfl,z2]at this;omega
    .unfold lt at g1 g2;rw [sQ]at g2;exact l9.1 ah
  have ec:m1.bL=m2.bL:=by
   have:=h m1.atoms;rw [dL,if_pos rfl,z1,dL,if_pos e.symm,e,z2]at this;omega
  have em:m1=m2:=by cases m1;cases m2;simp_all
  subst em;refine congrArg _ (Uj ⟨h1.ss.tail,λm hm=>h1.co m (by simp [hm])⟩ ⟨h2.ss.tail,λm hm=>h2.co m (by simp [hm])⟩ (λk=>by
   have:=h k;rw [dL,dL]at this;omega))
noncomputable def nf (l:List ak):List ak:= @dite _ (∃o,Nf o/\∀k,cf o k=cf l k%65536) (Classical.propDecidable _) (λh=>Classical.choose h) (λ_=> [])
def Uk{l o:List ak}(h:Nf o)(h2:∀k,cf o k=cf l k%65536):nf l=o:=by
 have he:∃o,Nf o/\∀k,cf o k=cf l k%65536:=⟨o,h,h2⟩;unfold nf;rw [dif_pos he];have:=Classical.choose_spec he;exact Uj this.1 h (λk=>(this.2 k).trans (h2 k).symm)
noncomputable def uh (l:List ak):Bool×List ak:=(bp (aV (nf l)),if bp (aV (nf l))then nf l else [])
def Cb(l:List ak):Prop:=∀m∈l,0<=m.bL/\m.bL<=65535
def ajN{p1 f1 p2 f2 p3 f3 p4 f4}{p5:List ak×Unit->Bool}{f5:List ak×Unit->List ak×Unit}(U1:Y7 p1 f1)(U2:Y11 p2 f2)(U3:Y10 p3 f3)(U4:Y12 p4 f4)(U5:∀d,Sh d->p5 (d,())=true/\Sm d (f5 (d,())).1/\oL (f5 (d,())).1 0 d.length)(l:List ak)(hl:Sh l)(hc:Cb l):Zj.F (p1,f1,p2,f2,p3,f3,p4,f4,p5,f5,()) (l,()) (λy=>y.1=(uh l).1/\y.2.2.1=(uh l).2):=by
 obtain⟨s1,s2⟩:=(U5 l hl).2;dsimp only [Zj,gm];simp (disch:=omega) only [RR,(U5 l hl).1];generalize (f5 (l,())).1=d at s1 s2 ⊢;have hle:=s1.1;have hs:=s1.sh hl;have hlen:=hs.1;have hcd:Cb d:=λm hm=>hc m (s1.mem hm)
 refine aG (λ(y:Int×List ak×List ak×Unit)=>0<=y.1/\y.1<=d.length/\y.2.1=d/\Nf y.2.2.1/\y.2.2.1.length<=y.1/\(∀k,cf y.2.2.1 k=cf (d.take y.1.toNat) k%65536)/\(∀m∈y.2.2.1,m∈y.2.2.1->m.atoms.length<1000000000)
   /\(y.1<d.length->(∀m∈y.2.2.1,lt m ((d).getD (y.1).toNat default))/\(∀m∈d.take y.1.toNat,lt m ((d).getD (y.1).toNat default)))) (λy=>(d.length-y.1).toNat)
  ⟨by simp,by simp,rfl,⟨List.Pairwise.nil,λm hm=>absurd hm (by simp)⟩,by simp,λk=>by simp [cf],λm hm=>absurd hm (by simp),λ_=>⟨λm hm=>absurd hm (by simp),λm hm=>absurd hm (by simp)⟩⟩ ?_
 rintro⟨(i:Int),(d':List ak),(o:List ak),⟨⟩⟩ hI;dsimp only at hI ⊢;obtain⟨h1,h2,rfl,h4,h5,h6,h7,h8⟩:=hI;have ho:Sh o:=⟨ah,λm hm=>h7 m hm hm⟩;simp (disch:=omega) only [RR,U2 o ho];refine⟨λh9=>⟨ah,ah,ah,ah,?_⟩,λh9=> ?_⟩
 .obtain⟨g1,g2⟩:=h8 h9;have z:cf (d'.take i.toNat) ((d').getD (i).toNat default).atoms=0:=jO λm hm=>(g2 m hm).ne
  refine aG (λ(y:Int×Int×List ak×ak×List ak×Unit)=>i<=y.1/\y.1<=d'.length/\y.2.2.1=d'/\y.2.2.2.1=((d').getD (i).toNat default)/\y.2.2.2.2.1=o/\y.2.1=cf (d'.take y.1.toNat) ((d').getD (i).toNat default).atoms%65536
    /\(∀k,k≠((d').getD (i).toNat default).atoms->cf (d'.take y.1.toNat) k=cf (d'.take i.toNat) k)/\(∀m∈d'.take y.1.toNat,lt m ((d').getD (i).toNat default)\/m.atoms=((d').getD (i).toNat default).atoms)) (λy=>(d'.length-y.1).toNat)
   ⟨by simp,by simp;omega,rfl,rfl,rfl,by rw [z];rfl,λk _=>rfl,λm hm=>Or.inl (g2 m hm)⟩ ?_
  rintro⟨(j:Int),(c:Int),(d'':List ak),(fi:ak),(o':List ak),⟨⟩⟩ hI;dsimp only at hI ⊢;obtain⟨k1,k2,rfl,rfl,rfl,k6,k7,k8⟩:=hI;have hc0:0<=c/\c<65536:=by omega
  have hcj:j<d''.length->0<=((d'').getD (j).toNat default).bL/\((d'').getD (j).toNat default).bL<=65535:=λh=>hcd _ (dN ah h)
  simp (disch:=omega) only [RR,U1 _ _ (hs.at _),U3,U4 _ (Nat.le_trans (Nat.le_of_lt (hs.at _)) ah)];refine⟨ah,ah,ah,ah,λ⟨m1,m2⟩=> ?_,λm1=>⟨λm2=>⟨?_,?_,?_⟩,λm2=>⟨?_,?_⟩⟩⟩
  .have e:=l9.1 m2;have:=hcj m1;rw [w64 ah ah];have ts:d''.take (j+1).toNat=d''.take j.toNat++ [((d'').getD (j).toNat default)]:=(gT ah m1 rfl).symm;refine⟨ah,ah,ah,ah,⟨ah,ah,?_,λk hk=> ?_,λm hm=> ?_⟩,ah⟩
   .rw [ts,dU,dL,if_pos e.symm,mW,k6];omega
   .rw [ts,dU,dL,if_neg (λh=>hk (by rw [e,h])),mW,k7 k hk];omega
   .rw [ts,List.mem_append,List.mem_singleton]at hm;rcases hm with hm | hm
    .exact k8 m hm
    .right;rw [hm,e]
  all_goals
   have hb:j<d''.length->lt ((d'').getD (i).toNat default) ((d'').getD (j).toNat default):=λhj=>by
    rw [decide_eq_true hj,Bool.true_and,decide_eq_false_iff_not]at m1;have:=s2 i j h1 k1 ah;unfold le at this;unfold lt;omega
   have hij:i<j:=by
    by_cases hj:j<d''.length
    .by_cases e:i=j
     .have:=(hb hj).ne;rw [e]at this;exact absurd rfl this
     .omega
    .omega
  .simp only [List.length_append,List.length_cons,List.length_nil];omega
  .have co:∀k,cf (o'++ [⟨c,((d'').getD (i).toNat default).atoms⟩]) k=cf (d''.take j.toNat) k%65536:=λk=>by
    rw [dU,dL,mW];dsimp only;by_cases hk:((d'').getD (i).toNat default).atoms=k
    .subst hk;rw [if_pos rfl,jO (λm hm=>(g1 m hm).ne),k6];omega
    .rw [if_neg hk,k7 k (λe=>hk e.symm),h6 k];omega
   refine⟨ah,ah,⟨?_,?_⟩,?_,co,?_,λhj=>⟨?_,?_⟩⟩
   .rw [List.pairwise_append];exact⟨h4.ss,List.pairwise_singleton _ _,λa ha b hb=>by rw [List.mem_singleton]at hb;subst hb;exact g1 a ha⟩
   .intro m hm;rw [List.mem_append,List.mem_singleton]at hm;rcases hm with hm | rfl
    .exact h4.co m hm
    .dsimp only;omega
   .simp only [List.length_append,List.length_cons,List.length_nil];omega
   .intro m hm _;rw [List.mem_append,List.mem_singleton]at hm;rcases hm with hm | rfl
    .exact h7 m hm hm
    .exact hs.at _
   .intro m hm;rw [List.mem_append,List.mem_singleton]at hm;rcases hm with hm | rfl
    .exact fK (le_of_lt (g1 m hm)) (hb hj)
    .exact hb hj
   .intro m hm;rcases k8 m hm with k | k
    .exact fK (le_of_lt k) (hb hj)
    .have:=hb hj;unfold lt at this ⊢;rw [k];exact this
  .omega
  .refine⟨ah,ah,h4,ah,λk=> ?_,h7,λhj=>⟨?_,?_⟩⟩
   .by_cases hk:((d'').getD (i).toNat default).atoms=k
    .subst hk;rw [jO (λm hm=>(g1 m hm).ne)];omega
    .rw [k7 k (λe=>hk e.symm),h6 k]
   .intro m hm;exact fK (le_of_lt (g1 m hm)) (hb hj)
   .intro m hm;rcases k8 m hm with k | k
    .exact fK (le_of_lt k) (hb hj)
    .have:=hb hj;unfold lt at this ⊢;rw [k];exact this
  .omega
 .have e:nf l=o:=Uk h4 (λk=>by rw [h6 k,List.take_of_length_le ah,s1.cf k]);unfold uh;rw [e];refine⟨λh=> ?_,λh=> ?_⟩
  .rw [h];exact⟨rfl,by simp⟩
  .rw [h];exact⟨rfl,by simp⟩
def ags(n:Int)(h1:0<=n)(h2:n<=1073741824):Rf.F () (n,()) (λy=>y=([],())):=by
 dsimp only [Rf,gm];simp (disch:=omega) only [RR];refine⟨λh=>by omega,λ_ h=> ?_⟩
 repeat' (refine And.intro ?_ ?_)
 all_goals first | omega | (rw [List.length_replicate];omega) | rfl
theorem ajO{p:Int×Unit->Bool}{f:Int×Unit->List ak×Unit}(U:∀n:Int,0<=n->n<=1073741824->p (n,())=true/\f (n,())=([],()))(a b:List ak)(ha:a.length<=100000000)(hb:b.length<=100000000):Zk.F (p,f,()) ([a,b],()) (λy=>y=(a++b,())):=by
 dsimp only [Zk,gm]
 refine aG (λ(y:List (List ak)×Int×List (List ak)×Int×Int×Unit)=>y.1=[a,b]/\y.2.2.1=[a,b]/\y.2.2.2.1=2/\((y.2.2.2.2.1=0/\y.2.1=0)\/(y.2.2.2.2.1=1/\y.2.1=a.length)\/(y.2.2.2.2.1=2/\y.2.1=a.length+b.length))) (λy=>(2-y.2.2.2.2.1).toNat)
  ⟨rfl,rfl,rfl,Or.inl ⟨rfl,rfl⟩⟩ ?_
 rintro⟨(l:List (List ak)),(s:Int),(l2:List (List ak)),(n:Int),(i:Int),⟨⟩⟩ hI;dsimp only at hI ⊢;obtain⟨rfl,rfl,rfl,h⟩:=hI;simp (disch:=omega) only [RR];have g0: [a,b].getD (Int.toNat 0) default=a:=rfl;have g1: [a,b].getD (Int.toNat 1) default=b:=rfl;have gl:([a,b].length:Int)=2:=rfl;refine⟨λhi=> ?_,λhi=> ?_⟩
 .rcases h with⟨rfl,rfl⟩ | ⟨rfl,rfl⟩ | ⟨rfl,rfl⟩
  .rw [g0,w64 ah ah];exact⟨ah,ah,λh=>by omega,λh=>⟨Or.inr (Or.inl ⟨ah,ah⟩),ah⟩⟩
  .rw [g1,w64 ah ah];exact⟨ah,ah,λh=>by omega,λh=>⟨Or.inr (Or.inr ⟨ah,ah⟩),ah⟩⟩
  .omega
 .have hs:0<=s/\s<=200000000:=by omega
  refine⟨(U s ah ah).1,?_⟩;rw [(U s ah ah).2]
  refine aG (λ(y:List (List ak)×Int×Int×List ak×Unit)=>y.1=[a,b]/\y.2.1=2/\((y.2.2.1=0/\y.2.2.2.1=[])\/(y.2.2.1=1/\y.2.2.2.1=a)\/(y.2.2.1=2/\y.2.2.2.1=a++b))) (λy=>(2-y.2.2.1).toNat)
   ⟨rfl,rfl,Or.inl ⟨rfl,rfl⟩⟩ ?_
  rintro⟨(l:List (List ak)),(n:Int),(j:Int),(o:List ak),⟨⟩⟩ hI;dsimp only at hI ⊢;obtain⟨rfl,rfl,h3⟩:=hI;simp (disch:=omega) only [RR];refine⟨λhj=> ?_,λhj=> ?_⟩
  .rcases h3 with⟨rfl,rfl⟩ | ⟨rfl,rfl⟩ | ⟨rfl,rfl⟩
   .rw [g0];exact⟨ah,ah,by simp only [List.length_nil];omega,Or.inr (Or.inl ⟨ah,rfl⟩),ah⟩
   .rw [g1];exact⟨ah,ah,ah,Or.inr (Or.inr ⟨ah,rfl⟩),ah⟩
   .omega
  .rcases h3 with⟨rfl,rfl⟩ | ⟨rfl,rfl⟩ | ⟨rfl,rfl⟩
   .omega
   .omega
   .rfl
def agt(n:Int)(h1:0<=n)(h2:n<=1073741824):Rh.F () (n,()) (λy=>y=([],())):=by
 dsimp only [Rh,gm];simp (disch:=omega) only [RR];refine⟨λh=>by omega,λ_ h=> ?_⟩
 repeat' (refine And.intro ?_ ?_)
 all_goals first | omega | (rw [List.length_replicate];omega) | rfl
theorem ajP{p:Int×Unit->Bool}{f:Int×Unit->List Int×Unit}(U:∀n:Int,0<=n->n<=1073741824->p (n,())=true/\f (n,())=([],()))(a b:List Int)(ha:a.length<=100000000)(hb:b.length<=100000000):Zm.F (p,f,()) ([a,b],()) (λy=>y=(a++b,())):=by
 dsimp only [Zm,gm]
 refine aG (λ(y:List (List Int)×Int×List (List Int)×Int×Int×Unit)=>y.1=[a,b]/\y.2.2.1=[a,b]/\y.2.2.2.1=2/\((y.2.2.2.2.1=0/\y.2.1=0)\/(y.2.2.2.2.1=1/\y.2.1=a.length)\/(y.2.2.2.2.1=2/\y.2.1=a.length+b.length))) (λy=>(2-y.2.2.2.2.1).toNat)
  ⟨rfl,rfl,rfl,Or.inl ⟨rfl,rfl⟩⟩ ?_
 rintro⟨(l:List (List Int)),(s:Int),(l2:List (List Int)),(n:Int),(i:Int),⟨⟩⟩ hI;dsimp only at hI ⊢;obtain⟨rfl,rfl,rfl,h⟩:=hI;simp (disch:=omega) only [RR];have g0: [a,b].getD (Int.toNat 0) default=a:=rfl;have g1: [a,b].getD (Int.toNat 1) default=b:=rfl;have gl:([a,b].length:Int)=2:=rfl;refine⟨λhi=> ?_,λhi=> ?_⟩
 .rcases h with⟨rfl,rfl⟩ | ⟨rfl,rfl⟩ | ⟨rfl,rfl⟩
  .rw [g0,w64 ah ah];exact⟨ah,ah,λh=>by omega,λh=>⟨Or.inr (Or.inl ⟨ah,ah⟩),ah⟩⟩
  .rw [g1,w64 ah ah];exact⟨ah,ah,λh=>by omega,λh=>⟨Or.inr (Or.inr ⟨ah,ah⟩),ah⟩⟩
  .omega
 .have hs:0<=s/\s<=200000000:=by omega
  refine⟨(U s ah ah).1,?_⟩;rw [(U s ah ah).2]
  refine aG (λ(y:List (List Int)×Int×Int×List Int×Unit)=>y.1=[a,b]/\y.2.1=2/\((y.2.2.1=0/\y.2.2.2.1=[])\/(y.2.2.1=1/\y.2.2.2.1=a)\/(y.2.2.1=2/\y.2.2.2.1=a++b))) (λy=>(2-y.2.2.1).toNat)
   ⟨rfl,rfl,Or.inl ⟨rfl,rfl⟩⟩ ?_
  rintro⟨(l:List (List Int)),(n:Int),(j:Int),(o:List Int),⟨⟩⟩ hI;dsimp only at hI ⊢;obtain⟨rfl,rfl,h3⟩:=hI;simp (disch:=omega) only [RR];refine⟨λhj=> ?_,λhj=> ?_⟩
  .rcases h3 with⟨rfl,rfl⟩ | ⟨rfl,rfl⟩ | ⟨rfl,rfl⟩
   .rw [g0];exact⟨ah,ah,by simp only [List.length_nil];omega,Or.inr (Or.inl ⟨ah,rfl⟩),ah⟩
   .rw [g1];exact⟨ah,ah,ah,Or.inr (Or.inr ⟨ah,rfl⟩),ah⟩
   .omega
  .rcases h3 with⟨rfl,rfl⟩ | ⟨rfl,rfl⟩ | ⟨rfl,rfl⟩
   .omega
   .omega
   .rfl
def mOk.le{m:ak}(h:mOk m):m.atoms.length<=4:=h.2.1
def aV.at{p:List ak}(h:aV p){m:ak}(hm:m∈p):mOk m:=by
 obtain⟨i,hi,rfl⟩:=List.getElem_of_mem hm;have:=(h.1 i ah ah).1;rw [show(i:Int).toNat=i from rfl,getD_lt hi]at this;exact this
def aV.len{p:List ak}(h:aV p):p.length<=12:=h.2.1
noncomputable def rJ (a b:List ak):Bool×List ak:=if bp (aV a)&&bp (aV b)then uh (a++b)else(false,[])
abbrev Y21(pp:List ak×Unit->Bool)(ff:List ak×Unit->Bool×List ak×List ak×Unit):Prop:=∀a,Sh a->Cb a->pp (a,())=true/\(ff (a,())).1=(uh a).1/\(ff (a,())).2.2.1=(uh a).2
def ajQ{p1 f1 p2 f2}{p3:List (List ak)×Unit->Bool}{f3:List (List ak)×Unit->List ak×Unit}(U1:Y11 p1 f1)(U2:Y21 p2 f2)(U3:∀a b:List ak,a.length<=100000000->b.length<=100000000->p3 ([a,b],())=true/\f3 ([a,b],())=(a++b,()))(a b:List ak)(ha:Sh a)(hb:Sh b):Zl.F (p1,f1,p2,f2,p3,f3,()) (a,b,()) (λy=>y=((rJ a b).1,(rJ a b).2,())):=by
 dsimp only [Zl,gm];simp (disch:=omega) only [RR,U1 a ha,U1 b hb,bD,iP];unfold rJ;refine⟨λh=> ?_,λ⟨h1,h2⟩=> ?_⟩
 .rw [if_neg];rw [Bool.and_eq_true,bD,bD];rintro⟨g1,g2⟩;rcases h with h | h
  .exact h g1
  .exact h g2
 .have l1:=h1.len;have l2:=h2.len;rw [(U3 a b ah ah).1,(U3 a b ah ah).2];have hs:Sh (a++b):=⟨by rw [List.length_append];omega,λm hm=>by
   rw [List.mem_append]at hm;rcases hm with hm | hm
   .exact ha.2 m hm
   .exact hb.2 m hm⟩
  have hc:Cb (a++b):=λm hm=>by
   rw [List.mem_append]at hm;rcases hm with hm | hm
   .have:=(h1.at hm).1;omega
   .have:=(h2.at hm).1;omega
  obtain⟨g1,g2⟩:=(U2 _ hs hc).2;refine⟨rfl,(U2 _ hs hc).1,?_⟩;rw [if_pos (by rw [eO h1,eO h2];rfl),g1,g2]
def nH(l:List Int):List Int:=l.mergeSort λx y=>decide (x<=y)
def Js(l:List Int):(nH l).length=l.length:=List.length_mergeSort l
def mulM(m n:ak):ak:=⟨m.bL*n.bL%65536,nH (m.atoms++n.atoms)⟩
def prods(a b:List ak):List ak:=a.flatMap λm=>b.map (mulM m)
def F5(a b:List ak)(m:ak):prods (a++ [m]) b=prods a b++b.map (mulM m):=by simp [prods]
noncomputable def rM (a b:List ak):Bool×List ak:=if bp (aV a)&&bp (aV b)then uh (prods a b)else(false,[])
def Lf{a b:Int}(h1:0<=a)(h2:a<=65535)(h3:0<=b)(h4:b<=65535):0<=a*b/\a*b<=65535*65535:=⟨Int.mul_nonneg h1 h3,Int.mul_le_mul h2 h4 h3 ah⟩
def ajR{p1 f1 p0 f0 p2 f2}{p3:List (List Int)×Unit->Bool}{f3:List (List Int)×Unit->List Int×Unit}{p4:List Int×Unit->Bool}{f4:List Int×Unit->List Int×Unit}(U1:Y11 p1 f1)(U0:Y10 p0 f0)(U2:Y21 p2 f2)(U3:∀a b:List Int,a.length<=100000000->b.length<=100000000->p3 ([a,b],())=true/\f3 ([a,b],())=(a++b,()))(U4:∀a:List Int,a.length<=8->p4 (a,())=true/\f4 (a,())=(nH a,()))(a b:List ak)(ha:Sh a)(hb:Sh b):Zn.F (p1,f1,p0,f0,p2,f2,p3,f3,p4,f4,()) (a,b,()) (λy=>y=((rM a b).1,(rM a b).2,())):=by
 dsimp only [Zn,gm];simp (disch:=omega) only [RR,U1 a ha,U1 b hb,bD,iP];unfold rM;refine⟨λh=> ?_,λ⟨h1,h2⟩=> ?_⟩
 .rw [if_neg];rw [Bool.and_eq_true,bD,bD];rintro⟨g1,g2⟩;rcases h with h | h
  .exact h g1
  .exact h g2
 have l1:=h1.len;have l2:=h2.len;rw [if_pos (by rw [eO h1,eO h2];rfl)];have mm:∀i j:Int,0<=i->i<a.length->0<=j->j<b.length->mOk ((a).getD (i).toNat default)/\mOk ((b).getD (j).toNat default):=λi j i1 i2 j1 j2=>⟨h1.at (dN i1 i2),h2.at (dN j1 j2)⟩
 refine aG (λ(y:List ak×Int×Int×List ak×List ak×Unit)=>y.1=a/\y.2.1=a.length/\0<=y.2.2.1/\y.2.2.1<=a.length/\y.2.2.2.1=b/\y.2.2.2.2.1=prods (a.take y.2.2.1.toNat) b/\y.2.2.2.2.1.length<=12*y.2.2.1/\Sh y.2.2.2.2.1/\Cb y.2.2.2.2.1) (λy=>(a.length-y.2.2.1).toNat)
  ⟨rfl,rfl,by simp,by simp,rfl,rfl,by simp,⟨by simp,λm hm=>absurd hm (by simp)⟩,λm hm=>absurd hm (by simp)⟩ ?_
 rintro⟨(a':List ak),(n:Int),(i:Int),(b':List ak),(o:List ak),⟨⟩⟩ hI;dsimp only at hI ⊢;obtain⟨rfl,rfl,h3,h4,rfl,h5,h6,h7,h8⟩:=hI;simp (disch:=omega) only [RR];refine⟨λh9=>⟨ah,ah,?_⟩,λh9=> ?_⟩
 .refine aG (λ(y:List ak×Int×Int×List ak×Int×Int×List ak×List ak×ak×Unit)=>y.1=a'/\y.2.1=a'.length/\y.2.2.1=i/\y.2.2.2.1=b'/\y.2.2.2.2.1=b'.length/\0<=y.2.2.2.2.2.1/\y.2.2.2.2.2.1<=b'.length/\y.2.2.2.2.2.2.1=b'/\y.2.2.2.2.2.2.2.2.1=((a').getD (i).toNat default)
    /\y.2.2.2.2.2.2.2.1=o++(b'.take y.2.2.2.2.2.1.toNat).map (mulM ((a').getD (i).toNat default))/\Sh y.2.2.2.2.2.2.2.1/\Cb y.2.2.2.2.2.2.2.1) (λy=>(b'.length-y.2.2.2.2.2.1).toNat)
   ⟨rfl,rfl,rfl,rfl,rfl,by simp,by simp,rfl,rfl,by simp,h7,h8⟩ ?_
  rintro⟨(a'':List ak),(n:Int),(i':Int),(b'':List ak),(nb:Int),(j:Int),(b3:List ak),(o':List ak),(m:ak),⟨⟩⟩ hI;dsimp only at hI ⊢;obtain⟨rfl,rfl,rfl,rfl,rfl,k1,k2,rfl,rfl,k3,k4,k5⟩:=hI;have lo:(o'.length:Int)<=12*i'+j:=by
   rw [k3,List.length_append,List.length_map];have:=List.length_take_le j.toNat b3;omega
  by_cases hj:j<b3.length
  .obtain⟨m1,m2⟩:=mm i' j h3 h9 k1 hj;have e1:=m1.le;have e2:=m2.le;have la:(((a'').getD (i').toNat default).atoms++((b3).getD (j).toNat default).atoms).length<=8:=by rw [List.length_append];omega
   have hm:=Lf (show 0<=((a'').getD (i').toNat default).bL by have:=m1.1;omega) (by have:=m1.1;omega) (show 0<=((b3).getD (j).toNat default).bL by have:=m2.1;omega) (by have:=m2.1;omega);simp (disch:=omega) only [RR,U3 ((a'').getD (i').toNat default).atoms ((b3).getD (j).toNat default).atoms ah ah,U4 _ la,U0];refine⟨λ_=>⟨ah,ah,by simp only [List.length_cons,List.length_nil];omega,⟨ah,ah,?_,⟨?_,?_⟩,?_⟩,ah⟩,λh=>by omega⟩
   .rw [<-gT (d:=default) k1 hj rfl,List.map_append,k3,List.append_assoc];rfl
   .rw [List.length_append];simp only [List.length_cons,List.length_nil];omega
   .intro m hm;rw [List.mem_append,List.mem_singleton]at hm;rcases hm with hm | rfl
    .exact k4.2 m hm
    .dsimp only;rw [Js];omega
   .intro m hm;rw [List.mem_append,List.mem_singleton]at hm;rcases hm with hm | rfl
    .exact k5 m hm
    .dsimp only;omega
  .simp (disch:=omega) only [RR];refine⟨λh=>absurd h hj,λ_=>⟨⟨ah,ah,?_,ah,k4,k5⟩,ah⟩⟩;rw [<-gT (d:=default) h3 h9 rfl,F5,<-h5,k3,List.take_of_length_le ah]
 .obtain⟨g1,g2⟩:=(U2 _ h7 h8).2;refine⟨(U2 _ h7 h8).1,?_⟩;rw [g1,g2,h5,List.take_of_length_le ah]
noncomputable def kW (a:List ak) (n:Int):List ak:=if bp (aV a)&&inB n 0 65535 then(rM a (gF n)).2 else []
def VO(n:Int):Sh (gF n):=by
 unfold gF;split
 .exact⟨by simp,λm hm=>by rw [List.mem_singleton]at hm;subst hm;simp⟩
 .exact⟨by simp,λm hm=>absurd hm (by simp)⟩
abbrev Y22(pp:Int×Unit->Bool)(ff:Int×Unit->List ak×Unit):Prop:=∀n,pp (n,())=true/\ff (n,())=(gF n,())
abbrev Y23(pp:List ak×List ak×Unit->Bool)(ff:List ak×List ak×Unit->Bool×List ak×Unit):Prop:=∀a b,Sh a->Sh b->pp (a,b,())=true/\ff (a,b,())=((rM a b).1,(rM a b).2,())
def ajS{p1 f1 p2 f2 p3 f3 p4 f4}(U1:Y11 p1 f1)(U2:Y22 p2 f2)(U3:Y9 p3 f3)(U4:Y23 p4 f4)(a:List ak)(n:Int)(ha:Sh a):Zp.F (p1,f1,p2,f2,p3,f3,p4,f4,()) (a,n,()) (λy=>y=(kW a n,())):=by
 dsimp only [Zp,gm];simp (disch:=omega) only [RR,U1 a ha,U2,U3,U4 a _ ha (VO n)];unfold kW;refine⟨λh=> ?_,λ⟨h1,h2⟩=> ?_⟩
 .rw [if_neg];rw [Bool.and_eq_true];rintro⟨g1,g2⟩;rcases h with h | h
  .rw [g1]at h;cases h
  .rw [g2]at h;cases h
 .rw [h1,h2];rfl
noncomputable def F6 (op:Int) (x y:List ak):List ak×Bool:=
 if(bI x).2&& (bI y).2 then(gF (wdo op (bI x).1 (bI y).1),true)
 else if iD x y=0/\op=4 then(x,true)
 else if iD x y=0 then([],true)
 else if(bI x).2 then
  (if op=4/\(bI x).1=0 then([],true)else if(op=4/\(bI x).1=65535)\/(op=5/\(bI x).1=0)then(y,true)else([],false))
 else if(bI y).2 then
  (if op=4/\(bI y).1=0 then([],true)else if(op=4/\(bI y).1=65535)\/(op=5/\(bI y).1=0)then(x,true)else([],false))
 else([],false)
noncomputable def kS (op:Int) (x y:List ak):List ak×Bool:=
 if op=1 then((rJ x y).2,(rJ x y).1)else if op=2 then((rJ x (kW y 65535)).2,(rJ x (kW y 65535)).1)else if op=3 then((rM x y).2,(rM x y).1)else F6 op x y
def aV.sh{l:List ak}:aV l->Sh l:=λh=>⟨by have:=h.len;omega,λm hm=>by have:=(h.at hm).le;omega⟩
def acX(l:List ak):Sh (uh l).2:=by
 unfold uh;by_cases h:aV (nf l)
 .rw [eO h];exact h.sh
 .rw [bU h];exact⟨by simp,λm hm=>absurd hm (by simp)⟩
def qx:Sh []:=⟨by simp,λm hm=>absurd hm (by simp)⟩
def acY(a b:List ak):Sh (rM a b).2:=by unfold rM;split;exact acX _;exact qx
def Jt(a:List ak)(n:Int):Sh (kW a n):=by unfold kW;split;exact acY _ _;exact qx
abbrev Y24(pp:Int×Int×Int×Unit->Bool)(ff:Int×Int×Int×Unit->Int×Unit):Prop:=∀op a b,pp (op,a,b,())=true/\ff (op,a,b,())=(wdo op a b,())
abbrev Y25(pp:List ak×List ak×Unit->Bool)(ff:List ak×List ak×Unit->Bool×List ak×Unit):Prop:=∀a b,Sh a->Sh b->pp (a,b,())=true/\ff (a,b,())=((rJ a b).1,(rJ a b).2,())
abbrev Y26(pp:List ak×Int×Unit->Bool)(ff:List ak×Int×Unit->List ak×Unit):Prop:=∀a n,Sh a->pp (a,n,())=true/\ff (a,n,())=(kW a n,())
abbrev Y27(pp:List ak×Unit->Bool)(ff:List ak×Unit->Int×Bool×Unit):Prop:=∀a,Sh a->pp (a,())=true/\ff (a,())=((bI a).1,(bI a).2,())
def ajT{p1 f1 p2 f2 p3 f3 p4 f4 p5 f5 p6 f6 p7 f7}(U1:Y14 p1 f1)(U2:Y22 p2 f2)(U3:Y24 p3 f3)(U4:Y25 p4 f4)(U5:Y23 p5 f5)(U6:Y26 p6 f6)(U7:Y27 p7 f7)(op:Int)(x y:List ak)(hx:Sh x)(hy:Sh y):Zr.F (p1,f1,p2,f2,p3,f3,p4,f4,p5,f5,p6,f6,p7,f7,()) (op,x,y,()) (λz=>z=((kS op x y).1,(kS op x y).2,())):=by
 dsimp only [Zr,gm];simp (disch:=omega) only [RR,U1 x y hx,U2,U3,U4 x y hx hy,U4 x _ hx (Jt y 65535),U5 x y hx hy,U6 y _ hy,U7 x hx,U7 y hy];unfold kS;refine⟨λh=>by rw [if_pos h],λh=>⟨λh1=>by rw [if_neg h,if_pos h1],λh1=>⟨λh2=>by rw [if_neg h,if_neg h1,if_pos h2],λh2=> ?_⟩⟩⟩;rw [if_neg h,if_neg h1,if_neg h2];unfold F6;generalize bI x=nx;generalize bI y=ny;obtain⟨n,bn⟩:=nx;obtain⟨m,bm⟩:=ny;dsimp only;by_cases e:iD x y=0<;>by_cases o4:op=4<;>cases bn<;>cases bm<;>simp [e,o4]
 .by_cases c:m=0<;>by_cases c2:m=65535<;>simp [c,c2]
 .by_cases c:n=0<;>by_cases c2:n=65535<;>simp [c,c2]
 .by_cases c:op=5<;>by_cases c2:m=0<;>simp [c,c2]
 .by_cases c:op=5<;>by_cases c2:n=0<;>simp [c,c2]
noncomputable def tDo (t:List Atom) (op:Int) (x y:List ak):List Atom×List ak:=
 if(kS op x y).2 then(t,(kS op x y).1)else
 if op≠2/\0<iD x y then(if(cu t ⟨4,op,y,x⟩).2<0 then([],[])else((cu t ⟨4,op,y,x⟩).1,jN (cu t ⟨4,op,y,x⟩).2))
 else(if(cu t ⟨4,op,x,y⟩).2<0 then([],[])else((cu t ⟨4,op,x,y⟩).1,jN (cu t ⟨4,op,x,y⟩).2))
noncomputable def tOk (t:List Atom) (op:Int) (x y:List ak):Bool:=(kS op x y).2 || !decide ((if op≠2/\0<iD x y then(cu t ⟨4,op,y,x⟩).2 else(cu t ⟨4,op,x,y⟩).2)<0)
abbrev Y28(pp:Int×Unit->Bool)(ff:Int×Unit->List ak×Unit):Prop:=∀n,pp (n,())=true/\ff (n,())=(jN n,())
def ajU{p1 f1 p4 f4}{p2:Int×List ak×List ak×Unit->Bool}{f2:Int×List ak×List ak×Unit->List ak×Bool×Unit}{p3:List Atom×Atom×Unit->Bool}{f3:List Atom×Atom×Unit->List Atom×Int×Unit}(U1:Y8 p1 f1)(U2:∀op x y,Sh x->Sh y->p2 (op,x,y,())=true/\f2 (op,x,y,())=((kS op x y).1,(kS op x y).2,()))(U3:∀t a,t.length<1000000000->ShA a->p3 (t,a,())=true/\f3 (t,a,())=((cu t a).1,(cu t a).2,()))(U4:Y28 p4 f4)(t:List Atom)(op:Int)(x y:List ak)(ht:t.length<1000000000)(hx:Sh x)(hy:Sh y):Zw.F (p1,f1,p2,f2,p3,f3,p4,f4,()) (t,op,x,y,()) (λz=>z.1=(tDo t op x y).1/\z.2.1=(tDo t op x y).2/\z.2.2.1=tOk t op x y):=by
 have s1:ShA ⟨4,op,x,y⟩:=⟨hx,hy⟩;have s2:ShA ⟨4,op,y,x⟩:=⟨hy,hx⟩;dsimp only [Zw,gm];simp (disch:=omega) only [RR,U1 x y hx,U2 op x y hx hy,U3 t _ ht s1,U3 t _ ht s2,U4];unfold tDo tOk;refine⟨λh=>by rw [if_pos h,h];exact⟨rfl,rfl,rfl⟩,λh=> ?_⟩;rw [if_neg (by rw [h];simp),h,Bool.false_or];generalize cu t ⟨4,op,y,x⟩=r1;generalize cu t ⟨4,op,x,y⟩=r2;generalize iD x y=o;by_cases c1:op=2<;>by_cases c2:0<o<;>by_cases c3:r1.2<0<;>by_cases c4:r2.2<0<;>simp [c1,c2,c3,c4]
def acZ:ShT []:=⟨by simp,λm hm=>absurd hm (by simp)⟩
abbrev Y29(pp:List Atom×Unit->Bool)(ff:List Atom×Unit->Bool×Unit):Prop:=∀a,ShT a->pp (a,())=true/\ff (a,())=(bp (aR a),())
abbrev Y30(pp:List Atom×Int×List ak×List ak×Unit->Bool)(ff:List Atom×Int×List ak×List ak×Unit->List Atom×List ak×Bool×Unit):Prop:=∀(t:List Atom) op x y,t.length<1000000000->Sh x->Sh y->pp (t,op,x,y,())=true/\(ff (t,op,x,y,())).1=(tDo t op x y).1/\(ff (t,op,x,y,())).2.1=(tDo t op x y).2/\(ff (t,op,x,y,())).2.2.1=tOk t op x y
abbrev Y31(pp:List Atom×Unit->Bool)(ff:List Atom×Unit->List Atom×Unit):Prop:=∀a,ShT a->pp (a,())=true/\ff (a,())=(a,())
def wX{α:Type}{d:α}{a b:List α}(h:a.length=b.length)(h2:All a.length (λi=>a.getD i.toNat d=b.getD i.toNat d)):a=b:=by
 refine List.ext_getElem h λi h3 h4=> ?_
 have:=h2 i ah ah;dsimp only at this;rw [show(i:Int).toNat=i from rfl,getD_lt h3,getD_lt h4]at this;exact this
abbrev Y32(pp:List Int×List Int×Unit->Bool)(ff:List Int×List Int×Unit->Bool×Unit):Prop:=∀a b,a.length<1000000000->pp (a,b,())=true/\ff (a,b,())=(bp (a=b),())
abbrev Y33(pp:List ak×List ak×Unit->Bool)(ff:List ak×List ak×Unit->Bool×Unit):Prop:=∀a b,Sh a->pp (a,b,())=true/\ff (a,b,())=(bp (a=b),())
def aah{a b:Int}:or2 a b=0↔a=0/\b=0:=by unfold or2;split<;>omega
def Ju{a b:ak}:Lb a b=0↔a=b:=by
 unfold Lb;rw [aah,l9,kL];constructor
 .rintro⟨h1,h2⟩;cases a;cases b;simp_all
 .rintro rfl;exact⟨rfl,rfl⟩
def Jv:∀ {a b:List ak},a.length=b.length->Cc a b=0->a=b
 | [],[],_,_=>rfl | [],_::_,h,_=>by simp at h
 | _::_,[],h,_=>by simp at h
 | a::az,b::bs,hl,h=>by
  simp only [Cc]at h;split at h
  .exact absurd h (by assumption)
  .rename_i h1;rw [Ju.1 (Classical.not_not.1 h1),Jv (by simpa using hl) h]
def Jw:∀a:List ak,Cc a a=0
 | []=>rfl
 | a::az=>by simp only [Cc,Ju.2 rfl];simp [Jw az]
def sU{a b:List ak}:iD a b=0↔a=b:=by
 unfold iD;constructor
 .intro h;split at h
  .exact absurd h (by assumption)
  .rename_i h1;have:=kL.1 (Classical.not_not.1 h1);exact Jv ah h
 .rintro rfl;rw [if_neg (by rw [kL.2 rfl];simp),Jw]
def pQ{a b:Atom}:uJ a b=true↔a=b:=by
 unfold uJ;rw [Bool.and_eq_true,Bool.and_eq_true,Bool.and_eq_true,decide_eq_true_eq,decide_eq_true_eq,decide_eq_true_eq,decide_eq_true_eq,sU,sU];constructor
 .rintro⟨⟨⟨h1,h2⟩,h3⟩,h4⟩;cases a;cases b;simp_all
 .rintro rfl;exact⟨⟨⟨rfl,rfl⟩,rfl⟩,rfl⟩
def qU{α:Type}{d:α}{l:List α}{G:α->Prop}:All l.length (λi=>G (l.getD i.toNat d))↔∀m∈l,G m:=by
 constructor
 .intro h m hm;obtain⟨i,hi,rfl⟩:=List.getElem_of_mem hm;have:=h i ah ah;dsimp only at this;rw [show(i:Int).toNat=i from rfl,getD_lt hi]at this;exact this
 .intro h i h1 h2;exact h _ (dN h1 h2)
def dP{p:List ak}{n:Int}:bH p n↔∀m∈p,∀k∈m.atoms,k<n:=by
 unfold bH La;rw [qU (d:=default) (G:=λm:ak=>All m.atoms.length (λi=>¬n<=m.atoms.getD i.toNat default))];refine forall_congr' λm=>forall_congr' λ_=> ?_
 rw [qU (d:=default) (G:=λk:Int=>¬n<=k)];exact forall_congr' λk=>forall_congr' λ_=>by omega
def eF{α:Type}{d:α}{R:α->α->Prop}(tr:∀ {a b c},R a b->R b c->R a c){l:List α}:l.Pairwise R↔∀i:Int,0<i->i<l.length->R (l.getD (i-1).toNat d) (l.getD i.toNat d):=by
 rw [List.pairwise_iff_getElem];constructor
 .intro h i h1 h2;rw [getD_lt ah,getD_lt ah];exact h _ _ ah ah ah
 .intro h i j hi hj hij;obtain⟨n,rfl⟩:∃n,j=i+1+n:=⟨j-i-1,ah⟩
  clear hij
  induction n with
  | zero=>
   have:=h (i+1:Nat) ah ah;rw [show(((i+1:Nat):Int)-1).toNat=i by omega,show(((i+1:Nat):Int)).toNat=i+1 by omega,getD_lt hi,getD_lt ah]at this;exact this
  | succ n ih=>
   have h1:=ih ah;have:=h (i+1+n+1:Nat) ah ah;rw [show(((i+1+n+1:Nat):Int)-1).toNat=i+1+n by omega,show(((i+1+n+1:Nat):Int)).toNat=i+1+n+1 by omega,getD_lt ah,getD_lt ah]at this;exact tr h1 this
def Lg{l:List Int}:Srt l↔l.Pairwise (· <= ·):=by
 rw [eF (d:=default) (R:=λa b:Int=>a<=b) (λh1 h2=>Int.le_trans h1 h2)];unfold Srt;constructor
 .intro h i h1 h2;have:=h (i-1) ah ah;dsimp only at this;rw [show i-1+1=i by omega]at this;exact this
 .intro h i h1 h2;have:=h (i+1) ah ah;rw [show i+1-1=i by omega]at this;exact this
def gU{a b c:ak}(h1:lt a b)(h2:lt b c):lt a c:=fK (le_of_lt h1) h2
def aok(l:List Int):Prop:=l.Pairwise (· <= ·)/\∀k∈l,0<=k/\k<=199
def iX{p:List ak}:aV p↔Nf p/\p.length<=12/\∀m∈p,m.atoms.length<=4/\aok m.atoms:=by
 constructor
 .rintro⟨h1,h2,h3,h4⟩;have h1':∀m∈p,mOk m:=qU (d:=default) (G:=mOk).1 (λi g1 g2=>(h1 i g1 g2).1);have h4':∀m∈p,¬(0<m.atoms.length/\m.atoms.getD 0 default<0):=qU (d:=default) (G:=λm:ak=>¬(0<m.atoms.length/\m.atoms.getD 0 default<0)).1 h4;refine⟨⟨(eF (d:=default) (R:=lt) gU).2 λi g1 g2=>(h1 i ah g2).2 g1,λm hm=>(h1' m hm).1⟩,h2,λm hm=>⟨(h1' m hm).2.1,Lg.1 (h1' m hm).2.2,λk hk=>⟨?_,by have:=dP.1 h3 m hm k hk;omega⟩⟩⟩;have hs:=Lg.1 (h1' m hm).2.2;have hn:=h4' m hm;cases ha:m.atoms with
  | nil=>rw [ha]at hk;exact absurd hk (by simp)
  | cons b l=>
   rw [ha]at hk hs hn;simp at hn;rcases List.mem_cons.1 hk with rfl | hk
   .exact hn
   .have:=List.rel_of_pairwise_cons hs hk;omega
 .rintro⟨h1,h2,h3⟩;refine⟨λi g1 g2=>⟨⟨h1.co _ (dN g1 g2),(h3 _ (dN g1 g2)).1,Lg.2 (h3 _ (dN g1 g2)).2.1⟩,λg3=>(eF (d:=default) (R:=lt) gU).1 h1.ss i g3 g2⟩,h2,dP.2 λm hm k hk=>by have:=((h3 m hm).2.2 k hk);omega,?_⟩;refine qU (d:=default) (G:=λm:ak=>¬(0<m.atoms.length/\m.atoms.getD 0 default<0)).2 λm hm=> ?_
  rintro⟨g1,g2⟩;have:=(h3 m hm).2.2 _ (dN (i:=0) (d:=default) (xs:=m.atoms) ah ah);rw [show Int.toNat 0=0 from rfl]at this;omega
def aai{l:List ak}{k:List Int}(h:cf l k≠0):∃m∈l,m.atoms=k:=Classical.byContradiction λh2=>h (jO λm hm e=>h2 ⟨m,hm,e⟩)
def Nf.cf{o:List ak}(h:Nf o){m:ak}(hm:m∈o):cf o m.atoms=m.bL:=by
 induction o with
 | nil=>exact absurd hm (by simp)
 | cons a o ih=>
  rw [dL];rcases List.mem_cons.1 hm with rfl | hm
  .rw [if_pos rfl,jO (λm' hm'=>((List.rel_of_pairwise_cons h.ss hm').ne).symm)];omega
  .rw [if_neg (List.rel_of_pairwise_cons h.ss hm).ne,ih ⟨h.ss.tail,λm hm=>h.co m (by simp [hm])⟩ hm];omega
def Nf.from{o l:List ak}(h:Nf o)(h2:∀k,F.cf o k=F.cf l k%65536){m:ak}(hm:m∈o):∃m'∈l,m'.atoms=m.atoms:=by
 refine aai λe=> ?_
 have:=h2 m.atoms;rw [h.cf hm,e]at this;have:=h.co m hm;omega
def Nf.bnd{o:List ak}(h:Nf o)(k:List Int):0<=F.cf o k/\F.cf o k<=65535:=by
 by_cases e:F.cf o k=0
 .omega
 .obtain⟨m,hm,rfl⟩:=aai e;rw [h.cf hm];have:=h.co m hm;omega
def ac0{l o:List ak}(h:Nf o)(h2:∀k,F.cf o k=F.cf l k%65536)(h3:∀m∈l,aok m.atoms):
  uh l=(decide (o.length<=12/\∀m∈o,m.atoms.length<=4),if o.length<=12/\∀m∈o,m.atoms.length<=4 then o else []):=by
 unfold uh;rw [Uk h h2];by_cases c:o.length<=12/\∀m∈o,m.atoms.length<=4
 .have:aV o:=iX.2 ⟨h,c.1,λm hm=>⟨c.2 m hm,by obtain⟨m',g1,g2⟩:=h.from h2 hm;rw [<-g2];exact h3 m' g1⟩⟩;rw [eO this,decide_eq_true c,if_pos rfl,if_pos c]
 .have:¬aV o:=λg=>c ⟨(iX.1 g).2.1,λm hm=>((iX.1 g).2.2 m hm).1⟩
  rw [bU this,decide_eq_false c,if_neg (by simp),if_neg c]
def agu(a b c:Int):Qt.F () (a,b,c,()) (λy=>y=(inB a b c,())):=by
 dsimp only [Qt,gm];simp (disch:=omega) only [RR];rfl
def agv(a:Int):QL.F () (a,()) (λy=>y=(inB a 0 65535,())):=by
 dsimp only [QL,gm];simp (disch:=omega) only [RR];refine congrArg (λb=>(b,())) ?_;rw [Bool.eq_iff_iff,fC,Bool.and_eq_true,decide_eq_true_eq,decide_eq_true_eq];omega
def agw{p1 f1}(U1:Y1 p1 f1)(a:Int):
  QT.F (p1,f1,()) (a,()) (λy=>y=(gF a,())):=by
 dsimp only [QT,gm];simp (disch:=omega) only [RR,U1,fC,qw];unfold gF;exact⟨λh=>by rw [if_neg ah],λh=>by rw [if_pos ah]⟩
def agx{p1 f1}(U1:Y1 p1 f1)(a:Int):
  QG.F (p1,f1,()) (a,()) (λy=>y=(jN a,())):=by
 dsimp only [QG,gm];simp (disch:=omega) only [RR,U1,fC,qw];unfold jN;exact⟨λh=>by rw [if_neg ah],λh=>by rw [if_pos ah]⟩
def aaj(a:Int):a.tmod 65536=if 0<=a then a%65536 else- (-a%65536):=by
 split
 .rw [Int.tmod_eq_emod_of_nonneg ah]
 .have:=Int.neg_tmod (-a) 65536;rw [Int.neg_neg]at this;rw [this,Int.tmod_eq_emod_of_nonneg ah]
def agy(a:Int):QH.F () (a,()) (λy=>y=(a%65536,())):=by
 dsimp only [QH,gm];simp only [Z9];by_cases h:0<=a
 .rw [show a.tmod 65536=a%65536 by rw [aaj,if_pos h]];simp (disch:=omega) only [RR];refine⟨ah,λh2=> ?_⟩;exfalso;omega
 .rw [show a.tmod 65536= - (-a%65536) by rw [aaj,if_neg h]];simp (disch:=omega) only [RR];refine⟨ah,λh2=> ?_,λh2=> ?_⟩
  .rw [show-(-a%65536)+65536=a%65536 by omega]
  .rw [show-(-a%65536)=a%65536 by omega]
def agz(a b:List Int)(ha:a.length<1000000000):Qv.F () (a,b,()) (λy=>y=(gG a b,())):=by
 dsimp only [Qv,gm];simp (disch:=omega) only [RR];refine⟨λh=>⟨λh1=> ?_,λh1=> ?_⟩,λh=> ?_⟩
 .rw [show gG a b= -1 by(have e:je a.length b.length= -1:=by unfold je;rw [if_pos h1]);unfold gG or2;rw [e];rfl]
 .rw [show gG a b=1 by(have e:je a.length b.length=1:=by unfold je;rw [if_neg h1,if_pos ah]);unfold gG or2;rw [e];rfl]
 have hl:a.length=b.length:=by omega
 have e0:gG a b=mU a b:=by unfold gG or2;rw [kL.2 ah,if_neg (by simp)]
 refine aG (λ(y:List Int×List Int×Int×Unit)=>y.1=a/\y.2.1=b/\0<=y.2.2.1/\y.2.2.1<=a.length/\gG a b=mU (a.drop y.2.2.1.toNat) (b.drop y.2.2.1.toNat)) (λy=>(a.length-y.2.2.1).toNat) ⟨rfl,rfl,by simp,by simp,by simpa using e0⟩ ?_;rintro⟨(l1:List Int),(l2:List Int),(i:Int),⟨⟩⟩ hI;dsimp only at hI ⊢;obtain⟨rfl,rfl,h1,h2,h3⟩:=hI;simp (disch:=omega) only [RR];refine⟨λh4=> ?_,λh4=> ?_⟩
 .have e:=BZ l1 l2 i.toNat ah ah;rw [getD_lt ah,getD_lt ah];refine⟨ah,ah,ah,ah,λh5=> ?_,λh5=>⟨ah,ah,ah,ah,λh6=> ?_,λh6=>⟨⟨ah,ah,?_⟩,ah⟩⟩⟩
  .rw [h3,e,show je l1[i.toNat] l2[i.toNat]= -1 by unfold je;rw [if_pos h5]];rfl
  .rw [h3,e,show je l1[i.toNat] l2[i.toNat]=1 by unfold je;rw [if_neg h5,if_pos h6]];rfl
  .rw [h3,e,show je l1[i.toNat] l2[i.toNat]=0 by unfold je;rw [if_neg h5,if_neg h6],show(i+1).toNat=i.toNat+1 by omega];rfl
 .rw [h3,List.drop_eq_nil_of_le ah,List.drop_eq_nil_of_le ah];rfl
def agA{p1 f1}(U1:Y1 p1 f1)(m:ak)(hm:m.atoms.length<1000000000):
  Qu.F (p1,f1,()) (m,()) (λy=>y=(bp ((1<=m.bL/\m.bL<=65535)/\m.atoms.length<=4/\aok m.atoms),())):=by
 dsimp only [Qu,gm];simp (disch:=omega) only [RR,U1,fC,qw];refine⟨λh=> ?_,λ⟨h1,h2⟩=> ?_⟩
 .rw [bU];rintro⟨g1,g2,g3⟩;omega
 refine aG (λ(y:Int×ak×Unit)=>y.2.1=m/\0<=y.1/\y.1<=m.atoms.length/\All y.1 (λi=>(0<=m.atoms.getD i.toNat default/\m.atoms.getD i.toNat default<=199)/\(0<i->m.atoms.getD (i-1).toNat default<=m.atoms.getD i.toNat default))) (λy=>(m.atoms.length-y.1).toNat) ⟨rfl,by simp,by simp,All.zero⟩ ?_;rintro⟨(i:Int),(m':ak),⟨⟩⟩ hI;dsimp only at hI ⊢;obtain⟨rfl,h3,h4,h5⟩:=hI;simp (disch:=omega) only [RR,U1,fC,qw];refine⟨λh6=>⟨ah,ah,by by_cases c:0<i;(· right;omega);(· left;simp [c]),by by_cases c:0<i;(· right;omega);(· left;simp [c]),ah,ah,λh7=> ?_,λh7=>⟨⟨ah,ah,h5.snoc ⟨h7.1,λc=> ?_⟩⟩,ah⟩⟩,λh6=> ?_⟩
 .rw [bU];rintro⟨g1,g2,g3,g4⟩;rcases h7 with h7 | ⟨h7,h8⟩
  .exact h7 (g4 _ (dN h3 h6))
  .have:=(eF (d:=default) (R:=λa b:Int=>a<=b) (λh1 h2=>Int.le_trans h1 h2)).1 g3 i h7 h6;omega
 .have:=h7.2;rw [decide_eq_true c,Bool.true_and,decide_eq_false_iff_not]at this;omega
 .have h8:=h5.le (by omega:(m'.atoms.length:Int)<=i);rw [eO];refine⟨ah,ah,(eF (d:=default) (R:=λa b:Int=>a<=b) (λh1 h2=>Int.le_trans h1 h2)).2 λj j1 j2=>(h8 j ah j2).2 j1,qU (d:=default) (G:=λk:Int=>0<=k/\k<=199).1 λj j1 j2=>(h8 j j1 j2).1⟩
def agB{p4 f4}{p1:ak×Unit->Bool}{f1:ak×Unit->Bool×Unit}(U1:∀m:ak,m.atoms.length<1000000000->p1 (m,())=true/\f1 (m,())=(bp ((1<=m.bL/\m.bL<=65535)/\m.atoms.length<=4/\aok m.atoms),()))(U4:Y7 p4 f4)(a:List ak)(ha:Sh a):Qw.F (p1,f1,p4,f4,()) (a,()) (λy=>y=(bp (aV a),())):=by
 have hlen:=ha.1;dsimp only [Qw,gm];simp (disch:=omega) only [RR];refine⟨λh=> ?_,λh=> ?_⟩
 .rw [bU (λh2=>by have:=h2.len;omega)]
 refine aG (λ(y:Int×List ak×Unit)=>y.2.1=a/\0<=y.1/\y.1<=a.length/\All y.1 (λi=>((1<=((a).getD (i).toNat default).bL/\((a).getD (i).toNat default).bL<=65535)/\((a).getD (i).toNat default).atoms.length<=4/\aok ((a).getD (i).toNat default).atoms)/\(0<i->lt ((a).getD (i-1).toNat default) ((a).getD (i).toNat default)))) (λy=>(a.length-y.1).toNat) ⟨rfl,by simp,by simp,All.zero⟩ ?_;rintro⟨(i:Int),(l':List ak),⟨⟩⟩ hI;dsimp only at hI ⊢;obtain⟨rfl,h1,h2,h3⟩:=hI;simp (disch:=omega) only [RR,U1 _ (ha.at _),U4 _ _ (ha.at _),bD,iP];refine⟨λh4=>⟨ah,ah,by by_cases c:0<i;(· right;omega);(· left;simp [c]),by by_cases c:0<i;(· right;omega);(· left;simp [c]),ah,ah,λh5=> ?_,λh5=>⟨⟨ah,ah,h3.snoc ⟨h5.1,λc=> ?_⟩⟩,ah⟩⟩,λh4=> ?_⟩
 .rw [bU (λh=> ?_)];obtain⟨g1,g2,g3⟩:=iX.1 h;rcases h5 with h5 | ⟨h5,h6⟩
  .exact h5 ⟨g1.co _ (dN h1 h4),g3 _ (dN h1 h4)⟩
  .have:=(eF (d:=default) (R:=lt) gU).1 g1.ss i h5 h4;unfold lt at this;omega
 .have:=h5.2;rw [decide_eq_true c,Bool.true_and,decide_eq_false_iff_not]at this;unfold lt;omega
 .have h8:=h3.le (by omega:(l'.length:Int)<=i);rw [eO];have h9:=qU (d:=default) (G:=λm:ak=>(1<=m.bL/\m.bL<=65535)/\m.atoms.length<=4/\aok m.atoms).1 λj j1 j2=>(h8 j j1 j2).1
  exact iX.2 ⟨⟨(eF (d:=default) (R:=lt) gU).2 λj j1 j2=>(h8 j ah j2).2 j1,λm hm=>(h9 m hm).1⟩,ah,λm hm=>(h9 m hm).2⟩
def agC(a:List ak)(n:Int)(ha:Sh a):Qx.F () (a,n,()) (λy=>y=(bp (bH a n),())):=by
 have hlen:=ha.1;dsimp only [Qx,gm];simp (disch:=omega) only [RR];refine aG (λ(y:Int×Int×List ak×Unit)=>y.1=n/\y.2.2.1=a/\0<=y.2.1/\y.2.1<=a.length/\All y.2.1 (λi=>La n ((a).getD (i).toNat default))) (λy=>(a.length-y.2.1).toNat) ⟨rfl,rfl,by simp,by simp,All.zero⟩ ?_;rintro⟨(n':Int),(i:Int),(l:List ak),⟨⟩⟩ hI;dsimp only at hI ⊢;obtain⟨rfl,rfl,h1,h2,h3⟩:=hI;simp (disch:=omega) only [RR];refine⟨λh4=> ?_,λh4=> ?_⟩
 .have h5:=ha.at i.toNat;refine aG (λ(y:Int×Int×Int×List ak×Unit)=>y.1=n'/\y.2.1=i/\y.2.2.2.1=l/\0<=y.2.2.1/\y.2.2.1<=((l).getD (i).toNat default).atoms.length/\All y.2.2.1 (λj=>¬n'<=((l).getD (i).toNat default).atoms.getD j.toNat default)) (λy=>(((l).getD (i).toNat default).atoms.length-y.2.2.1).toNat) ⟨rfl,rfl,rfl,by simp,by simp,All.zero⟩ ?_;rintro⟨(n'':Int),(i':Int),(j:Int),(l':List ak),⟨⟩⟩ hI;dsimp only at hI ⊢;obtain⟨rfl,rfl,rfl,g1,g2,g3⟩:=hI;simp (disch:=omega) only [RR];refine⟨ah,ah,λg4=>⟨ah,ah,ah,ah,λg5=> ?_,λg5=>⟨⟨ah,ah,g3.snoc g5⟩,ah⟩⟩,λg4=>⟨⟨ah,ah,h3.snoc (g3.le ah)⟩,ah⟩⟩;rw [bU (λh=>h i' h1 h4 j g1 g4 g5)]
 .rw [eO (show bH l n' from h3.le ah)]
theorem agD{p4 f4}(U4:Y7 p4 f4)(a b:List ak)(ha:Sh a):QA.F (p4,f4,()) (a,b,()) (λy=>y=(iD a b,())):=by
 have hlen:=ha.1;dsimp only [QA,gm];simp (disch:=omega) only [RR];refine⟨λh=>⟨λh1=> ?_,λh1=> ?_⟩,λh=> ?_⟩
 .rw [show iD a b= -1 by(have e:je a.length b.length= -1:=by unfold je;rw [if_pos h1]);unfold iD;rw [e];rfl]
 .rw [show iD a b=1 by(have e:je a.length b.length=1:=by unfold je;rw [if_neg h1,if_pos ah]);unfold iD;rw [e];rfl]
 have hl:a.length=b.length:=by omega
 have e0:iD a b=Cc a b:=by unfold iD;rw [kL.2 ah,if_neg (by simp)]
 refine aG (λ(y:Int×List ak×List ak×Unit)=>y.2.1=a/\y.2.2.1=b/\0<=y.1/\y.1<=a.length/\iD a b=Cc (a.drop y.1.toNat) (b.drop y.1.toNat)) (λy=>(a.length-y.1).toNat) ⟨rfl,rfl,by simp,by simp,by simpa using e0⟩ ?_;rintro⟨(i:Int),(l:List ak),(l':List ak),⟨⟩⟩ hI;dsimp only at hI ⊢;obtain⟨rfl,rfl,h1,h2,h3⟩:=hI;simp (disch:=omega) only [RR,U4 _ _ (ha.at _)];refine⟨λh4=> ?_,λh4=> ?_⟩
 .have e:=Ce l l' i.toNat ah ah;rw [getD_lt ah,getD_lt ah];generalize hu:l[i.toNat]=u at e ⊢;generalize hv:l'[i.toNat]=v at e ⊢;have em:Lb u v=if gG u.atoms v.atoms≠0 then gG u.atoms v.atoms else je u.bL v.bL:=rfl
  refine⟨ah,ah,ah,ah,λh5=> ?_,λh5=>⟨ah,ah,ah,ah,λh6=>⟨ah,ah,ah,ah,λh7=> ?_,λh7=> ?_⟩,λh6=>⟨⟨ah,ah,?_⟩,ah⟩⟩⟩
  .rw [if_pos h5]at em;rw [h3,e,em,if_pos h5]
  .rw [if_neg (by simpa using h5),show je u.bL v.bL= -1 by unfold je;rw [if_pos h7]]at em;rw [h3,e,em];rfl
  .rw [if_neg (by simpa using h5),show je u.bL v.bL=1 by unfold je;rw [if_neg h7,if_pos ah]]at em;rw [h3,e,em];rfl
  .rw [if_neg (by simpa using h5),kL.2 h6]at em;rw [h3,e,em,show(i+1).toNat=i.toNat+1 by omega];rfl
 .rw [h3,List.drop_eq_nil_of_le ah];rfl
def agE(a:Atom):Qy.F () (a,()) (λy=>y=(bp (a.x=[]/\a.y=[]),())):=by
 dsimp only [Qy,gm];simp (disch:=omega) only [RR];refine congrArg (λb=>(b,())) ?_;rw [Bool.eq_iff_iff,bD,Bool.and_eq_true,decide_eq_true_eq,decide_eq_true_eq];constructor
 .rintro⟨h1,h2⟩;exact⟨List.eq_nil_of_length_eq_zero ah,List.eq_nil_of_length_eq_zero ah⟩
 .rintro⟨h1,h2⟩;rw [h1,h2];exact⟨rfl,rfl⟩
def agF{p1 f1 p4 f4 p3 f3}{p5:Atom×Unit->Bool}{f5:Atom×Unit->Bool×Unit}(U1:Y1 p1 f1)(U4:Y11 p4 f4)(U3:Y6 p3 f3)(U5:∀a,p5 (a,())=true/\f5 (a,())=(bp (a.x=[]/\a.y=[]),()))(a:Atom)(n:Int)(ha:ShA a):
  Qz.F (p1,f1,p4,f4,p3,f3,p5,f5,()) (a,n,()) (λy=>y=(bp (kr a n),())):=by
 obtain⟨hx,hy⟩:=ha;dsimp only [Qz,gm];simp (disch:=omega) only [RR,U1,U5,U3 a.x n hx,U3 a.y n hy,U4 a.x hx,U4 a.y hy];unfold kr;have E:∀(b:Bool) (P:Prop),(b=true↔P)->(b,())=(bp P,()):=λb P h=>by
  rw [show b=bp P from Bool.eq_iff_iff.2 (h.trans bD.symm)]
 have T:∀ {P:Prop},¬P->(false,())=(bp P,()):=λh=>by rw [bU h]
 refine⟨λh=>E _ _ ?_,λh=>⟨λh1=>⟨λ_=>E _ _ ?_,λh'=>absurd h1 h'⟩,λh1=>⟨λh2=>E _ _ ?_,λh2=>⟨λh3=>E _ _ ?_,λh3=>T ?_⟩⟩⟩⟩
 .rw [if_neg ah,Bool.and_eq_true,fC,bD];constructor
  .rintro⟨g1,g2⟩;exact⟨g2,Or.inl ⟨h,g1⟩⟩
  .rintro⟨g2,⟨_,g1⟩ | ⟨g3,g1⟩⟩
   .exact⟨g1,g2⟩
   .omega
 .rw [if_neg ah,Bool.and_eq_true,fC,bD];constructor
  .rintro⟨g1,g2⟩;exact⟨g2,Or.inr ⟨Or.inl h1,g1⟩⟩
  .rintro⟨g2,⟨_,g1⟩ | ⟨g3,g1⟩⟩
   .omega
   .exact⟨g1,g2⟩
 .rw [if_neg ah,Bool.and_eq_true,fC,bD];constructor
  .rintro⟨g1,g2⟩;exact⟨g2,Or.inr ⟨Or.inr h2,g1⟩⟩
  .rintro⟨g2,⟨_,g1⟩ | ⟨g3,g1⟩⟩
   .omega
   .exact⟨g1,g2⟩
 .rw [if_pos h3];simp only [Bool.and_eq_true,fC,bD,and_assoc]
 .rw [if_neg h3];rintro⟨_,⟨g,_⟩ | ⟨g,_⟩⟩<;>omega
def agG{p1 f1}(U1:Y8 p1 f1)(a b:Atom)(ha:ShA a):
  QB.F (p1,f1,()) (a,b,()) (λy=>y=(uJ a b,())):=by
 dsimp only [QB,gm];simp (disch:=omega) only [RR,U1 a.x b.x ha.1,U1 a.y b.y ha.2];rfl
def aak(G:Int->Prop):∀n:Nat,∃r,Idx n G r
 | 0=>⟨-1,Or.inl ⟨rfl,All.zero⟩⟩
 | n+1=>by
  obtain⟨r,h⟩:=aak G n;rcases h with⟨h1,h2⟩ | ⟨h1,h2,h3,h4⟩
  .by_cases g:G n
   .exact⟨n,Or.inr ⟨ah,ah,g,h2⟩⟩
   .exact⟨-1,Or.inl ⟨rfl,by have:=h2.snoc g;exact this.le ah⟩⟩
  .exact⟨r,Or.inr ⟨h1,ah,h3,h4⟩⟩
def RL(G:Int->Prop)(n:Nat):Idx n G (idxOf n G):=by
 obtain⟨r,h⟩:=aak G n;rw [<-h.eq];exact h
def qy(t:List Atom)(a:Atom):Idx t.length (λi=>a=t.getD i.toNat default) (wo t a):=by
 have:=RL (λi=>uJ a (t.getD i.toNat default)=true) t.length;simp only [pQ]at this;unfold wo;simp only [pQ];exact this
def wY{t:List Atom}:aR t↔All t.length (λi=>kr (t.getD i.toNat default) i/\All i (λj=>¬t.getD i.toNat default=t.getD j.toNat default))/\t.length<=200:=by
 unfold aR;refine and_congr ⟨λh i h1 h2=>⟨(h i h1 h2).1,?_⟩,λh i h1 h2=>⟨(h i h1 h2).1,?_⟩⟩ Iff.rfl
 .have:=qy t (t.getD i.toNat default);rw [(h i h1 h2).2]at this;rcases this with⟨g1,_⟩ | ⟨_,_,_,g⟩
  .omega
  .exact g
 .exact((qy t (t.getD i.toNat default)).uniq (Or.inr ⟨h1,h2,rfl,(h i h1 h2).2⟩))
def agH{p1 f1 p2 f2}(U1:Y18 p1 f1)(U2:Y15 p2 f2)(a:List Atom)(ha:ShT a):
  QC.F (p1,f1,p2,f2,()) (a,()) (λy=>y=(bp (aR a),())):=by
 have hlen:=ha.1;dsimp only [QC,gm];simp (disch:=omega) only [RR];refine⟨λh=> ?_,λh=> ?_⟩
 .rw [bU (λh2=>by have:=h2.2;omega)]
 refine aG (λ(y:Int×List Atom×Unit)=>y.2.1=a/\0<=y.1/\y.1<=a.length/\All y.1 (λi=>kr ((a).getD (i).toNat default) i/\All i (λj=>¬((a).getD (i).toNat default)=((a).getD (j).toNat default)))) (λy=>(a.length-y.1).toNat) ⟨rfl,by simp,by simp,All.zero⟩ ?_;rintro⟨(i:Int),(l:List Atom),⟨⟩⟩ hI;dsimp only at hI ⊢;obtain⟨rfl,h1,h2,h3⟩:=hI;simp (disch:=omega) only [RR,U1 _ _ (ha.at _),bD,iP];refine⟨λh4=>⟨ah,ah,λh5=> ?_,λh5=> ?_⟩,λh4=> ?_⟩
 .rw [bU (λh=>h5 (h.1 i h1 h4).1)]
 .refine aG (λ(y:Int×Int×List Atom×Unit)=>y.1=i/\y.2.2.1=l/\0<=y.2.1/\y.2.1<=i/\All y.2.1 (λj=>¬((l).getD (i).toNat default)=((l).getD (j).toNat default))) (λy=>(i-y.2.1).toNat) ⟨rfl,rfl,by simp,by simp;omega,All.zero⟩ ?_;rintro⟨(i':Int),(j:Int),(l':List Atom),⟨⟩⟩ hI;dsimp only at hI ⊢;obtain⟨rfl,rfl,g1,g2,g3⟩:=hI;simp (disch:=omega) only [RR,U2 _ _ (ha.at _)];refine⟨λg4=>⟨ah,ah,ah,ah,λg5=> ?_,λg5=>⟨⟨ah,ah,g3.snoc ?_⟩,ah⟩⟩,λg4=>⟨⟨ah,ah,h3.snoc ⟨h5,g3.le ah⟩⟩,ah⟩⟩
  .rw [bU (λh=>((wY.1 h).1 i' h1 h4).2 j g1 g4 (pQ.1 g5).symm)]
  .intro e;rw [pQ.2 e.symm]at g5;cases g5
 .rw [eO (wY.2 ⟨h3.le ah,ah⟩)]
def agI{p1 f1 p2 f2}(U1:Y9 p1 f1)(U2:Y10 p2 f2)(op a b:Int):
  QV.F (p2,f2,p1,f1,()) (op,a,b,()) (λy=>y=(wdo op a b,())):=by
 dsimp only [QV,gm];simp (disch:=omega) only [RR,U1,U2,RH,aaf,fC,qw];by_cases ha:(0<=a/\a<=65535)/\(0<=b/\b<=65535)
 .have hm:0<=a*b/\a*b<=65535*65535:=⟨Int.mul_nonneg ha.1.1 ha.2.1,Int.mul_le_mul ha.1.2 ha.2.2 ha.2.1 ah⟩;rw [w64 (x:=a+b) ah ah,w64 (x:=a-b) ah ah,w64 (x:=a*b) ah ah];unfold wdo;rw [if_pos ha];refine⟨λh=>absurd h ah,λ_=>⟨λh=> ?_,λh=>⟨λh1=> ?_,λh1=>⟨λh2=> ?_,λh2=>⟨λh3=> ?_,λh3=>⟨λh4=> ?_,λh4=> ?_⟩⟩⟩⟩⟩⟩<;>(subst_vars;first | rfl | simp only [if_true,if_false, *])
 .refine⟨λh=> ?_,λh=>absurd h ?_⟩
  .unfold wdo;rw [if_neg ha]
  .exact ha
theorem agJ{p1 f1}(U1:Y11 p1 f1)(a:List ak)(ha:Sh a):
  QU.F (p1,f1,()) (a,()) (λy=>y=((bI a).1,(bI a).2,())):=by
 dsimp only [QU,gm];simp (disch:=omega) only [RR,U1 a ha];unfold bI;have z:Int.toNat 0=0:=rfl;rw [z];refine⟨λh=> ?_,λh=>⟨λh1=> ?_,λh1=>⟨ah,ah,λh2=> ?_,λh2=>⟨ah,ah,?_⟩⟩⟩⟩
 .rw [if_neg (by simpa using h)]
 .rw [if_pos h,if_pos ah]
 .rw [if_pos h,if_neg ah,if_neg ah]
 .rw [if_pos h,if_neg ah,if_pos ah]
def agK(a:List ak)(ha:Sh a):QD.F () (a,()) (λy=>y=(a,())):=by
 have hlen:=ha.1;dsimp only [QD,gm];simp (disch:=omega) only [RR];refine aG (λ(y:List ak×Int×List ak×Unit)=>y.1=a/\y.2.2.1=a.take y.2.1.toNat/\0<=y.2.1/\y.2.1<=a.length) (λy=>(a.length-y.2.1).toNat) ⟨rfl,by simp,by simp,by simp⟩ ?_;rintro⟨(l:List ak),(i:Int),(o:List ak),⟨⟩⟩ hI;dsimp only at hI ⊢;obtain⟨rfl,rfl,h1,h2⟩:=hI;have h3:=ha.at i.toNat;have h4:=List.length_take_le' i.toNat l;simp (disch:=omega) only [RR];simp only [List.length_nil,List.nil_append,List.length_cons];refine⟨λh4=>⟨ah,ah,ah,ah,Or.inr ah,ah,ah,⟨gT h1 h4 rfl,ah,ah⟩,ah⟩,λh4=>by rw [List.take_of_length_le ah]⟩
def Lh(l:List ak):Prop:=l.length<=12/\∀m∈l,m.atoms.length<=4
def agL{p1 f1}(U1:Y13 p1 f1)(a:List ak)(ha:Sh a):
  QJ.F (p1,f1,()) (a,()) (λy=>y=(bp (Lh a),if bp (Lh a)then a else [],())):=by
 have hlen:=ha.1;dsimp only [QJ,gm];simp (disch:=omega) only [RR];refine⟨λh=> ?_,λh=> ?_⟩
 .rw [bU (λh2=>by have:=h2.1;omega)];rfl
 refine aG (λ(y:List ak×Int×Unit)=>y.1=a/\0<=y.2.1/\y.2.1<=a.length/\All y.2.1 (λi=>((a).getD (i).toNat default).atoms.length<=4)) (λy=>(a.length-y.2.1).toNat) ⟨rfl,by simp,by simp,All.zero⟩ ?_;rintro⟨(l:List ak),(i:Int),⟨⟩⟩ hI;dsimp only at hI ⊢;obtain⟨rfl,h1,h2,h3⟩:=hI;simp (disch:=omega) only [RR,U1 l ha];refine⟨λh4=>⟨ah,ah,λh5=> ?_,λh5=>⟨⟨ah,ah,h3.snoc ah⟩,ah⟩⟩,λh4=> ?_⟩
 .rw [bU (λh=>by have:=h.2 _ (dN (d:=default) h1 h4);omega)];rfl
 .rw [eO (show Lh l from⟨ah,qU (d:=default) (G:=λm:ak=>m.atoms.length<=4).1 (h3.le ah)⟩)];rfl
def agM{p1 f1}(U1:Y13 p1 f1)(a:Atom)(ha:ShA a):
  QE.F (p1,f1,()) (a,()) (λy=>y=(a.kind,a.k,a.x,a.y,())):=by
 dsimp only [QE,gm];simp (disch:=omega) only [RR,U1 a.x ha.1,U1 a.y ha.2]
abbrev Y34(pp:Atom×Unit->Bool)(ff:Atom×Unit->Int×Int×List ak×List ak×Unit):Prop:=∀a,ShA a->pp (a,())=true/\ff (a,())=(a.kind,a.k,a.x,a.y,())
def agN{p1 f1}(U1:Y34 p1 f1)(a:List Atom)(ha:ShT a):
  QZ.F (p1,f1,()) (a,()) (λy=>y=(a,())):=by
 have hlen:=ha.1;dsimp only [QZ,gm];simp (disch:=omega) only [RR];refine aG (λ(y:Int×List Atom×List Atom×Unit)=>y.2.1=a/\y.2.2.1=a.take y.1.toNat/\0<=y.1/\y.1<=a.length) (λy=>(a.length-y.1).toNat) ⟨rfl,by simp,by simp,by simp⟩ ?_;rintro⟨(i:Int),(l:List Atom),(o:List Atom),⟨⟩⟩ hI;dsimp only at hI ⊢;obtain⟨rfl,rfl,h1,h2⟩:=hI;simp (disch:=omega) only [RR,U1 _ (ha.at _)];have h5:=List.length_take_le' i.toNat l;refine⟨λh4=>⟨ah,ah,?_,⟨gT h1 h4 rfl,ah,ah⟩,ah⟩,λh4=>by rw [List.take_of_length_le ah]⟩;simp only [List.length_cons,List.length_nil];omega
def wZ{p:List ak}{n m:Int}(h:bH p n)(h2:n<=m):bH p m:=dP.2 λa ha k hk=>by have:=dP.1 h a ha k hk;omega
def aal{a:Atom}{n m:Int}(h:kr a n)(h2:n<=m):kr a m:=by
 unfold kr at h ⊢;split
 .rename_i h3;rw [if_pos h3]at h;exact⟨h.1,h.2.1,h.2.2.1,wZ h.2.2.2.1 h2,wZ h.2.2.2.2 h2⟩
 .rename_i h3;rw [if_neg h3]at h;exact h
def agO{p1 f1 p2 f2 p3 f3}(U1:Y18 p1 f1)(U2:Y15 p2 f2)(U3:Y34 p3 f3)(a:Atom)(t:List Atom)(ha:ShA a)(ht:ShT t)(hok:aR t):QF.F (p1,f1,p2,f2,p3,f3,()) (a,t,()) (λy=>y=((cu t a).2,(cu t a).1,())):=by
 have hlen:=ht.1;dsimp only [QF,gm];simp (disch:=omega) only [RR,U1 _ _ ha,bD,iP];have hsp:=qy t a;refine⟨λh=> ?_,λh=> ?_⟩
 .have:wo t a= -1:=by
   rcases hsp with⟨g,_⟩ | ⟨g1,g2,g3,_⟩
   .exact g
   .exfalso;apply h;have:=(hok.1 _ g1 g2).1;rw [<-g3]at this;exact aal this ah
  unfold cu;rw [this,if_neg ah,if_pos (Or.inl h)]
 refine aG (λ(y:Int×List Atom×Atom×Unit)=>y.2.1=t/\y.2.2.1=a/\0<=y.1/\y.1<=t.length/\All y.1 (λi=>¬a=t.getD i.toNat default)) (λy=>(t.length-y.1).toNat) ⟨rfl,rfl,by simp,by simp,All.zero⟩ ?_;rintro⟨(i:Int),(l:List Atom),(a':Atom),⟨⟩⟩ hI;dsimp only at hI ⊢;obtain⟨rfl,rfl,h1,h2,h3⟩:=hI;simp (disch:=omega) only [RR,U2 _ _ (ht.at _),U3 _ ha];refine⟨λh4=>⟨ah,ah,ah,ah,λh5=> ?_,λh5=>⟨⟨ah,ah,h3.snoc ?_⟩,ah⟩⟩,λh4=> ?_⟩
 .have e:=(pQ.1 h5).symm;have:wo l a'=i:=hsp.uniq (Or.inr ⟨h1,h4,e,h3⟩);unfold cu;rw [this,if_pos h1]
 .intro e;rw [pQ.2 e.symm]at h5;cases h5
 .have:wo l a'= -1:=hsp.uniq (Or.inl ⟨rfl,h3.le ah⟩);unfold cu;rw [this,if_neg ah];refine⟨λh5=> ?_,λh5=>⟨?_,?_⟩⟩
  .rw [if_pos (Or.inr ah)]
  .simp only [List.length_cons,List.length_nil];omega
  .rw [if_neg (by rintro(g | g);exact g h;omega),List.length_append];rw [w64 (by simp only [List.length_cons,List.length_nil];omega) (by simp only [List.length_cons,List.length_nil];omega)];simp only [List.length_cons,List.length_nil];rw [show(((l.length+(0+1):Nat):Int)-1)=l.length by omega]
def Df(op n:Int)(y:List ak):List ak×Bool:=if op=4/\n=0 then([],true)else if(op=4/\n=65535)\/(op=5/\n=0)then(y,true)else([],false)
def agP{p1 f1}(U1:Y13 p1 f1)(op n:Int)(y:List ak)(hy:Sh y):
  QW.F (p1,f1,()) (op,n,y,()) (λz=>z=((Df op n y).2,(Df op n y).1,())):=by
 dsimp only [QW,gm];simp (disch:=omega) only [RR,U1 y hy];unfold Df;by_cases c1:op=4<;>by_cases c2:n=0<;>by_cases c3:n=65535<;>by_cases c4:op=5<;>simp [c1,c2,c3,c4]<;>omega
def ac1(op:Int)(x y:List ak):F6 op x y=if(bI x).2&& (bI y).2 then(gF (wdo op (bI x).1 (bI y).1),true)
  else if iD x y=0 then(if op=4 then(x,true)else([],true))else if(bI x).2 then Df op (bI x).1 y else if(bI y).2 then Df op (bI y).1 x else([],false):=by
 unfold F6 Df;by_cases c1:iD x y=0<;>by_cases c2:op=4<;>simp [c1,c2]
def agQ{p1 f1 p2 f2 p3 f3 p4 f4 p7 f7}{p8:Int×Int×List ak×Unit->Bool}{f8:Int×Int×List ak×Unit->Bool×List ak×Unit}(U1:Y8 p1 f1)(U2:Y13 p2 f2)(U3:Y24 p3 f3)(U4:Y22 p4 f4)(U7:Y27 p7 f7)(U8:∀op n y,Sh y->p8 (op,n,y,())=true/\f8 (op,n,y,())=((Df op n y).2,(Df op n y).1,()))(op:Int)(x y:List ak)(hx:Sh x)(hy:Sh y):QX.F (p1,f1,p2,f2,p3,f3,p4,f4,p7,f7,p8,f8,()) (op,x,y,()) (λz=>z=((F6 op x y).2,(F6 op x y).1,())):=by
 dsimp only [QX,gm];simp (disch:=omega) only [RR,U1 x y hx,U2 x hx,U3,U4,U7 x hx,U7 y hy,U8 op _ y hy,U8 op _ x hx];rw [ac1];generalize bI x=nx;generalize bI y=ny;obtain⟨n,bn⟩:=nx;obtain⟨m,bm⟩:=ny;dsimp only;by_cases e:iD x y=0<;>by_cases o4:op=4<;>cases bn<;>cases bm<;>simp [e,o4]
noncomputable def F7 (op:Int) (x y:List ak):List ak×Bool:=
 if op=1 then((rJ x y).2,(rJ x y).1)else if op=2 then((rJ x (kW y 65535)).2,(rJ x (kW y 65535)).1)else if op=3 then((rM x y).2,(rM x y).1)else([],false)
def agR{p5 f5 p4 f4 p6 f6}(U5:Y23 p5 f5)(U4:Y25 p4 f4)(U6:Y26 p6 f6)(op:Int)(x y:List ak)(hx:Sh x)(hy:Sh y):QS.F (p5,f5,p4,f4,p6,f6,()) (op,x,y,()) (λz=>z=((F7 op x y).2,(F7 op x y).1,())):=by
 dsimp only [QS,gm];simp (disch:=omega) only [RR,U4 x y hx hy,U4 x _ hx (Jt y 65535),U5 x y hx hy,U6 y _ hy];unfold F7;refine⟨λh=>by rw [if_pos h],λh=>⟨λh1=>by rw [if_neg h,if_pos h1],λh1=>⟨λh2=>by rw [if_neg h,if_neg h1,if_pos h2],λh2=>by rw [if_neg h,if_neg h1,if_neg h2]⟩⟩⟩
abbrev Y35(pp:Atom×List Atom×Unit->Bool)(ff:Atom×List Atom×Unit->Int×List Atom×Unit):Prop:=∀a t,ShA a->ShT t->aR t->pp (a,t,())=true/\ff (a,t,())=((cu t a).2,(cu t a).1,())
def agS{p1 f1 p2 f2 p5 f5}{p3:Int×List ak×List ak×Unit->Bool}{f3:Int×List ak×List ak×Unit->Bool×List ak×Unit}{p4:Int×List ak×List ak×Unit->Bool}{f4:Int×List ak×List ak×Unit->Bool×List ak×Unit}(U1:Y28 p1 f1)(U2:Y8 p2 f2)(U3:∀op x y,Sh x->Sh y->p3 (op,x,y,())=true/\f3 (op,x,y,())=((F7 op x y).2,(F7 op x y).1,()))(U4:∀op x y,Sh x->Sh y->p4 (op,x,y,())=true/\f4 (op,x,y,())=((F6 op x y).2,(F6 op x y).1,()))(U5:Y35 p5 f5)(op:Int)(x y:List ak)(t:List Atom)(hop:1<=op/\op<=5)(hx:Sh x)(hy:Sh y)(ht:ShT t)(hok:aR t):QY.F (p1,f1,p2,f2,p3,f3,p4,f4,p5,f5,()) (op,x,y,t,()) (λz=>z=((tDo t op x y).1,(tDo t op x y).2,())):=by
 have s1:ShA ⟨4,op,x,y⟩:=⟨hx,hy⟩;have s2:ShA ⟨4,op,y,x⟩:=⟨hy,hx⟩;dsimp only [QY,gm];simp (disch:=omega) only [RR,U1,U2 x y hx,U3 op x y hx hy,U4 op x y hx hy,U5 _ _ s1 ht hok,U5 _ _ s2 ht hok];have e1:(op=4\/op=5)->F6 op x y=kS op x y:=λh=>by unfold kS;rw [if_neg ah,if_neg ah,if_neg ah]
 have e2:¬(op=4\/op=5)->F7 op x y=kS op x y:=λh=>by
  unfold kS F7;by_cases c1:op=1
  .rw [if_pos c1,if_pos c1]
  .rw [if_neg c1,if_neg c1];by_cases c2:op=2
   .rw [if_pos c2,if_pos c2]
   .rw [if_neg c2,if_neg c2,if_pos ah,if_pos ah]
 unfold tDo;by_cases c:op=4\/op=5
 .rw [e1 c];generalize cu t ⟨4,op,y,x⟩=r1;generalize cu t ⟨4,op,x,y⟩=r2;generalize iD x y=o;generalize kS op x y=s;obtain⟨p,b⟩:=s;have c':¬op=2:=by omega
  cases b<;>by_cases c2:0<o<;>by_cases c3:r1.2<0<;>by_cases c4:r2.2<0<;>simp [c,c',c2,c3,c4]<;>omega
 .rw [e2 c];generalize cu t ⟨4,op,y,x⟩=r1;generalize cu t ⟨4,op,x,y⟩=r2;generalize iD x y=o;generalize kS op x y=s;obtain⟨p,b⟩:=s;obtain⟨n4,n5⟩:=not_or.1 c;cases b<;>by_cases c1:op=2<;>by_cases c2:0<o<;>by_cases c3:r1.2<0<;>by_cases c4:r2.2<0<;>simp [n4,n5,c1,c2,c3,c4]
structure Plus(l:List ak)(m:ak)(o:List ak):Prop where
 nf:Nf o
 cf:∀k,cf o k=F.cf (l++ [m]) k%65536
 len:o.length<=l.length+1
def agT{p1 f1 p2 f2}(U1:Y7 p1 f1)(U2:Y10 p2 f2)(l:List ak)(m:ak)(hl:l.length<1000000000)(hn:Nf l)(hm:1<=m.bL/\m.bL<=65535)(hma:m.atoms.length<1000000000):QI.F (p1,f1,p2,f2,()) (l,m,()) (λy=>Plus l m y.1):=by
  dsimp only [QI,gm]
  refine aG (λ(y:List ak×Bool×Int×ak×List ak×Unit)=>y.1=l/\y.2.2.2.1=m/\0<=y.2.2.1/\y.2.2.1<=l.length/\
      ((y.2.1=false/\y.2.2.2.2.1=l.take y.2.2.1.toNat/\∀x∈l.take y.2.2.1.toNat,lt x m)\/
       (y.2.1=true/\Nf y.2.2.2.2.1/\(∀k,cf y.2.2.2.2.1 k=cf (l.take y.2.2.1.toNat++ [m]) k%65536)/\(y.2.2.2.2.1.length:Int)<=y.2.2.1+1/\(y.2.2.1<l.length->lt m ((l).getD (y.2.2.1).toNat default)/\∀x∈y.2.2.2.2.1,lt x ((l).getD (y.2.2.1).toNat default))))) (λy=>(l.length-y.2.2.1).toNat)
    ⟨rfl,rfl,by simp,by simp,Or.inl ⟨rfl,by simp,by simp⟩⟩ ?_
  rintro⟨(l':List ak),(dn:Bool),(i:Int),(m':ak),(o:List ak),⟨⟩⟩ hI;dsimp only at hI ⊢;obtain⟨rfl,rfl,h1,h2,h3⟩:=hI;simp (disch:=omega) only [RR,U1 _ _ hma,U2];have hss:=hn.ss;have nx:i+1<l'.length->lt ((l').getD (i).toNat default) ((l').getD (i+1).toNat default):=λh=>by
    have:=(eF (d:=default) (R:=lt) gU).1 hss (i+1) ah h;rw [show i+1-1=i by omega]at this;exact this
  have tk:i<l'.length->l'.take (i+1).toNat=l'.take i.toNat++ [((l').getD (i).toNat default)]:=λh=>(gT h1 h rfl).symm
  have bf:i<l'.length->∀x∈l'.take i.toNat,lt x ((l').getD (i).toNat default):=λh x hx=>by
    have:=hss;rw [<-List.take_append_drop i.toNat l',List.pairwise_append]at this;refine this.2.2 x hx _ ?_;rw [getD_lt ah,List.drop_eq_getElem_cons (show i.toNat<l'.length by omega)];exact List.mem_cons_self
  have lt0:=List.length_take_le' i.toNat l';have lt1:=List.length_take_le i.toNat l';have co:i<l'.length->1<=((l').getD (i).toNat default).bL/\((l').getD (i).toNat default).bL<=65535:=λh=>hn.co _ (dN h1 h)
  have ntk:Nf (l'.take i.toNat):=⟨List.Pairwise.sublist (List.take_sublist _ _) hss,λx hx=>hn.co x (List.mem_of_mem_take hx)⟩;have aam:∀ {a:List ak} {x:ak},Nf a->(∀y∈a,lt y x)->1<=x.bL/\x.bL<=65535->Nf (a++ [x]):=λ{a x} g1 g2 g3=>⟨by
    rw [List.pairwise_append];exact⟨g1.ss,List.pairwise_singleton _ _,λy hy z hz=>by rw [List.mem_singleton]at hz;subst hz;exact g2 y hy⟩,λy hy=>by
    rw [List.mem_append,List.mem_singleton]at hy;rcases hy with hy | rfl
    · exact g1.co y hy
    · exact g3⟩
  have l1:∀(x:List ak) (y:ak),(x++ [y]).length=x.length+1:=λx y=>by rw [List.length_append];rfl
  have fin:∀o,i=l'.length->Nf o->(∀k,cf o k=cf (l'.take i.toNat++ [m']) k%65536)->(o.length:Int)<=i+1->Plus l' m' o:=λo e g1 g2 g3=>⟨g1,λk=>by rw [g2 k,List.take_of_length_le ah],ah⟩
  by_cases hi:i<l'.length
  · have nx:=nx;have tk:=tk hi;have bf:=bf hi;have co:=co hi;rw [tk];have hv:∀ {P:Prop},P->(∀x,x=((l').getD (i).toNat default)->P)->P:=λh _=>h
    generalize ((l').getD (i).toNat default)=v at nx tk bf co h3 ⊢;have cfs:∀k,cf (l'.take i.toNat++ [v]++ [m']) k=cf (l'.take i.toNat) k+(if v.atoms=k then v.bL else 0)+(if m'.atoms=k then m'.bL else 0):=λk=>by
      rw [dU,dU,dL,dL,mW];simp only [Int.add_zero]
    have cfm:∀k,cf (l'.take i.toNat++ [m']) k=cf (l'.take i.toNat) k+(if m'.atoms=k then m'.bL else 0):=λk=>by
      rw [dU,dL,mW,Int.add_zero]
    rcases h3 with⟨rfl,rfl,h4⟩ | ⟨rfl,h4,h5,h6,h7⟩
    ·
      simp (disch:=omega) only [RR,decide_true,Bool.not_false,Bool.true_and,decide_eq_true_eq,hi];by_cases c1:gG m'.atoms v.atoms<0
      · have c2:¬gG m'.atoms v.atoms=0:=by omega
        simp (disch:=omega) only [RR,c1,c2];have n1:=aam ntk h4 hm;have b2:∀x∈l'.take i.toNat++ [m'],lt x v:=λx hx=>by
          rw [List.mem_append,List.mem_singleton]at hx;rcases hx with hx | rfl
          · exact bf x hx
          · exact c1
        have n2:=aam n1 b2 co;refine⟨ah,by rw [show([m']:List ak).length=1 from rfl];omega,ah,by rw [l1,show([v]:List ak).length=1 from rfl];omega,⟨ah,ah,Or.inr ⟨n2,λk=> ?_,by rw [l1,l1];omega,λh=>⟨gU c1 (nx h),λx hx=> ?_⟩⟩⟩,ah⟩
        · have e1:=cfs k;have e2:=n2.bnd k;have e3:cf (l'.take i.toNat++ [m']++ [v]) k=cf (l'.take i.toNat++ [v]++ [m']) k:=by rw [e1,dU,cfm,dL,mW];omega
          rw [<-e3];omega
        · rw [List.mem_append,List.mem_singleton]at hx;rcases hx with hx | rfl
          · exact gU (b2 x hx) (nx h)
          · exact nx h
      · by_cases c2:gG m'.atoms v.atoms=0
        · have ev:=l9.1 c2;simp (disch:=omega) only [RR,c1,c2,List.append_nil];have zz:cf (l'.take i.toNat) v.atoms=0:=jO λx hx=>(bf x hx).ne
          refine⟨ah,λh=>absurd h ah,λ_=>⟨ah,λc3=> ?_,λc3=> ?_⟩⟩
          · have n2:=aam (x:=⟨(v.bL+m'.bL)%65536,v.atoms⟩) ntk bf ⟨by dsimp only;omega,by dsimp only;omega⟩;refine⟨ah,by simp only [List.length_cons,List.length_nil];omega,⟨ah,ah,Or.inr ⟨n2,λk=> ?_,by rw [l1];omega,λh=>⟨?_,λx hx=> ?_⟩⟩⟩,ah⟩
            · have e1:=cfs k;have e2:=n2.bnd k;rw [e1];rw [dU,dL,mW]at e2 ⊢;dsimp only at e2 ⊢;by_cases ek:v.atoms=k
              · rw [if_pos ek]at e2 ⊢;rw [if_pos ek,if_pos (ev.trans ek)];rw [<-ek,zz]at e2 ⊢;omega
              · rw [if_neg ek]at e2 ⊢;rw [if_neg ek,if_neg (λe=>ek (ev.symm.trans e))];omega
            · have:=nx h;unfold lt at this ⊢;rw [ev];exact this
            · rw [List.mem_append,List.mem_singleton]at hx;rcases hx with hx | rfl
              · exact gU (bf x hx) (nx h)
              · exact nx h
          · refine⟨⟨ah,ah,Or.inr ⟨ntk,λk=> ?_,ah,λh=>⟨?_,λx hx=>gU (bf x hx) (nx h)⟩⟩⟩,ah⟩
            · have e1:=cfs k;have e2:=ntk.bnd k;rw [e1];by_cases ek:v.atoms=k
              · rw [if_pos ek,if_pos (ev.trans ek),<-ek,zz];omega
              · rw [if_neg ek,if_neg (λe=>ek (ev.symm.trans e))];omega
            · have:=nx h;unfold lt at this ⊢;rw [ev];exact this
        · simp (disch:=omega) only [RR,c1,c2];refine⟨ah,ah,by simp only [List.length_cons,List.length_nil];omega,⟨ah,ah,Or.inl (λx hx=> ?_)⟩,ah⟩;rw [List.mem_append,List.mem_singleton]at hx;rcases hx with hx | rfl
          · exact h4 x hx
          · unfold lt;rw [sQ];omega
    · have c3:=(h7 hi).1;have b2:=(h7 hi).2;have c1:gG m'.atoms v.atoms<0:=c3;have c2:¬gG m'.atoms v.atoms=0:=by omega
      simp (disch:=omega) only [RR,decide_true,Bool.not_true,Bool.false_and,decide_eq_true_eq,hi,c2];have n2:=aam h4 b2 co;refine⟨ah,λh=>h.1.elim,ah,by simp only [List.length_cons,List.length_nil];omega,⟨ah,ah,Or.inr ⟨n2,λk=> ?_,by rw [l1];omega,λh=>⟨gU c3 (nx h),λx hx=> ?_⟩⟩⟩,ah⟩
      · have e1:=cfs k;have e2:=n2.bnd k;have e3:=h5 k;rw [cfm]at e3;rw [dU,dL,mW]at e2 ⊢;rw [e1];by_cases ek:v.atoms=k
        · rw [if_pos ek]at e2 ⊢;omega
        · rw [if_neg ek]at e2 ⊢;omega
      · rw [List.mem_append,List.mem_singleton]at hx;rcases hx with hx | rfl
        · exact gU (b2 x hx) (nx h)
        · exact nx h
  · have ei:i=l'.length:=by omega
    rcases h3 with⟨rfl,rfl,h4⟩ | ⟨rfl,h4,h5,h6,h7⟩
    · simp (disch:=omega) only [RR,decide_true,Bool.not_false,Bool.true_and,decide_eq_true_eq,hi];have n1:=aam ntk h4 hm;refine⟨by simp only [List.length_cons,List.length_nil];omega,fin _ ei n1 (λk=> ?_) (by rw [l1];omega)⟩;have e2:=n1.bnd k;omega
    · simp (disch:=omega) only [RR,decide_true,Bool.not_true,Bool.false_and,decide_eq_true_eq,hi];exact fin _ ei h4 h5 h6
def yU{a o:List Int}(h:o.Pairwise (· <= ·))(hp:o.Perm a):o=nH a:=by
 refine List.Perm.eq_of_pairwise (le:=λx y:Int=>x<=y) (λa b _ _ h1 h2=>Int.le_antisymm h1 h2) h ?_ (hp.trans (List.mergeSort_perm a _).symm);have:=List.pairwise_mergeSort (le:=λx y:Int=>decide (x<=y)) (λa b c h1 h2=>by simp at*;omega) (λa b=>by simp;omega) a;exact this.imp (λh=>by simpa using h)
def agU(a b:List Int)(ha:a.length<100000000)(hb:b.length<100000000)(sa:a.Pairwise (· <= ·))(sb:b.Pairwise (· <= ·)):
  QN.F () (a,b,()) (λy=>y=(nH (a++b),())):=by
 dsimp only [QN,gm];have sa':=(eF (d:=default) (R:=λa b:Int=>a<=b) (λh1 h2=>Int.le_trans h1 h2)).1 sa;have sb':=(eF (d:=default) (R:=λa b:Int=>a<=b) (λh1 h2=>Int.le_trans h1 h2)).1 sb
 let I:List Int->Int->Int->Prop:=λo i k=>0<=i/\i<=a.length/\0<=k/\k<=b.length/\o.Pairwise (· <= ·)/\o.Perm (a.take i.toNat++b.take k.toNat)/\(i<a.length->∀x∈o,x<=((a).getD (i).toNat default))/\(k<b.length->∀x∈o,x<=((b).getD (k).toNat default))
 have sn:∀ {o:List Int} {y:Int},o.Pairwise (· <= ·)->(∀x∈o,x<=y)->(o++ [y]).Pairwise (· <= ·):=λ{o y} g1 g2=>by
  rw [List.pairwise_append];exact⟨g1,List.pairwise_singleton _ _,λx hx z hz=>by rw [List.mem_singleton]at hz;subst hz;exact g2 x hx⟩
 have il:∀o i k,I o i k->(o.length:Int)=i+k:=λo i k ⟨h1,h2,h3,h4,_,h5,_⟩=>by
  have:=h5.length_eq;rw [List.length_append,List.length_take,List.length_take]at this;omega
 have stA:∀o i k,I o i k->i<a.length->(k<b.length->((a).getD (i).toNat default)<=((b).getD (k).toNat default))->I (o++ [((a).getD (i).toNat default)]) (i+1) k:=by
  rintro o i k ⟨h1,h2,h3,h4,h5,h6,h7,h8⟩ hi hk;refine⟨ah,ah,h3,h4,sn h5 (h7 hi),?_,λg x hx=> ?_,λg x hx=> ?_⟩
  .rw [<-gT (d:=default) h1 hi rfl];refine(h6.append_right _).trans ?_;rw [List.append_assoc,List.append_assoc];exact(List.perm_append_comm).append_left _
  .have:=sa' (i+1) ah g;rw [show i+1-1=i by omega]at this;rw [List.mem_append,List.mem_singleton]at hx;rcases hx with hx | rfl
   .exact Int.le_trans (h7 hi x hx) this
   .exact this
  .rw [List.mem_append,List.mem_singleton]at hx;rcases hx with hx | rfl
   .exact h8 g x hx
   .exact hk g
 have stB:∀o i k,I o i k->k<b.length->(i<a.length->((b).getD (k).toNat default)<=((a).getD (i).toNat default))->I (o++ [((b).getD (k).toNat default)]) i (k+1):=by
  rintro o i k ⟨h1,h2,h3,h4,h5,h6,h7,h8⟩ hk hi;refine⟨h1,h2,ah,ah,sn h5 (h8 hk),?_,λg x hx=> ?_,λg x hx=> ?_⟩
  .rw [<-gT (d:=default) h3 hk rfl,<-List.append_assoc];exact h6.append_right _
  .rw [List.mem_append,List.mem_singleton]at hx;rcases hx with hx | rfl
   .exact h7 g x hx
   .exact hi g
  .have:=sb' (k+1) ah g;rw [show k+1-1=k by omega]at this;rw [List.mem_append,List.mem_singleton]at hx;rcases hx with hx | rfl
   .exact Int.le_trans (h8 hk x hx) this
   .exact this
 refine aG (λ(y:List Int×List Int×Int×Int×List Int×Unit)=>y.1=a/\y.2.1=b/\I y.2.2.2.2.1 y.2.2.1 y.2.2.2.1) (λy=>(b.length-y.2.2.2.1).toNat)
  ⟨rfl,rfl,by simp,by simp,by simp,by simp,List.Pairwise.nil,by simp,λ_ x hx=>absurd hx (by simp),λ_ x hx=>absurd hx (by simp)⟩ ?_
 rintro⟨(a':List Int),(b':List Int),(i:Int),(k:Int),(o:List Int),⟨⟩⟩ hI;dsimp only at hI ⊢;obtain⟨rfl,rfl,hI⟩:=hI;have hb1:=hI.1;have hb2:=hI.2.1;have hb3:=hI.2.2.1;have hb4:=hI.2.2.2.1;have hol:=il _ _ _ hI;simp (disch:=omega) only [RR];refine⟨λh9=> ?_,λh9=> ?_⟩
 .refine aG (λ(y:List Int×List Int×Int×Int×List Int×Unit)=>y.1=a'/\y.2.1=b'/\y.2.2.2.1=k/\I y.2.2.2.2.1 y.2.2.1 k) (λy=>(a'.length-y.2.2.1).toNat) ⟨rfl,rfl,rfl,hI⟩ ?_;rintro⟨(a2:List Int),(b2:List Int),(i2:Int),(k2:Int),(o2:List Int),⟨⟩⟩ hI2;dsimp only at hI2 ⊢;obtain⟨rfl,rfl,rfl,hI2⟩:=hI2;have hc1:=hI2.1;have hc2:=hI2.2.1;have hol:=il _ _ _ hI2;simp (disch:=omega) only [RR];refine⟨ah,ah,ah,ah,λ⟨g1,g2⟩=>⟨ah,g1,by simp only [List.length_cons,List.length_nil];omega,stA _ _ _ hI2 g1 (λ_=>g2),ah⟩,λg=>⟨ah,h9,by simp only [List.length_cons,List.length_nil];omega,stB _ _ _ hI2 h9 (λg1=> ?_),ah⟩⟩;rw [decide_eq_true g1,Bool.true_and,decide_eq_false_iff_not]at g;omega
 .have e1:List.drop i.toNat (List.take ((a'.length:Int)).toNat a')=a'.drop i.toNat:=by rw [List.take_of_length_le ah]
  rw [e1];refine⟨ah,ah,ah,by rw [List.length_drop];omega,?_⟩;obtain⟨h1,h2,h3,h4,h5,h6,h7,h8⟩:=hI;rw [yU (a:=a'++b') (o:=o++a'.drop i.toNat)]
  .rw [List.pairwise_append];refine⟨h5,List.Pairwise.sublist (List.drop_sublist _ _) sa,λx hx y hy=> ?_⟩;by_cases hi:i<a'.length
   .refine Int.le_trans (h7 hi x hx) ?_;rw [List.drop_eq_getElem_cons (show i.toNat<a'.length by omega)]at hy;have hd:=List.Pairwise.sublist (List.drop_sublist i.toNat _) sa;rw [List.drop_eq_getElem_cons (show i.toNat<a'.length by omega)]at hd;rw [getD_lt (show i.toNat<a'.length by omega)];rcases List.mem_cons.1 hy with rfl | hy
    .exact Int.le_refl _
    .exact List.rel_of_pairwise_cons hd hy
   .rw [List.drop_eq_nil_of_le ah]at hy;exact absurd hy (by simp)
  .rw [List.take_of_length_le (show b'.length<=k.toNat by omega)]at h6;refine(h6.append_right _).trans ?_;rw [List.append_assoc];refine((List.perm_append_comm).append_left _).trans ?_;rw [<-List.append_assoc,List.take_append_drop]
def aV.nf{p:List ak}(h:aV p):Nf p:=(iX.1 h).1
def aV.aok{p:List ak}(h:aV p){m:ak}(hm:m∈p):m.atoms.length<=4/\F.aok m.atoms:=(iX.1 h).2.2 m hm
def Li{l o:List ak}(h:Nf o)(h2:∀k,cf o k=cf l k%65536)(h3:∀m∈l,aok m.atoms):(bp (Lh o),if bp (Lh o)then o else [])=((uh l).1,(uh l).2):=by
 rw [ac0 h h2 h3];by_cases c:Lh o
 .rw [eO c,if_pos rfl];dsimp only;rw [decide_eq_true (show o.length<=12/\∀m∈o,m.atoms.length<=4 from c),if_pos (show o.length<=12/\∀m∈o,m.atoms.length<=4 from c)]
 .rw [bU c,if_neg (by simp)];dsimp only;rw [decide_eq_false (show¬(o.length<=12/\∀m∈o,m.atoms.length<=4)from c),if_neg (show¬(o.length<=12/\∀m∈o,m.atoms.length<=4)from c)]
def aan{o l:List ak}(h:Nf o)(h2:∀k,cf o k=cf l k%65536)(h3:∀m∈l,m.atoms.length<1000000000)(h4:o.length<1000000000):Sh o:=⟨h4,λm hm=>by
 obtain⟨m',g1,g2⟩:=h.from h2 hm;rw [<-g2];exact h3 m' g1⟩
abbrev Y36(pp:List ak×ak×Unit->Bool)(ff:List ak×ak×Unit->List ak×Unit):Prop:=∀(l:List ak) m,l.length<1000000000->Nf l->1<=m.bL/\m.bL<=65535->m.atoms.length<1000000000->pp (l,m,())=true/\Plus l m (ff (l,m,())).1
abbrev Y37(pp:List ak×Unit->Bool)(ff:List ak×Unit->Bool×List ak×Unit):Prop:=∀a,Sh a->pp (a,())=true/\ff (a,())=(bp (Lh a),if bp (Lh a)then a else [],())
def agV{p1 f1 p2 f2 p3 f3}(U1:Y11 p1 f1)(U2:Y36 p2 f2)(U3:Y37 p3 f3)(a b:List ak)(ha:Sh a)(hb:Sh b):QK.F (p1,f1,p2,f2,p3,f3,()) (a,b,()) (λy=>y=((rJ a b).1,(rJ a b).2,())):=by
 dsimp only [QK,gm];simp (disch:=omega) only [RR,U1 a ha,U1 b hb,bD,iP];unfold rJ;refine⟨λh=> ?_,λ⟨h1,h2⟩=> ?_⟩
 .rw [if_neg];rw [Bool.and_eq_true,bD,bD];rintro⟨g1,g2⟩;rcases h with h | h
  .exact h g1
  .exact h g2
 rw [if_pos (by rw [eO h1,eO h2];rfl)];have l1:=h1.len;have l2:=h2.len;have hl:∀m∈a++b,F.aok m.atoms/\m.atoms.length<1000000000:=λm hm=>by
  rw [List.mem_append]at hm;rcases hm with hm | hm
  .exact⟨(h1.aok hm).2,ha.2 m hm⟩
  .exact⟨(h2.aok hm).2,hb.2 m hm⟩
 refine aG (λ(y:List ak×Int×List ak×Unit)=>y.2.2.1=b/\0<=y.2.1/\y.2.1<=b.length/\Nf y.1/\(∀k,cf y.1 k=cf (a++b.take y.2.1.toNat) k%65536)/\(y.1.length:Int)<=12+y.2.1) (λy=>(b.length-y.2.1).toNat)
  ⟨rfl,by simp,by simp,h1.nf,λk=>by have:=h1.nf.bnd k;simp only [Int.toNat_zero,List.take_zero,List.append_nil];omega,by simp only;omega⟩ ?_
 rintro⟨(o:List ak),(i:Int),(b':List ak),⟨⟩⟩ hI;dsimp only at hI ⊢;obtain⟨rfl,h3,h4,h5,h6,h7⟩:=hI;have so:Sh o:=aan h5 h6 (λm hm=>(hl m (by rw [List.mem_append]at hm ⊢;exact hm.imp id List.mem_of_mem_take)).2) ah;simp (disch:=omega) only [RR,U3 o so];refine⟨λh9=> ?_,λh9=> ?_⟩
 .have hm:=h2.nf.co _ (dN (d:=default) h3 h9);have pl:=(U2 o ((b').getD (i).toNat default) so.1 h5 hm (hb.at _)).2;refine⟨ah,ah,(U2 o ((b').getD (i).toNat default) so.1 h5 hm (hb.at _)).1,⟨ah,ah,pl.nf,λk=> ?_,by have:=pl.len;omega⟩,ah⟩;rw [pl.cf k,dU,h6 k,<-gT (d:=default) h3 h9 rfl,<-List.append_assoc,dU (a++_)];omega
 .have:=Li h5 (λk=>by rw [h6 k,List.take_of_length_le ah]) (λm hm=>(hl m hm).1);exact congrArg (λz:Bool×List ak=>(z.1,z.2,())) this
def agW{p1 f1 p0 f0 p2 f2 p3 f3}{p4:List Int×List Int×Unit->Bool}{f4:List Int×List Int×Unit->List Int×Unit}(U1:Y11 p1 f1)(U0:Y10 p0 f0)(U2:Y36 p2 f2)(U4:∀a b:List Int,a.length<100000000->b.length<100000000->a.Pairwise (· <= ·)->b.Pairwise (· <= ·)->p4 (a,b,())=true/\f4 (a,b,())=(nH (a++b),()))(U3:Y37 p3 f3)(a b:List ak)(ha:Sh a)(hb:Sh b):QO.F (p1,f1,p0,f0,p2,f2,p4,f4,p3,f3,()) (a,b,()) (λy=>y=((rM a b).1,(rM a b).2,())):=by
 have hp1:=λz1 z2=>(U1 z1 z2).1
 have hf1:=λz1 z2=>(U1 z1 z2).2
 have hp0:=λz1=>(U0 z1).1
 have hf0:=λz1=>(U0 z1).2
 have hp2:=λz1 z2 z3 z4 z5 z6=>(U2 z1 z2 z3 z4 z5 z6).1
 have hf2:=λz1 z2 z3 z4 z5 z6=>(U2 z1 z2 z3 z4 z5 z6).2
 have hp4:=λz1 z2 z3 z4 z5 z6=>(U4 z1 z2 z3 z4 z5 z6).1
 have hf4:=λz1 z2 z3 z4 z5 z6=>(U4 z1 z2 z3 z4 z5 z6).2
 have hp3:=λz1 z2=>(U3 z1 z2).1
 have hf3:=λz1 z2=>(U3 z1 z2).2
 dsimp only [QO,gm];simp (disch:=omega) only [RR,hp1 a ha,hf1 a ha,hp1 b hb,hf1 b hb,bD,iP];unfold rM;refine⟨λh=> ?_,λ⟨h1,h2⟩=> ?_⟩
 .rw [if_neg];rw [Bool.and_eq_true,bD,bD];rintro⟨g1,g2⟩;rcases h with h | h
  .exact h g1
  .exact h g2
 rw [if_pos (by rw [eO h1,eO h2];rfl)];have l1:=h1.len;have l2:=h2.len;have am:∀m∈a,∀n∈b,aok (mulM m n).atoms/\(mulM m n).atoms.length<=8:=λm hm n hn=>by
  obtain⟨g1,g2⟩:=h1.aok hm;obtain⟨g3,g4⟩:=h2.aok hn;refine⟨⟨?_,λk hk=> ?_⟩,?_⟩
  .have:=List.pairwise_mergeSort (le:=λx y:Int=>decide (x<=y)) (λa b c h1 h2=>by simp at*;omega) (λa b=>by simp;omega) (m.atoms++n.atoms);exact this.imp (λh=>by simpa using h)
  .have:k∈m.atoms++n.atoms:=List.mem_mergeSort.1 hk;rw [List.mem_append]at this;rcases this with hk | hk
   .exact g2.2 k hk
   .exact g4.2 k hk
  .show(nH _).length<=8;rw [Js,List.length_append];omega
 have pm:∀m∈prods a b,aok m.atoms/\m.atoms.length<=8:=λm hm=>by
  unfold prods at hm;rw [List.mem_flatMap]at hm;obtain⟨x,hx,hm⟩:=hm;rw [List.mem_map]at hm;obtain⟨y,hy,rfl⟩:=hm;exact am x hx y hy
 let J:List ak->Int->Int->Prop:=λo i k=>Nf o/\(∀t,cf o t=cf (prods (a.take i.toNat) b++(b.take k.toNat).map (mulM ((a).getD (i).toNat default))) t%65536)/\(o.length:Int)<=12*i+k
 refine aG (λ(y:Int×List ak×List ak×List ak×Unit)=>y.2.1=a/\y.2.2.1=b/\0<=y.1/\y.1<=a.length/\J y.2.2.2.1 y.1 0) (λy=>(a.length-y.1).toNat)
  ⟨rfl,rfl,by simp,by simp,⟨⟨List.Pairwise.nil,λm hm=>absurd hm (by simp)⟩,λk=>by simp [cf,prods],by simp⟩⟩ ?_
 rintro⟨(i:Int),(a':List ak),(b':List ak),(o:List ak),⟨⟩⟩ hI;dsimp only at hI ⊢;obtain⟨rfl,rfl,h3,h4,hJ⟩:=hI;have hJ1:=hJ.2.2;have so:Sh o:=aan (l:=prods (a'.take i.toNat) b') hJ.1 (λt=>by rw [hJ.2.1 t];simp) (λm hm=>by
  have:m∈prods a' b':=by
   unfold prods at hm ⊢;rw [List.mem_flatMap]at hm ⊢;obtain⟨x,hx,hm⟩:=hm;exact⟨x,List.mem_of_mem_take hx,hm⟩
  have:=(pm m this).2;omega) ah
 simp (disch:=omega) only [RR,hp3 o so,hf3 o so];refine⟨λh9=> ?_,λh9=> ?_⟩
 .refine aG (λ(y:Int×Int×List ak×List ak×List ak×Unit)=>y.1=i/\y.2.2.1=a'/\y.2.2.2.1=b'/\0<=y.2.1/\y.2.1<=b'.length/\J y.2.2.2.2.1 i y.2.1) (λy=>(b'.length-y.2.1).toNat) ⟨rfl,rfl,rfl,by simp,by simp,hJ⟩ ?_;rintro⟨(i':Int),(k:Int),(a2:List ak),(b2:List ak),(o2:List ak),⟨⟩⟩ hI;dsimp only at hI ⊢;obtain⟨rfl,rfl,rfl,g1,g2,hK⟩:=hI;have hK1:=hK.2.2;by_cases g3:k<b2.length
  .have ma:((a2).getD (i').toNat default)∈a2:=dN h3 h9;have mb:((b2).getD (k).toNat default)∈b2:=dN g1 g3;have ca:=h1.nf.co _ ma;have cb:=h2.nf.co _ mb;obtain⟨q1,q2⟩:=h1.aok ma;obtain⟨q3,q4⟩:=h2.aok mb;have hm:=Lf (show 0<=((a2).getD (i').toNat default).bL by omega) ah (show 0<=((b2).getD (k).toNat default).bL by omega) ah;have am':=(am _ ma _ mb).2;simp (disch:=omega) only [RR,hp0,hf0,hp4 _ _ (show((a2).getD (i').toNat default).atoms.length<100000000 by omega) (show((b2).getD (k).toNat default).atoms.length<100000000 by omega) q2.1 q4.1,hf4 _ _ (show((a2).getD (i').toNat default).atoms.length<100000000 by omega) (show((b2).getD (k).toNat default).atoms.length<100000000 by omega) q2.1 q4.1];have tk:prods (a2.take i'.toNat) b2++(b2.take (k+1).toNat).map (mulM ((a2).getD (i').toNat default))=prods (a2.take i'.toNat) b2++(b2.take k.toNat).map (mulM ((a2).getD (i').toNat default))++ [mulM ((a2).getD (i').toNat default) ((b2).getD (k).toNat default)]:=by
    rw [<-gT (d:=default) g1 g3 rfl,List.map_append,List.append_assoc];rfl
   refine⟨λ_=>⟨ah,ah,ah,ah,λg4=> ?_,λg4=>⟨⟨ah,ah,hK.1,λt=> ?_,ah⟩,ah⟩⟩,λh=>absurd g3 h⟩
   .have ajV:(⟨((a2).getD (i').toNat default).bL*((b2).getD (k).toNat default).bL%65536,nH (((a2).getD (i').toNat default).atoms++((b2).getD (k).toNat default).atoms)⟩:ak).atoms.length<1000000000:=by have:(nH (((a2).getD (i').toNat default).atoms++((b2).getD (k).toNat default).atoms)).length<=8:=am';dsimp only;omega
    have cc:1<=(⟨((a2).getD (i').toNat default).bL*((b2).getD (k).toNat default).bL%65536,nH (((a2).getD (i').toNat default).atoms++((b2).getD (k).toNat default).atoms)⟩:ak).bL/\(⟨((a2).getD (i').toNat default).bL*((b2).getD (k).toNat default).bL%65536,nH (((a2).getD (i').toNat default).atoms++((b2).getD (k).toNat default).atoms)⟩:ak).bL<=65535:=by dsimp only;omega
    have pl:=hf2 o2 _ ah hK.1 cc ajV;refine⟨ah,ah,ah,ah,hp2 o2 _ ah hK.1 cc ajV,⟨ah,ah,pl.nf,λt=> ?_,by have:=pl.len;omega⟩,ah⟩;rw [pl.cf t,dU,hK.2.1 t,tk,dU (prods _ _++_)];show(_+cf [mulM ((a2).getD (i').toNat default) ((b2).getD (k).toNat default)] t)%65536=_;omega
   .rw [tk,dU,hK.2.1 t];have:cf [mulM ((a2).getD (i').toNat default) ((b2).getD (k).toNat default)] t=0:=by
     rw [dL,mW];have:(mulM ((a2).getD (i').toNat default) ((b2).getD (k).toNat default)).bL=0:=by show((a2).getD (i').toNat default).bL*((b2).getD (k).toNat default).bL%65536=0;omega
     rw [this];split<;>rfl
    rw [this];omega
  .simp (disch:=omega) only [RR];refine⟨λh=>absurd h g3,λ_=>⟨⟨ah,ah,hK.1,λt=> ?_,ah⟩,ah⟩⟩;rw [hK.2.1 t,List.take_of_length_le (show b2.length<=k.toNat by omega),<-F5,gT (d:=default) h3 h9 rfl];simp
 .have:=Li hJ.1 (l:=prods a' b') (λt=>by rw [hJ.2.1 t,List.take_of_length_le (show a'.length<=i.toNat by omega)];simp) (λm hm=>(pm m hm).1);exact congrArg (λz:Bool×List ak=>(z.1,z.2,())) this
def F8{m:ak}(n:Int)(h:aok m.atoms):mulM m ⟨n,[]⟩=⟨m.bL*n%65536,m.atoms⟩:=by
 unfold mulM;rw [<-yU (a:=m.atoms++ []) (o:=m.atoms) h.1 (by simp)]
def Ch(a:List ak)(n:ak):prods a [n]=a.map (λm=>mulM m n):=by
 induction a with
 | nil=>rfl
 | cons x a ih=>simp only [prods,List.flatMap_cons,List.map_cons,List.map_nil]at ih ⊢;rw [ih];rfl
def NW{t:List Int}:∀ {l:List ak},(∀m∈l,m.bL=0)->cf l t=0
 | [],_=>rfl
 | m::l,h=>by rw [dL,NW (λm hm=>h m (by simp [hm])),h m (by simp)];split<;>rfl
def fT:aV []:=iX.2 ⟨⟨List.Pairwise.nil,λm hm=>absurd hm (by simp)⟩,by simp,λm hm=>absurd hm (by simp)⟩
def qV(n:Int):aV (gF n):=by
 unfold gF;split
 .refine iX.2 ⟨⟨List.pairwise_singleton _ _,λm hm=> ?_⟩,by simp,λm hm=> ?_⟩
  .rw [List.mem_singleton]at hm;subst hm;assumption
  .rw [List.mem_singleton]at hm;subst hm;exact⟨by simp,List.Pairwise.nil,λk hk=>absurd hk (by simp)⟩
 .exact fT
def qz(n:Int):aV (jN n):=by
 unfold jN;split
 .refine iX.2 ⟨⟨List.pairwise_singleton _ _,λm hm=> ?_⟩,by simp,λm hm=> ?_⟩
  .rw [List.mem_singleton]at hm;subst hm;dsimp only;omega
  .rw [List.mem_singleton]at hm;subst hm;exact⟨by simp,List.pairwise_singleton _ _,λk hk=>by rw [List.mem_singleton]at hk;omega⟩
 .exact fT
def agX{p1 f1 p0 f0 p4 f4 p3 f3}(U1:Y11 p1 f1)(U0:Y10 p0 f0)(U4:Y13 p4 f4)(U3:Y9 p3 f3)(a:List ak)(n:Int)(ha:Sh a):QM.F (p1,f1,p0,f0,p4,f4,p3,f3,()) (a,n,()) (λy=>y=(kW a n,())):=by
 dsimp only [QM,gm];simp (disch:=omega) only [RR,U1 a ha,U3,bD,iP,fC,qw];unfold kW;refine⟨λh=> ?_,λ⟨h1,h2⟩=> ?_⟩
 .rw [if_neg];rw [Bool.and_eq_true,bD,fC];rintro⟨g1,g2⟩;rcases h with h | h
  .exact h g1
  .exact h g2
 rw [if_pos (by rw [eO h1,Bool.true_and,fC];exact h2)];have l1:=h1.len;have hss:=h1.nf.ss
 refine aG (λ(y:Int×Int×List ak×List ak×Unit)=>y.1=n/\y.2.2.1=a/\0<=y.2.1/\y.2.1<=a.length/\Nf y.2.2.2.1/\(y.2.2.2.1.length:Int)<=y.2.1/\(∀t,cf y.2.2.2.1 t=cf ((a.take y.2.1.toNat).map (λm=>⟨m.bL*n%65536,m.atoms⟩)) t%65536)
   /\(∀x∈y.2.2.2.1,x.atoms.length<=4/\(y.2.1<a.length->lt x ((a).getD (y.2.1).toNat default)))) (λy=>(a.length-y.2.1).toNat)
  ⟨rfl,rfl,by simp,by simp,⟨List.Pairwise.nil,λm hm=>absurd hm (by simp)⟩,by simp,λt=>by simp [cf],λx hx=>absurd hx (by simp)⟩ ?_
 rintro⟨(n':Int),(i:Int),(a':List ak),(o:List ak),⟨⟩⟩ hI;dsimp only at hI ⊢;obtain⟨rfl,rfl,h3,h4,h5,h6,h7,h8⟩:=hI;have so:Sh o:=⟨ah,λm hm=>by have:=(h8 m hm).1;omega⟩;by_cases h9:i<a'.length
 .have ma:((a').getD (i).toNat default)∈a':=dN h3 h9;have ca:=h1.nf.co _ ma;have qa:=h1.aok ma;have hm:=Lf (show 0<=((a').getD (i).toNat default).bL by omega) ah h2.1 h2.2;have nx:i+1<a'.length->lt ((a').getD (i).toNat default) ((a').getD (i+1).toNat default):=λh=>by
   have:=(eF (d:=default) (R:=lt) gU).1 hss (i+1) ah h;rw [show i+1-1=i by omega]at this;exact this
  have tk:(a'.take (i+1).toNat).map (λm:ak=>(⟨m.bL*n'%65536,m.atoms⟩:ak))=(a'.take i.toNat).map (λm:ak=>(⟨m.bL*n'%65536,m.atoms⟩:ak))++ [⟨((a').getD (i).toNat default).bL*n'%65536,((a').getD (i).toNat default).atoms⟩]:=by
   rw [<-gT (d:=default) h3 h9 rfl,List.map_append];rfl
  simp (disch:=omega) only [RR,U0];refine⟨λ_=>⟨ah,ah,λg=>⟨ah,ah,by simp only [List.length_cons,List.length_nil];omega,⟨ah,ah,?_,?_,λt=> ?_,λx hx=> ?_⟩,ah⟩,λg=>⟨⟨ah,ah,h5,ah,λt=> ?_,λx hx=>⟨(h8 x hx).1,λg2=>gU ((h8 x hx).2 h9) (nx g2)⟩⟩,ah⟩⟩,λh=>absurd h9 h⟩
  .refine⟨?_,λx hx=> ?_⟩
   .rw [List.pairwise_append];exact⟨h5.ss,List.pairwise_singleton _ _,λx hx z hz=>by rw [List.mem_singleton]at hz;subst hz;exact(h8 x hx).2 h9⟩
   .rw [List.mem_append,List.mem_singleton]at hx;rcases hx with hx | rfl
    .exact h5.co x hx
    .dsimp only;omega
  .rw [List.length_append];simp only [List.length_cons,List.length_nil];omega
  .rw [tk,dU,dU,h7 t,dL,mW];dsimp only;by_cases et:((a').getD (i).toNat default).atoms=t
   .rw [if_pos et];have z:cf o t=0:=jO λx hx e=>((h8 x hx).2 h9).ne (e.trans et.symm)
    rw [h7 t]at z;omega
   .rw [if_neg et];omega
  .rw [List.mem_append,List.mem_singleton]at hx;rcases hx with hx | rfl
   .exact⟨(h8 x hx).1,λg2=>gU ((h8 x hx).2 h9) (nx g2)⟩
   .exact⟨qa.1,λg2=>nx g2⟩
  .rw [tk,dU,h7 t,dL,mW];dsimp only;have:((a').getD (i).toNat default).bL*n'%65536=0:=by omega
   rw [this];split<;>omega
 .simp (disch:=omega) only [RR,U4 o so];refine⟨λh=>absurd h h9,λ_=> ?_⟩;have eq:∀t,cf o t=cf (prods a' (gF n')) t%65536:=λt=>by
   rw [h7 t,List.take_of_length_le ah];unfold gF;by_cases hn:1<=n'/\n'<=65535
   .rw [if_pos hn,Ch]
    congr 2
    exact List.map_congr_left λm hm=>(F8 n' (h1.aok hm).2).symm
   .rw [if_neg hn];have hz:n'=0:=by omega
    have hz2:cf (a'.map (λm=>(⟨m.bL*n'%65536,m.atoms⟩:ak))) t=0:=NW λm hm=>by
     rw [List.mem_map]at hm;obtain⟨x,_,rfl⟩:=hm;dsimp only;rw [hz];simp
    rw [hz2,show prods a' []=[] by simp [prods]];rfl
  have fb:Lh o:=⟨ah,λm hm=>(h8 m hm).1⟩;have:=Li h5 eq (λm hm=>by
   unfold gF at hm;split at hm
   .rw [Ch,List.mem_map]at hm;obtain⟨x,hx,rfl⟩:=hm;rw [F8 n' (h1.aok hx).2];exact(h1.aok hx).2
   .rw [show prods a' []=[] by simp [prods]]at hm;exact absurd hm (by simp))
  unfold rM;rw [if_pos (by rw [eO h1,eO (qV n')];rfl),<-congrArg Prod.snd this];dsimp only;rw [eO fb];rfl
def aao(l:List ak):(Nf (nf l)/\∀k,cf (nf l) k=cf l k%65536)\/nf l=[]:=by
 by_cases he:∃o,Nf o/\∀k,cf o k=cf l k%65536
 .obtain⟨o,h1,h2⟩:=he;rw [Uk h1 h2];exact Or.inl ⟨h1,h2⟩
 .right;unfold nf;rw [dif_neg he]
def aap{l:List ak}{n:Int}(h:bH l n):bH (nf l) n:=by
 rcases aao l with⟨h1,h2⟩ | h1
 .refine dP.2 λm hm k hk=> ?_
  obtain⟨m',g1,g2⟩:=h1.from h2 hm;exact dP.1 h m' g1 k (g2▸hk)
 .rw [h1];exact dP.2 λm hm=>absurd hm (by simp)
def kM(n:Int):bH [] n:=dP.2 λm hm=>absurd hm (by simp)
def Ul(l:List ak):aV (uh l).2:=by
 unfold uh;by_cases h:aV (nf l)
 .rw [eO h];exact h
 .rw [bU h];exact fT
def F9{l:List ak}{n:Int}(h:bH l n):bH (uh l).2 n:=by
 unfold uh;dsimp only;split
 .exact aap h
 .exact kM n
def VP{a b:List ak}{n:Int}(h1:bH a n)(h2:bH b n):bH (a++b) n:=dP.2 λm hm k hk=>by
 rw [List.mem_append]at hm;rcases hm with hm | hm
 .exact dP.1 h1 m hm k hk
 .exact dP.1 h2 m hm k hk
def NY{a b:List ak}{n:Int}(h1:bH a n)(h2:bH b n):bH (prods a b) n:=dP.2 λm hm k hk=>by
 unfold prods at hm;rw [List.mem_flatMap]at hm;obtain⟨x,hx,hm⟩:=hm;rw [List.mem_map]at hm;obtain⟨y,hy,rfl⟩:=hm;have:k∈x.atoms++y.atoms:=List.mem_mergeSort.1 hk;rw [List.mem_append]at this;rcases this with hk | hk
 .exact dP.1 h1 x hx k hk
 .exact dP.1 h2 y hy k hk
def Um(a b:List ak):aV (rJ a b).2:=by unfold rJ;split;exact Ul _;exact fT
def ac2(a b:List ak):aV (rM a b).2:=by unfold rM;split;exact Ul _;exact fT
def Ga{a b:List ak}{n:Int}(h1:bH a n)(h2:bH b n):bH (rJ a b).2 n:=by unfold rJ;split;exact F9 (VP h1 h2);exact kM n
def Gb{a b:List ak}{n:Int}(h1:bH a n)(h2:bH b n):bH (rM a b).2 n:=by unfold rM;split;exact F9 (NY h1 h2);exact kM n
def wz(c n:Int):bH (gF c) n:=dP.2 λm hm k hk=>by
 unfold gF at hm;split at hm
 .rw [List.mem_singleton]at hm;subst hm;exact absurd hk (by simp)
 .exact absurd hm (by simp)
def uj{k n:Int}(h:k<n):bH (jN k) n:=dP.2 λm hm j hj=>by
 unfold jN at hm;split at hm
 .rw [List.mem_singleton]at hm;subst hm;rw [List.mem_singleton]at hj;omega
 .exact absurd hm (by simp)
def aR.sh{t:List Atom}(h:aR t):ShT t:=⟨by have:=h.2;omega,λa ha=>by
 obtain⟨i,hi,rfl⟩:=List.getElem_of_mem ha;have:=(h.1 i ah ah).1;rw [show(i:Int).toNat=i from rfl,getD_lt hi]at this;unfold kr at this;split at this
 .exact⟨this.2.1.sh,this.2.2.1.sh⟩
 .rw [ShA,this.1.1,this.1.2];exact⟨qx,qx⟩⟩
def D5{t:List Atom}{a:Atom}(h:aR t)(h2:t.length<200):aR (cu t a).1/\t.length<=(cu t a).1.length/\(cu t a).1.length<=t.length+1/\(kr a t.length->0<=(cu t a).2):=by
 have hsp:=qy t a;unfold cu;split
 .rename_i h3;exact⟨h,Nat.le_refl _,Nat.le_succ _,λ_=>h3⟩
 .rename_i h3;split
  .rename_i h4;exact⟨h,Nat.le_refl _,Nat.le_succ _,λh5=>by rcases h4 with h4 | h4;exact absurd h5 h4;omega⟩
  .rename_i h4;have h5:kr a t.length:=Classical.byContradiction λh5=>h4 (Or.inl h5)
   refine⟨wY.2 ⟨?_,by rw [List.length_append];simp only [List.length_cons,List.length_nil];omega⟩,by rw [List.length_append];exact Nat.le_add_right _ _,by rw [List.length_append];exact Nat.le_refl _,λ_=>by dsimp only;omega⟩;have hl:((t++ [a]).length:Int)=t.length+1:=by rw [List.length_append];rfl
   have g1:∀i:Int,0<=i->i<t.length->(t++ [a]).getD i.toNat default=t.getD i.toNat default:=λi i1 i2=>by
    rw [getD_lt (show i.toNat< (t++ [a]).length by omega),getD_lt (show i.toNat<t.length by omega),List.getElem_append_left]
   have g2:(t++ [a]).getD ((t.length:Int)).toNat default=a:=by
    rw [getD_lt (show((t.length:Int)).toNat< (t++ [a]).length by omega)];simp
   rw [hl];intro i i1 i2;dsimp only;by_cases i3:i<t.length
   .rw [g1 i i1 i3];have:=(wY.1 h).1 i i1 i3;exact⟨this.1,λj j1 j2=>by dsimp only;rw [g1 j j1 ah];exact this.2 j j1 j2⟩
   .have:i=t.length:=by omega
    subst this;rw [g2];refine⟨h5,λj j1 j2=> ?_⟩;dsimp only;rw [g1 j j1 j2];rcases hsp with⟨_,g⟩ | ⟨g,_⟩
    .exact g j j1 j2
    .exact absurd g h3
def agY(n:Int)(t:List Atom):Prop:=(t.length:Int)=n/\All n (λi=>((t).getD (i).toNat default)=⟨1,i,[],[]⟩)
def agZ{p2 f2}(U2:Y28 p2 f2):Rq.F (p2,f2,()) () (λy=>agY 4 y.1/\y.2.1.length=4/\∀p∈y.2.1,Sh p):=by
 dsimp only [Rq,gm];simp (disch:=omega) only [RR,U2];refine aG (λ(y:Int×List (List ak)×List Atom×Unit)=>0<=y.1/\y.1<=4/\(y.2.1.length:Int)=y.1/\(∀p∈y.2.1,Sh p)/\agY y.1 y.2.2.1) (λy=>(4-y.1).toNat) ⟨by simp,by simp,by simp,by simp,by simp,All.zero⟩ ?_;rintro⟨(i:Int),(q:List (List ak)),(t:List Atom),⟨⟩⟩ hI;dsimp only at hI ⊢;obtain⟨h1,h2,h3,h0,h4,h5⟩:=hI;simp (disch:=omega) only [RR,U2,List.length_cons,List.length_nil];refine⟨λh6=>⟨ah,ah,⟨ah,ah,by rw [List.length_append];simp only [List.length_cons,List.length_nil];omega,λp hp=>(List.mem_append.1 hp).elim (h0 p) (λg=>by rw [List.mem_singleton.1 g];exact(qz _).sh),by rw [List.length_append];simp only [List.length_cons,List.length_nil];omega,λj j1 j2=> ?_⟩,ah⟩,λh6=> ?_⟩
 .dsimp only;have hl:((t++ [(⟨1,i,[],[]⟩:Atom)]).length:Int)=t.length+1:=by rw [List.length_append];rfl
  by_cases c:j<i
  .have:=h5 j j1 c;dsimp only at this;rw [getD_lt (show j.toNat<t.length by omega)]at this;rw [getD_lt (show j.toNat< (t++ [(⟨1,i,[],[]⟩:Atom)]).length by omega),List.getElem_append_left (show j.toNat<t.length by omega)];exact this
  .have:j=i:=by omega
   subst this;rw [getD_lt (show j.toNat< (t++ [(⟨1,j,[],[]⟩:Atom)]).length by omega),List.getElem_append_right ah];simp
 .rw [show i=4 by omega]at h4 h5;exact⟨⟨h4,h5⟩,ah,h0⟩
abbrev Y44(pp:Unit->Bool)(ff:Unit->List Atom×List (List ak)×Unit):Prop:=pp ()=true/\(agY 4 (ff ()).1/\(ff ()).2.1.length=4/\∀p∈(ff ()).2.1,Sh p)
def Un{l o:List ak}(h:aV o)(h2:∀k,cf o k=cf l k%65536):uh l=(true,o):=by
 unfold uh;rw [Uk h.nf h2,eO h,if_pos rfl]
def RN{x:List ak}(h:aV x):aV (kW x 65535)/\∀k,cf (kW x 65535) k=(65535*cf x k)%65536:=by
 have hc:∀(l:List ak) k,cf (l.map λm=>(⟨m.bL*65535%65536,m.atoms⟩:ak)) k%65536=(65535*cf l k)%65536:=λl k=>by
  induction l with
  | nil=>rfl
  | cons m l ih=>rw [List.map_cons,dL,dL];dsimp only;split<;>omega
 have no:Nf (x.map λm=>(⟨m.bL*65535%65536,m.atoms⟩:ak)):=⟨by
  rw [List.pairwise_map];exact h.nf.ss,λm hm=>by
  rw [List.mem_map]at hm;obtain⟨n,hn,rfl⟩:=hm;have:=h.nf.co n hn;dsimp only;omega⟩
 have ok:aV (x.map λm=>(⟨m.bL*65535%65536,m.atoms⟩:ak)):=iX.2 ⟨no,by rw [List.length_map];exact h.len,λm hm=>by
  rw [List.mem_map]at hm;obtain⟨n,hn,rfl⟩:=hm;exact show n.atoms.length<=4/\aok n.atoms from h.aok hn⟩
 have pe:prods x (gF 65535)=x.map λm=>(⟨m.bL*65535%65536,m.atoms⟩:ak):=by
  unfold gF;rw [if_pos ah,Ch];exact List.map_congr_left λm hm=>F8 65535 (h.aok hm).2
 have e:kW x 65535=x.map λm=>(⟨m.bL*65535%65536,m.atoms⟩:ak):=by
  unfold kW rM;rw [if_pos (by rw [eO h];rfl),if_pos (by rw [eO h,eO (qV _)];rfl),pe,Un ok (λk=>by have:=no.bnd k;omega)]
 rw [e];exact⟨ok,λk=>by rw [<-hc];have:=no.bnd k;omega⟩
def sub_self{x:List ak}(h:aV x):kS 2 x x=([],true):=by
 obtain⟨h1,h2⟩:=RN h;unfold kS rJ;rw [if_neg ah,if_pos rfl,if_pos (by rw [eO h,eO h1];rfl),Un fT (λk=>by rw [dU,h2,mW];omega)]
def um{x:List ak}(h:(bI x).2=true):aV x/\x=gF (bI x).1/\0<=(bI x).1/\(bI x).1<=65535:=by
 unfold bI at h ⊢;by_cases c:aV x
 .rw [eO c,if_pos rfl]at h ⊢;refine⟨c,?_⟩;by_cases c1:x.length=0
  .rw [if_pos c1];exact⟨by rw [List.eq_nil_of_length_eq_zero c1];rfl,ah,ah⟩
  .rw [if_neg c1]at h ⊢;by_cases c2:x.length=1/\(x.getD 0 default).atoms.length=0
   .rw [if_pos c2]
    match x,c,c2 with
    | [m],c,c2=>
     have hc:=c.nf.co m (by simp);have ha:m.atoms=[]:=List.eq_nil_of_length_eq_zero c2.2;refine⟨?_,by show 0<=m.bL;omega,by show m.bL<=65535;omega⟩;show [m]=gF m.bL;unfold gF;rw [if_pos hc,<-ha]
   .rw [if_neg c2]at h;exact absurd h (by simp)
 .rw [bU c]at h;exact absurd h (by simp)
abbrev Y48(pp:List Atom×List Atom×Unit->Bool)(ff:List Atom×List Atom×Unit->Bool×Unit):Prop:=∀a b,ShT a->pp (a,b,())=true/\ff (a,b,())=(bp (a=b),())
def Uo{d:List Int}{i j x:Int}(h1:0<=i)(h2:i<d.length)(h3:0<=j):((d.set i.toNat x).getD (j).toNat default)=if j=i then x else((d).getD (j).toNat default):=by
 simp only [List.getD];by_cases h:j=i
 .subst h;rw [if_pos rfl,List.getElem?_set_self ah];rfl
 .rw [if_neg h,List.getElem?_set_ne ah]
def VQ{d:List Int}{i j:Int}(h1:0<=i)(h2:i<d.length)(h3:0<=j)(h4:j<d.length)(h5:i≠j):((d.set i.toNat ((d).getD (j).toNat default)).set j.toNat ((d).getD (i).toNat default)).Perm d:=by
 rw [List.perm_iff_count];intro x;rw [getD_lt (show i.toNat<d.length by omega),getD_lt (show j.toNat<d.length by omega),List.count_set (by simp;omega),List.count_set ah,List.getElem_set_ne ah];have h6:(if d[i.toNat]==x then 1 else 0)<=List.count x d:=by
  split
  .rename_i h;exact List.count_pos_iff.2 (by rw [<-eq_of_beq h];exact List.getElem_mem _)
  .omega
 split<;>split<;>simp_all<;>omega
def ag0{p f}(U:Y5 p f)(a b:Int)(d:List Int)(hd:d.length<1000000000)(h1:a=0)(h2:b=d.length):
  Ri.F (p,f,()) (a,b,d,()) (λy=>y.1=nH d):=by
 subst h1;dsimp only [Ri,gm];simp (disch:=omega) only [RR];have fin:∀e:List Int,e.Perm d->(∀q:Int,1<=q->q<e.length->((e).getD (q-1).toNat default)<=((e).getD (q).toNat default))->e=nH d:=λe g1 g2=>
  yU ((eF (d:=default) (R:=λa b:Int=>a<=b) (λh1 h2=>Int.le_trans h1 h2)).2 g2) g1
 refine aG (λ(y:Int×Int×Int×List Int×Unit)=>y.1=0/\y.2.1=b/\1<=y.2.2.1/\(y.2.2.1<=b\/y.2.2.1=1)/\y.2.2.2.1.Perm d/\∀q,1<=q->q<y.2.2.1->((y.2.2.2.1).getD (q-1).toNat default)<=((y.2.2.2.1).getD (q).toNat default)) (λy=>(b-y.2.2.1).toNat)
  ⟨rfl,rfl,by simp,Or.inr rfl,List.Perm.refl d,λq g1 g2=>by dsimp only at g2;omega⟩ ?_
 rintro⟨(a':Int),(b':Int),(i:Int),(e:List Int),⟨⟩⟩ hI;dsimp only at hI ⊢;obtain⟨rfl,rfl,h4,h5,h6,h7⟩:=hI;have hle:=h6.length_eq;simp (disch:=omega) only [RR];refine⟨λh9=> ?_,λh9=>fin e h6 λq g1 g2=>h7 q g1 ah⟩
 refine aG (λ(y:Int×Int×Int×Int×List Int×Unit)=>y.1=0/\y.2.1=b'/\y.2.2.1=i/\0<=y.2.2.2.1/\y.2.2.2.1<=i/\y.2.2.2.2.1.Perm d
   /\(∀q,1<=q->q<=i->q≠y.2.2.2.1->((y.2.2.2.2.1).getD (q-1).toNat default)<=((y.2.2.2.2.1).getD (q).toNat default))/\(1<=y.2.2.2.1->y.2.2.2.1+1<=i->((y.2.2.2.2.1).getD (y.2.2.2.1-1).toNat default)<=((y.2.2.2.2.1).getD (y.2.2.2.1+1).toNat default))) (λy=>y.2.2.2.1.toNat)
  ⟨rfl,rfl,rfl,by simp;omega,by simp,h6,λq g1 g2 g3=>h7 q g1 (by dsimp only at g3;omega),λg1 g2=>by dsimp only at g2;omega⟩ ?_
 rintro⟨(a'':Int),(b'':Int),(i':Int),(j:Int),(e':List Int),⟨⟩⟩ hI;dsimp only at hI ⊢;obtain⟨rfl,rfl,rfl,h10,h11,h12,h13,h14⟩:=hI;have hle':=h12.length_eq;simp (disch:=omega) only [RR,List.length_set,U]
 repeat' (refine And.intro ?_ ?_)
 all_goals try omega
 .intro ⟨g1,g2⟩;have at2:∀k,0<=k->(((e'.set j.toNat ((e').getD (j-1).toNat default)).set (j-1).toNat ((e').getD (j).toNat default)).getD (k).toNat default)=if k=j-1 then((e').getD (j).toNat default)else if k=j then((e').getD (j-1).toNat default)else((e').getD (k).toNat default):=λk hk=>by
   rw [Uo ah (by simp;omega) hk,Uo ah ah hk]
  repeat' (refine And.intro ?_ ?_)
  all_goals try omega
  .exact(VQ ah ah ah ah ah).trans h12
  .intro q k1 k2 k3;rw [at2 _ ah,at2 _ ah];by_cases c1:q=j
   .subst c1;rw [if_pos rfl,if_neg ah,if_pos rfl];omega
   .rw [if_neg ah];by_cases c2:q=j+1
    .subst c2;rw [if_pos ah,if_neg ah,if_neg ah];exact h14 ah ah
    .rw [if_neg ah,if_neg ah,if_neg ah];exact h13 q k1 k2 c1
  .intro k1 k2;rw [at2 _ ah,at2 _ ah,if_neg ah,if_neg ah,if_neg ah,if_pos ah];have:=h13 (j-1) ah ah ah;exact this
 .intro g;refine⟨⟨ah,ah,h12,λq k1 k2=> ?_⟩,ah⟩;by_cases c:q=j
  .subst c;rw [Bool.and_eq_false_iff,decide_eq_false_iff_not,decide_eq_false_iff_not]at g;omega
  .exact h13 q k1 ah c
def ag1{p1:Int×Int×List Int×Unit->Bool}{f1:Int×Int×List Int×Unit->List Int×Unit}{p:Int×Int×Unit->Bool}{f:Int×Int×Unit->Bool×Unit}(U1:∀(a b:Int) (d:List Int),d.length<1000000000->a=0->b=d.length->p1 (a,b,d,())=true/\(f1 (a,b,d,())).1=nH d)(p2 p3 f2 f3 p4 f4 p5 f5 p6 f6 p7 f7 p8 f8 p9 f9)(a b k:Int)(d:List Int)(hd:d.length<=12)(h1:a=0)(h2:b=d.length):
  Rj.F (p,f,p1,f1,p2,f2,p3,f3,p4,f4,p5,f5,p6,f6,p7,f7,p8,f8,p9,f9,()) (a,b,k,d,()) (λy=>y.1=nH d):=by
 subst h1;dsimp only [Rj,gm];simp (disch:=omega) only [RR];refine aG (λ(y:Int×Int×Int×Bool×Bool×List Int×Unit)=>y.1=0/\y.2.1=b/\y.2.2.2.2.2.1=d) (λy=>0) ⟨rfl,rfl,rfl⟩ ?_;rintro⟨(a':Int),(b':Int),(k':Int),(u:Bool),(v:Bool),(e:List Int),⟨⟩⟩ hI;dsimp only at hI ⊢;obtain⟨rfl,rfl,rfl⟩:=hI;simp (disch:=omega) only [RR];exact⟨λ_=>⟨(U1 0 b' e ah rfl h2).1,(U1 0 b' e ah rfl h2).2⟩,λh=>absurd h ah⟩
def ag2{p1:Int×Int×Int×List Int×Unit->Bool}{f1:Int×Int×Int×List Int×Unit->List Int×Unit}{p2:Int×Unit->Bool}{f2:Int×Unit->Int×Unit}(U1:∀(a b k:Int) (d:List Int),d.length<=12->a=0->b=d.length->p1 (a,b,k,d,())=true/\(f1 (a,b,k,d,())).1=nH d)(U2:∀n,0<=n->n<=18446744073709551615->p2 (n,())=true)(a:List Int)(ha:a.length<=8):
  Rk.F (p1,f1,p2,f2,()) (a,()) (λy=>y=(nH a,())):=by
 dsimp only [Rk,gm];have e:IntKind.u64.wrap (a.length:Int)=(a.length:Int):=IntWalk.u64_in _ ah;refine⟨?_,(U1 _ _ _ _ ah rfl rfl).1,by rw [(U1 _ _ _ _ ah rfl rfl).2]⟩;rw [e];exact U2 _ ah ah
def ac3(v:List Int)(k:Int):Int:=if k<v.length then((v).getD (k).toNat default)else 0
def evM(v:List Int)(c:Int)(l:List Int):Int:=l.foldl (λc k=>c*ac3 v k%65536) c
def evF(v:List Int)(p:List ak):Int:=p.foldl (λs m=>(s+evM v m.bL m.atoms)%65536) 0
def aVal(regs loads ins out:List Int)(a:Atom):Int:=
 if a.kind=1 then ac3 regs a.k else if a.kind=2 then ac3 loads a.k else if a.kind=3 then ac3 ins a.k else wdo a.k (evF out a.x) (evF out a.y)
def tv(regs loads ins:List Int)(t:List Atom):List Int:=t.foldl (λo a=>o++ [aVal regs loads ins o a]) []
def ins(c:Int)(at_:List Int):List ak->List ak
 | []=>if c%65536=0 then []else [⟨c%65536,at_⟩]
 | m::o=>if gG at_ m.atoms<0 then(if c%65536=0 then m::o else⟨c%65536,at_⟩::m::o)
  else if at_=m.atoms then(if(c+m.bL)%65536=0 then o else⟨(c+m.bL)%65536,at_⟩::o)else m::ins c at_ o
def aaq{op:Int}(hop:1<=op/\op<=5){x y:List ak}(hx:aV x)(hy:aV y):aV (kS op x y).1:=by
 unfold kS;split
 .exact Um _ _
 .split
  .exact Um _ _
  .split
   .exact ac2 _ _
   .unfold F6
    repeat' split
    all_goals first | exact qV _ | exact fT | assumption
abbrev hX(o:IOp):Prop:=o.kind≠1/\o.kind≠2/\o.kind≠6
abbrev hY(o:IOp):Prop:=o.kind=3\/o.kind=5
abbrev mkV(o:IOp):Prop:=(1<=o.kind/\o.kind<=4)\/o.kind=6
abbrev evO(o:IOp):Prop:=4<=o.kind/\o.kind<=7
def Vl(ops:List IOp)(x n:Int):Prop:=0<=x/\x<n/\mkV ((ops).getD (x).toNat default)
structure Lj(ops:List IOp)(len i:Int)(o:IOp):Prop where
 kd:1<=o.kind/\o.kind<=8
 x1:hX o->Vl ops o.x i
 x0:¬hX o->o.x=0
 y1:hY o->Vl ops o.y i
 y0:¬hY o->o.y=0
 k1:o.kind=1->0<=o.k/\o.k<=65535
 k2:o.kind=2\/o.kind=8->0<=o.k/\o.k<=3
 k3:o.kind=3->1<=o.k/\o.k<=5
 k0:4<=o.kind->o.kind<=7->o.k=0
 a1:evO o->0<=o.at_/\o.at_<len
 a0:¬evO o->o.at_=0
structure Am(b:Blk):Prop where
 f:1<=b.fin/\b.fin<=4
 x1:b.fin≠1->Vl b.ops b.x b.ops.length
 x0:b.fin=1->b.x=0
 y1:3<=b.fin->Vl b.ops b.y b.ops.length
 y0:b.fin<=2->b.y=0
 k1:b.fin≠2->0<=b.k/\b.k<=65535
 k0:b.fin=2->b.k=0
structure qI(b:Blk):Prop where
 ln:1<=b.len/\b.len<=8
 pc:0<=b.pc/\b.pc<=64-b.len
 sz:b.ops.length<=48
 op:∀i:Int,0<=i->i<b.ops.length->Lj b.ops b.len i ((b.ops).getD (i).toNat default)
 en:Am b
structure SS where
 t:List Atom
 regs:List (List ak)
 vals:List (List ak)
 ld:Int
 inn:Int
 evs:List Ev
def xOf(s:SS)(o:IOp):List ak:=if hX o then((s.vals).getD (o.x).toNat default)else []
def yOf(s:SS)(o:IOp):List ak:=if hY o then((s.vals).getD (o.y).toNat default)else []
def aOf(s:SS)(o:IOp):Atom:=if o.kind=4 then⟨2,s.ld,[],[]⟩else⟨3,s.inn,[],[]⟩
noncomputable def nT (s:SS) (o:IOp):List Atom:=if o.kind=3 then(tDo s.t o.k (xOf s o) (yOf s o)).1 else if o.kind=4\/o.kind=6 then(cu s.t (aOf s o)).1 else s.t
noncomputable def nV (s:SS) (o:IOp):List ak:=if o.kind=1 then gF o.k else if o.kind=2 then((s.regs).getD (o.k).toNat default)else if o.kind=3 then(tDo s.t o.k (xOf s o) (yOf s o)).2 else if o.kind=4\/o.kind=6 then jN (cu s.t (aOf s o)).2 else []
def nR(s:SS)(o:IOp):List (List ak):=if o.kind=8 then s.regs.set o.k.toNat (xOf s o)else s.regs
def nE(s:SS)(o:IOp):List Ev:=if evO o then s.evs++ [⟨o.kind,o.at_,xOf s o,yOf s o,if o.kind=4\/o.kind=5 then s.regs else []⟩]else s.evs
noncomputable def stp (s:SS) (o:IOp):SS:=⟨nT s o,nR s o,s.vals++ [nV s o],if o.kind=4 then s.ld+1 else s.ld,if o.kind=6 then s.inn+1 else s.inn,nE s o⟩
noncomputable def rN (t:List Atom):Nat->List Atom×List (List ak)
 | 0=>(t,[])
 | n+1=>((cu (rN t n).1 ⟨1,n,[],[]⟩).1,(rN t n).2++ [jN (cu (rN t n).1 ⟨1,n,[],[]⟩).2])
noncomputable def s0 (t:List Atom):SS:=⟨(rN t 4).1,(rN t 4).2,[],0,0,[]⟩
noncomputable def gZ (t:List Atom) (b:Blk):SS:=b.ops.foldl stp (s0 t)
def qJ(b:Blk)(s:SS):Sym:=⟨s.evs,s.regs,b.fin,if b.fin=1 then []else((s.vals).getD (b.x).toNat default),if 3<=b.fin then((s.vals).getD (b.y).toNat default)else [],b.k⟩
def Ll:Sym:=⟨[],[],0,[],[],0⟩
noncomputable def symEnd (s:Sym) (behind:Int):Sym:=
 if bp (aV s.x/\aV s.y)=false then Ll
 else if s.fin=2/\(bI s.x).2=true then⟨s.events,s.regs,1,[],[],(bI s.x).1⟩
 else if s.fin≠3/\s.fin≠4 then s
 else if s.x=s.y\/(bI s.x).2=true/\(bI s.y).2=true then
  ⟨s.events,s.regs,1,[],[],if s.x=s.y/\s.fin=3\/((bI s.x).2=true/\(bI s.y).2=true)/\(s.fin=3/\(bI s.x).1=(bI s.y).1\/s.fin=4/\(bI s.x).1< (bI s.y).1)then s.k else behind⟩
 else if s.fin=3/\0<iD s.x s.y then⟨s.events,s.regs,s.fin,s.y,s.x,s.k⟩else s
noncomputable def dI (t:List Atom) (b:Blk):List Atom×Sym:=if bp (aR t/\t.length<=100/\qI b)=true then((gZ t b).t,symEnd (qJ b (gZ t b)) (b.pc+b.len))else([],Ll)
def Ao(t:List Atom)(a:Atom):t<+:(cu t a).1:=by
 unfold cu;split
 .exact List.prefix_refl _
 .split
  .exact List.prefix_refl _
  .exact List.prefix_append _ _
def Lm{α:Type}{a b:List α}(h:a<+:b):a.length<=b.length:=h.length_le
def Ap{t:List Atom}{a:Atom}(h:0<=(cu t a).2):(cu t a).2< (cu t a).1.length/\(((cu t a).1).getD ((cu t a).2).toNat default)=a:=by
 have hsp:=qy t a
 revert h
 unfold cu;split
 .intro h;rcases hsp with⟨h1,_⟩ | ⟨_,h2,h3,_⟩
  .exact absurd h (by dsimp only;omega)
  .exact⟨h2,h3.symm⟩
 .split
  .intro h;exact absurd h (by dsimp only;omega)
  .intro _;dsimp only;refine⟨by rw [List.length_append];simp only [List.length_cons,List.length_nil];omega,?_⟩;rw [getD_lt (by rw [List.length_append];simp only [List.length_cons,List.length_nil];omega)];simp
def NZ{op n:Int}{x y:List ak}(ux:bH x n)(uy:bH y n):bH (kS op x y).1 n:=by
 unfold kS;split
 .exact Ga ux uy
 .split
  .refine Ga ux ?_;unfold kW;split
   .exact Gb uy (wz _ _)
   .exact kM _
  .split
   .exact Gb ux uy
   .unfold F6
    repeat' split
    all_goals first | exact ux | exact uy | exact kM _ | exact wz _ _
structure ag3(t:List Atom)(op:Int)(x y:List ak):Prop where
 tok:aR (tDo t op x y).1
 pre:t<+:(tDo t op x y).1
 len:(tDo t op x y).1.length<=t.length+1
 pok:aV (tDo t op x y).2
 und:bH (tDo t op x y).2 (tDo t op x y).1.length
 ok:tOk t op x y=true
def ac4{t:List Atom}{op:Int}{x y:List ak}(h:aR t)(h2:t.length<200)(h3:1<=op/\op<=5)(hx:aV x)(hy:aV y)(ux:bH x t.length)(uy:bH y t.length):ag3 t op x y:=by
 by_cases c:(kS op x y).2=true
 .have e:tDo t op x y=(t,(kS op x y).1):=by unfold tDo;rw [if_pos c]
  refine⟨?_,?_,?_,?_,?_,by unfold tOk;rw [c];rfl⟩<;>rw [e]
  .exact h
  .exact List.prefix_refl _
  .exact Nat.le_succ _
  .exact aaq h3 hx hy
  .exact NZ ux uy
 .have key:∀x' y',aV x'->aV y'->bH x' t.length->bH y' t.length->0<=(cu t ⟨4,op,x',y'⟩).2/\aR (cu t ⟨4,op,x',y'⟩).1/\(cu t ⟨4,op,x',y'⟩).1.length<=t.length+1:=λx' y' a1 a2 a3 a4=>by
   have p1:=D5 (a:=⟨4,op,x',y'⟩) h h2;have q1:=p1.2.2.2 (by unfold kr;rw [if_pos rfl];exact⟨h3,a1,a2,a3,a4⟩);exact⟨q1,p1.1,p1.2.2.1⟩
  by_cases c2:op≠2/\0<iD x y
  .obtain⟨k1,k2,k3⟩:=key y x hy hx uy ux;have e:tDo t op x y=((cu t ⟨4,op,y,x⟩).1,jN (cu t ⟨4,op,y,x⟩).2):=by unfold tDo;rw [if_neg c,if_pos c2,if_neg ah]
   refine⟨?_,?_,?_,?_,?_,by unfold tOk;rw [if_pos c2,decide_eq_false ah,Bool.not_false,Bool.or_true]⟩<;>rw [e]
   .exact k2
   .exact Ao _ _
   .exact k3
   .exact qz _
   .exact uj (Ap k1).1
  .obtain⟨k1,k2,k3⟩:=key x y hx hy ux uy;have e:tDo t op x y=((cu t ⟨4,op,x,y⟩).1,jN (cu t ⟨4,op,x,y⟩).2):=by unfold tDo;rw [if_neg c,if_neg c2,if_neg ah]
   refine⟨?_,?_,?_,?_,?_,by unfold tOk;rw [if_neg c2,decide_eq_false ah,Bool.not_false,Bool.or_true]⟩<;>rw [e]
   .exact k2
   .exact Ao _ _
   .exact k3
   .exact qz _
   .exact uj (Ap k1).1
structure SI(n:Int)(i:Nat)(s:SS):Prop where
 tok:aR s.t
 tl:(s.t.length:Int)<=n+i
 r4:s.regs.length=4
 rok:∀p∈s.regs,aV p/\bH p s.t.length
 vl:s.vals.length=i
 vok:∀p∈s.vals,aV p/\bH p s.t.length
 ld:0<=s.ld/\s.ld<=i
 inn:0<=s.inn/\s.inn<=i
def Ci{l:List (List ak)}{n:Int}(h:∀p∈l,aV p/\bH p n)(i:Int):aV ((l).getD (i).toNat default)/\bH ((l).getD (i).toNat default) n:=by
 by_cases c:i.toNat<l.length
 .rw [getD_lt c];exact h _ (List.getElem_mem _)
 .rw [List.getD_eq_getElem?_getD,List.getElem?_eq_none ah];exact⟨fT,kM _⟩
def SI.x{n:Int}{i:Nat}{s:SS}(h:SI n i s)(o:IOp):aV (xOf s o)/\bH (xOf s o) s.t.length:=by
 unfold xOf;split
 .exact Ci h.vok _
 .exact⟨fT,kM _⟩
def SI.y{n:Int}{i:Nat}{s:SS}(h:SI n i s)(o:IOp):aV (yOf s o)/\bH (yOf s o) s.t.length:=by
 unfold yOf;split
 .exact Ci h.vok _
 .exact⟨fT,kM _⟩
def ac5{n:Int}{i:Nat}{s:SS}(h:SI n i s)(hi:i<200)(o:IOp)(m:Int):kr (aOf s o) m:=by
 have h1:=h.ld;have h2:=h.inn;unfold aOf;split
 .unfold kr;rw [if_neg (by simp)];exact⟨⟨rfl,rfl⟩,Or.inr ⟨Or.inl rfl,by dsimp only;omega,by dsimp only;omega⟩⟩
 .unfold kr;rw [if_neg (by simp)];exact⟨⟨rfl,rfl⟩,Or.inr ⟨Or.inr rfl,by dsimp only;omega,by dsimp only;omega⟩⟩
structure SOK(s:SS)(o:IOp):Prop where
 pre:s.t<+:(stp s o).t
 d:o.kind=3->ag3 s.t o.k (xOf s o) (yOf s o)
 p:o.kind=4\/o.kind=6->0<=(cu s.t (aOf s o)).2
def Gc{n:Int}{i:Nat}{s:SS}{o:IOp}(h:SI n i s)(hk:o.kind=3->1<=o.k/\o.k<=5)(hn:n+i<200)(hi:i<200):SI n (i+1) (stp s o)/\SOK s o:=by
 have hl:=h.tl;have tl:s.t.length<200:=by omega
 have hd:o.kind=3->ag3 s.t o.k (xOf s o) (yOf s o):=λe=>ac4 h.tok tl (hk e) (h.x o).1 (h.y o).1 (h.x o).2 (h.y o).2
 have hput:=D5 (a:=aOf s o) h.tok tl;have hp:=hput.2.2.2 (ac5 h hi o _);have T:aR (nT s o)/\(nT s o).length<=s.t.length+1/\s.t<+:nT s o:=by
  unfold nT;split
  .rename_i e;have:=hd e;exact⟨this.tok,this.len,this.pre⟩
  .split
   .exact⟨hput.1,hput.2.2.1,Ao _ _⟩
   .exact⟨h.tok,Nat.le_succ _,List.prefix_refl _⟩
 have up:∀ {p:List ak},aV p/\bH p s.t.length->aV p/\bH p (nT s o).length:=λhp=>⟨hp.1,wZ hp.2 (by have:=Lm T.2.2;omega)⟩
 have V:aV (nV s o)/\bH (nV s o) (nT s o).length:=by
  unfold nV;split
  .exact⟨qV _,wz _ _⟩
  .split
   .exact up (Ci h.rok _)
   .split
    .rename_i e;have:=hd e;refine⟨this.pok,?_⟩;have e2:nT s o=(tDo s.t o.k (xOf s o) (yOf s o)).1:=by unfold nT;rw [if_pos e]
     rw [e2];exact this.und
    .split
     .rename_i e1 e2;have e3:nT s o=(cu s.t (aOf s o)).1:=by unfold nT;rw [if_neg ah,if_pos e2]
      rw [e3];exact⟨qz _,uj (Ap hp).1⟩
     .exact⟨fT,kM _⟩
 have g1:=h.ld;have g2:=h.inn;refine⟨⟨T.1,?_,?_,?_,?_,?_,?_,?_⟩,⟨T.2.2,hd,λ_=>hp⟩⟩
 .have:=T.2.1;show((nT s o).length:Int)<=_;omega
 .show(nR s o).length=4;unfold nR;split
  .rw [List.length_set];exact h.r4
  .exact h.r4
 .show∀p∈nR s o,_;intro p hp;unfold nR at hp;split at hp
  .rcases List.mem_or_eq_of_mem_set hp with hp | rfl
   .exact up (h.rok p hp)
   .exact up (h.x o)
  .exact up (h.rok p hp)
 .show(s.vals++ [nV s o]).length=i+1;rw [List.length_append,h.vl];rfl
 .show∀p∈s.vals++ [nV s o],_;intro p hp;rw [List.mem_append,List.mem_singleton]at hp;rcases hp with hp | rfl
  .exact up (h.vok p hp)
  .exact V
 .show 0<=(if o.kind=4 then s.ld+1 else s.ld)/\(if o.kind=4 then s.ld+1 else s.ld)<=_;split<;>omega
 .show 0<=(if o.kind=6 then s.inn+1 else s.inn)/\(if o.kind=6 then s.inn+1 else s.inn)<=_;split<;>omega
def yV{n:Int}:∀(ops:List IOp) (i:Nat) (s:SS),SI n i s->(∀o∈ops,o.kind=3->1<=o.k/\o.k<=5)->n+i+ops.length<=200->i+ops.length<=200->SI n (i+ops.length) (ops.foldl stp s)/\s.t<+:(ops.foldl stp s).t
 | [],i,s,h,_,_,_=>⟨h,List.prefix_refl _⟩
 | o::r,i,s,h,hk,h1,h2=>by
  rw [List.length_cons]at h1 h2;obtain⟨a1,a2⟩:=Gc h (hk o List.mem_cons_self) ah ah;obtain⟨b1,b2⟩:=yV r (i+1) (stp s o) a1 (λo ho=>hk o (List.mem_cons_of_mem _ ho)) ah ah;rw [List.foldl_cons,List.length_cons,show i+(r.length+1)=i+1+r.length by omega];exact⟨b1,a2.pre.trans b2⟩
structure RI(t:List Atom)(n:Nat)(r:List Atom×List (List ak)):Prop where
 tok:aR r.1
 tl:r.1.length<=t.length+n
 pre:t<+:r.1
 r4:r.2.length=n
 rok:∀p∈r.2,aV p/\bH p r.1.length
def Jy{t:List Atom}(h:aR t)(hl:t.length<=196):∀n:Nat,n<=4->RI t n (rN t n)
 | 0,_=>⟨h,Nat.le_refl _,List.prefix_refl _,rfl,λp hp=>absurd hp (by simp [rN])⟩
 | n+1,hn=>by
  have ih:=Jy h hl n ah;have l:=ih.tl;have hp:=D5 (a:=⟨1,n,[],[]⟩) ih.tok ah;have h0:=hp.2.2.2 (by unfold kr;rw [if_neg (by simp)];exact⟨⟨rfl,rfl⟩,Or.inl ⟨rfl,by dsimp only;omega,by dsimp only;omega⟩⟩);have pr:=Ao (rN t n).1 ⟨1,n,[],[]⟩;unfold rN;refine⟨hp.1,?_,ih.pre.trans pr,?_,λp h=> ?_⟩
  .have:=hp.2.2.1;dsimp only;omega
  .dsimp only;rw [List.length_append,ih.r4];rfl
  .dsimp only at h ⊢;rw [List.mem_append,List.mem_singleton]at h;rcases h with h | rfl
   .have:=ih.rok p h;exact⟨this.1,wZ this.2 (by have:=Lm pr;omega)⟩
   .exact⟨qz _,uj (Ap h0).1⟩
def RO{t:List Atom}(h:aR t)(hl:t.length<=196){n:Nat}(hn:n<4):0<=(cu (rN t n).1 ⟨1,n,[],[]⟩).2:=by
 have ih:=Jy h hl n ah;have l:=ih.tl;exact(D5 (a:=⟨1,n,[],[]⟩) ih.tok ah).2.2.2 (by unfold kr;rw [if_neg (by simp)];exact⟨⟨rfl,rfl⟩,Or.inl ⟨rfl,by dsimp only;omega,by dsimp only;omega⟩⟩)
def Jz{t:List Atom}(h:aR t)(hl:t.length<=196):SI (t.length+4) 0 (s0 t):=by
 have:=Jy h hl 4 ah;have l:=this.tl;exact⟨this.tok,by show((rN t 4).1.length:Int)<=_;omega,this.r4,this.rok,rfl,λp hp=>absurd hp (by simp [s0]),by simp [s0],by simp [s0]⟩
def qI.k3{b:Blk}(h:qI b):∀o∈b.ops,o.kind=3->1<=o.k/\o.k<=5:=λo ho=>by
 obtain⟨i,hi,rfl⟩:=List.getElem_of_mem ho;have:=(h.op i ah ah).k3;rw [show(i:Int).toNat=i from rfl,getD_lt hi]at this;exact this
def Uq{t:List Atom}{b:Blk}(h:aR t)(hl:t.length<=100)(hb:qI b):SI (t.length+4) b.ops.length (gZ t b)/\t<+:(gZ t b).t:=by
 have sz:=hb.sz;obtain⟨h1,h2⟩:=yV b.ops 0 (s0 t) (Jz h ah) hb.k3 ah ah;rw [Nat.zero_add]at h1;exact⟨h1,(Jy h ah 4 ah).pre.trans h2⟩
def SS.on(s:SS)(u:List Atom):SS:=⟨u,s.regs,s.vals,s.ld,s.inn,s.evs⟩
def yX{t:List Atom}{b:Blk}(h:aR t)(hl:t.length<=100)(hb:qI b):dI t b=((gZ t b).t,symEnd (qJ b (gZ t b)) (b.pc+b.len)):=by
 unfold dI;rw [if_pos (eO ⟨h,hl,hb⟩)]
def JA{t:List Atom}{b:Blk}(h:aR t)(hl:t.length<=100)(hb:qI b):aR (dI t b).1/\t<+:(dI t b).1/\(dI t b).1.length<=t.length+b.ops.length+4:=by
 unfold dI;rw [if_pos (eO ⟨h,hl,hb⟩)];obtain⟨h1,h2⟩:=Uq h hl hb;have:=h1.tl;exact⟨h1.tok,h2,by dsimp only;omega⟩
def ShP(l:List (List ak)):Prop:=l.length<1000000000/\∀p∈l,Sh p
def ShE(e:Ev):Prop:=Sh e.x/\Sh e.y/\ShP e.regs
def Lp(l:List Ev):Prop:=l.length<1000000000/\∀e∈l,ShE e
structure ShY(s:Sym):Prop where
 e:Lp s.events
 r:ShP s.regs
 x:Sh s.x
 y:Sh s.y
def ShP.at{l:List (List ak)}(h:ShP l)(n:Nat):Sh (l.getD n default):=by
 by_cases c:n<l.length
 .rw [getD_lt c];exact h.2 _ (List.getElem_mem _)
 .rw [List.getD_eq_getElem?_getD,List.getElem?_eq_none ah];exact qx
def Lr:ShP []:=⟨by simp,λp h=>absurd h (by simp)⟩
def Lp.at{l:List Ev}(h:Lp l)(n:Nat):ShE (l.getD n default):=by
 by_cases c:n<l.length
 .rw [getD_lt c];exact h.2 _ (List.getElem_mem _)
 .rw [List.getD_eq_getElem?_getD,List.getElem?_eq_none ah];exact⟨qx,qx,Lr⟩
def ac6:ShY Ll:=⟨⟨by simp [Ll],λe h=>absurd h (by simp [Ll])⟩,Lr,qx,qx⟩
def SI.regs{n:Int}{i:Nat}{s:SS}(h:SI n i s):ShP s.regs:=⟨by have:=h.r4;omega,λp hp=>(h.rok p hp).1.sh⟩
def ac7{n:Int}{i:Nat}{s:SS}{o:IOp}(h:SI n i s)(h2:s.evs.length<=i/\∀e∈s.evs,ShE e):(stp s o).evs.length<=i+1/\∀e∈(stp s o).evs,ShE e:=by
 show(nE s o).length<=i+1/\∀e∈nE s o,ShE e;unfold nE;split
 .refine⟨by rw [List.length_append];have:=h2.1;simp only [List.length_cons,List.length_nil];omega,λe he=> ?_⟩;rw [List.mem_append,List.mem_singleton]at he;rcases he with he | rfl
  .exact h2.2 e he
  .refine⟨(h.x o).1.sh,(h.y o).1.sh,?_⟩;dsimp only;split
   .exact h.regs
   .exact Lr
 .exact⟨by have:=h2.1;omega,h2.2⟩
def Gd{n:Int}:∀(ops:List IOp) (i:Nat) (s:SS),SI n i s->(∀o∈ops,o.kind=3->1<=o.k/\o.k<=5)->n+i+ops.length<=200->i+ops.length<=200->(s.evs.length<=i/\∀e∈s.evs,ShE e)->(ops.foldl stp s).evs.length<=i+ops.length/\∀e∈(ops.foldl stp s).evs,ShE e
 | [],i,s,h,_,_,_,h3=>h3
 | o::r,i,s,h,hk,h1,h2,h3=>by
  rw [List.length_cons]at h1 h2;obtain⟨a1,a2⟩:=Gc h (hk o List.mem_cons_self) ah ah;have:=Gd r (i+1) (stp s o) a1 (λo ho=>hk o (List.mem_cons_of_mem _ ho)) ah ah (ac7 h h3);rw [List.foldl_cons,List.length_cons,show i+(r.length+1)=i+1+r.length by omega];exact this
def evT(e:Ev):Int×Int×Nat:=(e.kind,e.at_,e.regs.length)
def opT(o:IOp):Int×Int×Nat:=(o.kind,o.at_,if o.kind=4\/o.kind=5 then 4 else 0)
def Ur(ops:List IOp):List IOp:=ops.filter λo=>decide (evO o)
def Us:∀(ops:List IOp) (s:SS),s.regs.length=4->(ops.foldl stp s).evs.map evT=s.evs.map evT++(Ur ops).map opT
 | [],s,_=>by simp [Ur]
 | o::r,s,h=>by
  have h':(stp s o).regs.length=4:=by
   show(nR s o).length=4;unfold nR;split
   .rw [List.length_set];exact h
   .exact h
  rw [List.foldl_cons,Us r (stp s o) h'];show(nE s o).map evT++_=_;unfold nE Ur;by_cases c:evO o
  .have e:evT ⟨o.kind,o.at_,xOf s o,yOf s o,if o.kind=4\/o.kind=5 then s.regs else []⟩=opT o:=by
    unfold evT opT;dsimp only;split
    .rw [h]
    .rfl
   rw [if_pos c,List.filter_cons_of_pos (by simpa using c),List.map_append,List.append_assoc];refine congrArg (s.evs.map evT++ ·) ?_;show evT _::_=opT o::_;rw [e];rfl
  .rw [if_neg c,List.filter_cons_of_neg (by simpa using c)]
def D6{n:Int}{i:Nat}{s:SS}{b:Blk}(h:SI n i s):aV (qJ b s).x/\aV (qJ b s).y:=by
 unfold qJ;dsimp only;constructor
 .split
  .exact fT
  .exact(Ci h.vok _).1
 .split
  .exact(Ci h.vok _).1
  .exact fT
def Ls{s:Sym}{n:Int}(h:aV s.x/\aV s.y):(symEnd s n).events=s.events/\(symEnd s n).regs=s.regs/\aV (symEnd s n).x/\aV (symEnd s n).y:=by
 unfold symEnd;rw [if_neg (by rw [eO h];simp)]
 repeat' split
 all_goals first | exact⟨rfl,rfl,h⟩ | exact⟨rfl,rfl,fT,fT⟩ | exact⟨rfl,rfl,h.2,h.1⟩
structure ajW(t:List Atom)(b:Blk):Prop where
 evs:(dI t b).2.events.map evT=(Ur b.ops).map opT
 r4:(dI t b).2.regs.length=4
 sh:ShY (dI t b).2
 ne:0< (dI t b).1.length
theorem N7{t:List Atom}{b:Blk}(h:aR t)(hl:t.length<=100)(hb:qI b):ajW t b:=by
 have sz:=hb.sz;have i0:=Jz h ah;obtain⟨h1,h2⟩:=Uq h hl hb;have hs:=Gd b.ops 0 (s0 t) i0 hb.k3 ah ah ⟨by simp [s0],λe he=>absurd he (by simp [s0])⟩;have he:=Us b.ops (s0 t) i0.r4;have hk:=Ls (n:=b.pc+b.len) (D6 (b:=b) h1);have e:dI t b=((gZ t b).t,symEnd (qJ b (gZ t b)) (b.pc+b.len)):=by unfold dI;rw [if_pos (eO ⟨h,hl,hb⟩)]
 rw [Nat.zero_add]at hs;refine⟨?_,?_,?_,?_⟩
 .rw [e];dsimp only;rw [hk.1];show(gZ t b).evs.map evT=_;unfold gZ;rw [he];rfl
 .rw [e];dsimp only;rw [hk.2.1];exact h1.r4
 .rw [e];refine⟨?_,?_,hk.2.2.1.sh,hk.2.2.2.sh⟩
  .rw [hk.1];exact⟨by have:=hs.1;show(b.ops.foldl stp (s0 t)).evs.length<_;omega,hs.2⟩
  .rw [hk.2.1];exact h1.regs
 .rw [e];have r:=yV b.ops 0 (s0 t) i0 hb.k3 ah ah;have:=Lm r.2;have p:=Ap (RO h ah (n:=3) ah);have p0:=RO h ah (n:=3) ah;show 0< (gZ t b).t.length;have:(s0 t).t.length=(cu (rN t 3).1 ⟨1,(3:Nat),[],[]⟩).1.length:=rfl;unfold gZ;omega
def Lu(t:List Atom)(b:Blk):ShY (dI t b).2/\ShT (dI t b).1:=by
 by_cases c:aR t/\t.length<=100/\qI b
 .exact⟨(N7 c.1 c.2.1 c.2.2).sh,(JA c.1 c.2.1 c.2.2).1.sh⟩
 .unfold dI;rw [bU c,if_neg (by simp)];exact⟨ac6,acZ⟩
noncomputable def t4:List Atom:=(rN [] 4).1
noncomputable def chk (b c:Blk):Bool:=bp (qI b/\qI c/\b.pc=c.pc/\b.len=c.len/\(b=c\/(dI t4 b).2=(dI (dI t4 b).1 c).2))
def al0:Blk:=⟨0,0,[],0,0,0,0⟩
def RP(f:SS->IOp->SS)(s:SS){l:List IOp}{i:Nat}(h:i<l.length):(l.take (i+1)).foldl f s=f ((l.take i).foldl f s) l[i]:=by
 rw [List.take_succ_eq_append_getElem h,List.foldl_append];rfl
def ren(nm:List Int)(o:IOp):IOp:=⟨o.kind,if hX o then((nm).getD (o.x).toNat default)else o.x,if hY o then((nm).getD (o.y).toNat default)else o.y,o.k,o.at_⟩
def fcO(f:List IOp)(o:IOp):IOp:=if o.kind=3/\(((f).getD (o.x).toNat default)).kind=1/\(((f).getD (o.y).toNat default)).kind=1 then⟨1,0,0,wdo o.k (((f).getD (o.x).toNat default)).k (((f).getD (o.y).toNat default)).k,0⟩else o
def fc(ops:List IOp):Nat->List IOp
 | 0=> []
 | i+1=>fc ops i++ [fcO (fc ops i) (ops.getD i default)]
def us0(b:Blk):List Bool:=(λm:List Bool=>if 3<=b.fin then m.set b.y.toNat true else m) (if b.fin=1 then List.replicate b.ops.length false else(List.replicate b.ops.length false).set b.x.toNat true)
def usO(o:IOp)(i:Nat)(m:List Bool):List Bool:=
 if(m.getD i default || decide (4<=o.kind))=true then(λm:List Bool=>if hY o then m.set o.y.toNat true else m) ((λm:List Bool=>if hX o then m.set o.x.toNat true else m) (m.set i true))else m
def us(b:Blk):Nat->List Bool
 | 0=>us0 b
 | k+1=>usO (b.ops.getD (b.ops.length-1-k) default) (b.ops.length-1-k) (us b k)
def RB:(∀o:IOp,mE .iop 0 o=o.kind)/\(∀o:IOp,mE .iop 1 o=o.x)/\(∀o:IOp,mE .iop 2 o=o.y)/\(∀o:IOp,mE .iop 3 o=o.k)/\(∀o:IOp,mE .iop 4 o=o.at_)/\
  (∀b:Blk,mE .blk 0 b=b.pc)/\(∀b:Blk,mE .blk 1 b=b.len)/\(∀b:Blk,rA .blk 2 .iop b=b.ops)/\(∀b:Blk,mE .blk 3 b=b.fin)/\(∀b:Blk,mE .blk 4 b=b.x)/\(∀b:Blk,mE .blk 5 b=b.y)/\(∀b:Blk,mE .blk 6 b=b.k)/\
  (∀x,Co.mk .iop x=⟨x.1,x.2.1,x.2.2.1,x.2.2.2.1,x.2.2.2.2.1⟩)/\(∀x,Co.mk .blk x=⟨x.1,x.2.1,x.2.2.1,x.2.2.2.1,x.2.2.2.2.1,x.2.2.2.2.2.1,x.2.2.2.2.2.2.1⟩)/\
  (∀i:Ins,mE .ins 0 i=i.op)/\(∀i:Ins,mE .ins 1 i=i.d)/\(∀i:Ins,mE .ins 2 i=i.a)/\(∀i:Ins,mE .ins 3 i=i.k)/\(∀x,Co.mk .ins x=⟨x.1,x.2.1,x.2.2.1,x.2.2.2.1⟩)/\
  (∀e:Ev,mE .ev 0 e=e.kind)/\(∀e:Ev,mE .ev 1 e=e.at_)/\(∀e:Ev,rA .ev 2 .mono e=e.x)/\(∀e:Ev,rA .ev 3 .mono e=e.y)/\(∀e:Ev,rA .ev 4 .poly e=e.regs)/\(∀x,Co.mk .ev x=⟨x.1,x.2.1,x.2.2.1,x.2.2.2.1,x.2.2.2.2.1⟩)/\
  (∀s:Sym,rA .sym 0 .ev s=s.events)/\(∀s:Sym,rA .sym 1 .poly s=s.regs)/\(∀s:Sym,mE .sym 2 s=s.fin)/\(∀s:Sym,rA .sym 3 .mono s=s.x)/\(∀s:Sym,rA .sym 4 .mono s=s.y)/\(∀s:Sym,mE .sym 5 s=s.k)/\
  (∀x,Co.mk .sym x=⟨x.1,x.2.1,x.2.2.1,x.2.2.2.1,x.2.2.2.2.1,x.2.2.2.2.2.1⟩)/\(∀x,Co.mk .bool x=x.1)/\(∀x:Bool,ail .bool 0 x=x):=
 ⟨λ_=>rfl,λ_=>rfl,λ_=>rfl,λ_=>rfl,λ_=>rfl,λ_=>rfl,λ_=>rfl,λ_=>rfl,λ_=>rfl,λ_=>rfl,λ_=>rfl,λ_=>rfl,λ_=>rfl,λ_=>rfl,λ_=>rfl,λ_=>rfl,λ_=>rfl,λ_=>rfl,λ_=>rfl,λ_=>rfl,λ_=>rfl,λ_=>rfl,λ_=>rfl,λ_=>rfl,λ_=>rfl,λ_=>rfl,λ_=>rfl,λ_=>rfl,λ_=>rfl,λ_=>rfl,λ_=>rfl,λ_=>rfl,λ_=>rfl,λ_=>rfl⟩
abbrev hK(o:IOp):Prop:=o.kind=1\/o.kind=2\/o.kind=3\/o.kind=8
def ajX{p1 f1}(U1:Y1 p1 f1)(o:IOp):
  ZN.F (p1,f1,()) (o,()) (λy=>y=(decide (hX o),decide (hY o),decide (hK o),decide (evO o),())):=by
 dsimp only [ZN,gm];simp (disch:=omega) only [RR,RB,U1];refine Prod.ext ?_ (Prod.ext ?_ (Prod.ext ?_ (Prod.ext ?_ rfl)))<;>rw [Bool.eq_iff_iff]<;>simp [hX,hY,hK,evO,inB,or_assoc,and_assoc]
def ajY{p1 f1}(U1:Y1 p1 f1)(o:IOp):
  ZO.F (p1,f1,()) (o,()) (λy=>y=(decide (mkV o),())):=by
 dsimp only [ZO,gm];simp (disch:=omega) only [RR,RB,U1];refine Prod.ext ?_ rfl;rw [Bool.eq_iff_iff];simp [mkV,inB]
def al1{p1 f1}(U1:Y1 p1 f1)(o:IOp):
  afZ.F (p1,f1,()) (o,()) (λy=>y=(decide (evO o),())):=by
 dsimp only [afZ,gm];simp (disch:=omega) only [RR,RB,U1];refine Prod.ext ?_ rfl;rw [Bool.eq_iff_iff];simp [evO,inB]
def al2{p1 f1}{p2:IOp×Unit->Bool}{f2:IOp×Unit->Bool×Unit}(U2:∀o,p2 (o,())=true/\f2 (o,())=(decide (mkV o),()))(U1:Y1 p1 f1)(b:Blk)(x n:Int)(h0:0<=n)(h1:n<=b.ops.length)(h2:b.ops.length<1000000000):
  afU.F (p2,f2,p1,f1,()) (b,x,n,()) (λy=>y=(bp (Vl b.ops x n),())):=by
 dsimp only [afU,gm];simp (disch:=omega) only [RR,RB,U1,U2,fC,qw];refine⟨ah,ah,?_⟩;refine Prod.ext ?_ rfl;dsimp only;rw [Bool.eq_iff_iff,bD,Bool.and_eq_true,fC,decide_eq_true_eq];unfold Vl;constructor
 .rintro⟨⟨a1,a2⟩,a3⟩;exact⟨a1,ah,a3⟩
 .rintro⟨a1,a2,a3⟩;exact⟨⟨a1,ah⟩,a3⟩
def N8{ops:List IOp}{len i:Int}{o:IOp}:Lj ops len i o↔(1<=o.kind/\o.kind<=8)/\(hX o/\Vl ops o.x i\/¬hX o/\o.x=0)/\(hY o/\Vl ops o.y i\/¬hY o/\o.y=0)/\
  (hK o/\(o.kind=1/\(0<=o.k/\o.k<=65535)\/(o.kind=2\/o.kind=8)/\(0<=o.k/\o.k<=3)\/o.kind=3/\(1<=o.k/\o.k<=5))\/¬hK o/\o.k=0)/\(evO o/\(0<=o.at_/\o.at_<len)\/¬evO o/\o.at_=0):=by
 constructor
 .rintro⟨kd,x1,x0,y1,y0,k1,k2,k3,k0,a1,a0⟩;refine⟨kd,?_,?_,?_,?_⟩
  .by_cases h:hX o
   .exact Or.inl ⟨h,x1 h⟩
   .exact Or.inr ⟨h,x0 h⟩
  .by_cases h:hY o
   .exact Or.inl ⟨h,y1 h⟩
   .exact Or.inr ⟨h,y0 h⟩
  .unfold hK;omega
  .by_cases h:evO o
   .exact Or.inl ⟨h,a1 h⟩
   .exact Or.inr ⟨h,a0 h⟩
 .rintro⟨kd,x,y,k,a⟩;refine⟨kd,λh=> ?_,λh=> ?_,λh=> ?_,λh=> ?_,λh=> ?_,λh=> ?_,λh=> ?_,λh h'=> ?_,λh=> ?_,λh=> ?_⟩
  .rcases x with x | x
   .exact x.2
   .exact absurd h x.1
  .rcases x with x | x
   .exact absurd x.1 h
   .exact x.2
  .rcases y with y | y
   .exact y.2
   .exact absurd h y.1
  .rcases y with y | y
   .exact absurd y.1 h
   .exact y.2
  .unfold hK at k;omega
  .unfold hK at k;omega
  .unfold hK at k;omega
  .unfold hK at k;omega
  .rcases a with a | a
   .exact a.2
   .exact absurd h a.1
  .rcases a with a | a
   .exact absurd a.1 h
   .exact a.2
abbrev Y52(pp:Blk×Int×Int×Unit->Bool)(ff:Blk×Int×Int×Unit->Bool×Unit):Prop:=∀b x n,0<=n->n<=b.ops.length->b.ops.length<1000000000->pp (b,x,n,())=true/\ff (b,x,n,())=(bp (Vl b.ops x n),())
abbrev Y53(pp:IOp×Unit->Bool)(ff:IOp×Unit->Bool×Bool×Bool×Bool×Unit):Prop:=∀o,pp (o,())=true/\ff (o,())=(decide (hX o),decide (hY o),decide (hK o),decide (evO o),())
def al3{p3 f3 p2 f2 p4 f4 p1 f1 p5 f5 p6 f6}(U3:Y52 p3 f3)(U2:Y53 p2 f2)(U4:Y9 p4 f4)(U1:Y1 p1 f1)(U5:Y16 p5 f5)(U6:Y17 p6 f6)(b:Blk)(i:Int)(h0:0<=i)(h1:i<b.ops.length)(h2:b.ops.length<1000000000)(h3:1<=b.len/\b.len<=8):
  afV.F (p3,f3,p2,f2,p4,f4,p1,f1,p5,f5,p6,f6,()) (b,i,()) (λy=>y=(bp (Lj b.ops b.len i ((b.ops).getD (i).toNat default)),())):=by
 have hp3:=λz1 z2 z3 z4 z5 z6=>(U3 z1 z2 z3 z4 z5 z6).1
 have hf3:=λz1 z2 z3 z4 z5 z6=>(U3 z1 z2 z3 z4 z5 z6).2
 have hp2:=λz1=>(U2 z1).1
 have hf2:=λz1=>(U2 z1).2
 have hp4:=λz1=>(U4 z1).1
 have hf4:=λz1=>(U4 z1).2
 have hp1:=λz1 z2 z3=>(U1 z1 z2 z3).1
 have hf1:=λz1 z2 z3=>(U1 z1 z2 z3).2
 have hp5:=λz1=>(U5 z1).1
 have hf5:=λz1=>(U5 z1).2
 have hp6:=λz1=>(U6 z1).1
 have hf6:=λz1=>(U6 z1).2
 have RQ:=λx=>hp3 b x i h0 ah h2
 have RS:=λx=>hf3 b x i h0 ah h2
 dsimp only [afV,gm];simp (disch:=omega) only [RR,RB,hp1,hf1,hp2,hf2,RQ,RS,hp4,hf4,hp5,hf5,hp6,hf6,qw];refine⟨ah,ah,λh=> ?_,λh=> ?_⟩
 .rw [bU (λg=>h g.kd)]
 .have h:=fC.1 h;refine Prod.ext ?_ rfl;dsimp only;rw [Bool.eq_iff_iff,bD,N8];generalize ((b.ops).getD (i).toNat default)=o at h ⊢;simp only [Bool.and_eq_true,Bool.or_eq_true,Bool.not_eq_true',decide_eq_true_eq,decide_eq_false_iff_not,bD,fC,h,true_and,and_true];have e:∀ {a:Int},(0<=a/\a<=b.len-1)↔(0<=a/\a<b.len):=λ{a}=>by omega
  have k:(bif decide (o.kind=1)then inB o.k 0 65535 else bif decide (o.kind=2)then inB o.k 0 3 else bif decide (o.kind=3)then inB o.k 1 5 else(decide (o.kind=8)&&inB o.k 0 3))=true↔(o.kind=1/\(0<=o.k/\o.k<=65535)\/(o.kind=2\/o.kind=8)/\(0<=o.k/\o.k<=3)\/o.kind=3/\(1<=o.k/\o.k<=5)):=by
   rcases(by omega:o.kind=1\/o.kind=2\/o.kind=3\/o.kind=8\/(o.kind≠1/\o.kind≠2/\o.kind≠3/\o.kind≠8))with c | c | c | c | ⟨c1,c2,c3,c4⟩
   .simp [c,inB]
   .simp [c,inB]
   .simp [c,inB]
   .simp [c,inB]
   .simp [c1,c2,c3,c4]
  rw [k];simp only [e,and_assoc]
def al4(b:Blk):afW.F () (b,()) (λy=>y=(decide (b.fin≠1),decide (3<=b.fin),decide (b.fin≠2),())):=by
 dsimp only [afW,gm];simp (disch:=omega) only [RR,RB];refine Prod.ext ?_ (Prod.ext rfl (Prod.ext ?_ rfl))<;>simp
def JB{b:Blk}:Am b↔(1<=b.fin/\b.fin<=4)/\(b.fin≠1/\Vl b.ops b.x b.ops.length\/¬b.fin≠1/\b.x=0)/\(3<=b.fin/\Vl b.ops b.y b.ops.length\/¬3<=b.fin/\b.y=0)/\(b.fin≠2/\(0<=b.k/\b.k<=65535)\/¬b.fin≠2/\b.k=0):=by
 constructor
 .rintro⟨f,x1,x0,y1,y0,k1,k0⟩;refine⟨f,?_,?_,ah⟩
  .by_cases h:b.fin=1
   .exact Or.inr ⟨λg=>g h,x0 h⟩
   .exact Or.inl ⟨h,x1 h⟩
  .by_cases h:3<=b.fin
   .exact Or.inl ⟨h,y1 h⟩
   .exact Or.inr ⟨h,y0 ah⟩
 .rintro⟨f,x,y,k⟩;refine⟨f,λh=> ?_,λh=> ?_,λh=> ?_,λh=> ?_,λh=>by omega,λh=>by omega⟩
  .rcases x with x | x
   .exact x.2
   .exact absurd h x.1
  .rcases x with x | x
   .exact absurd h x.1
   .exact x.2
  .rcases y with y | y
   .exact y.2
   .exact absurd h y.1
  .rcases y with y | y
   .exact absurd y.1 ah
   .exact y.2
abbrev Y54(pp:Blk×Unit->Bool)(ff:Blk×Unit->Bool×Bool×Bool×Unit):Prop:=∀b,pp (b,())=true/\ff (b,())=(decide (b.fin≠1),decide (3<=b.fin),decide (b.fin≠2),())
def al5{p2 f2 p3 f3 p4 f4 p1 f1}(U2:Y54 p2 f2)(U3:Y52 p3 f3)(U4:Y9 p4 f4)(U1:Y1 p1 f1)(b:Blk)(h2:b.ops.length<1000000000):
  afX.F (p2,f2,p3,f3,p4,f4,p1,f1,()) (b,()) (λy=>y=(bp (Am b),())):=by
 have hp2:=λz1=>(U2 z1).1
 have hf2:=λz1=>(U2 z1).2
 have hp3:=λz1 z2 z3 z4 z5 z6=>(U3 z1 z2 z3 z4 z5 z6).1
 have hf3:=λz1 z2 z3 z4 z5 z6=>(U3 z1 z2 z3 z4 z5 z6).2
 have hp4:=λz1=>(U4 z1).1
 have hf4:=λz1=>(U4 z1).2
 have hp1:=λz1 z2 z3=>(U1 z1 z2 z3).1
 have hf1:=λz1 z2 z3=>(U1 z1 z2 z3).2
 have RQ:=λx=>hp3 b x b.ops.length ah (Int.le_refl _) h2
 have RS:=λx=>hf3 b x b.ops.length ah (Int.le_refl _) h2
 dsimp only [afX,gm];simp (disch:=omega) only [RR,RB,hp1,hf1,hp2,hf2,RQ,RS,hp4,hf4];refine Prod.ext ?_ rfl;dsimp only;rw [Bool.eq_iff_iff,bD,JB];simp only [Bool.and_eq_true,Bool.or_eq_true,Bool.not_eq_true',decide_eq_true_eq,decide_eq_false_iff_not,bD,fC,and_assoc]
def al6{p1 f1}{p2:Blk×Unit->Bool}{f2:Blk×Unit->Bool×Unit}{p3:Blk×Int×Unit->Bool}{f3:Blk×Int×Unit->Bool×Unit}(U2:∀b,b.ops.length<1000000000->p2 (b,())=true/\f2 (b,())=(bp (Am b),()))(U3:∀(b:Blk) (i:Int),0<=i->i<b.ops.length->b.ops.length<1000000000->1<=b.len/\b.len<=8->p3 (b,i,())=true/\f3 (b,i,())=(bp (Lj b.ops b.len i ((b.ops).getD (i).toNat default)),()))(U1:Y1 p1 f1)(b:Blk)(h2:b.ops.length<1000000000):
  afY.F (p2,f2,p3,f3,p1,f1,()) (b,()) (λy=>y=(bp (qI b),())):=by
 dsimp only [afY,gm];simp (disch:=omega) only [RR,RB,U1];by_cases hl:1<=b.len/\b.len<=8
 .have hl':=fC.2 hl;simp (disch:=omega) only [RR,hl',fC,qw];refine⟨λh=> ?_,λh=> ?_⟩
  .rw [bU (λg=> ?_)];have g1:=g.pc;have g2:=g.sz;omega
  .refine aG (λ(y:Int×Int×Blk×Unit)=>y.1=b.ops.length/\y.2.2.1=b/\0<=y.2.1/\y.2.1<=b.ops.length/\All y.2.1 (λi=>Lj b.ops b.len i ((b.ops).getD (i).toNat default))) (λy=>(b.ops.length-y.2.1).toNat) ⟨rfl,rfl,by simp,by simp,All.zero⟩ ?_;rintro⟨(n:Int),(i:Int),(b':Blk),⟨⟩⟩ hI;dsimp only at hI ⊢;obtain⟨rfl,rfl,h3,h4,h5⟩:=hI;simp (disch:=omega) only [RR,U2 b' h2];refine⟨λh6=>⟨(U3 b' i h3 h6 h2 hl).1,?_⟩,λh6=> ?_⟩
   .rw [(U3 b' i h3 h6 h2 hl).2];dsimp only;refine⟨λh7=> ?_,λh7=>⟨⟨ah,ah,h5.snoc (bD.1 h7)⟩,ah⟩⟩;rw [bU (λg=>iP.1 h7 (g.op i h3 h6))]
   .by_cases he:Am b'
    .rw [eO he,eO (show qI b' from⟨hl,ah,ah,λj j1 j2=>h5 j j1 ah,he⟩)]
    .rw [bU he,bU (λg=>he g.en)]
 .have hl':=qw.2 hl;simp (disch:=omega) only [RR,hl'];rw [bU (λg=>hl g.ln)];exact⟨rfl,λh=>h.1.1.elim⟩
def ag4{p1 f1}(U1:Y1 p1 f1)(k:Int):
  Rl.F (p1,f1,()) (k,()) (λy=>y=(decide ((1<=k/\k<=4)\/k=6),())):=by
 dsimp only [Rl,gm];simp (disch:=omega) only [RR,U1];refine Prod.ext ?_ rfl;rw [Bool.eq_iff_iff];simp [inB]
def ag5{p1:Int×Unit->Bool}{f1:Int×Unit->Bool×Unit}(U1:∀k,p1 (k,())=true/\f1 (k,())=(decide ((1<=k/\k<=4)\/k=6),()))(ops:List IOp)(x n:Int)(h1:n<=ops.length):
  Rm.F (p1,f1,()) (ops,x,n,()) (λy=>y=(bp (Vl ops x n),())):=by
 dsimp only [Rm,gm];simp (disch:=omega) only [RR,RB,U1];refine⟨by simp only [Bool.and_eq_false_iff,decide_eq_false_iff_not];omega,by simp only [Bool.and_eq_false_iff,decide_eq_false_iff_not];omega,?_⟩;refine Prod.ext ?_ rfl;dsimp only;rw [Bool.eq_iff_iff,bD,Bool.and_eq_true,Bool.and_eq_true,decide_eq_true_eq,decide_eq_true_eq,decide_eq_true_eq,and_assoc];rfl
abbrev Y55(pp:List IOp×Int×Int×Unit->Bool)(ff:List IOp×Int×Int×Unit->Bool×Unit):Prop:=∀(ops:List IOp) (x n:Int),n<=ops.length->pp (ops,x,n,())=true/\ff (ops,x,n,())=(bp (Vl ops x n),())
def ag6{p4 f4 p1 f1 p3 f3}(U4:Y9 p4 f4)(U1:Y1 p1 f1)(U3:Y55 p3 f3)(ops:List IOp)(i len:Int)(h0:0<=i)(h1:i<ops.length)(h3:1<=len/\len<=8):Rn.F (p4,f4,p1,f1,p3,f3,()) (ops,i,len,()) (λy=>y=(bp (Lj ops len i ((ops).getD (i).toNat default)),())):=by
 have hp4:=λz1=>(U4 z1).1
 have hf4:=λz1=>(U4 z1).2
 have hp1:=λz1 z2 z3=>(U1 z1 z2 z3).1
 have hf1:=λz1 z2 z3=>(U1 z1 z2 z3).2
 have hp3:=λz1 z2 z3 z4=>(U3 z1 z2 z3 z4).1
 have hf3:=λz1 z2 z3 z4=>(U3 z1 z2 z3 z4).2
 have RQ:=λx=>hp3 ops x i ah
 have RS:=λx=>hf3 ops x i ah
 have e:∀ {a:Int},(0<=a/\a<=len-1)↔(0<=a/\a<len):=λ{a}=>by omega
 dsimp only [Rn,gm];simp (disch:=omega) only [RR,RB,hp1,hf1,RQ,RS,hp4,hf4];refine⟨ah,ah,?_⟩;rw [show bp (Lj ops len i ((ops).getD (i).toNat default))=bp (_)from K9 N8];generalize ((ops).getD (i).toNat default)=o;have go:∀ {c:Bool} {P:Prop},(c=true↔P)->(c,())=(bp P,()):=λ{c P} h=>Prod.ext (by dsimp only;rw [Bool.eq_iff_iff,bD];exact h) rfl
 refine⟨λc=> ?_,λc1=>⟨λc=> ?_,λc2=>⟨λc=> ?_,λc3=> ?_⟩⟩⟩
 .refine go ?_;simp only [Bool.and_eq_true,decide_eq_true_eq,bD,fC,c,hX,hY,hK,evO,e];simp [and_assoc]
 .refine go ?_;simp only [Bool.and_eq_true,decide_eq_true_eq,bD,fC,c,hX,hY,hK,evO,e];simp [and_assoc]
 .refine go ?_;simp only [Bool.and_eq_true,decide_eq_true_eq,bD,fC,c,hX,hY,hK,evO,e];simp [and_assoc]
 .by_cases c4:o.kind=4\/o.kind=7
  .have c5:o.kind≠8:=by omega
   rcases c4 with c | c<;>simp (disch:=omega) only [RR,c,Int.reduceEq]<;>(refine go ?_)<;>simp only [Bool.and_eq_true,decide_eq_true_eq,bD,fC,c,hX,hY,hK,evO,e]<;>simp [and_assoc]
  .by_cases c:o.kind=5
   .simp (disch:=omega) only [RR,c,Int.reduceEq];refine go ?_;simp only [Bool.and_eq_true,decide_eq_true_eq,bD,fC,c,hX,hY,hK,evO,e];simp [and_assoc]
   .by_cases c':o.kind=6
    .simp (disch:=omega) only [RR,c',Int.reduceEq];refine go ?_;simp only [Bool.and_eq_true,decide_eq_true_eq,bD,fC,c',hX,hY,hK,evO,e];simp [and_assoc]
    .by_cases c8:o.kind=8
     .simp (disch:=omega) only [RR,c8,Int.reduceEq];refine go ?_;simp only [Bool.and_eq_true,decide_eq_true_eq,bD,fC,c8,hX,hY,hK,evO,e];simp [and_assoc]
     .have n4:¬o.kind=4:=λh=>c4 (Or.inl h)
      have n7:¬o.kind=7:=λh=>c4 (Or.inr h)
      simp (disch:=omega) only [RR,n4,n7,c,c',c8];rw [bU (λh=>by have:=h.1;omega)]
def ag7{p4 f4 p3 f3}(U4:Y9 p4 f4)(U3:Y55 p3 f3)(b:Blk):Ro.F (p4,f4,p3,f3,()) (b,()) (λy=>y=(bp (Am b),())):=by
 have hp4:=λz1=>(U4 z1).1
 have hf4:=λz1=>(U4 z1).2
 have hp3:=λz1 z2 z3 z4=>(U3 z1 z2 z3 z4).1
 have hf3:=λz1 z2 z3 z4=>(U3 z1 z2 z3 z4).2
 have RQ:=λx=>hp3 b.ops x b.ops.length (Int.le_refl _)
 have RS:=λx=>hf3 b.ops x b.ops.length (Int.le_refl _)
 dsimp only [Ro,gm];simp (disch:=omega) only [RR,RB,RQ,RS,hp4,hf4];rw [show bp (Am b)=bp (_)from K9 JB];have go:∀ {c:Bool} {P:Prop},(c=true↔P)->(c,())=(bp P,()):=λ{c P} h=>Prod.ext (by dsimp only;rw [Bool.eq_iff_iff,bD];exact h) rfl
 refine⟨λc=> ?_,λc1=>⟨λc=> ?_,λc2=> ?_⟩⟩
 .refine go ?_;simp only [Bool.and_eq_true,decide_eq_true_eq,bD,fC,c];simp [and_assoc]
 .refine go ?_;simp only [Bool.and_eq_true,decide_eq_true_eq,bD,fC,c];simp [and_assoc]
 .by_cases c:b.fin=3
  .simp (disch:=omega) only [RR,c,Int.reduceEq];refine go ?_;simp only [Bool.and_eq_true,decide_eq_true_eq,bD,fC,c];simp [and_assoc]
  .by_cases c4:b.fin=4
   .simp (disch:=omega) only [RR,c4,Int.reduceEq];refine go ?_;simp only [Bool.and_eq_true,decide_eq_true_eq,bD,fC,c4];simp [and_assoc]
   .simp (disch:=omega) only [RR,c,c4];rw [bU (λh=>by have:=h.1;omega)]
def ag8{p1 f1}{p2:Blk×Unit->Bool}{f2:Blk×Unit->Bool×Unit}{p3:List IOp×Int×Int×Unit->Bool}{f3:List IOp×Int×Int×Unit->Bool×Unit}(U1:Y1 p1 f1)(U2:∀b,p2 (b,())=true/\f2 (b,())=(bp (Am b),()))(U3:∀(ops:List IOp) (i len:Int),0<=i->i<ops.length->1<=len/\len<=8->p3 (ops,i,len,())=true/\f3 (ops,i,len,())=(bp (Lj ops len i ((ops).getD (i).toNat default)),()))(b:Blk)(h2:b.ops.length<1000000000):
  Rp.F (p1,f1,p2,f2,p3,f3,()) (b,()) (λy=>y=(bp (qI b),())):=by
 dsimp only [Rp,gm];simp (disch:=omega) only [RR,RB,U1];by_cases hl:1<=b.len/\b.len<=8
 .have hl':=fC.2 hl;simp (disch:=omega) only [RR,hl',fC,qw];refine⟨λh=> ?_,λh=> ?_⟩
  .rw [bU (λg=> ?_)];have g1:=g.pc;have g2:=g.sz;omega
  .refine aG (λ(y:Int×Blk×Unit)=>y.2.1=b/\0<=y.1/\y.1<=b.ops.length/\All y.1 (λi=>Lj b.ops b.len i ((b.ops).getD (i).toNat default))) (λy=>(b.ops.length-y.1).toNat) ⟨rfl,by simp,by simp,All.zero⟩ ?_;rintro⟨(i:Int),(b':Blk),⟨⟩⟩ hI;dsimp only at hI ⊢;obtain⟨rfl,h3,h4,h5⟩:=hI;simp (disch:=omega) only [RR,U2 b'];refine⟨λh6=>⟨(U3 b'.ops i b'.len h3 h6 hl).1,?_⟩,λh6=> ?_⟩
   .rw [(U3 b'.ops i b'.len h3 h6 hl).2];dsimp only;refine⟨λh7=> ?_,λh7=>⟨⟨ah,ah,h5.snoc (bD.1 h7)⟩,ah⟩⟩;rw [bU (λg=>iP.1 h7 (g.op i h3 h6))]
   .by_cases he:Am b'
    .rw [eO he,eO (show qI b' from⟨hl,ah,ah,λj j1 j2=>h5 j j1 ah,he⟩)]
    .rw [bU he,bU (λg=>he g.en)]
 .have hl':=qw.2 hl;simp (disch:=omega) only [RR,hl'];rw [bU (λg=>hl g.ln)];exact⟨rfl,λh=>h.1.1.elim⟩
def ajZ{p4 f4}(U4:Y9 p4 f4)(r a b:Int):
  ZU.F (p4,f4,()) (r,a,b,()) (λy=>y=(inB a 0 65535&&inB b 0 65535&& (decide (r=1/\a=b\/r=2/\a<b)),())):=by
 dsimp only [ZU,gm];simp (disch:=omega) only [RR,U4];refine Prod.ext ?_ rfl;rw [Bool.eq_iff_iff];simp
abbrev Y56(pp:List (List ak)×Unit->Bool)(ff:List (List ak)×Unit->List (List ak)×Unit):Prop:=∀a,ShP a->pp (a,())=true/\ff (a,())=(a,())
def aj0{p1 f1}{p2:List Atom×Atom×Unit->Bool}{f2:List Atom×Atom×Unit->List Atom×Int×Unit}(U1:Y28 p1 f1)(U2:∀(t:List Atom) a,t.length<1000000000->ShA a->p2 (t,a,())=true/\f2 (t,a,())=((cu t a).1,(cu t a).2,()))(kd k:Int)(t:List Atom)(fl:Bool)(ht:t.length<1000000000):
  ZP.F (p1,f1,p2,f2,()) (kd,k,t,fl,()) (λy=>y=if(cu t ⟨kd,k,[],[]⟩).2<0 then([],t,true,())else(jN (cu t ⟨kd,k,[],[]⟩).2,(cu t ⟨kd,k,[],[]⟩).1,fl,())):=by
 have sa:ShA ⟨kd,k,[],[]⟩:=⟨qx,qx⟩;dsimp only [ZP,gm];simp (disch:=omega) only [RR,U1,U2 _ _ ht sa];exact⟨λh=>by rw [if_pos h],λh=>by rw [if_neg h]⟩
theorem Lv(t:List Atom)(n:Nat):rN t (n+1)=((cu (rN t n).1 ⟨1,n,[],[]⟩).1,(rN t n).2++ [jN (cu (rN t n).1 ⟨1,n,[],[]⟩).2]):=rfl
abbrev Y57(pp:Int×Int×List Atom×Bool×Unit->Bool)(ff:Int×Int×List Atom×Bool×Unit->List ak×List Atom×Bool×Unit):Prop:=∀kd k (t:List Atom) fl,t.length<1000000000->pp (kd,k,t,fl,())=true/\ff (kd,k,t,fl,())=if(cu t ⟨kd,k,[],[]⟩).2<0 then([],t,true,())else(jN (cu t ⟨kd,k,[],[]⟩).2,(cu t ⟨kd,k,[],[]⟩).1,fl,())
def aj1{p1 f1}(U1:Y57 p1 f1)(t:List Atom)(fl:Bool)(ht:aR t)(hl:t.length<=196):ZQ.F (p1,f1,()) (t,fl,()) (λy=>y=((rN t 4).1,fl,(rN t 4).2,())):=by
 dsimp only [ZQ,gm];refine aG (λ(y:Int×List Atom×Bool×List (List ak)×Unit)=>0<=y.1/\y.1<=4/\y.2.2.1=fl/\y.2.1=(rN t y.1.toNat).1/\y.2.2.2.1=(rN t y.1.toNat).2) (λy=>(4-y.1).toNat) ⟨by simp,by simp,rfl,rfl,rfl⟩ ?_;rintro⟨(i:Int),(u:List Atom),(g:Bool),(r:List (List ak)),⟨⟩⟩ hI;dsimp only at hI ⊢;obtain⟨h1,h2,rfl,rfl,rfl⟩:=hI;have ok:=Jy ht hl i.toNat ah;have l1:=ok.tl;have l2:=ok.r4;simp (disch:=omega) only [RR,U1 _ _ (rN t i.toNat).1 _ ah,List.length_cons,List.length_nil];refine⟨λh3=> ?_,λh3=> ?_⟩
 .have hp:=RO ht hl (n:=i.toNat) ah;rw [show((i.toNat:Nat):Int)=i by omega]at hp;rw [if_neg ah];have e:(i+1).toNat=i.toNat+1:=by omega
  have e2:((i.toNat:Nat):Int)=i:=by omega
  refine⟨ah,⟨ah,ah,rfl,?_,?_⟩,ah⟩
  .rw [e,Lv,e2]
  .rw [e,Lv,e2]
 .rw [show i.toNat=4 by omega]
def aj2(a:List (List ak))(h0:0<a.length)(h1:a.length<1000000000):ZR.F () (a,()) (λy=>y=(a,a,())):=by
 dsimp only [ZR,gm];simp (disch:=omega) only [RR,List.length_nil];exact⟨ah,ah,rfl⟩
abbrev Y58(pp:List Atom×Bool×Unit->Bool)(ff:List Atom×Bool×Unit->List Atom×Bool×List (List ak)×Unit):Prop:=∀(t:List Atom) fl,aR t->t.length<=196->pp (t,fl,())=true/\ff (t,fl,())=((rN t 4).1,fl,(rN t 4).2,())
noncomputable def SW (t:List Atom) (b:Blk) (i:Nat):SS:=(b.ops.take i).foldl stp (s0 t)
structure At(t:List Atom)(b:Blk)(i:Nat)(ld inn:Int)(tb:List Atom)(V:List (List ak))(ev:List Ev)(rg:List (List ak)):Prop where
 ld:ld=(SW t b i).ld
 inn:inn=(SW t b i).inn
 tb:tb=(SW t b i).t
 V:V=(SW t b i).vals++List.replicate (b.ops.length-i) []
 ev:ev=(SW t b i).evs
 rg:rg=(SW t b i).regs
def At.al7{t:List Atom}{b:Blk}{i:Nat}{ld inn:Int}{tb:List Atom}{V:List (List ak)}{ev:List Ev}{rg:List (List ak)}(h:At t b i ld inn tb V ev rg)(hv:(SW t b i).vals.length=i)(hi:i<=b.ops.length):V.length=b.ops.length:=by
 rw [h.V,List.length_append,List.length_replicate,hv];omega
def Ut(t:List Atom):∀(l:List IOp) (s:SS),(l.foldl stp s).evs.length<=s.evs.length+l.length
 | [],s=>Nat.le_refl _
 | o::r,s=>by
  rw [List.foldl_cons,List.length_cons];have h1:=Ut t r (stp s o);have h2:(stp s o).evs.length<=s.evs.length+1:=by
   show(nE s o).length<=_;unfold nE;split
   .rw [List.length_append];exact Nat.le_refl _
   .omega
  omega
theorem aar{t:List Atom}{b:Blk}(i:Nat)(hi:i<=b.ops.length):(SW t b i).evs.length<=i:=by
 have:=Ut t (b.ops.take i) (s0 t);rw [List.length_take,Nat.min_eq_left hi]at this;show((b.ops.take i).foldl stp (s0 t)).evs.length<=i;have e:(s0 t).evs.length=0:=rfl;omega
def Uu{t:List Atom}{b:Blk}{i:Nat}(hi:i<b.ops.length):SW t b (i+1)=stp (SW t b i) (b.ops.getD i default):=by
 unfold SW;rw [RP _ _ hi,getD_lt hi]
def At.next{t:List Atom}{b:Blk}{i:Nat}{ld inn:Int}{tb:List Atom}{V:List (List ak)}{ev:List Ev}{rg:List (List ak)}(h:At t b i ld inn tb V ev rg)(hv:(SW t b i).vals.length=i)(hi:i<b.ops.length){o:IOp}(ho:b.ops.getD i default=o)
  {ld' aas:Int} {tb':List Atom} {V':List (List ak)} {ev':List Ev} {rg':List (List ak)} (h1:ld'=if o.kind=4 then ld+1 else ld) (h2:aas=if o.kind=6 then inn+1 else inn) (h3:tb'=nT (SW t b i) o) (h4:V'=V.set i (nV (SW t b i) o)) (h5:ev'=nE (SW t b i) o) (h6:rg'=nR (SW t b i) o):At t b (i+1) ld' aas tb' V' ev' rg':=by
 have e:=Uu (t:=t) hi;rw [ho]at e;refine⟨?_,?_,?_,?_,?_,?_⟩<;>rw [e]
 .rw [h1,h.ld];rfl
 .rw [h2,h.inn];rfl
 .exact h3
 .rw [h4,h.V];show _=((SW t b i).vals++ [nV (SW t b i) o])++_;rw [List.set_append_right _ _ ah,hv,Nat.sub_self,show b.ops.length-i=(b.ops.length- (i+1))+1 by omega,List.replicate_succ,List.set_cons_zero,List.append_assoc];rfl
 .exact h5
 .exact h6
abbrev Y60(pp:Blk×Unit->Bool)(ff:Blk×Unit->Bool×Unit):Prop:=∀b,b.ops.length<1000000000->pp (b,())=true/\ff (b,())=(bp (qI b),())
abbrev Y61(pp:IOp×Unit->Bool)(ff:IOp×Unit->Bool×Unit):Prop:=∀o,pp (o,())=true/\ff (o,())=(decide (evO o),())
def TQ{α:Type}{x:α}{f l:List α}{k:Nat}(hf:f.length=k)(h:k<l.length):(f++l.drop k).set k x=(f++ [x])++l.drop (k+1):=by
 rw [List.set_append_right _ _ ah,hf,Nat.sub_self,List.drop_eq_getElem_cons h,List.set_cons_zero,List.append_assoc];rfl
def TP{α:Type}{f l:List α}{k:Nat}(hf:f.length=k)(h:k<=l.length):(f++l.drop k).length=l.length:=by simp_all
abbrev Y88(pp:List (List ak)×List (List ak)×Unit->Bool)(ff:List (List ak)×List (List ak)×Unit->Bool×Unit):Prop:=∀a b,ShP a->pp (a,b,())=true/\ff (a,b,())=(bp (a=b),())
abbrev Y92(pp:List IOp×List IOp×Unit->Bool)(ff:List IOp×List IOp×Unit->Bool×Unit):Prop:=∀a b,a.length<1000000000->pp (a,b,())=true/\ff (a,b,())=(bp (a=b),())
abbrev Y93(pp:Ev×Ev×Unit->Bool)(ff:Ev×Ev×Unit->Bool×Unit):Prop:=∀a b,ShE a->pp (a,b,())=true/\ff (a,b,())=(bp (a=b),())
theorem mkB(p l o f x y k):Co.mk .blk (p,l,o,f,x,y,k,())=Blk.mk p l o f x y k:=rfl
def aat(l:List Cer):Prop:=l.length<=3/\∀q∈l,chk q.base q.made=true
structure Ren(s:Int->Int)(t:Int->Int)(n:Int):Prop where
 rng:∀k,0<=k->k<n->0<=s k/\s k<=199
 back:∀k,0<=k->k<n->t (s k)=k
def mapM(s:Int->Int)(m:ak):ak:=⟨m.bL,nH (m.atoms.map s)⟩
def ag9{p1 f1}(U1:Y13 p1 f1)(a:List (List ak))(ha:ShP a):Rw.F (p1,f1,()) (a,()) (λy=>y=(a,())):=by
 have hlen:=ha.1;dsimp only [Rw,gm];refine aG (λ(y:List (List ak)×Int×List (List ak)×Unit)=>y.1=a/\y.2.2.1=a.take y.2.1.toNat/\0<=y.2.1/\y.2.1<=a.length) (λy=>(a.length-y.2.1).toNat) ⟨rfl,by simp,by simp,by simp⟩ ?_;rintro⟨(l:List (List ak)),(i:Int),(o:List (List ak)),⟨⟩⟩ hI;dsimp only at hI ⊢;obtain⟨rfl,rfl,h1,h2⟩:=hI;simp (disch:=omega) only [RR,U1 _ (ha.at _)];refine⟨λh4=>⟨ah,ah,?_,⟨gT h1 h4 rfl,ah,ah⟩,ah⟩,λh4=>by rw [List.take_of_length_le ah]⟩;have:=List.length_take_le' i.toNat l;simp only [List.length_cons,List.length_nil];omega
def aha(k:Int)(l:List (List ak)):Rs.F () (k,l,()) (λy=>y=(if k<0\/(l.length:Int)<=k then []else((l).getD (k).toNat default),l,())):=by
 dsimp only [Rs,gm];simp (disch:=omega) only [RR];refine⟨λh=>by rw [if_pos ah],λh=>⟨ah,ah,ah,ah,by rw [if_neg ah]⟩⟩
def rO(l:List Ev)(k:Int):Int:=((l.filter λe=>decide (e.kind=k)).length:Int)
def w9(l:List Ev)(e:Ev)(k:Int):rO (l++ [e]) k=if e.kind=k then rO l k+1 else rO l k:=by
 unfold rO;rw [List.filter_append,List.length_append];by_cases c:e.kind=k
 .rw [if_pos c,List.filter_cons_of_pos (by simpa using c)];simp
 .rw [if_neg c,List.filter_cons_of_neg (by simpa using c)];simp
def ahb(l:List Ev)(k:Int)(hl:l.length<1000000000):Rt.F () (l,k,()) (λy=>y=(rO l k,())):=by
 dsimp only [Rt,gm];refine aG (λ(y:List Ev×Int×Int×Int×Unit)=>y.1=l/\y.2.1=k/\y.2.2.1=rO (l.take y.2.2.2.1.toNat) k/\0<=y.2.2.2.1/\y.2.2.2.1<=l.length) (λy=>(l.length-y.2.2.2.1).toNat) ⟨rfl,rfl,by simp;rfl,by simp,by simp⟩ ?_;rintro⟨(l:List Ev),(k:Int),(n:Int),(i:Int),⟨⟩⟩ hI;dsimp only at hI ⊢;obtain⟨rfl,rfl,rfl,h1,h2⟩:=hI;have b:0<=rO (l.take i.toNat) k/\rO (l.take i.toNat) k<=i:=by
  unfold rO;have:=List.length_filter_le (λe:Ev=>decide (e.kind=k)) (l.take i.toNat);have:=List.length_take_le i.toNat l;omega
 simp (disch:=omega) only [RR,RB];refine⟨λh4=>⟨ah,ah,?_⟩,λh4=>by rw [List.take_of_length_le ah]⟩;have e:l.take (i+1).toNat=l.take i.toNat++ [((l).getD (i).toNat default)]:=by rw [show(i+1).toNat=i.toNat+1 by omega,List.take_succ_eq_append_getElem ah,getD_lt (show i.toNat<l.length by omega)]
 refine⟨λg=>⟨⟨?_,ah,ah⟩,ah⟩,λg=>⟨⟨?_,ah,ah⟩,ah⟩⟩
 .rw [e,w9,if_pos g]
 .rw [e,w9,if_neg g]
def ahc{p1 f1 p2 f2}{p3:List Ev×Int×Unit->Bool}{f3:List Ev×Int×Unit->Int×Unit}(U1:Y28 p1 f1)(U2:Y35 p2 f2)(U3:∀l k,l.length<1000000000->p3 (l,k,())=true/\f3 (l,k,())=(rO l k,()))(l:List Ev)(k:Int)(t:List Atom)(hl:l.length<1000000000)(ht:ShT t)(hk:aR t):Rv.F (p1,f1,p2,f2,p3,f3,()) (l,k,t,()) (λy=>y=((cu t ⟨if k=6 then 3 else 2,rO l k,[],[]⟩).1,jN (cu t ⟨if k=6 then 3 else 2,rO l k,[],[]⟩).2,())):=by
 have sh:∀n:Int,ShA ⟨n,rO l k,[],[]⟩:=λn=>⟨⟨by simp,λm hm=>absurd hm (by simp)⟩,⟨by simp,λm hm=>absurd hm (by simp)⟩⟩
 dsimp only [Rv,gm];simp (disch:=omega) only [RR,U3 l k hl,U2 _ t (sh _) ht hk,U1];exact⟨λh=>by rw [if_pos h],λh=>by rw [if_neg h]⟩
def ahd{p1 f1 p2 f2}(U1:Y13 p1 f1)(U2:Y56 p2 f2)(o:IOp)(x y:List ak)(r:List (List ak))(hx:Sh x)(hy:Sh y)(hr:ShP r):Rx.F (p1,f1,p2,f2,()) (o,x,y,r,()) (λz=>z=(o.kind,o.at_,if o.kind=6 then []else x,if o.kind=5 then y else [],if o.kind=4\/o.kind=5 then r else [],())):=by
 dsimp only [Rx,gm];simp (disch:=omega) only [RR,RB,U1 x hx,U1 y hy,U2 r hr];refine⟨λh=>⟨λg=> ?_,λg=> ?_⟩,λh=>⟨λg=> ?_,λg=> ?_⟩⟩
 all_goals refine⟨λk=> ?_,λk=> ?_⟩
 all_goals first | rw [if_pos h] | rw [if_neg h]
 all_goals first | rw [if_pos g] | rw [if_neg g]
 all_goals first | rw [if_pos k] | rw [if_neg ah]
def ahe(s:Sym)(k:Int):RA.F () (s,k,()) (λy=>y=(s.events,s.regs,1,k,())):=by
 dsimp only [RA,gm];simp (disch:=omega) only [RR,RB]
def ahf(b:Blk):Ry.F () (b,()) (λy=>y=(if b.fin=1 then-1 else b.x,())):=by
 dsimp only [Ry,gm];simp (disch:=omega) only [RR,RB];exact⟨λh=>by rw [if_pos h],λh=>by rw [if_neg h]⟩
def ahg(b:Blk):Rz.F () (b,()) (λy=>y=(if b.fin=1\/b.fin=2 then-1 else b.y,())):=by
 dsimp only [Rz,gm];simp (disch:=omega) only [RR,RB];exact⟨λh=>by rw [if_pos h],λh=>by rw [if_neg ah]⟩
abbrev aj3(pp:Sym×Int×Unit->Bool)(ff:Sym×Int×Unit->List Ev×List (List ak)×Int×Int×Unit):Prop:=∀s k,pp (s,k,())=true/\ff (s,k,())=(s.events,s.regs,1,k,())
def ahh{p1 f1 p2 f2 p3 f3}(U1:Y27 p1 f1)(U2:Y8 p2 f2)(U3:aj3 p3 f3)(s:Sym)(n:Int)(hs:ShY s)(hx:aV s.x)(hy:aV s.y)(hf:s.fin=3\/s.fin=4):RD.F (p1,f1,p2,f2,p3,f3,()) (s,n,()) (λy=>y=(symEnd s n,())):=by
 dsimp only [RD,gm];simp (disch:=omega) only [RR,RB,U1 _ hs.x,U1 _ hs.y,U2 _ _ hs.x,U3];have z:iD s.x s.y=0↔s.x=s.y:=sU;have key:(bI s.x).2=true->(bI s.y).2=true->(bI s.x).1=(bI s.y).1->s.x=s.y:=λa b c=>(um a).2.1.trans ((congrArg gF c).trans (um b).2.1.symm)
 unfold symEnd;rw [eO ⟨hx,hy⟩,if_neg (show¬(true=false) by decide),if_neg (show¬(s.fin=2/\(bI s.x).2=true) by omega),if_neg (show¬(s.fin≠3/\s.fin≠4) by omega)];simp only [z];by_cases c:s.x=s.y
 .have l:¬(bI s.x).1< (bI s.y).1:=by rw [c];omega
  rcases hf with f | f<;>simp [c,f]
 .rcases hf with f | f<;>by_cases nx:(bI s.x).2=true<;>by_cases ny:(bI s.y).2=true<;>by_cases l:(bI s.x).1< (bI s.y).1<;>by_cases g:0<iD s.x s.y<;>simp [c,f,nx,ny,l,g]
  all_goals rw [if_neg λe=>c (key nx ny e)]
def ahi{p1 f1 p2 f2 p3 f3 p4 f4 p6 f6}{p5:Sym×Int×Unit->Bool}{f5:Sym×Int×Unit->Sym×Unit}(U1:Y27 p1 f1)(U2:Y11 p2 f2)(U3:Y13 p3 f3)(U4:aj3 p4 f4)(U5:∀s n,ShY s->aV s.x->aV s.y->(s.fin=3\/s.fin=4)->p5 (s,n,())=true/\f5 (s,n,())=(symEnd s n,()))(U6:Y56 p6 f6)(s:Sym)(n:Int)(hs:ShY s):RF.F (p1,f1,p2,f2,p3,f3,p4,f4,p5,f5,p6,f6,()) (s,n,()) (λy=>y=(symEnd s n,())):=by
 dsimp only [RF,gm];simp (disch:=omega) only [RR,RB,U2 _ hs.x,U2 _ hs.y];have le:=hs.e.1;have no:(bp (aV s.x)=false\/bp (aV s.y)=false)->symEnd s n=Ll:=λh=>by
  unfold symEnd;rw [if_pos];rw [Ca];rcases h with h | h<;>rw [h]<;>simp
 refine⟨λh=>by rw [no h];rfl,λh=> ?_⟩;have hx:=bD.1 h.1;have hy:=bD.1 h.2;refine aG (λ(y:Int×Int×Sym×Int×Int×List (List ak)×Int×List ak×List ak×Int×List Ev×Unit)=>y.1=n/\y.2.2.1=s/\y.2.2.2.2.2.2.1=s.fin/\y.2.2.2.2.2.2.2.2.2.1=s.k/\0<=y.2.1/\y.2.1<=s.events.length/\y.2.2.2.2.2.2.2.2.2.2.1=s.events.take y.2.1.toNat) (λy=>(s.events.length-y.2.1).toNat) ⟨rfl,rfl,rfl,rfl,by simp,by simp,by simp⟩ ?_;rintro⟨(n':Int),(i:Int),(s':Sym),(z1:Int),(z2:Int),(z3:List (List ak)),(fin:Int),(z4:List ak),(z5:List ak),(k:Int),(ev:List Ev),⟨⟩⟩ hI;dsimp only at hI ⊢;obtain⟨rfl,rfl,rfl,rfl,h1,h2,rfl⟩:=hI;have E:=hs.e.at i.toNat;have tl:=List.length_take_le' i.toNat s'.events;by_cases g:i<s'.events.length
 .simp (disch:=omega) only [RR,RB,g,U3 _ E.1,U3 _ E.2.1,U6 _ E.2.2];exact⟨h1,by simp only [List.length_cons,List.length_nil];omega,⟨ah,ah,gT h1 g rfl⟩,ah⟩
 .have ef:s'.events.take i.toNat=s'.events:=List.take_of_length_le ah;rw [ef];simp (disch:=omega) only [RR,RB,g,U3 _ hs.x,U3 _ hs.y,U6 _ hs.r,U1 _ hs.x,U4];have b:¬bp (aV s'.x/\aV s'.y)=false:=by rw [eO ⟨hx,hy⟩];decide
  have P:=λf=>(U5 s' n' hs hx hy f).1
  have F:=λf=>(U5 s' n' hs hx hy f).2
  have pl:s'.fin≠3/\s'.fin≠4->¬(s'.fin=2/\(bI s'.x).2=true)->symEnd s' n'=s':=λc d=>by unfold symEnd;rw [if_neg b,if_neg d,if_pos c]
  refine⟨λf=>⟨λg=> ?_,λg=> ?_⟩,λf=>⟨λk=>⟨λ_=>⟨P (Or.inl k),?_⟩,λe=>absurd k e⟩,λk=>⟨λl=>⟨P (Or.inr l),?_⟩,λl=> ?_⟩⟩⟩
  .unfold symEnd;rw [if_neg b,if_pos ⟨f,g⟩]
  .rw [pl ah (by rw [g];simp)]
  .exact congrArg (λz=>(z.1,())) (F (Or.inl k))
  .exact congrArg (λz=>(z.1,())) (F (Or.inr l))
  .rw [pl ⟨k,l⟩ (λh=>f h.1)]
structure Cn(s:SS):Prop where
 ld:s.ld=rO s.evs 4
 inn:s.inn=rO s.evs 6
def Cn.stp{s:SS}(h:Cn s)(o:IOp):Cn (stp s o):=by
 constructor
 .show(if o.kind=4 then s.ld+1 else s.ld)=rO (nE s o) 4;unfold nE;by_cases c:evO o
  .rw [if_pos c,w9,h.ld]
  .rw [if_neg c,if_neg (λe=>c (by unfold evO;omega)),h.ld]
 .show(if o.kind=6 then s.inn+1 else s.inn)=rO (nE s o) 6;unfold nE;by_cases c:evO o
  .rw [if_pos c,w9,h.inn]
  .rw [if_neg c,if_neg (λe=>c (by unfold evO;omega)),h.inn]
def Cn.run:∀(l:List IOp) (s:SS),Cn s->Cn (l.foldl Go.TX.F.stp s)
 | [],_,h=>h
 | o::r,s,h=>Cn.run r _ (h.stp o)
structure Pt2(t:List Atom)(b:Blk)(i:Nat)(tb:List Atom)(V:List (List ak))(ev:List Ev)(rg:List (List ak)):Prop where
 tb:tb=(SW t b i).t
 V:V=(SW t b i).vals
 ev:ev=(SW t b i).evs
 rg:rg=(SW t b i).regs
def Pt2.next{t:List Atom}{b:Blk}{i:Nat}{tb:List Atom}{V:List (List ak)}{ev:List Ev}{rg:List (List ak)}(h:Pt2 t b i tb V ev rg)(hi:i<b.ops.length){o:IOp}(ho:b.ops.getD i default=o)
  {v:List ak} {tb':List Atom} {ev':List Ev} {rg':List (List ak)} (h3:tb'=nT (SW t b i) o) (h4:v=nV (SW t b i) o) (h5:ev'=nE (SW t b i) o) (h6:rg'=nR (SW t b i) o):Pt2 t b (i+1) tb' (V++ [v]) ev' rg':=by
 have e:=Uu (t:=t) hi;rw [ho]at e;refine⟨?_,?_,?_,?_⟩<;>rw [e]
 .exact h3
 .rw [h.V,h4];rfl
 .exact h5
 .exact h6
def Ht{α:Type}{l:List α}{i:Nat}(h:i<l.length)(v:α):(l.set i v).take (i+1)=l.take i++ [v]:=by
 rw [List.take_succ_eq_append_getElem (by rw [List.length_set];exact h),List.getElem_set_self,List.take_set_of_le (Nat.le_refl _)]
abbrev al8(pp:Sym×Int×Unit->Bool)(ff:Sym×Int×Unit->Sym×Unit):Prop:=∀s n,ShY s->pp (s,n,())=true/\ff (s,n,())=(symEnd s n,())
set_option maxHeartbeats 1000000 in
def ahj{p1 f1 p2 f2 p3 f3 p4 f4 p5 f5 p6 f6 p7 f7 p8 f8 p10 f10 p14 f14}{p9:Int×List ak×List ak×List Atom×Unit->Bool}{f9:Int×List ak×List ak×List Atom×Unit->List Atom×List ak×Unit}{p11:List Ev×Int×List Atom×Unit->Bool}{f11:List Ev×Int×List Atom×Unit->List Atom×List ak×Unit}{p12:IOp×List ak×List ak×List (List ak)×Unit->Bool}{f12:IOp×List ak×List ak×List (List ak)×Unit->Int×Int×List ak×List ak×List (List ak)×Unit}{p13:Int×List (List ak)×Unit->Bool}{f13:Int×List (List ak)×Unit->List ak×List (List ak)×Unit}{p15:Blk×Unit->Bool}{f15:Blk×Unit->Int×Unit}{p16:Blk×Unit->Bool}{f16:Blk×Unit->Int×Unit}(U1:Y60 p1 f1)(U2:Y28 p2 f2)(U3:Y22 p3 f3)(U4:al8 p4 f4)(U5:Y44 p5 f5)(U6:Y29 p6 f6)(U7:Y13 p7 f7)(U8:Y31 p8 f8)(U9:∀op x y t,(1<=op/\op<=5)->Sh x->Sh y->ShT t->aR t->p9 (op,x,y,t,())=true/\f9 (op,x,y,t,())=((tDo t op x y).1,(tDo t op x y).2,()))(U10:Y35 p10 f10)(U11:∀l k t,l.length<1000000000->ShT t->aR t->p11 (l,k,t,())=true/\f11 (l,k,t,())=((cu t ⟨if k=6 then 3 else 2,rO l k,[],[]⟩).1,jN (cu t ⟨if k=6 then 3 else 2,rO l k,[],[]⟩).2,()))(U12:∀o x y r,Sh x->Sh y->ShP r->p12 (o,x,y,r,())=true/\f12 (o,x,y,r,())=(o.kind,o.at_,if o.kind=6 then []else x,if o.kind=5 then y else [],if o.kind=4\/o.kind=5 then r else [],()))(U13:∀k l,p13 (k,l,())=true/\f13 (k,l,())=(if k<0\/(l.length:Int)<=k then []else((l).getD (k).toNat default),l,()))(U14:Y56 p14 f14)(U15:∀b,p15 (b,())=true/\f15 (b,())=(if b.fin=1 then-1 else b.x,()))(U16:∀b,p16 (b,())=true/\f16 (b,())=(if b.fin=1\/b.fin=2 then-1 else b.y,()))(t:List Atom)(b:Blk)(ht:ShT t)(hb:b.ops.length<1000000000):RG.F (p1,f1,p2,f2,p3,f3,p4,f4,p5,f5,p6,f6,p7,f7,p8,f8,p9,f9,p10,f10,p11,f11,p12,f12,p13,f13,p14,f14,p15,f15,p16,f16,()) (t,b,()) (λy=>y=((dI t b).1,(dI t b).2,())):=by
 have hlt:=ht.1;dsimp only [RG,gm];simp (disch:=omega) only [RR,RB,U6 t ht,U1 b hb,U8 t ht,(U5).1];by_cases c:aR t/\t.length<=100/\qI b
 case neg=>
  refine⟨λ_=> ?_,λh=> ?_⟩
  .unfold dI;rw [bU c];rfl
  .exact absurd ⟨bD.1 h.1.1,ah,bD.1 h.1.2⟩ c
 obtain⟨c1,c2,c3⟩:=c;simp (disch:=omega) only [RR,eO c1,eO c3];have sz:=c3.sz;have hop:=c3.op;have hk3:=c3.k3;have i0:=Jz c1 ah;obtain⟨_,g5,_⟩:=(U5).2;refine⟨λh=>absurd h ah,λ_=> ?_⟩;refine aG (λ(y:Int×Blk×Int×Int×Int×Int×List (List ak)×List Atom×Unit)=>0<=y.1/\y.1<=4/\y.2.1=b/\y.2.2.2.2.1=b.fin/\y.2.2.2.2.2.1=b.k/\y.2.2.2.2.2.2.1.length=4/\y.2.2.2.2.2.2.1.take y.1.toNat=(rN t y.1.toNat).2/\y.2.2.2.2.2.2.2.1=(rN t y.1.toNat).1) (λy=>(4-y.1).toNat) ⟨by simp,by simp,rfl,rfl,rfl,g5,by simp;rfl,rfl⟩ ?_;rintro⟨(r:Int),(b':Blk),(z1:Int),(z2:Int),(fin:Int),(kk:Int),(rg:List (List ak)),(tb:List Atom),⟨⟩⟩ hI;dsimp only at hI ⊢;obtain⟨r0,r1,rfl,rfl,rfl,r4,r5,rfl⟩:=hI;have ok:=Jy c1 ah r.toNat ah;have okl:=ok.tl;by_cases h:r<4
 .have sA:ShA ⟨1,r,[],[]⟩:=⟨⟨by simp,λm hm=>absurd hm (by simp)⟩,⟨by simp,λm hm=>absurd hm (by simp)⟩⟩;have er:((r.toNat:Nat):Int)=r:=by omega
  simp (disch:=omega) only [RR,h,U10 _ _ sA ok.tok.sh ok.tok,U2,r4,List.length_set];have es:rN t (r+1).toNat=((cu (rN t r.toNat).1 ⟨1,r,[],[]⟩).1,(rN t r.toNat).2++ [jN (cu (rN t r.toNat).1 ⟨1,r,[],[]⟩).2]):=by
   rw [show(r+1).toNat=r.toNat+1 by omega,Lv,er]
  refine⟨r0,ah,r0,ah,⟨ah,ah,?_,by rw [es]⟩,ah⟩;rw [es,show(r+1).toNat=r.toNat+1 by omega,Ht ah,r5]
 .have e4:r.toNat=4:=by omega
  rw [e4]at r5 ok;have eg:rg=(rN t 4).2:=by rw [<-r5,List.take_of_length_le ah]
  subst eg;rw [e4];simp (disch:=omega) only [RR,h];refine aG (λ(y:Int×Blk×Int×Int×Int×Int×List (List ak)×List (List ak)×List Atom×List Ev×Unit)=>0<=y.1/\y.1<=b'.ops.length/\y.2.1=b'/\y.2.2.2.2.1=b'.fin/\y.2.2.2.2.2.1=b'.k/\Pt2 t b' y.1.toNat y.2.2.2.2.2.2.2.2.1 y.2.2.2.2.2.2.2.1 y.2.2.2.2.2.2.2.2.2.1 y.2.2.2.2.2.2.1) (λy=>(b'.ops.length-y.1).toNat) ⟨by simp,by simp,rfl,rfl,rfl,⟨rfl,rfl,rfl,rfl⟩⟩ ?_;have siw:∀j:Nat,j<=b'.ops.length->SI (t.length+4) j (SW t b' j):=λj hj=>by
   have:=(yV (b'.ops.take j) 0 (s0 t) i0 (λo ho=>hk3 o (List.mem_of_mem_take ho)) (by rw [List.length_take];omega) (by rw [List.length_take];omega)).1;rw [List.length_take,Nat.min_eq_left hj,Nat.zero_add]at this;exact this
  rintro⟨(i:Int),(b:Blk),(z1:Int),(z2:Int),(fin:Int),(kk:Int),(rg:List (List ak)),(V:List (List ak)),(tb:List Atom),(ev:List Ev),⟨⟩⟩ hI;dsimp only at hI ⊢;obtain⟨h1,h2,rfl,rfl,rfl,hA⟩:=hI;have si:=siw i.toNat ah;have evl:=aar (t:=t) (b:=b) i.toNat ah;have cn:=Cn.run (b.ops.take i.toNat) (s0 t) ⟨rfl,rfl⟩;have cn:Cn (SW t b i.toNat):=cn;by_cases h7:i<b.ops.length
  case neg=>
   have en:=c3.en;have hf:=en.f;have hpc:=c3.pc;have hln:=c3.ln;have ein:i.toNat=b.ops.length:=by omega
   have eS:SW t b i.toNat=gZ t b:=by unfold SW gZ;rw [ein,List.take_of_length_le (Nat.le_refl _)]
   obtain⟨a3,a4,a5,a6⟩:=hA;rw [eS]at a3 a4 a5 a6 si;subst a3 a4 a5 a6;have pk:=D6 (b:=b) si;have eR:=yX c1 c2 c3;have sh:ShY (qJ b (gZ t b)):=by
    have hs:=Gd b.ops 0 (s0 t) i0 hk3 ah ah ⟨by simp [s0],λe he=>absurd he (by simp [s0])⟩;exact⟨⟨by have:=hs.1;show(b.ops.foldl stp (s0 t)).evs.length<_;omega,hs.2⟩,si.regs,pk.1.sh,pk.2.sh⟩
   have sl:=si.vl;have x1:=en.x1;have y1:=en.y1;have EX:f13 (if b.fin=1 then-1 else b.x,(gZ t b).vals,())=((qJ b (gZ t b)).x,(gZ t b).vals,()):=by
    rw [(λz1 z2=>(U13 z1 z2).2)];show _=(if b.fin=1 then []else(((gZ t b).vals).getD (b.x).toNat default),_);by_cases c:b.fin=1
    .rw [if_pos c,if_pos c,if_pos ah]
    .obtain⟨v1,v2,_⟩:=x1 c;rw [if_neg c,if_neg c,if_neg ah]
   have EY:f13 (if b.fin=1\/b.fin=2 then-1 else b.y,(gZ t b).vals,())=((qJ b (gZ t b)).y,(gZ t b).vals,()):=by
    rw [(λz1 z2=>(U13 z1 z2).2)];show _=(if 3<=b.fin then(((gZ t b).vals).getD (b.y).toNat default)else [],_);by_cases c:b.fin=1\/b.fin=2
    .rw [if_pos c,if_pos (Or.inl (by decide)),if_neg (show¬3<=b.fin by omega)]
    .obtain⟨v1,v2,_⟩:=y1 ah;rw [if_neg c,if_neg (show¬(b.y<0\/((gZ t b).vals.length:Int)<=b.y) by omega),if_pos (show 3<=b.fin by have:=hf;omega)]
   have shr:ShP (gZ t b).regs:=sh.r;simp (disch:=omega) only [RR,RB,h7,U14 _ shr,U15,U16,(λz1 z2=>(U13 z1 z2).1),EX,EY,U7 _ sh.x,U7 _ sh.y];exact⟨(U4 _ _ sh).1,by rw [eR];exact congrArg (λz=>((gZ t b).t,z.1,())) ((U4 (qJ b (gZ t b)) (b.pc+b.len) sh).2)⟩
  have hok:=hop i h1 h7;have nxt:=λ{v:List ak} {tb':List Atom} {ev':List Ev} {rg':List (List ak)}=>Pt2.next (o:=((b.ops).getD (i).toNat default)) hA ah rfl (v:=v) (tb':=tb') (ev':=ev') (rg':=rg')
  obtain⟨a3,a4,a5,a6⟩:=hA;have ei:(i+1).toNat=i.toNat+1:=by omega
  obtain⟨sn,so⟩:=Gc (o:=((b.ops).getD (i).toNat default)) si hok.k3 ah ah;have vl:=si.vl;have shv:∀k:Int,Sh (if k<0\/(V.length:Int)<=k then []else((V).getD (k).toNat default)):=λk=>by
   split
   .exact⟨by simp,λm hm=>absurd hm (by simp)⟩
   .rw [a4];exact(Ci si.vok k).1.sh
  obtain⟨X,eX⟩:∃X,X=if(((b.ops).getD (i).toNat default)).x<0\/(V.length:Int)<=(((b.ops).getD (i).toNat default)).x then []else((V).getD ((((b.ops).getD (i).toNat default)).x).toNat default):=⟨_,rfl⟩
  obtain⟨Y,eY⟩:∃Y,Y=if(((b.ops).getD (i).toNat default)).y<0\/(V.length:Int)<=(((b.ops).getD (i).toNat default)).y then []else((V).getD ((((b.ops).getD (i).toNat default)).y).toNat default):=⟨_,rfl⟩
  have F1:f13 ((((b.ops).getD (i).toNat default)).x,V,())=(X,V,()):=by rw [(λz1 z2=>(U13 z1 z2).2),eX]
  have F2:f13 ((((b.ops).getD (i).toNat default)).y,V,())=(Y,V,()):=by rw [(λz1 z2=>(U13 z1 z2).2),eY]
  have shx:Sh X:=eX▸shv _;have shy:Sh Y:=eY▸shv _;have ex:hX ((b.ops).getD (i).toNat default)->X=xOf (SW t b i.toNat) ((b.ops).getD (i).toNat default):=λh=>by
   have v:=hok.x1 h;have v2:=v.2.1;unfold xOf;rw [if_pos h,eX,if_neg (by rw [a4,vl];have:=v.1;omega),a4]
  have ey:hY ((b.ops).getD (i).toNat default)->Y=yOf (SW t b i.toNat) ((b.ops).getD (i).toNat default):=λh=>by
   have v:=hok.y1 h;have v2:=v.2.1;unfold yOf;rw [if_pos h,eY,if_neg (by rw [a4,vl];have:=v.1;omega),a4]
  clear eX eY shv
  have vl':V.length=i.toNat:=by rw [a4];exact vl
  generalize hs:SW t b i.toNat=s at*;generalize ho:((b.ops).getD (i).toNat default)=o at*;have kd:=hok.kd;subst a3 a5 a6;have r4:s.regs.length=4:=si.r4;have tsh:=si.tok.sh;have cnl:=cn.ld;have cni:=cn.inn;have rsh:ShP s.regs:=si.regs;have dn:=λ{v:List ak} {tb':List Atom} {ev':List Ev} {rg':List (List ak)} (h3:tb'=nT s o) (h4:v=nV s o) (h5:ev'=nE s o) (h6:rg'=nR s o)=>show((V.length:Int)+([v].length:Int)<=1073741824)/\(0<=i+1/\i+1<=b.ops.length/\Pt2 t b (i+1).toNat tb' (V++ [v]) ev' rg')/\(b.ops.length- (i+1)).toNat< (b.ops.length-i).toNat from⟨by simp only [List.length_cons,List.length_nil];omega,⟨ah,ah,by rw [ei];exact nxt h3 h4 h5 h6⟩,ah⟩
  have el1:∀e:Ev,(s.evs.length:Int)+([e].length:Int)<=1073741824:=λe=>by simp only [List.length_cons,List.length_nil];omega
  have T0:o.kind≠3->o.kind≠4->o.kind≠6->s.t=nT s o:=λh3 h4 h6=>by unfold nT;rw [if_neg h3,if_neg ah]
  have R0:o.kind≠8->s.regs=nR s o:=λh=>by unfold nR;rw [if_neg h]
  have E0:¬evO o->s.evs=nE s o:=λh=>by unfold nE;rw [if_neg h]
  have V0:o.kind=5\/o.kind=7\/o.kind=8->[]=nV s o:=λh=>by unfold nV;rw [if_neg ah,if_neg ah,if_neg ah,if_neg ah]
  rcases(by omega:o.kind=1\/o.kind=2\/o.kind=3\/o.kind=4\/o.kind=5\/o.kind=6\/o.kind=7\/o.kind=8)with c | c | c | c | c | c | c | c
  .simp (disch:=omega) only [RR,RB,ho,h7,(λz1 z2=>(U13 z1 z2).1),F1,F2,c,Int.reduceEq,U3];exact⟨h1,dn (T0 ah ah ah) (show gF o.k=nV s o by unfold nV;rw [if_pos c]) (E0 (by unfold evO;omega)) (R0 ah)⟩
  .have k2:=hok.k2 (Or.inl c);simp (disch:=omega) only [RR,RB,ho,h7,(λz1 z2=>(U13 z1 z2).1),F1,F2,c,Int.reduceEq,r4];exact⟨h1,k2.1,ah,k2.1,ah,dn (T0 ah ah ah) (show((s.regs).getD (o.k).toNat default)=nV s o by unfold nV;rw [if_neg ah,if_pos c]) (E0 (by unfold evO;omega)) (R0 ah)⟩
  .have d9:=hok.k3 c;simp (disch:=omega) only [RR,RB,ho,h7,(λz1 z2=>(U13 z1 z2).1),F1,F2,c,Int.reduceEq,U9 o.k _ _ _ d9 shx shy tsh si.tok];have e1:=ex (by unfold hX;omega);have e2:=ey (by unfold hY;omega);exact⟨h1,dn (show(tDo s.t o.k X Y).1=nT s o by unfold nT;rw [if_pos c,e1,e2]) (show(tDo s.t o.k X Y).2=nV s o by unfold nV;rw [if_neg ah,if_neg ah,if_pos c,e1,e2]) (E0 (by unfold evO;omega)) (R0 ah)⟩
  .have el:s.evs.length<1000000000:=by omega
   have ea:aOf s o=⟨2,rO s.evs 4,[],[]⟩:=by unfold aOf;rw [if_pos c,cnl]
   have e1:=ex (by unfold hX;omega);have e2:yOf s o=[]:=by unfold yOf;rw [if_neg (by unfold hY;omega)]
   simp (disch:=omega) only [RR,RB,ho,h7,(λz1 z2=>(U13 z1 z2).1),F1,F2,c,Int.reduceEq,U11 s.evs 4 s.t el tsh si.tok,U12 o X Y s.regs shx shy rsh,el1];exact⟨h1,dn (by unfold nT;rw [if_neg ah,if_pos (Or.inl c),ea]) (by unfold nV;rw [if_neg ah,if_neg ah,if_neg ah,if_pos (Or.inl c),ea]) (by unfold nE;rw [if_pos (by unfold evO;omega),if_pos (Or.inl c),c,e1,e2]) (R0 ah)⟩
  .have e1:=ex (by unfold hX;omega);have e2:=ey (by unfold hY;omega);simp (disch:=omega) only [RR,RB,ho,h7,(λz1 z2=>(U13 z1 z2).1),F1,F2,c,Int.reduceEq,U12 o X Y s.regs shx shy rsh,el1];exact⟨h1,dn (T0 ah ah ah) (V0 ah) (by unfold nE;rw [if_pos (by unfold evO;omega),if_pos (Or.inr c),c,e1,e2]) (R0 ah)⟩
  .have el:s.evs.length<1000000000:=by omega
   have ea:aOf s o=⟨3,rO s.evs 6,[],[]⟩:=by unfold aOf;rw [if_neg ah,cni]
   have e1:xOf s o=[]:=by unfold xOf;rw [if_neg (by unfold hX;omega)]
   have e2:yOf s o=[]:=by unfold yOf;rw [if_neg (by unfold hY;omega)]
   simp (disch:=omega) only [RR,RB,ho,h7,(λz1 z2=>(U13 z1 z2).1),F1,F2,c,Int.reduceEq,U11 s.evs 6 s.t el tsh si.tok,U12 o X Y s.regs shx shy rsh,el1];exact⟨h1,dn (by unfold nT;rw [if_neg ah,if_pos (Or.inr c),ea]) (by unfold nV;rw [if_neg ah,if_neg ah,if_neg ah,if_pos (Or.inr c),ea]) (by unfold nE;rw [if_pos (by unfold evO;omega),if_neg ah,c,e1,e2]) (R0 ah)⟩
  .have e1:=ex (by unfold hX;omega);have e2:yOf s o=[]:=by unfold yOf;rw [if_neg (by unfold hY;omega)]
   simp (disch:=omega) only [RR,RB,ho,h7,(λz1 z2=>(U13 z1 z2).1),F1,F2,c,Int.reduceEq,U12 o X Y s.regs shx shy rsh,el1];exact⟨h1,dn (T0 ah ah ah) (V0 ah) (by unfold nE;rw [if_pos (by unfold evO;omega),if_neg ah,c,e1,e2]) (R0 ah)⟩
  .have k2:=hok.k2 (Or.inr c);have e1:=ex (by unfold hX;omega);simp (disch:=omega) only [RR,RB,ho,h7,(λz1 z2=>(U13 z1 z2).1),F1,F2,c,Int.reduceEq,r4];exact⟨h1,k2.1,ah,k2.1,ah,dn (T0 ah ah ah) (V0 ah) (E0 (by unfold evO;omega)) (by unfold nR;rw [if_pos c,e1])⟩
def o5(o:IOp):Int×Int×Int×Int×Int×Unit:=(o.kind,o.x,o.y,o.k,o.at_,())
def aj4(a b:IOp):Z0.F () (a,b,()) (λy=>y=(bp (a=b),())):=by
 dsimp only [Z0,gm];simp (disch:=omega) only [RR,RB];refine⟨λh=> ?_,λh=>⟨λh2=> ?_,λh2=>⟨λh3=> ?_,λh3=>⟨λh4=> ?_,λh4=>⟨λh5=> ?_,λh5=> ?_⟩⟩⟩⟩⟩
 all_goals first | (rw [bU];rintro rfl;simp_all;done) | (rw [eO];cases a;cases b;simp_all)
def aj5{p1:IOp×IOp×Unit->Bool}{f1:IOp×IOp×Unit->Bool×Unit}(U1:∀a b,p1 (a,b,())=true/\f1 (a,b,())=(bp (a=b),()))(a b:List IOp)(hlen:a.length<1000000000):Z4.F (p1,f1,()) (a,b,()) (λy=>y=(bp (a=b),())):=by
 dsimp only [Z4,gm];simp (disch:=omega) only [RR];refine⟨λh=> ?_,λh=> ?_⟩
 .rw [bU (λe=>h (by rw [e]))]
 have hl:a.length=b.length:=by omega
 refine aG (λ(y:List IOp×List IOp×Int×Unit)=>y.1=a/\y.2.1=b/\0<=y.2.2.1/\y.2.2.1<=a.length/\All y.2.2.1 (λi=>a.getD i.toNat default=b.getD i.toNat default)) (λy=>(a.length-y.2.2.1).toNat) ⟨rfl,rfl,by simp,by simp,All.zero⟩ ?_;rintro⟨(l1:List IOp),(l2:List IOp),(i:Int),⟨⟩⟩ hI;dsimp only at hI ⊢;obtain⟨rfl,rfl,h1,h2,h3⟩:=hI;simp (disch:=omega) only [RR,U1,bD,iP];refine⟨λh4=>⟨ah,ah,ah,ah,λh5=> ?_,λh5=>⟨⟨ah,ah,h3.snoc h5⟩,ah⟩⟩,λh4=> ?_⟩
 .rw [bU];intro e;rw [e]at h5;exact h5 rfl
 .rw [eO (wX hl (h3.le ah))]
def aj6{p1 f1}(U1:Y92 p1 f1)(a b:Blk)(h:a.ops.length<1000000000):Z5.F (p1,f1,()) (a,b,()) (λy=>y=(bp (a=b),())):=by
 dsimp only [Z5,gm];simp (disch:=omega) only [RR,RB,U1 _ b.ops h,bD,iP];have e:a=b↔a.pc=b.pc/\a.len=b.len/\a.ops=b.ops/\a.fin=b.fin/\a.x=b.x/\a.y=b.y/\a.k=b.k:=by
  cases a;cases b;simp only [Blk.mk.injEq]
 by_cases e1:a.pc=b.pc
 .by_cases e2:a.len=b.len
  .by_cases e3:a.ops=b.ops
   .by_cases e4:a.fin=b.fin
    .by_cases e5:a.x=b.x
     .by_cases e6:a.y=b.y
      .by_cases e7:a.k=b.k
       .rw [eO (e.2 ⟨e1,e2,e3,e4,e5,e6,e7⟩)];simp [e1,e2,e3,e4,e5,e6,e7]
       .rw [bU (λg=>e7 (e.1 g).2.2.2.2.2.2)];simp [e7]
      .rw [bU (λg=>e6 (e.1 g).2.2.2.2.2.1)];simp [e6]
     .rw [bU (λg=>e5 (e.1 g).2.2.2.2.1)];simp [e5]
    .rw [bU (λg=>e4 (e.1 g).2.2.2.1)];simp [e4]
   .rw [bU (λg=>e3 (e.1 g).2.2.1)];simp [e3]
  .rw [bU (λg=>e2 (e.1 g).2.1)];simp [e2]
 .rw [bU (λg=>e1 (e.1 g).1)];simp [e1]
def szL(n m:Int):Int:=if m-n<0 then-1 else m-n
def aj7(l:List IOp)(m:Int)(h:l.length<9223372036854775808)(h0:0<=m)(h1:m<=1048576):ZL.F () (l,m,()) (λy=>y=(szL l.length m,())):=by
 dsimp only [ZL,gm];simp (disch:=omega) only [RR];unfold szL;refine⟨λg=>by rw [if_pos g],λg=>by rw [if_neg ah]⟩
def aau{n:Nat}{m:Int}(h1:m<=1048576):(szL n m<0->szL n m= -1)/\(0<=szL n m->(n:Int)<=1048576/\szL n m<=1048576):=by
 unfold szL;split<;>exact⟨λ_=>by omega,λ_=>by omega⟩
def aj8{p1:List IOp×Int×Unit->Bool}{f1:List IOp×Int×Unit->Int×Unit}(U1:∀l m,l.length<9223372036854775808->0<=m->m<=1048576->p1 (l,m,())=true/\f1 (l,m,())=(szL l.length m,()))(b:Blk)(m:Int)(h:b.ops.length<9223372036854775808)(h0:0<=m)(h1:m<=1048576):ZM.F (p1,f1,()) (b,m,()) (λy=>y=(szL b.ops.length m,())):=by
 dsimp only [ZM,gm];simp (disch:=omega) only [RR,RB,U1 _ m h h0 h1];exact λg=>by rw [(aau h1).1 g]
end Go.TX.F
