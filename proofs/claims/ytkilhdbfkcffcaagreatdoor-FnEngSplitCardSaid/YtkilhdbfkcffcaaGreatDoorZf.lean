/- Part 6 of a proof: what the last part needs. No condition. -/
import Derived.Test.YtkilhdbfkcffcaaGreatDoorZe
import Derived.ChangeSlices
import Derived.ChangeSame
import Derived.JoinedOf
import Derived.JoinedAt
import Derived.Handed
import Derived.Below
import Derived.Carry
import Derived.OpenShut
import Derived.ChangeKeysEq
import Derived.Deep.Slices
import Derived.OpenVars
import Derived.LaidMore
import Derived.MakeChecks
import Derived.Test.YtkilhdbfkcffcaaGreatDoorY
set_option maxHeartbeats 1000000
set_option linter.all false
set_option linter.unusedSectionVars false
set_option linter.unusedVariables false
set_option linter.unusedSimpArgs false
namespace Go.TX
open Go Go.AE
variable{P:Program}{f:FuncId}{E:Tab}{v:Value}{W:World}
def enters_of{b:Func}{c:Code}(e:P.funcs[f]? =some b)(a:(b.name== "runtime.NumGoroutine")=false)(h:b.body=some c):Enters P f:=by
 intro d w;have g:b.name≠ "runtime.NumGoroutine" :=by simpa using a
 simp [callFunc,e,g,h,mark]
def ac8(P:Program):Nat->List Field->Bool
 | _,[]=>true
 | k,f::fs=> !(f.name== "_")&&f.offset==k&& (match P.underlying f.type with | some (.int _)=>true | _=>false)&&ac8 P (k+1) fs
def ac9(w:World)(d:Nat)(xs a:List Int)(q:xs.length=a.length):∀(h:List Field) (k:Nat),ac8 P k h=true->k+h.length=xs.length->
  (Op.eqFields (d+1) (xs.map (Value.int .i64)).toArray (a.map (Value.int .i64)).toArray h).run P w= .ok (xs.drop k==a.drop k) w
 | [],k,_,h2=>by
  rw [List.drop_eq_nil_of_le (show xs.length<=k by simp only [List.length_nil]at h2;omega),List.drop_eq_nil_of_le (show a.length<=k by simp only [List.length_nil]at h2;omega)];simp [Op.eqFields]
 | f::h,k,h1,h2=>by
  simp only [List.length_cons]at h2;simp only [ac8,Bool.and_eq_true,Bool.not_eq_true',beq_eq_false_iff_ne,beq_iff_eq]at h1;obtain⟨⟨⟨s,m⟩,i⟩,o⟩:=h1;have hk:k<xs.length:=by omega
  have b:k<a.length:=by omega
  obtain⟨j,g⟩:∃j,P.underlying f.type=some (.int j):=by
   cases g:P.underlying f.type with
   | none=>rw [g]at i;cases i
   | some z=>cases z<;>(first | exact⟨_,rfl⟩ | (rw [g]at i;cases i))
  have l:P.plainKey f.type=true:=by unfold Program.plainKey;rw [g]
  have p:=run_part_plain w l (xs:=(xs.map (Value.int .i64)).toArray) (off:=f.offset) (v:= .int .i64 xs[k]) (by rw [m];simp [hk]);have n:=run_part_plain w l (xs:=(a.map (Value.int .i64)).toArray) (off:=f.offset) (v:= .int .i64 a[k]) (by rw [m];simp [b]);have r:=ac9 w d xs a q h (k+1) o ah;simp only [Op.eqFields,if_pos s,Sem.run_bind,p,n,Result.andThen_ok,run_equalIn_int w d f.type .i64 j _ _ g];have e:(xs.drop k==a.drop k)=((xs[k]==a[k])&& (xs.drop (k+1)==a.drop (k+1))):=by rw [List.drop_eq_getElem_cons hk,List.drop_eq_getElem_cons b];rfl
  rw [e];by_cases c:(xs[k]==a[k])=true
  .rw [c];simp only [Bool.not_true,Bool.false_eq_true,if_false,r,Bool.true_and]
  .have c2:(xs[k]==a[k])=false:=by simpa using c
   rw [c2];simp only [Bool.not_false,if_true,Sem.run_pure,Bool.false_and]
def auW{t:TypeId}{n:Nat}(d:P.underlying t=some (.struct (P.fieldsOf t)))(e:P.stoodInHeld t=false)(f:P.eqGuardType P.depth t=false)(c:ac8 P 0 (P.fieldsOf t).toList=true)(hn:(P.fieldsOf t).size=n)(b a:List Int)(h:b.length=n)(g:a.length=n)(w:World):
  (Op.equal t (.agg (b.map (Value.int .i64)).toArray) (.agg (a.map (Value.int .i64)).toArray)).run P w= .ok (b==a) w/\
  (eqGuard .eql t (.tmp 0) (.tmp 0) (.agg (b.map (Value.int .i64)).toArray) (.agg (a.map (Value.int .i64)).toArray)).run P w= .ok () w:=by
 refine⟨?_,run_eqGuard_agg w _ _ _ _ _ _ f⟩;show(Op.equalIn (9999+1) t _ _).run P w=_;rw [run_equalIn_struct w 9999 t _ _ d e,ac9 w 9998 b a ah _ 0 c (by rw [Array.length_toList];omega)];rfl
noncomputable def never (s:Sig):Ct aG s:={pre:=λ_=>false,fn:=λ_=>Classical.choice (yG _)}
def nH{s:Sig}(h:Enters E.P f):dL E f (dF (never s)) where
 enters:=h
 calls:=by
  rintro b g n K ⟨m,d,i,l,j,k,o,a,c,e⟩;exfalso;unfold vF at a;split at a
  .split at a
   .split at a
    .split at a
     .cases a;have:=c false (List.mem_append_right _ (List.mem_singleton.2 rfl));cases this
     .cases a
    .cases a
   .cases a
  .cases a
abbrev aAw:Sig:={args:=[.c (.rows true .u8)],objs:=[],res:=[.c .bool],dR:=[]}
abbrev aAx:Sig:={args:=[.c (.rows true .u8),.c (.rows true .u8)],objs:=[],res:=[.c .bool],dR:=[]}
def entry(W:World):Ctx:={K:=λ_ b=>b<W.heap.size,ν:=λ_=>none,n:=0}
def Kg(W:World):bM (entry W) W []:=
 ⟨λl o h=>(by cases h),λl o a c b h=>(by cases h),λf b ⟨l,o,h,_⟩=>(by cases h),λf b h=>h,λb h=>h⟩
def FX{W a:World}{c:Ctx}{b:Heap}(g:Grow (entry W) W [] c a b):RowKit.Below W.heap.size W a:=
 ⟨g.os,g.tape,g.output,g.size,λk hk=>g.kept k hk λ⟨l,o,h,_⟩=>by cases h⟩
def ada{c:Ctx}{w:World}{r:PV}{N:NM}{b:Bool}(f:bL c w v r)(a:PVR N r (.c (.d true (.bool b)))):v= .bool b:=by
 cases a with
 | one h=>
  cases h with
  | c h=>
   cases h with
   | d i _=>
    subst i;cases f with
    | c _ _ e=>cases e with
     | d _ _ _ g=>cases g;rfl
  | agg h=>cases h
def aAy{c:Ct aG aAw}(hc:dL E f (dF c)){a:List Int}(p:dH (λb=>b<W.heap.size) W v (.rows 1 (aM .u8 a)))
  (k:oZ E (entry W) W) (n:c.pre (a,())=true):Go.Calls E.P f #[v] W λe d=>e= .returned (.bool (c.fn (a,())).1)/\RowKit.Below W.heap.size W d:=by
 refine(hc.calls [.c (.d true (.rows 1 (aM .u8 a)))] [] 0 (λr _ _=>PVR (nmh []) r (.c (.d true (.bool (c.fn (a,())).1)))) ?_ (entry W) W [v] rfl (.cons (.c _ _ (.d true _ _ p)) .nil) (Kg W) k).mono ?_
 .refine⟨0,[.c (.d true (.rows .u8 a))],[],.cons (.one (.c (.d rfl λ_=> .inl rfl))) .nil,⟨λl o h=>(by cases h),λ_ _=>rfl⟩,rfl,_,rfl,?_,_,_,rfl,?_⟩
  .intro b hb;rcases List.mem_append.1 hb with h | h
   .cases h
   .rw [List.mem_singleton]at h;rw [h];exact n
  .intro r _ _ h _ _ _;exact h
 .rintro e d he;cases e with
  | returned u=>
   obtain⟨q,r,s,j,g,_,_,m,i⟩:=he;exact⟨by rw [ada m i],FX g⟩
  | outgrown=>exact he.elim
  | panicked _=>exact he.elim
def aAz{c:Ct aG aAx}(hc:dL E f (dF c)){a d:List Int}{v u:Value}(s:dH (λb=>b<W.heap.size) W v (.rows 1 (aM .u8 a)))(q:dH (λb=>b<W.heap.size) W u (.rows 1 (aM .u8 d)))
  (m:oZ E (entry W) W) (p:c.pre (a,d,())=true):Go.Calls E.P f #[v,u] W λe i=>e= .returned (.bool (c.fn (a,d,())).1)/\RowKit.Below W.heap.size W i:=by
 refine(hc.calls [.c (.d true (.rows 1 (aM .u8 a))),.c (.d true (.rows 1 (aM .u8 d)))] [] 0 (λr _ _=>PVR (nmh []) r (.c (.d true (.bool (c.fn (a,d,())).1)))) ?_ (entry W) W [v,u] rfl
  (.cons (.c _ _ (.d true _ _ s)) (.cons (.c _ _ (.d true _ _ q)) .nil)) (Kg W) m).mono ?_
 .refine⟨0,[.c (.d true (.rows .u8 a)),.c (.d true (.rows .u8 d))],[],.cons (.one (.c (.d rfl λ_=> .inl rfl))) (.cons (.one (.c (.d rfl λ_=> .inl rfl))) .nil),⟨λl o h=>(by cases h),λ_ _=>rfl⟩,rfl,_,rfl,?_,_,_,rfl,?_⟩
  .intro b hb;rcases List.mem_append.1 hb with h | h
   .cases h
   .rw [List.mem_singleton]at h;rw [h];exact p
  .intro r _ _ h _ _ _;exact h
 .rintro e i he;cases e with
  | returned u=>
   obtain⟨t,r,w,j,g,_,_,n,k⟩:=he;exact⟨by rw [ada n k],FX g⟩
  | outgrown=>exact he.elim
  | panicked _=>exact he.elim
open Go.RowKit Go.ChangeShapes Go.WideShapes Go.ChangeAt in
def Kh{H:Type}{enc:TypeId×Value->H}{t e:TypeId}(E:P.underlying t=some (.slice e))(N:P.underlying e=some (.int .u8))(hc:P.cellsOf e=1){o:Nat}{d:DataW H}{p:List MemPlace}
  (q:Value.okWide P W .any o t v) (h:DataW.Trod enc P W 0 (λ_=>true) true t v d p) (r:∀x∈p,x.block<W.heap.size):
  ∃G:List Int,dH (λb=>b<W.heap.size) W v (.rows 1 (aM .u8 G))/\∀z∈G,0<=z/\z<=255:=by
 obtain⟨O,len,u,rfl⟩:=okWide_slice E q;obtain⟨I,K⟩:=h;rcases open_ints E N hc K with⟨g,B⟩ | ⟨a,F,D,m,g,_,L,hm,y,B,f,A⟩
 .simp [Value.cells]at g;obtain⟨rfl,rfl,rfl⟩:=g;exact⟨[],.none _ _ _,λ_ h=>by cases h⟩
 .simp [Value.cells]at g;obtain⟨rfl,rfl,rfl⟩:=g;simp only [Prod.mk.injEq]at B;obtain⟨rfl,rfl⟩:=B;simp only [if_true]at y;have s:∀z∈m,0<=z/\z<=255:=λz y=>by
   obtain⟨i,k,rfl⟩:=List.getElem_of_mem y;have:=range_u8 A i
   rwa [List.getElem?_eq_getElem k]at this
  refine⟨m.take len,?_,λz h=>s z (List.mem_of_mem_take h)⟩;by_cases J:len=0
  .subst J;exact .none _ _ _
  .obtain⟨b,off,spot⟩:=a;have n:spot=none:=by simpa [Addr.add]using World.cell?_spot (f 0 ah)
   subst n;have w:b<W.heap.size:=r (.cell b off) (MemPlace.mem_row.2 ⟨0,ah,by simp⟩);have c:(aM .u8 (m.take len)).length=len:=by simp only [aM,List.length_map,List.length_take];omega
   have l:∀i,i<len->(aM .u8 (m.take len)).getD i []=[.int .u8 (m.getD i 0)]:=λi k=>by
    simp only [aM,List.getD,List.getElem?_map,List.getElem?_take_of_lt k,List.getElem?_eq_getElem (show i<m.length by omega)];rfl
   refine .rows b off u 1 len _ (λi j=> .int .u8 (m.getD i 0)) w c.symm L (λi j k M=> ?_) (λi k=> ?_) (λi j k M=> ?_)
   .rw [c]at k;have:=f i ah;rw [add_plain]at this;rw [show off+i*1+j=off+i by omega];exact this
   .rw [c]at k;rw [l i k];rfl
   .rw [c]at k;have C:j=0:=by omega
    subst C;unfold gd;rw [l i k];exact .int _ _
end Go.TX
namespace Go.TX
open Go Go.AE Go.ChangeShapes Go.WideShapes Go.ChangeAt List
theorem QC{w:World}{a:Addr}{v:Value}(h:w.cell? a=some v):a.block<w.heap.size:=by
 unfold World.cell? at h;cases hb:w.heap[a.block]? with
 | none=>rw [hb]at h;simp at h
 | some o=>exact(Array.getElem?_eq_some_iff.1 hb).1
section
variable {H:Type} {enc:TypeId×Value->H} {P:Program} {W:World} {sp:Nat->Bool} {hd:Bool}
def aza:DataW H->Bool
 | .lit (.bool b)=>b
 | _=>default
def dA:DataW H->Int
 | .lit (.int _ n)=>n
 | _=>default
def ajk:DataW H->ByteArray
 | .lit (.string b)=>⟨b.toArray⟩
 | _=>default
def auX{α:Type}(f:DataW H->α):DataW H->List α
 | .slice l _=>l.map f
 | _=> []
def auY:DataW H->Form
 | .agg [a,b,n,s]=>⟨aza a,aza b,dA n,auX ajk s⟩
 | _=>default
variable (enc P W sp hd) in
def ED(c:Co)(dec:DataW H->c.den)(t:TypeId):Prop:=∀a cs x,DataW.trod enc P W 0 sp hd a t cs=some x->F2 (dH (λb=>b<W.heap.size) W) cs (c.row (dec x.1))
theorem azb{α β:Type}{R:α->β->Prop}{l:List α}{m:List β}(h:F2 R l m){j:Nat}(a:α)(b:β)(c:j<m.length):R (l.getD j a) (m.getD j b):=by
 obtain⟨x,e,d⟩:=F2.get h (getElem?_eq_getElem c);rw [getD_eq_getElem?_getD,e,getD_eq_getElem?_getD,getElem?_eq_getElem c];exact d
theorem ajl{c:Co}{dec:DataW H->c.den}{t e:TypeId}(J:P.underlying t=some (.slice e))(hc:P.cellsOf e=c.size)(E:0<c.size)(hE:ED enc P W sp hd c dec e){u:Nat}{cs:List Value}{x:DataW H×List MemPlace}
  (h:DataW.trod enc P W 0 sp hd u t cs=some x):∃v,cs=[v]/\dH (λb=>b<W.heap.size) W v (.rows c.size (aM c (auX dec x.1))):=by
 rcases Deep.open_slice J h with⟨rfl,rfl⟩ | ⟨a,len,z,m,n,D,N,rfl,_,L,hm,w,rfl,M⟩
 .exact⟨_,rfl,.none _ _ _⟩
 have O:len<=m:=by rw [w];split<;>omega
 have p:∀i,i<len->∃q:List Value,W.cells? 0 (a.add (i*c.size)) c.size=some q/\F2 (dH (λb=>b<W.heap.size) W) q (c.row (dec (D i))):=λi d=>by
  obtain⟨s,K,G⟩:=M i ah;exact⟨s,by rw [<-hc];exact K,hE n s _ G⟩
 obtain⟨q,y⟩:=Deep.choose_lt p;refine⟨_,rfl,?_⟩;by_cases I:len=0
 .subst I;exact .none _ _ _
 obtain⟨b,r,g⟩:=a;have cell:∀i j,i<len->j<c.size->W.cell? (((⟨b,r,g⟩:Addr).add (i*c.size)).add j)=(q i)[j]? :=λi j d o=>(World.cells?_some (y i d).1).2.2 j o
 have C:∀i,i<len->(q i).length=c.size:=λi d=>(World.cells?_some (y i d).1).2.1
 have B:=cell 0 0 ah E;rw [getElem?_eq_getElem (by rw [C 0 ah];exact E)]at B;have l:g=none:=by simpa [Addr.add]using World.cell?_spot B
 subst l;have A:b<W.heap.size:=by have:=QC B;simpa [Addr.add]using this
 have F:auX dec (.slice ((range len).map D) ((range (m-len)).map λj=>D (len+j)))=(range len).map λi=>dec (D i):=by show((range len).map D).map dec=_;rw [map_map];rfl
 dsimp only;rw [F];have f:(aM c ((range len).map λi=>dec (D i))).length=len:=by rw [aM,length_map,length_map,length_range]
 have k:∀i,i<len->(aM c ((range len).map λi=>dec (D i))).getD i []=c.row (dec (D i)):=λi d=>by
  rw [getD_eq_getElem?_getD,aM,map_map,getElem?_map,getElem?_range d];rfl
 refine .rows b r z c.size len _ (λi j=>(q i).getD j undef) A f.symm L (λi j d o=> ?_) (λi d=> ?_) (λi j d o=> ?_)
 .rw [f]at d;have:=cell i j d o;rw [add_plain,add_plain]at this;rw [this,getD_eq_getElem?_getD,getElem?_eq_getElem (by rw [C i d];exact o)];rfl
 .rw [f]at d;rw [k i d];exact vH c _
 .rw [f]at d;unfold gd;rw [k i d];exact azb (y i d).2 _ _ (by rw [vH];exact o)
theorem auZ{t:TypeId}(b:P.underlying t=some .string):ED enc P W sp hd .str ajk t:=by
 intro a cs x h;obtain⟨s,rfl,rfl,_⟩:=DataW.trod_string b h;have e:ajk (.lit (.string s.data.toList):DataW H)=s:=by unfold ajk;simp
 dsimp only;rw [e];exact .cons (.str s) .nil
theorem adb{t i e j l:TypeId}{a b f g:Field}(D:P.underlying t=some (.struct #[a,b,f,g]))(hn:P.cellsOf t=4)(o:a.offset=0/\b.offset=1/\f.offset=2/\g.offset=3)(y:a.type=e/\b.type=e/\f.type=j/\g.type=i)
  (z:P.underlying e=some .bool) (H:P.underlying j=some (.int .i64)) (R:P.underlying i=some (.slice l)) (S:P.underlying l=some .string) (k:P.cellsOf e=1/\P.cellsOf j=1/\P.cellsOf i=1/\P.cellsOf l=1):ED enc P W sp hd .form auY t:=by
 intro w cs x h;obtain⟨J,n,rfl,rfl,u,K,d⟩:=DataW.trod_struct D h;rw [hn]at u;obtain⟨N,G,E,I⟩:=o;obtain⟨L,y1,y2,y3⟩:=y;obtain⟨p,B,M,k3⟩:=k
 match cs,u with
 | [v0,v1,v2,v3],_=>
  match J,K with
  | [x0,x1,x2,x3],_=>
   have q:=d 0 a rfl;have s:=d 1 b rfl;have m:=d 2 f rfl;have A:=d 3 g rfl;rw [L,N,p]at q;rw [y1,G,p]at s;rw [y2,E,B]at m;rw [y3,I,M]at A;obtain⟨U,C,rfl⟩:=DataW.trod_bool z (show _=some x0 from q);obtain⟨T,O,rfl⟩:=DataW.trod_bool z (show _=some x1 from s);obtain⟨V,F,rfl,_⟩:=DataW.trod_int H (show _=some x2 from m);obtain⟨v,Q,r⟩:=ajl (c:= .str) (dec:=ajk) R k3 (by decide) (auZ S) (show _=some x3 from A);cases C;cases O;cases F;cases Q;exact .cons (.bool _) (.cons (.bool _) (.cons (.int _ _) (.cons r .nil)))
end
end Go.TX
namespace Go.TX.Seat
open Go Go.AE Go.TX Go.TX.F Go.Proofs List
set_option maxRecDepth 100000
theorem aAA:∀t n,E.ieq t=some n->∀(d b:List Int),d.length=n->b.length=n->∀w,
  (Op.equal t (.agg (d.map (Value.int .i64)).toArray) (.agg (b.map (Value.int .i64)).toArray)).run E.P w= .ok (d==b) w/\
  (eqGuard .eql t (.tmp 0) (.tmp 0) (.agg (d.map (Value.int .i64)).toArray) (.agg (b.map (Value.int .i64)).toArray)).run E.P w= .ok () w:=by
 intro t n h;obtain⟨c,hc,rfl⟩:∃c,ieq t=some c/\c.size=n:=by
  have a:(ieq t).map (λc=>c.size)=some n:=h;cases hi:ieq t with
  | none=>rw [hi]at a;cases a
  | some c=>rw [hi]at a;cases a;exact⟨c,rfl,rfl⟩
 unfold ieq at hc;split at hc
 all_goals first | (cases hc;exact auW (by kernel_rfl) (by kernel_rfl) (by kernel_rfl) (by kernel_rfl) (by kernel_rfl)) | cases hc
theorem hE:aI E:=⟨azR,aAA⟩
theorem aAB:∀t c,X.ieq t=some c->(c= .ins/\E.ieq t=some 4)\/(c= .iop/\E.ieq t=some 5):=by
 intro t c h;have h:ieq t=some c:=h;have e:E.ieq t=(ieq t).map λc=>c.size:=rfl
 rw [e,h];unfold ieq at h;split at h
 all_goals first | (cases h;first | exact Or.inl ⟨rfl,rfl⟩ | exact Or.inr ⟨rfl,rfl⟩) | cases h
theorem xok:XOK X E:=⟨rfl,λg c h=>(by
    first
    | (cases h;done)
    | (dsimp only [X] at h
       split at h
       · rename_i e;cases h;unfold E;dsimp only;rw [if_pos e];rfl
       · cases h)),aAB⟩
theorem hm:E.P.follows .mixedOrders=true:=by kernel_rfl
structure HL(l:List (Nat×Sig)) where
 C:Cs (std 0) l
 h:∀p∈csl (std 0) l C,dL E p.1 (dF p.2.2)
abbrev hn:HL []:=⟨(),λ_ h=>by cases h⟩
abbrev hk{f:FuncId}{s:Sig}{c:Ct aG s}{l:List (Nat×Sig)}(h:dL E f (dF c))(r:HL l):HL ((f,s)::l):=⟨(c.pre,c.fn,r.C),λp a=>by
 rcases mem_cons.1 a with rfl | a
 .exact h
 .exact r.h p a⟩
structure Mt{lk:aB}{s:Sig}{an:Ann}{fn:Func}{l:List (Nat×Sig)}(f:FuncId)(g:Gt lk X E an s fn l) where
 H:HL l
 k:Fn E f (g.F H.C) (cn (g.F H.C))
section
variable {lk:aB} {s:Sig} {an:Ann} {fn:Func} {l:List (Nat×Sig)} {f:FuncId}
@[irreducible] noncomputable def Mt.c {g:Gt lk X E an s fn l} (t:Mt f g):Ct aG s:=cn (g.F t.H.C)
theorem Mt.cs{g:Gt lk X E an s fn l}(t:Mt f g){x:jv s.inp}{Q:jv s.out->Prop}(h:g.F t.H.C x Q):t.c.pre x=true/\Q (t.c.fn x):=by unfold Mt.c;exact t.k.cs h
theorem Mt.ok{g:Gt lk X E an s fn l}(t:Mt f g):dL E f (dF t.c):=by unfold Mt.c;exact t.k.ok
@[reducible] noncomputable def hc {r:List (Nat×Sig)} {g:Gt lk X E an s fn l} (t:Mt f g) (h:HL r):HL ((f,s)::r):=hk t.ok h
theorem mkF(a:E.P.funcs[f]? =some fn)(g:Gt lk X E an s fn l)(H:HL l)
 (b:fn.body.isSome=true:=by rfl) (hn:(fn.name== "runtime.NumGoroutine")=false:=by kernel_rfl):Fn E f (g.F H.C) (cn (g.F H.C)):=azO hE xok hm a b (λ_=>enters_of a hn) H.h (g.h H.C)
noncomputable def mk (g:Gt lk X E an s fn l) (a:E.P.funcs[f]? =some fn) (H:HL l)
 (b:fn.body.isSome=true:=by rfl) (hn:(fn.name== "runtime.NumGoroutine")=false:=by kernel_rfl):Mt f g:=⟨H,mkF a g H b hn⟩
end
theorem ajm{E:Tab}{f:FuncId}{c:Ct aG {args:=[.c (.int .u64)],objs:=[],res:=[.c (.int .i64)],dR:=[]}}{g:Int->Int}(l:Enters E.P f)(F:(λx:Int=>(c.fn (x,())).1)=g)
  (h:∀(x:Int) (w:World),c.pre (x,())=true->Go.Calls E.P f #[.int .u64 x] w λe C=>e= .returned (.int .i64 (g x))/\C=w):dL E f (dF c) where
 enters:=l
 calls:=by
  rintro args O n K ⟨m,u,B,j,HR,p,S,a,amh,v,U,o,hK⟩ N w H z uL G T;have A:∀b (x:Int),u=[.c (.d b (.int .u64 x))]->vF (std m) B {args:=[.c (.int .u64)],objs:=[],res:=[.c (.int .i64)],dR:=[]} c u=some {ck:=[c.pre (x,())],ts:=[.i],y:=c.fn (x,()),touched:=[],pure:=true,k:=λy=>some (.c (.d true (.int .i64 y.1)),B)}:=by
   intro b x e;subst e;rfl
  have I:∃b x,u=[.c (.d b (.int .u64 x))]:=by
   unfold vF at a;cases u with
   | nil=>simp [sH]at a
   | cons q r=>
    cases r with
    | cons W V=>
     exfalso;simp only [sH]at a;cases hx:Lu (std m) B (.c (.int .u64)) q (es0 (std m) 0 [])with
     | none=>rw [hx]at a;simp at a
     | some s=>rw [hx]at a;simp [sH]at a
    | nil=>
     simp only [sH]at a;cases q with
     | c y=>
      simp only [Lu,extC]at a;cases y with
      | d b y=>
       cases y with
       | int k x=>
        by_cases hk:IntKind.u64=k
        .subst hk;exact⟨b,x,rfl⟩
        .simp [hk]at a
       | _=>simp at a
      | _=>simp at a
     | _=>simp [Lu]at a
  obtain⟨b,x,rfl⟩:=I;rw [A b x rfl]at a;simp only [Option.some.injEq]at a;subst a;simp only [Option.some.injEq,Prod.mk.injEq]at o;obtain⟨rfl,rfl⟩:=o;have t:=amh _ (mem_singleton.2 rfl);have R:H=[.int .u64 x]:=by
   cases j with
   | cons i D=>
    cases D;cases uL with
    | cons P J=>
     cases J;cases i with
     | one i=>
      cases i with
      | c i=>
       cases i with
       | d L _=>
        subst L;cases P with
        | c _ _ Q=>cases Q with
         | d _ _ _ M=>cases M;rfl
      | agg i=>cases i
  subst R;refine(h x w t).mono ?_;rintro e C ⟨rfl,rfl⟩;refine⟨N,.c (.d true (.int .i64 (g x))),O,0,.refl _ _ _,G,z,.c _ _ (.d _ _ _ (.int _ _)),hK _ _ _ ?_ HR (.refl _ _ _) p⟩;rw [<-F];exact .one (.c (.d rfl λ_=> .inl rfl))
end Go.TX.Seat
noncomputable section
namespace Go.TX.F
open Go Go.AE Go.TX Go.TX.Seat Go.Proofs List
set_option maxRecDepth 100000
set_option maxHeartbeats 4000000
def y8:=mk VN Tryz.func64 hn
def jC:=λa=>y8.cs (aqU a:)
def aaO:=mk VO Tryz.func63 (hc y8 hn)
def y9:=λl h=>aaO.cs (ata jC l h:)
def oG:=mk VP Tryz.func65 hn
def dU:=λa b c=>oG.cs (aqT a b c:)
def BU:=mk VQ Tryz.func31 (hc y8 (hc oG (hc aaO hn)))
def kP:=λm h=>BU.cs (atb jC dU y9 m h:)
def QD:=mk VR Tryz.func140 hn
def qZ:=λa=>QD.cs (Gi a:)
def ajn:=mk VT Tryz.func233 hn
def LK:=λi=>ajn.cs (J4 i:)
def Ki:=mk VU Tryz.func163 (hc oG (hc ajn hn))
def qx:=λi=>Ki.cs (LB dU LK i:)
def aaP:=mk VW Tryz.func162 (hc QD (hc Ki hn))
def za:=λi=>aaP.cs (Gj qZ qx i:)
def aaQ:=mk VX Tryz.func103 (hc QD (hc Ki (hc oG (hc aaP hn))))
def Dt:=λb l a=>aaQ.cs (LJ qZ qx dU za b l a:)
def Fb:=mk VY Tryz.func164 hn
def nI:=λc d e b f g o a h=>Fb.cs (LC c d e b f g o a h:)
def aaR:=mk VZ Tryz.func165 (hc Fb hn)
def Du:=λc d e b f g k x a h=>aaR.cs (LG nI c d e b f g k x a h:)
def Kj:=mk V3 Tryz.func166 (hc Fb hn)
def qy:=λc d e b f g k a h=>Kj.cs (LD nI c d e b f g k a h:)
def aaS:=mk V4 Tryz.func167 (hc Kj (hc Fb hn))
def wP:=λd e f c g i k a o b h=>aaS.cs (EZ qy nI d e f c g i k a o b h:)
def ajo:=mk V5 Tryz.func168 hn
def Kk:=λk b a=>ajo.cs (Gh k b a:)
def ajp:=mk V6 Tryz.func169 (hc Kj (hc Fb (hc aaS (hc aaR hn))))
def Kl:=λc d e b f j i n a g h=>ajp.cs (Gg qy nI wP Du c d e b f j i n a g h:)
def ajq:=mk V7 Tryz.func170 (hc Kj hn)
def LM:=λB i a h=>ajq.cs (J6 qy B i a h:)
def ajr:=mk V8 Tryz.func104 (hc Kj (hc ajq (hc Fb (hc ajp (hc aaS (hc aaR (hc ajo hn)))))))
def QE:=λB i n b a h=>ajr.cs (LH qy LM nI Kl wP Du Kk B i n b a h:)
def Fe:=mk V9 Tryz.func51 (hc aaQ (hc ajr hn))
def iA:=λb l a=>Fe.cs (E5 Dt QE b l a:)
def ajs:=mk Wh Tryz.func268 (hc oG hn)
def Km:=λk=>ajs.cs (arL dU k:)
def aaT:=mk Wi Tryz.func231 (hc ajs hn)
def Dv:=λa x n b=>aaT.cs (arM Km a x n b:)
def ajt:=mk Wj Tryz.func152 (hc y8 (hc oG (hc aaT hn)))
def TJ:=λa i len c b d=>ajt.cs (arN jC dU Dv a i len c b d:)
def aju:=mk Wm Tryz.func153 (hc y8 (hc aaT hn))
def QF:=λb=>aju.cs (arO jC Dv b:)
def q9:=mk Wn Tryz.func93 (hc oG (hc aju (hc ajt hn)))
def gI:=λb a=>q9.cs (arP dU QF TJ b a:)
def aaU:=mk Wp Tryz.func118 hn
def AB:=λa b c=>aaU.cs (asw a b c:)
def Kn:=mk Wq Tryz.func178 (hc oG hn)
def nJ:=λa=>Kn.cs (aqW dU a:)
def aaV:=mk Ws Tryz.func119 (hc Kn hn)
def AJ:=aaV.cs (arz nJ:)
def QG:=mk Wt Tryz.func251 hn
def ru:=λa b c=>QG.cs (aqY a b c:)
def ajv:=mk Wu Tryz.func282 (hc oG hn)
def LP:=λm hm=>ajv.cs (aqZ dU m hm:)
def BX:=mk Wv Tryz.func247 (hc ajv (hc QG hn))
def kQ:=λa b=>BX.cs (aq0 LP ru a b:)
def ajw:=mk Ww Tryz.func276 hn
def LQ:=λa=>ajw.cs (aq3 a:)
def ajx:=mk Wx Tryz.func277 hn
def Gm:=λa n b=>ajx.cs (aq1 a n b:)
def aaW:=mk Wy Tryz.func241 (hc oG (hc BX (hc ajx (hc ajw hn))))
def AL:=λa n b=>aaW.cs (aq4 dU kQ Gm LQ a n b:)
def ze:=mk Wz Tryz.func193 (hc QG hn)
def fT:=λa b c=>ze.cs (aq2 ru a b c:)
def aaX:=mk WA Tryz.func242 (hc ze hn)
def AO:=λa b c=>aaX.cs (aq5 fT a b c:)
def ajy:=mk WB Tryz.func179 (hc aaW (hc aaX hn))
def QH:=λa b=>ajy.cs (aq6 AL AO a b:)
def tQ:=mk WE Tryz.func188 hn
def eZ:=λa b=>tQ.cs (aq9 a b:)
def aaY:=mk WG Tryz.func243 (hc tQ hn)
def AP:=λa b=>aaY.cs (arb eZ a b:)
def ajz:=mk WH Tryz.func180 (hc aaY hn)
def LU:=λa b=>ajz.cs (ard AP a b:)
def QI:=mk WI Tryz.func181 (hc aaW (hc aaX (hc aaY hn)))
def vZ:=λa t c d b=>QI.cs (arf AL AO AP a t c d b:)
def ajA:=mk WJ Tryz.func182 hn
def TK:=λk l=>ajA.cs (asz k l:)
def aaZ:=mk WK Tryz.func183 (hc oG hn)
def wQ:=λa=>aaZ.cs (aqV dU a:)
def zf:=mk WL Tryz.func232 hn
def gL:=λa=>zf.cs (aqX a:)
def aa0:=mk WM Tryz.func303 (hc QG (hc zf hn))
def AQ:=λl m b hn hm a=>aa0.cs (arl ru gL l m b hn hm a:)
def aa1:=mk WO Tryz.func304 (hc tQ hn)
def Dw:=λa b=>aa1.cs (ara eZ a b:)
def ajB:=mk WQ Tryz.func278 (hc BX (hc aa0 (hc aa1 hn)))
def LW:=λa b c d=>ajB.cs (aro kQ AQ Dw a b c d:)
def ajC:=mk WR Tryz.func279 (hc BX (hc zf (hc tQ (hc y8 hn))))
def Gn:=λa n b=>ajC.cs (arq kQ gL eZ jC a n b:)
def ajD:=mk WS Tryz.func305 hn
def Ko:=λa b d f c e=>ajD.cs (arn a b d f c e:)
def ajE:=mk WT Tryz.func280 (hc BX (hc zf (hc aa0 (hc ajD (hc aa1 hn)))))
def LY:=λa b c d=>ajE.cs (arp kQ gL AQ Ko Dw a b c d:)
def ajF:=mk WU Tryz.func244 (hc ajE (hc ajB (hc ajC hn)))
def LZ:=λa x y c b=>ajF.cs (arj LY LW Gn a x y c b:)
def Kq:=mk WW Tryz.func156 (hc zf (hc y8 hn))
def qz:=λc a b=>Kq.cs (aq7 jC gL c a b:)
def QJ:=mk WX Tryz.func248 (hc BX hn)
def tT:=λa b=>QJ.cs (aq8 kQ a b:)
def ajG:=mk WY Tryz.func281 (hc tQ hn)
def L6:=λa n y b=>ajG.cs (arh eZ a n y b:)
def ajH:=mk WZ Tryz.func245 (hc ze (hc tQ (hc Kq (hc aaZ (hc QJ (hc ajG hn))))))
def L8:=λa x y c b=>ajH.cs (ari fT eZ qz wQ tT L6 a x y c b:)
def ajI:=mk Xa Tryz.func184 (hc Kn (hc ze (hc ajF (hc ajH (hc QI hn)))))
def TL:=λc x y t b f d e a=>ajI.cs (ark nJ fT LZ L8 vZ c x y t b f d e a:)
def ajJ:=mk Xb Tryz.func246 hn
def Kr:=λl k a=>ajJ.cs (asA l k a:)
def ajK:=mk Xc Tryz.func185 (hc Kn (hc QI (hc ajJ hn)))
def Kt:=λl k t a b hk=>ajK.cs (asB nJ vZ Kr l k t a b hk:)
def QK:=mk Xd Tryz.func187 (hc tQ hn)
def rz:=λa b=>QK.cs (asy eZ a b:)
def ajL:=mk Xe Tryz.func186 (hc tQ (hc QK hn))
def Ku:=λo x y r c a b=>ajL.cs (asC eZ rz o x y r c a b:)
def ajM:=mk Xf Tryz.func189 hn
def aa2:=λb=>ajM.cs (asE b:)
def ajN:=mk Xg Tryz.func190 hn
def aa3:=λb=>ajN.cs (asF b:)
def aa4:=mk Xh Tryz.func249 hn
def FY:=λs k=>aa4.cs (asD s k:)
def ajO:=mk Xi Tryz.func250 (hc QJ (hc ze (hc aa4 hn)))
def TM:=λs n c d b a=>ajO.cs (asG tT fT FY s n c d b a:)
def ajP:=mk Xj Tryz.func191 (hc QJ (hc BX (hc tQ (hc aa4 (hc ajO (hc QK hn))))))
def L9:=λs n a=>ajP.cs (asH tT kQ eZ FY TM rz s n a:)
def ajQ:=mk Xk Tryz.func120 (hc q9 (hc Kn (hc aaZ (hc ajP (hc aaV (hc ajy (hc tQ (hc ajz (hc ajI (hc QI (hc ajK (hc ajL (hc ajA (hc QK (hc ajM (hc ajN hn))))))))))))))))
def Ma:=λt b a c=>ajQ.cs (asI gI nJ wQ L9 AJ QH eZ LU TL vZ Kt Ku TK rz aa2 aa3 t b a c:)
def aa5:=mk Xl Tryz.func192 (hc ze hn)
def zh:=λa b c=>aa5.cs (asK fT a b c:)
def ajR:=mk Xm Tryz.func194 (hc ze (hc aa5 hn))
def Kv:=λa b c=>ajR.cs (asL fT zh a b c:)
def ajS:=mk Xo Tryz.func121 (hc ze (hc ajR (hc aa5 hn)))
def Kw:=λa b c=>ajS.cs (asM fT Kv zh a b c:)
def QL:=mk Xp Tryz.func68 (hc q9 (hc aaU (hc aaV (hc ajQ (hc ajS hn)))))
def rA:=λb c a hc=>QL.cs (asN gI AB AJ Ma Kw b c a hc:)
def QM:=mk Xq Tryz.func139 (hc Ki (hc y8 hn))
def rC:=λw=>QM.cs (atu qx jC w:)
def ajT:=mk Xr Tryz.func117 (hc QM hn)
def Ky:=λw h=>ajT.cs (atX rC w h:)
def ajU:=mk Xt Tryz.func66 (hc Fe (hc aaQ (hc ajT (hc QL hn))))
def Gp:=λe a b=>ajU.cs (atZ iA Dt Ky rA e a b:)
end Go.TX.F
end
noncomputable section
namespace Go.TX.F
open Go Go.AE Go.TX Go.TX.Seat Go.Proofs List
set_option maxRecDepth 100000
set_option maxHeartbeats 4000000
def aa6:=mk Xu Tryz.func67 hn
def wR:=λw mem d a hm c b=>aa6.cs (atU w mem d a hm c b:)
def ajV:=mk Xv Tryz.func32 (hc ajU (hc aa6 hn))
def QN:=λl mem h hm=>ajV.cs (at0 Gp wR l mem h hm:)
def ajW:=mk Xw Tryz.func33 (hc QL hn)
def QO:=λl h=>ajW.cs (asO rA l h:)
def QS:=mk Xx Tryz.func11 (hc ajV (hc ajW (hc BU hn)))
def wh:=λe b a c=>QS.cs (at5 QN QO kP e b a c:)
def ajX:=mk Xy Tryz.func19 hn
def Kz:=λb c a=>ajX.cs (ars b c a:)
def iY:=mk Xz Tryz.func22 hn
def aO:=λn b p d c a=>iY.cs (arv n b p d c a:)
def Fg:=mk XA Tryz.func23 (hc iY hn)
def iZ:=λn b p d c a=>Fg.cs (arw aO n b p d c a:)
def Fh:=mk XB Tryz.func60 hn
def lg:=λm h=>Fh.cs (atc m h:)
def BZ:=mk XC Tryz.func105 hn
def jL:=λb a=>BZ.cs (arZ b a:)
def QT:=mk XD Tryz.func61 (hc BZ hn)
def pG:=λe a b=>QT.cs (atV jL e a b:)
def aa7:=mk XE Tryz.func62 (hc BZ hn)
def zi:=λq b a=>aa7.cs (asP jL q b a:)
def ajY:=mk XF Tryz.func30 (hc QT (hc aa7 (hc Fh hn)))
def KA:=λe b a c=>ajY.cs (aub pG zi lg e b a c:)
def KC:=mk XG Tryz.func43 hn
def qA:=λl n h=>KC.cs (atr l n h:)
def aa8:=mk XH Tryz.func48 (hc QT (hc aa6 hn))
def zk:=λl mem h hm=>aa8.cs (atW pG wR l mem h hm:)
def ajZ:=mk XI Tryz.func145 hn
def Gq:=λm b=>ajZ.cs (atq m b:)
def QU:=mk XJ Tryz.func146 hn
def tV:=λm h=>QU.cs (atd m h:)
def Fj:=mk XK Tryz.func228 (hc zf hn)
def lu:=λm n h=>Fj.cs (ate gL m n h:)
def aj0:=mk XL Tryz.func224 (hc QU (hc Fj hn))
def Mc:=λm i h a=>aj0.cs (ato tV lu m i h a:)
def QV:=mk XM Tryz.func225 (hc Fj hn)
def wo:=λm d v h a b=>QV.cs (atf lu m d v h a b:)
def aj1:=mk XO Tryz.func226 (hc zf hn)
def KD:=λv k h b a=>aj1.cs (atg gL v k h b a:)
def aj2:=mk XP Tryz.func227 (hc zf (hc QU (hc Fj (hc QV hn))))
def KE:=λm i h b a=>aj2.cs (atm gL tV lu wo m i h b a:)
def aj3:=mk XQ Tryz.func229 (hc Fj (hc QV hn))
def Md:=λm i h c b hn a=>aj3.cs (atn lu wo m i h c b hn a:)
def aj4:=mk XR Tryz.func147 (hc Kq (hc Fj (hc aj3 (hc aj2 (hc QV (hc aj1 (hc aj0 hn)))))))
def TN:=λm i h b hn a=>aj4.cs (atp qz lu Md KE wo KD Mc m i h b hn a:)
def aa9:=mk XU Tryz.func88 (hc QM (hc BU (hc Fh (hc aj4 (hc QU (hc ajZ hn))))))
def zm:=λm b h a=>aa9.cs (atB rC kP lg TN tV Gq m b h a:)
def aj5:=mk XV Tryz.func44 (hc aa8 (hc aa9 (hc KC hn)))
def Gr:=λe q d a c b=>aj5.cs (aua zk zm qA e q d a c b:)
def abb:=mk XW Tryz.func83 (hc QD (hc QM (hc BU hn)))
def zn:=λm h=>abb.cs (aum qZ rC kP m h:)
def aj6:=mk XY Tryz.func89 hn
def KF:=λl a h=>aj6.cs (atT l a h:)
def abd:=mk XZ Tryz.func171 (hc oG hn)
def wS:=λo al hk b a=>abd.cs (ar3 dU o al hk b a:)
def abe:=mk X3 Tryz.func107 (hc q9 (hc abd (hc BZ hn)))
def zo:=λb a=>abe.cs (asc gI wS jL b a:)
def abf:=mk X4 Tryz.func219 (hc abd hn)
def zq:=λb a ok hk=>abf.cs (ar8 wS b a ok hk:)
def aj7:=mk X5 Tryz.func220 (hc q9 (hc oG hn))
def KG:=λb a=>aj7.cs (ar7 gI dU b a:)
def aj8:=mk X6 Tryz.func142 (hc q9 (hc aj7 (hc abf hn)))
def KH:=λb a=>aj8.cs (ar9 gI KG zq b a:)
def aj9:=mk X7 Tryz.func221 hn
def KI:=λa k d c b=>aj9.cs (ar4 a k d c b:)
def akb:=mk X8 Tryz.func143 (hc q9 (hc abf (hc aj9 hn)))
def KJ:=λb a=>akb.cs (asa gI zq KI b a:)
def abg:=mk X9 Tryz.func222 hn
def wT:=λa k=>abg.cs (ar0 a k:)
def akc:=mk Ya Tryz.func266 hn
def QW:=λb k=>akc.cs (ar1 b k:)
def akd:=mk Yb Tryz.func223 (hc akc (hc abg hn))
def KL:=λb h=>akd.cs (ar2 QW wT b h:)
def ake:=mk Yc Tryz.func144 (hc q9 (hc Kq (hc akd (hc abg (hc BZ hn)))))
def Gs:=λb a=>ake.cs (ar6 gI qz KL wT jL b a:)
def QX:=mk Yd Tryz.func86 (hc ake (hc abe (hc aj8 (hc akb hn))))
def tX:=λb a=>QX.cs (ar5 Gs zo KH KJ b a:)
def akf:=mk Ye Tryz.func267 hn
def Me:=λb k e d c a=>akf.cs (auj b k e d c a:)
def akg:=mk Yf Tryz.func230 (hc q9 (hc akf hn))
def Mf:=λl b a=>akg.cs (auo gI Me l b a:)
def akh:=mk Yg Tryz.func148 (hc akg (hc QX hn))
def KM:=λb a h c d=>akh.cs (aup Mf tX b a h c d:)
def aki:=mk Yh Tryz.func149 (hc aaU hn)
def Mg:=λl b c h=>aki.cs (asx AB l b c h:)
def akj:=mk Yi Tryz.func150 (hc aa7 hn)
def Mh:=λl q h b a=>akj.cs (asT zi l q h b a:)
def akk:=mk Yj Tryz.func90 (hc aki (hc akj (hc QL (hc akh hn))))
def Gu:=λe b a h f d c=>akk.cs (auq Mg Mh rA KM e b a h f d c:)
def akl:=mk Yk Tryz.func91 (hc QT hn)
def Mi:=λl e h b a=>akl.cs (atY pG l e h b a:)
def abh:=mk Yl Tryz.func151 (hc Ki hn)
def AU:=λi=>abh.cs (atv qx i:)
def abj:=mk Ym Tryz.func92 (hc abh hn)
def wU:=λl a=>abj.cs (atx AU l a:)
def akm:=mk Yn Tryz.func45 (hc abb (hc Fe (hc abj (hc aj6 (hc akl (hc akk hn))))))
def KN:=λe a f c g d b=>akm.cs (aus zn iA wU KF Mi Gu e a f c g d b:)
def akn:=mk Yp Tryz.func46 (hc KC hn)
def KO:=λm q left size a c b=>akn.cs (aui qA m q left size a c b:)
def ako:=mk Yq Tryz.func154 hn
def KP:=λm b n h c a d=>ako.cs (aue m b n h c a d:)
def akp:=mk Yr Tryz.func155 hn
def Mj:=λb a n c e d=>akp.cs (auf b a n c e d:)
def akq:=mk Yt Tryz.func94 (hc ako (hc akp hn))
def KQ:=λm b o x y hm a h c f d g e=>akq.cs (aul KP Mj m b o x y hm a h c f d g e:)
def akr:=mk Yu Tryz.func95 hn
def TP:=λl k=>akr.cs (atS l k:)
def aks:=mk Yv Tryz.func96 (hc Kq hn)
def Mk:=λm o x y h=>aks.cs (aug qz m o x y h:)
def akt:=mk Yw Tryz.func97 hn
def TQ:=λb v d c e a=>akt.cs (auh b v d c e a:)
def aku:=mk Yx Tryz.func47 (hc q9 (hc BU (hc Fh (hc akr (hc akq (hc akt (hc aks hn)))))))
def QY:=λb m d c a=>aku.cs (auy gI kP lg TP KQ TQ Mk b m d c a:)
def abk:=mk Yy Tryz.func18 (hc aa8 (hc QS (hc aku (hc ajY (hc akm (hc aj5 (hc akn (hc KC hn))))))))
def zu:=λe q left a d f b h c i g=>abk.cs (auA zk wh QY KA KN Gr KO qA e q left a d f b h c i g:)
def QZ:=mk Yz Tryz.func21 (hc iY hn)
def rD:=λb p d c a=>QZ.cs (atD aO b p d c a:)
def abl:=mk PG Tryz.func52 (hc iY (hc BZ hn))
def zw:=λc b p hc e d a=>abl.cs (asg aO jL c b p hc e d a:)
def abm:=mk YA Tryz.func159 (hc iY hn)
def AV:=λb p d c a=>abm.cs (arW aO b p d c a:)
def Q0:=mk YB Tryz.func160 (hc abm (hc iY (hc aaP hn)))
def rE:=λb p d c a=>Q0.cs (arX AV aO (λz1=>(za z1).1) b p d c a:)
def akv:=mk YC Tryz.func106 (hc Q0 (hc iY hn))
def KR:=λb p d c a=>akv.cs (arY rE aO b p d c a:)
def abn:=mk YD Tryz.func53 (hc Fe (hc QX (hc abe (hc iY (hc akv hn)))))
def wW:=λb p e d c=>abn.cs (ase (λz1 z2 z3 z4=>⟨(λa (l:List Ins) (h:(l.length:Int)<1000) _=>(iA a l ah).1) z1 z2 z3 z4,(λa (l:List Ins) (h:(l.length:Int)<1000) _=>Qq (iA a l ah).2) z1 z2 z3 z4⟩) tX zo aO KR b p e d c:)
def akw:=mk YE Tryz.func141 hn
def Ml:=λn b c a d=>akw.cs (aut n b c a d:)
def akx:=mk YF Tryz.func84 (hc q9 (hc akw hn))
def KS:=λb a=>akx.cs (auu gI Ml b a:)
def aky:=mk YG Tryz.func85 (hc iY (hc BZ hn))
def Fp:=λc b p ok hc e d a=>aky.cs (asf aO jL c b p ok hc e d a:)
def akz:=mk YH Tryz.func87 (hc iY hn)
def KT:=λl b p a h e d c=>akz.cs (auv aO l b p a h e d c:)
end Go.TX.F
end
noncomputable section
namespace Go.TX.F
open Go Go.AE Go.TX Go.TX.Seat Go.Proofs List
set_option maxRecDepth 100000
set_option maxHeartbeats 4000000
def abo:=mk PI Tryz.func42 (hc abb (hc Fe (hc akx (hc QX (hc iY (hc abl (hc abn (hc aky (hc akz hn)))))))))
def AX:=λm b p h d c a=>abo.cs (auw zn iA KS tX aO zw wW Fp KT m b p h d c a:)
def akA:=mk YI Tryz.func98 (hc BU (hc Fh hn))
def Mq:=λm h=>akA.cs (at6 kP lg m h:)
def abp:=mk YJ Tryz.func99 (hc aaO hn)
def AY:=λw i a b=>abp.cs (atz y9 w i a b:)
def Q5:=mk YK Tryz.func54 (hc iY hn)
def rF:=λb p d c a=>Q5.cs (arx aO b p d c a:)
def akB:=mk YL Tryz.func157 (hc Q0 (hc iY hn))
def KU:=λt b p e c d a=>akB.cs (atF rE aO t b p e c d a:)
def akC:=mk YM Tryz.func158 (hc iY hn)
def KV:=λt b p e c d a=>akC.cs (atE aO t b p e c d a:)
def abq:=mk YN Tryz.func100 (hc abj (hc abh (hc akB (hc Q0 (hc abm (hc akC (hc Fg (hc iY (hc Q5 hn)))))))))
def wX:=λb p d c a=>abq.cs (atH wU AU KU rE AV KV iZ aO rF b p d c a:)
def abr:=mk YO Tryz.func101 (hc Q5 hn)
def wY:=λn b p d hn c a=>abr.cs (arE rF n b p d hn c a:)
def akD:=mk YP Tryz.func49 (hc akA (hc abk (hc abp (hc abq (hc QZ (hc iY (hc abr (hc abo hn))))))))
def Mr:=λb p d c a=>akD.cs (auC Mq zu AY wX rD aO wY AX b p d c a:)
def akE:=mk YQ Tryz.func161 (hc BU (hc aa9 (hc Fh (hc KC hn))))
def Mv:=λm q n h b a=>akE.cs (atC kP zm lg qA m q n h b a:)
def akF:=mk YR Tryz.func102 (hc abp (hc akE (hc abq (hc QZ (hc Fg (hc iY (hc abr hn)))))))
def KW:=λb p d c a=>akF.cs (atJ AY Mv wX rD iZ aO wY b p d c a:)
def akG:=mk YS Tryz.func50 (hc akF (hc Fg (hc iY hn)))
def Fq:=λn b p d c a=>akG.cs (atK KW iZ aO n b p d c a:)
def akH:=mk YT Tryz.func20 (hc Fe (hc akG (hc Fg (hc iY (hc Q5 (hc abl (hc abn (hc akD hn))))))))
def Gw:=λn b p d c a=>akH.cs (auL iA Fq iZ aO rF zw wW Mr n b p d c a:)
def akI:=mk YU Tryz.func24 (hc abk (hc abo hn))
def KY:=λe q n b p S a hn hc f d c=>akI.cs (auS zu AX e q n b p S a hn hc f d c:)
def abt:=mk YV Tryz.func7 (hc QS (hc QZ (hc ajX (hc Fg (hc iY (hc akI (hc akH hn)))))))
def sQ:=λc hc a=>abt.cs (auT wh rD Kz iZ aO KY Gw c hc a:)
def ig:=mk YW Tryz.func69 hn
def bV:=λa b c=>ig.cs (aqn a b c:)
def tY:=mk YX Tryz.func34 (hc ig hn)
def gH:=λa=>tY.cs (aqo bV a:)
def akJ:=mk YZ Tryz.func70 (hc tY hn)
def KZ:=λa b=>akJ.cs (arD gH a b:)
def akK:=mk agK Tryz.func36 (hc tY (hc ig (hc akJ hn)))
def Dx:=λm h=>akK.cs (ayb gH bV KZ m h:)
def Q6:=mk Za Tryz.func195 (hc ig hn)
def wu:=λa=>Q6.cs (aqr bV a:)
def ade:=mk agL Tryz.func122 (hc ig (hc Q6 hn))
def wz:=λi=>ade.cs (ayh bV wu i:)
def adf:=mk agM Tryz.func72 (hc ade (hc tY hn))
def rG:=λw=>adf.cs (ayx wz gH w:)
def azc:=mk ap2 Tryz.func75 (hc adf hn)
def K4:=λw h=>azc.cs (aAs rG w h:)
def akL:=mk Zb Tryz.func127 hn
def wB:=λa b c=>akL.cs (auI a b c:)
def akM:=mk agN Tryz.func76 (hc ig (hc akL hn))
def mJ:=λe mem a hm=>akM.cs (ayO bV wB e mem a hm:)
def akN:=mk agO Tryz.func128 (hc ig hn)
def zy:=λa=>akN.cs (ayi bV a:)
def au0:=mk ap3 Tryz.func77 (hc akN (hc ade (hc ig hn)))
def Dy:=λb l a=>au0.cs (aAb zy wz bV b l a:)
def TR:=mk agP Tryz.func202 (hc ig hn)
def lG:=λo=>TR.cs (axq bV o:)
def abu:=mk Zc Tryz.func252 (hc ig hn)
def FZ:=λa=>abu.cs (aqp bV a:)
def aom:=mk agQ Tryz.func283 (hc ig hn)
def zB:=λo=>aom.cs (axr bV o:)
def akO:=mk agR Tryz.func253 (hc aom (hc ig hn))
def oV:=λb x n d c a=>akO.cs (axu zB bV b x n d c a:)
def aon:=mk agS Tryz.func196 (hc akO (hc TR (hc tY (hc ig (hc abu (hc Q6 hn))))))
def Ah:=λb i d c a e=>aon.cs (axv oV lG gH bV FZ wu b i d c a e:)
def TS:=mk agT Tryz.func208 hn
def gT:=λb=>TS.cs (axw b:)
def aoo:=mk agU Tryz.func197 (hc TS (hc akO (hc tY (hc ig hn))))
def zC:=λb a=>aoo.cs (axx gT oV gH bV b a:)
def F4:=mk agV Tryz.func129 (hc aoo (hc aon (hc ig hn)))
def j6:=λb a=>F4.cs (axy zC Ah bV b a:)
def akP:=mk Zd Tryz.func198 hn
def lU:=λa b c=>akP.cs (ash a b c:)
def akQ:=mk agW Tryz.func130 (hc akP hn)
def AZ:=λa b c=>akQ.cs (axD lU a b c:)
def aop:=mk agX Tryz.func113 (hc ig hn)
def uT:=λn b m K C hm a=>aop.cs (ay2 bV n b m K C hm a:)
def aoq:=mk agY Tryz.func306 hn
def Dz:=λa n=>aoq.cs (awX a n:)
def akR:=mk Ze Tryz.func177 (hc aoq hn)
def kg:=λa n b=>akR.cs (aqv Dz a n b:)
def akS:=mk Zf Tryz.func177 (hc aop hn)
def oW:=λq b m K C a hm c=>akS.cs (auO uT q b m K C a hm c:)
def akT:=mk Zg Tryz.func112 (hc akR hn)
def ji:=λa n b=>akT.cs (aqw (λz1 z2 z3=>(kg z1 z2 z3).1) (λz1 z2 z3=>(kg z1 z2 z3).2) a n b:)
def akU:=mk Zh Tryz.func112 (hc akS hn)
def nK:=λq b m K C a hm c=>akU.cs (auP oW q b m K C a hm c:)
def akV:=mk agZ Tryz.func284 (hc akT hn)
def wZ:=λa n b=>akV.cs (awY (λz1 z2 z3=>(ji z1 z2 z3).1) (λz1 z2 z3=>(ji z1 z2 z3).2) a n b:)
def au1:=mk ap4 Tryz.func311 hn
def w9:=λa=>au1.cs (azV a:)
def anw:=mk ap5 Tryz.func291 (hc au1 hn)
def nL:=λa b=>anw.cs (azW w9 a b:)
def au2:=mk ap6 Tryz.func292 hn
def DC:=λa b=>au2.cs (azY a b:)
def akW:=mk Zi Tryz.func312 (hc anw hn)
def tZ:=λa b c=>akW.cs (aqs nL a b c:)
def K6:=mk Zj Tryz.func293 (hc au2 (hc anw (hc akW hn)))
def jS:=λa b c=>K6.cs (aqt nL tZ DC a b c:)
def anx:=mk ap7 Tryz.func313 (hc au1 hn)
def zD:=λa b=>anx.cs (azX w9 a b:)
def akX:=mk Zk Tryz.func295 (hc anx hn)
def rR:=λa b=>akX.cs (aqu zD a b:)
def aor:=mk ag0 Tryz.func297 hn
def K7:=λm=>aor.cs (awZ m:)
def akY:=mk Zl Tryz.func314 (hc aor hn)
def jc:=λa b=>akY.cs (aqx (G:=(λm:au=>0<m.atoms.length/\m.atoms.getD 0 default<0)) K7 a b:)
def akZ:=mk Zm Tryz.func296 (hc akY hn)
def iE:=λa b=>akZ.cs (aqy (G:=(λm:au=>0<m.atoms.length/\m.atoms.getD 0 default<0)) jc a b:)
def F6:=mk ag1 Tryz.func261 (hc ig (hc akV (hc akX (hc K6 (hc akZ hn)))))
def jD:=λa b=>F6.cs (aw0 bV wZ rR jS iE a b:)
def ak0:=mk ag2 Tryz.func255 (hc ig (hc abu (hc akV (hc F6 (hc Q6 hn)))))
def nM:=λa n b=>ak0.cs (axb bV FZ wZ jD wu a n b:)
def adg:=mk ag3 Tryz.func258 (hc au2 (hc anw (hc K6 hn)))
def pI:=λa b c=>adg.cs (aw1 DC nL jS a b c:)
def K8:=mk ag4 Tryz.func212 (hc adg hn)
def dO:=λa b c=>K8.cs (aw2 pI a b c:)
end Go.TX.F
end
noncomputable section
namespace Go.TX.F
open Go Go.AE Go.TX Go.TX.Seat Go.Proofs List
set_option maxRecDepth 100000
set_option maxHeartbeats 4000000
def aos:=mk ag5 Tryz.func287 (hc K8 hn)
def Ai:=λa b c=>aos.cs (aw8 dO a b c:)
def aot:=mk ag6 Tryz.func286 (hc aos hn)
def zF:=λa b c=>aot.cs (aw9 Ai a b c:)
def ak1:=mk Zn Tryz.func285 (hc aot hn)
def jd:=λa b c d=>ak1.cs (aqE zF a b c d:)
def ak2:=mk ag7 Tryz.func256 (hc ak1 hn)
def rH:=λa b c d=>ak2.cs (axa jd a b c d:)
def ak3:=mk Zo Tryz.func294 hn
def jU:=λa=>ak3.cs (aqD a:)
def ak4:=mk ag8 Tryz.func259 (hc ak0 (hc ak2 (hc ak3 hn)))
def sS:=λt a c b=>ak4.cs (axd nM rH jU t a c b:)
def ak5:=mk ag9 Tryz.func260 (hc ig hn)
def zG:=λa=>ak5.cs (aw4 bV a:)
def abv:=mk Zp Tryz.func207 (hc ak5 (hc ak4 hn))
def uU:=λc k t b a=>abv.cs (arS zG sS c k t b a:)
def abw:=mk Zq Tryz.func199 (hc abv hn)
def sU:=λt b c a=>abw.cs (arT uU t b c a:)
def K9:=mk Zr Tryz.func71 hn
def kR:=λa b=>K9.cs (aqB a b:)
def adh:=mk aha Tryz.func254 (hc K9 hn)
def ku:=λa b=>adh.cs (aw6 kR a b:)
def ak6:=mk ahb Tryz.func200 (hc adh hn)
def pR:=λa b=>ak6.cs (aw7 ku a b:)
def aou:=mk ahc Tryz.func131 (hc ak6 (hc abw hn))
def Mw:=aou.cs (axA pR sU:)
def aov:=mk ahd Tryz.func201 (hc ak0 (hc ak2 hn))
def Q7:=λa b=>aov.cs (axc nM rH a b:)
def ak7:=mk ahe Tryz.func203 (hc ig hn)
def sV:=λo=>ak7.cs (axt bV o:)
def ak8:=mk Zt Tryz.func204 hn
def jP:=λa c b=>ak8.cs (arU a c b:)
def adi:=mk ahf Tryz.func205 (hc ig hn)
def pJ:=λa=>adi.cs (aw3 bV a:)
def La:=mk Zu Tryz.func123 hn
def nN:=λa=>La.cs (aqz a:)
def Lb:=mk Zv Tryz.func126 (hc tY (hc La hn))
def qB:=λc a b=>Lb.cs (aqA gH nN c a b:)
def ak9:=mk ahg Tryz.func263 (hc F6 hn)
def A8:=λa b=>ak9.cs (aw5 jD a b:)
def Ca:=mk Zw Tryz.func316 (hc K6 hn)
def DF:=λa b c=>Ca.cs (aqC jS a b c:)
def ala:=mk Zx Tryz.func332 (hc Ca hn)
def jE:=λa b d hd e c f=>ala.cs (aqH DF a b d hd e c f:)
def alb:=mk Zy Tryz.func341 hn
def kC:=λa b n d c g e h f=>alb.cs (aqF a b n d c g e h f:)
def Fu:=mk Zz Tryz.func339 (hc alb hn)
def lC:=λa m b d c g e h f=>Fu.cs (aqG kC a m b d c g e h f:)
def cK:Nat->Ct aG Vz
 | 0=>never Vz
 | k+1=>cn (JD.F (Ca.c.pre,Ca.c.fn,Fu.c.pre,Fu.c.fn,(cK k).pre,(cK k).fn,()))
def kK:∀k:Nat,dL E 333 (dF (cK k))/\∀(a m b:Int) (d:List au),JG a m b d->b-a<k->(cK k).pre (a,m,b,d,())=true/\Mrg d ((cK k).fn (a,m,b,d,())).1 a b
 | 0=>⟨nH (enters_of Tryz.func333 (by kernel_rfl) rfl),λa m b d c f=>(by have h:=c.h2;have g:=c.h3;omega)⟩
 | k+1=>by
  have e:=kK k;have t:Fn E 333 (JD.F (Ca.c.pre,Ca.c.fn,Fu.c.pre,Fu.c.fn,(cK k).pre,(cK k).fn,())) (cK (k+1)):=mkF Tryz.func333 JD (hc Ca (hc Fu (hk e.1 hn)));exact⟨t.ok,λa m b d c f=>t.cs (aqI DF lC (k:Int) e.2 a m b d c ah)⟩
def au3:Ct aG Vz:=cK 1000000000
def au4:dL E 333 (dF au3):=(kK 1000000000).1
def aow{a m b:Int}{d:List au}(h:JG a m b d):b-a< ((1000000000:Nat):Int):=by have f:=h.sh.1;have e:=h.h1;have c:=h.h4;omega
def au5:=λa m b d h=>((kK 1000000000).2 a m b d h (aow h)).1
def au6:=λa m b d h=>((kK 1000000000).2 a m b d h (aow h)).2
def alc:=mk ZA Tryz.func321 (hc ala (hk au4 hn))
def lD:=λn d hd hn=>alc.cs (aqJ jE (λz1 z2 z3 z4 a=>⟨au5 z1 z2 z3 z4 a,au6 z1 z2 z3 z4 a⟩) n d hd hn:)
def ald:=mk ZB Tryz.func315 (hc alc hn)
def gU:=λd hd=>ald.cs (aqK lD d hd:)
def abx:=mk ZE Tryz.func307 (hc K6 (hc F6 (hc La (hc K9 (hc ald hn)))))
def Lc:=λl a hc=>abx.cs (aqL jS jD nN kR gU l a hc:)
def ale:=mk ZF Tryz.func317 hn
def jV:=λn a b=>ale.cs (aqM n a b:)
def alf:=mk ZG Tryz.func308 (hc ale hn)
def jJ:=λa b c d=>alf.cs (aqN jV a b c d:)
def aox:=mk ahh Tryz.func288 (hc F6 (hc abx (hc alf hn)))
def Mx:=λa b c d=>aox.cs (axf jD Lc jJ a b c d:)
def alg:=mk ZH Tryz.func318 hn
def xw:=λn a b=>alg.cs (aqO n a b:)
def alh:=mk ZI Tryz.func309 (hc alg hn)
def uV:=λa b c d=>alh.cs (aqP xw a b c d:)
def ali:=mk ZJ Tryz.func322 (hc anx hn)
def mR:=λa b d hd e c=>ali.cs (arA zD a b d hd e c:)
def au7:Ct aG agd:=never agd
def au8:dL E 323 (dF au7):=nH (enters_of Tryz.func323 (by kernel_rfl) rfl)
def au9:Ct aG agf:=never agf
def ava:dL E 324 (dF au9):=nH (enters_of Tryz.func324 (by kernel_rfl) rfl)
def avb:Ct aG VB:=never VB
def avc:dL E 325 (dF avb):=nH (enters_of Tryz.func325 (by kernel_rfl) rfl)
def avd:Ct aG agh:=never agh
def ave:dL E 326 (dF avd):=nH (enters_of Tryz.func326 (by kernel_rfl) rfl)
def avf:Ct aG VD:=never VD
def avg:dL E 327 (dF avf):=nH (enters_of Tryz.func327 (by kernel_rfl) rfl)
def avh:Ct aG VE:=never VE
def avi:dL E 328 (dF avh):=nH (enters_of Tryz.func328 (by kernel_rfl) rfl)
def avj:Ct aG VF:=never VF
def avk:dL E 329 (dF avj):=nH (enters_of Tryz.func329 (by kernel_rfl) rfl)
def pK:Ct aG JC:=never JC
def pO:dL E 319 (dF pK):=nH (enters_of Tryz.func319 (by kernel_rfl) rfl)
def alj:=mk ZK Tryz.func319 (hc anx (hc ali (hk au8 (hk ava (hk avc (hk ave (hk avg (hk avi (hk avk (hk pO hn))))))))))
def qC:=λa b k d hd e c=>alj.cs (arB mR _ _ _ _ _ _ _ _ _ _ _ _ _ _ _ _ a b k d hd e c:)
def alk:Ct aG agi:={pre:=λx=>decide ((0:Int)<=x.1)&&decide ((x.1:Int)<=18446744073709551615),fn:=λx=>((Lib.bitLen (x.1:Int).toNat:Int),())}
def avl(n:Int)(a:0<=n)(b:n<=18446744073709551615):alk.pre (n,())=true:=by
 show(decide _&&decide _)=true;simp only [Bool.and_eq_true,decide_eq_true_eq];exact⟨a,b⟩
def avm:dL E 320 (dF alk):=
 ajm (enters_of Tryz.func320 (by kernel_rfl) rfl) rfl λx w h=>by
  have a:(decide ((0:Int)<=x)&&decide (x<=18446744073709551615))=true:=h;simp only [Bool.and_eq_true,decide_eq_true_eq]at a;exact bits_Len x w a.1 a.2
def alm:=mk ZL Tryz.func310 (hc alj (hk avm hn))
def xA:=λa b=>alm.cs (arC qC avl a b:)
def aln:=mk ahi Tryz.func290 (hc F6 (hc La (hc abx (hc alh (hc alm hn)))))
def A9:=λa b c d=>aln.cs (axg jD nN Lc uV xA a b c d:)
end Go.TX.F
end
noncomputable section
namespace Go.TX.F
open Go Go.AE Go.TX Go.TX.Seat Go.Proofs List
set_option maxRecDepth 100000
set_option maxHeartbeats 4000000
def aoy:=mk ahj Tryz.func289 (hc F6 (hc adi (hc tY (hc aln hn))))
def Gx:=λa n b=>aoy.cs (axh jD pJ gH A9 a n b:)
def alo:=mk ZM Tryz.func257 (hc K8 (hc adi (hc Lb (hc aox (hc aln (hc aoy (hc ak9 hn)))))))
def MB:=λa x y c b=>alo.cs (aqQ dO pJ qB Mx A9 Gx A8 a x y c b:)
def aoz:=mk ahk Tryz.func206 (hc adg (hc alo (hc ak4 (hc ak5 hn))))
def Fv:=λt a x y c d b=>aoz.cs (axi pI MB sS zG t a x y c d b:)
def Ld:=mk ZN Tryz.func124 (hc tY hn)
def oK:=λr a b=>Ld.cs (arQ gH r a b:)
def alp:=mk ZO Tryz.func298 (hc adh hn)
def DJ:=λa b=>alp.cs (arR ku a b:)
def aoA:=mk ahl Tryz.func262 (hc adh (hc alp hn))
def Aj:=λs a=>aoA.cs (axz ku DJ s a:)
def aoB:=mk ahm Tryz.func209 (hc ak9 (hc F6 (hc adg (hc aoA (hc K8 (hc Ld hn))))))
def MC:=λs n c b a=>aoB.cs (axB A8 jD pI Aj dO oK s n c b a:)
def aoC:=mk ahn Tryz.func132 (hc TS (hc F4 (hc ak7 (hc TR (hc adi (hc aoB (hc aov (hc ak6 (hc aoz (hc abv (hc abw (hc ak8 hn))))))))))))
def ME:=λt b a c=>aoC.cs (axC gT j6 sV lG pJ MC Q7 pR Fv uU sU jP t b a c:)
def alq:=mk ZP Tryz.func265 (hc K8 hn)
def Cc:=λa b c=>alq.cs (asi dO a b c:)
def alr:=mk ZQ Tryz.func264 (hc alq hn)
def dB:=λa b c=>alr.cs (asj Cc a b c:)
def aby:=mk ZR Tryz.func213 (hc alr hn)
def uW:=λa b c=>aby.cs (asl dB a b c:)
def aoD:=mk aho Tryz.func211 (hc K8 (hc aby hn))
def Fw:=λa b c=>aoD.cs (axE dO uW a b c:)
def als:=mk ZT Tryz.func210 (hc aoD hn)
def dh:=λa b c=>als.cs (asn Fw a b c:)
def aoE:=mk ahp Tryz.func133 (hc K8 (hc aby (hc als hn)))
def Le:=λa b c=>aoE.cs (axF dO uW dh a b c:)
def adk:=mk ahq Tryz.func78 (hc F4 (hc akQ (hc aou (hc aoC (hc aoE hn)))))
def rJ:=λb c a hc=>adk.cs (axG j6 AZ Mw ME Le b c a hc:)
def Fx:=mk ZU Tryz.func215 (hc ak7 hn)
def iF:=λg x y k d e f c i j a b h=>Fx.cs (as2 sV g x y k d e f c i j a b h:)
def alu:=mk ZV Tryz.func214 (hc Fx hn)
def wC:=λv i d e f c g j a b h=>alu.cs (as6 iF v i d e f c g j a b h:)
def alv:=mk ZW Tryz.func216 (hc Fx hn)
def Ce:=λk d e g c f i a b h=>alv.cs (as3 iF k d e g c f i a b h:)
def alx:=mk ZX Tryz.func217 (hc Fx hn)
def Cg:=λk d e f c g i a b h=>alx.cs (as4 iF k d e f c g i a b h:)
def aly:=mk ZY Tryz.func218 (hc Fx hn)
def DK:=λd x y e f g c i j a b h=>aly.cs (as5 iF d x y e f g c i j a b h:)
def alz:=mk Z0 Tryz.func134 (hc aly (hc alx (hc alu (hc Fx (hc alv hn)))))
def zH:=λi B a h b c=>alz.cs (as7 DK Cg wC iF Ce i B a h b c:)
def NY:=mk ahr Tryz.func135 hn
def fH:=λb a=>NY.cs (axH b a:)
def avn:=mk ap8 Tryz.func79 (hc au0 (hc NY (hc alz hn)))
def xg:=λb l a=>avn.cs (aAc Dy fH zH b l a:)
def alA:=mk ahs Tryz.func116 (hc akM hn)
def uX:=λe mem a hm b=>alA.cs (ayQ mJ e mem a hm b:)
def aoF:=mk aht Tryz.func137 hn
def Fy:=λe a=>aoF.cs (ayF e a:)
def alB:=mk ahu Tryz.func238 hn
def xk:=λe x=>alB.cs (ayK e x:)
def alC:=mk Z4 Tryz.func136 (hc aoF hn)
def iL:=λl a h=>alC.cs (auc Fy l a h:)
def alD:=mk Z5 Tryz.func136 (hc alB hn)
def gV:=λl x h=>alD.cs (auD xk l x h:)
def alE:=mk Z6 Tryz.func136 (hc alA hn)
def gW:=λl mem h hm=>alE.cs (auJ uX l mem h hm:)
def alF:=mk ahv Tryz.func80 (hc alC hn)
def zI:=λl a h=>alF.cs (ayG iL l a h:)
def aoG:=mk ahw Tryz.func40 (hc avn (hc au0 (hc azc (hc akM (hc alF (hc adk hn))))))
def Q8:=λl mem h hm=>aoG.cs (ayT xg Dy K4 mJ zI rJ l mem h hm:)
def aoH:=mk ahx Tryz.func82 (hc adk hn)
def Lf:=λq b a=>aoH.cs (axS rJ q b a:)
def aoI:=mk ahy Tryz.func236 (hc akQ hn)
def Gy:=λq b c d a=>aoI.cs (axR AZ q b c d a:)
def alG:=mk Z7 Tryz.func138 (hc aoI hn)
def je:=λl b c h=>alG.cs (asq Gy l b c h:)
def alH:=mk Z8 Tryz.func138 (hc aoH hn)
def iG:=λl h=>alH.cs (asr Lf l h:)
def alI:=mk Z9 Tryz.func81 (hc alG hn)
def iH:=λl b c h=>alI.cs (asu je l b c h:)
def alJ:=mk aac Tryz.func81 (hc alH hn)
def gM:=λl h=>alJ.cs (asv iG l h:)
def aoJ:=mk ahz Tryz.func41 (hc alJ hn)
def Q9:=λl h=>aoJ.cs (axU gM l h:)
def alK:=mk ahA Tryz.func15 (hc aoG (hc aoJ (hc akK hn)))
def DL:=λe b a c=>alK.cs (ayU Q8 Q9 Dx e b a c:)
def aoK:=mk ahB Tryz.func37 (hc K9 hn)
def zJ:=λm h=>aoK.cs (ayd kR m h:)
def aoL:=mk ahC Tryz.func108 (hc NY (hc K9 hn))
def xB:=λe a b=>aoL.cs (ayM fH kR e a b:)
def Ra:=mk aad Tryz.func55 (hc aoL hn)
def nO:=λl h=>Ra.cs (auF xB l h:)
def aoM:=mk ahD Tryz.func109 (hc NY hn)
def zK:=λq b a=>aoM.cs (axZ fH q b a:)
def abz:=mk aae Tryz.func56 (hc aoM hn)
def sW:=λl h=>abz.cs (asR zK l h:)
def aoN:=mk ahE Tryz.func25 (hc aoK (hc Ra (hc abz hn)))
def Ak:=λe h=>aoN.cs (ay0 zJ nO sW e h:)
def aoO:=mk ahF Tryz.func26 hn
def Am:=λm=>aoO.cs (ayz m:)
def alL:=mk ahG Tryz.func125 hn
def mO:=λe c lt f b ins d K C regs mem a h=>alL.cs (ayV e c lt f b ins d K C regs mem a h:)
def aoP:=mk ahH Tryz.func73 (hc alL (hc Lb (hc Ld (hc La hn))))
def rT:=λi m K C h b hn a=>aoP.cs (ayX mO qB oK nN i m K C h b hn a:)
end Go.TX.F
end
noncomputable section
namespace Go.TX.F
open Go Go.AE Go.TX Go.TX.Seat Go.Proofs List
set_option maxRecDepth 100000
set_option maxHeartbeats 4000000
def aoQ:=mk ahI Tryz.func38 (hc adf (hc aoP hn))
def wD:=λb m K C h hn a=>aoQ.cs (ayY rG rT b m K C h hn a:)
def alM:=mk aaf Tryz.func74 hn
def wE:=λl n h=>alM.cs (atM l n h:)
def alN:=mk aag Tryz.func39 (hc alM hn)
def rU:=λl n h=>alN.cs (atN wE l n h:)
def azd:=mk ap9 Tryz.func110 (hc akN (hc adf (hc akK hn)))
def Lg:=λm h=>azd.cs (aAt zy rG Dx m h:)
def alO:=mk ahJ Tryz.func302 (hc TS (hc TR hn))
def nU:=λnm b len fin x y k a h=>alO.cs (axJ gT lG nm b len fin x y k a h:)
def alP:=mk ahK Tryz.func299 (hc alO hn)
def pU:=λb a ok hk=>alP.cs (axK nU b a ok hk:)
def aoR:=mk ahL Tryz.func300 (hc TS (hc TR hn))
def Ao:=λb ok=>aoR.cs (axN gT lG b ok:)
def aoS:=mk ahM Tryz.func269 (hc alP (hc aoR (hc F4 hn)))
def Lh:=λb a=>aoS.cs (axP pU Ao j6 b a:)
def aoT:=mk ahN Tryz.func270 (hc alP (hc F4 hn))
def Li:=λb a=>aoT.cs (axO pU j6 b a:)
def aoU:=mk ahO Tryz.func301 hn
def DN:=λi c d e b f g a h=>aoU.cs (axI i c d e b f g a h:)
def aoV:=mk ahP Tryz.func271 (hc NY (hc F4 (hc aoU (hc Lb (hc Ld hn)))))
def Gz:=λb a=>aoV.cs (axL fH j6 DN qB oK b a:)
def aoW:=mk ahQ Tryz.func272 (hc NY (hc alO (hc F4 hn)))
def Lj:=λb a=>aoW.cs (axM fH nU j6 b a:)
def aoX:=mk ahR Tryz.func234 (hc aoV (hc aoW (hc aoS (hc aoT hn))))
def MF:=λb a=>aoX.cs (axQ Gz Lj Lh Li b a:)
def aoY:=mk ahS Tryz.func273 hn
def GA:=λa b e d c f=>aoY.cs (ax5 a b e d c f:)
def aze:=mk aqa Tryz.func274 hn
def MG:=λa b c d=>aze.cs (az6 a b c d:)
def aoZ:=mk ahT Tryz.func275 (hc F4 hn)
def Ll:=λb a=>aoZ.cs (ax6 j6 b a:)
def ao0:=mk ahU Tryz.func235 (hc aze (hc aoZ (hc aoY hn)))
def MH:=λl b a=>ao0.cs (ax8 MG Ll GA l b a:)
def ao1:=mk ahV Tryz.func172 (hc ao0 (hc aoX hn))
def Ch:=λa b h c d=>ao1.cs (ay1 MH MF a b h c d:)
def ao2:=mk ahW Tryz.func173 (hc alI hn)
def MI:=λl b c h=>ao2.cs (axT iH l b c h:)
def alQ:=mk aah Tryz.func237 hn
def rM:=λl n a c b=>alQ.cs (asS l n a c b:)
def ao3:=mk ahX Tryz.func174 (hc abz (hc alQ hn))
def MK:=λl q h b a=>ao3.cs (ax2 sW rM l q h b a:)
def alR:=mk aai Tryz.func115 (hc alB (hc alD hn))
def iI:=λl x h=>alR.cs (auE xk gV l x h:)
def alS:=mk aaj Tryz.func115 (hc alA (hc alE hn))
def gN:=λl mem h hm=>alS.cs (auK uX gW l mem h hm:)
def alT:=mk aak Tryz.func239 hn
def qD:=λl n a c b=>alT.cs (auG l n a c b:)
def ao4:=mk ahY Tryz.func175 (hc Ra (hc alT (hc alR hn)))
def ML:=λl e h b a c=>ao4.cs (ayN nO qD iI l e h b a c:)
def ao5:=mk ahZ Tryz.func240 (hc ade hn)
def MN:=λi=>ao5.cs (ayy wz i:)
def azf:=mk aqb Tryz.func176 (hc ao5 hn)
def GD:=λl a=>azf.cs (aAg MN l a:)
def ao6:=mk ah0 Tryz.func111 (hc avn (hc azf (hc ao4 (hc ao2 (hc ao3 (hc adk (hc ao1 hn)))))))
def Ci:=λl a m K C c b hK hc d hn=>ao6.cs (ay3 xg GD ML MI MK rJ Ch l a m K C c b hK hc d hn:)
def ao7:=mk ah1 Tryz.func114 (hc alL (hc Lb (hc Ld (hc ig hn))))
def xC:=λb m K C c hm d a=>ao7.cs (ayZ mO qB oK bV b m K C c hm d a:)
def ao8:=mk ah2 Tryz.func57 (hc azd (hc alF (hc ao6 (hc ao7 (hc aoQ (hc akU (hc alN hn)))))))
def xD:=λq l a e ok c d z b f hn=>ao8.cs (ay4 Lg zI Ci xC wD nK rU q l a e ok c d z b f hn:)
def ao9:=mk ah3 Tryz.func58 (hc Ra (hc alS hn))
def Lm:=λl mem h hm=>ao9.cs (ayS nO gN l mem h hm:)
def apa:=mk ah4 Tryz.func27 (hc ao9 (hc ao8 hn))
def Cj:=λq l a e ok f b z c d hn=>apa.cs (ay5 Lm xD q l a e ok f b z c d hn:)
def alU:=mk ah5 Tryz.func8 (hc aoN (hc apa (hc alK (hc aoO hn))))
def Ba:=λe q n l z a b hn c=>alU.cs (ay6 Ak Cj DL Am e q n l z a b hn c:)
def alV:=mk aal Tryz.func35 hn
def MO:=λa b c=>alV.cs (aqS a b c:)
def abA:=mk aam Tryz.func13 (hc alV hn)
def Bc:=λa b h=>abA.cs (asY MO a b h:)
def abB:=mk aan Tryz.func12 (hc tY hn)
def F7:=abB.cs (aqR gH:)
def alW:=mk aao Tryz.func4 (hc alU (hc abA (hc abB (hc abt hn))))
def uY:=λc d hc hd=>alW.cs (auU Ba Bc F7 sQ c d hc hd:)
def avo:=λc d hc hd=>(uY c d hc hd).1
def avp:=λc d hc hd=>(uY c d hc hd).2
def alX:=mk aap Tryz.func5 (hc alK (hc alU (hc abA (hc abB (hc abt (hc QS hn))))))
def sZ:=λc hc=>alX.cs (auV DL Ba Bc F7 sQ wh c hc:)
def avq:=λc hc=>(sZ c hc).1
def avr:=λc hc=>(sZ c hc).2
end Go.TX.F
end
