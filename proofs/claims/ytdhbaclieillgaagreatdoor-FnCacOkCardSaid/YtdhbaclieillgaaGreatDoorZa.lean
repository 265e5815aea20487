/- Part 1 of a proof: what the last part needs. No condition. -/
import Derived.WalkKit
import Derived.WalkSpells
import Derived.Laws.BytesArg
import Derived.Deep.LoopGhost
import Derived.Orders
import Derived.MapKept
set_option maxHeartbeats 1000000
set_option linter.all false
set_option linter.unusedSectionVars false
set_option linter.unusedVariables false
set_option linter.unusedSimpArgs false
def ah{p : Prop}(h : p := by omega) : p := h
namespace Go.AE
open Go
variable{v:Value}{w:World}
inductive D where
 | int (k:IntKind) (n:Int)
 | bool (b:Bool)
 | str (s:ByteArray)
 | rows (sz:Nat) (es:List (List D))
 deriving Inhabited
def gd(es:List (List D))(i j:Nat):D:=(es.getD i []).getD j default
def D.oG:D->Bool | .rows _ _=>false | _=>true
inductive dM (K:Nat->Prop) (w:World):Value->D->Prop
 | int (k:IntKind) (n:Int):dM K w (.int k n) (.int k n)
 | bool (b:Bool):dM K w (.bool b) (.bool b)
 | str (s:ByteArray):dM K w (.string s) (.str s)
 | none (a:Option Addr) (cap sz:Nat):dM K w (.slice a 0 cap) (.rows sz [])
 | rows (b off cap sz n:Nat) (es:List (List D)) (u:Nat->Nat->Value):K b->n=es.length->n<=cap->
  (∀i j,i<es.length->j<sz->w.cell? ⟨b,off+i*sz+j,none⟩=some (u i j))->
  (∀i,i<es.length->(es.getD i []).length=sz)->
  (∀i j,i<es.length->j<sz->dM K w (u i j) (gd es i j))->
  dM K w (.slice (some ⟨b,off,none⟩) n cap) (.rows sz es)
theorem qC{w w':World}{b:Nat}(h:w'.heap[b]? =w.heap[b]?)(o:Nat):w'.cell? ⟨b,o,none⟩=w.cell? ⟨b,o,none⟩:=by grind [World.cell?]
def dM.mono{K K':Nat->Prop}{w w':World}(hK:∀b,K b->K' b)(q:∀b,K b->w'.heap[b]? =w.heap[b]?){x:D}
  (h:dM K w v x):dM K' w' v x:=by
 induction h with
 | int k n=>exact .int k n
 | bool b=>exact .bool b
 | str s=>exact .str s
 | none a c f=>exact .none a c f
 | rows b e c f n g u l hn d hc o _ m=>
  exact .rows b e c f n g u (hK b l) hn d (λi j p r=>by grind [qC]) o m
def dM.oG{K:Nat->Prop}(c:Nat->Prop){x:D}(a:x.oG=true)(h:dM K w v x):dM c w v x:=by
 cases h with
 | int k n=>exact .int k n
 | bool b=>exact .bool b
 | str s=>exact .str s
 | none=>simp [D.oG]at a
 | rows=>simp [D.oG]at a
def dM.mono'{K a:Nat->Prop}(hK:∀b,K b->a b){x:D}(h:dM K w v x):dM a w v x:=
 h.mono hK (λ_ _=>rfl)
structure Ctx where
 K:Bool->Nat->Prop
 ν:Nat->Option (Nat×Nat)
 n:Nat
def Ctx.μ(c:Ctx)(l:Nat):Option Nat:=(c.ν l).map (·.1)
def kY{c:Ctx}{l b o:Nat}(h:c.ν l=some (b,o)):c.μ l=some b:=by simp [Ctx.μ,h]
def aqD{c:Ctx}{l:Nat}(h:c.ν l=none):c.μ l=none:=by simp [Ctx.μ,h]
def aqE{c:Ctx}{l b:Nat}(h:c.μ l=some b):∃o,c.ν l=some (b,o):=by
 unfold Ctx.μ at h;cases e:c.ν l with
 | none=>rw [e]at h;cases h
 | some p=>rw [e]at h;cases h;exact⟨p.2,rfl⟩
inductive Cell where
 | d (f:Bool) (x:D)
 | nil
 | clip (f:Bool) (sz:Nat) (es:List (List D))
 | os (l sz lo n:Nat)
 | ptr (l sz i j:Nat)
 | rp (f:Bool) (sz:Nat) (es:List (List D)) (i j:Nat)
 | fn (g:FuncId) (cap:List Cell)
 | np
 deriving Inhabited
def World.room(w:World)(b m:Nat):Prop:=∃c E a,w.heap[b]? =some (.cells c E a)/\m<=c.size
inductive bQ (c:Ctx) (w:World):Value->Cell->Prop
 | d (f:Bool) (v:Value) (x:D):dM (c.K f) w v x->bQ c w v (.d f x)
 | nil:bQ c w (.slice none 0 0) .nil
 | clip (f:Bool) (a:Option Addr) (n sz:Nat) (es:List (List D)):dM (c.K f) w (.slice a n n) (.rows sz es)->bQ c w (.slice a n n) (.clip f sz es)
 | os0 (a:Option Addr) (l sz:Nat):l<c.n->c.μ l=none->bQ c w (.slice a 0 0) (.os l sz 0 0)
 | osE (a:Option Addr) (l sz lo b:Nat):l<c.n->c.μ l=some b->bQ c w (.slice a 0 0) (.os l sz lo 0)
 | os (l sz lo n cap b o:Nat):l<c.n->c.ν l=some (b,o)->n<=cap->World.room w b (o+(lo+cap)*sz)->bQ c w (.slice (some ⟨b,o+lo*sz,none⟩) n cap) (.os l sz lo n)
 | ptr (l sz i j b o:Nat):l<c.n->c.ν l=some (b,o)->bQ c w (.pointer (some ⟨b,o+(i*sz+j),none⟩)) (.ptr l sz i j)
 | rp (f:Bool) (b off sz:Nat) (es:List (List D)) (i j:Nat) (u:Nat->Nat->Value):c.K f b->
  (∀i j,i<es.length->j<sz->w.cell? ⟨b,off+i*sz+j,none⟩=some (u i j))->
  (∀i,i<es.length->(es.getD i []).length=sz)->
  (∀i j,i<es.length->j<sz->dM (c.K f) w (u i j) (gd es i j))->
  i<es.length->bQ c w (.pointer (some ⟨b,off+i*sz+j,none⟩)) (.rp f sz es i j)
 | fn (g:FuncId) (vs:List Value) (cap:List Cell):vs.length=cap.length->(∀i,i<cap.length->bQ c w (vs.getD i undef) (cap.getD i default))->
  bQ c w (.func (.func g) #[] vs.toArray) (.fn g cap)
 | np:bQ c w (.pointer none) .np
structure CLe(c c':Ctx):Prop where
 K:∀f b,c.K f b->c'.K f b
 n:c.n<=c'.n
 ν:∀l,l<c.n->c'.ν l=c.ν l
def CLe.μ{c a:Ctx}(h:CLe c a)(l:Nat)(b:l<c.n):a.μ l=c.μ l:=by simp [Ctx.μ,h.ν l b]
def CLe.refl(c:Ctx):CLe c c:=⟨λ_ _ h=>h,Nat.le_refl _,λ_ _=>rfl⟩
def CLe.trans{a b c:Ctx}(h:CLe a b)(k:CLe b c):CLe a c:=
 ⟨λf x e=>k.K f x (h.K f x e),Nat.le_trans h.n k.n,λl d=>(k.ν l (Nat.lt_of_lt_of_le d h.n)).trans (h.ν l d)⟩
def World.jW(w w':World):Prop:=∀b m,World.room w b m->World.room w' b m
def bQ.mono{c c':Ctx}{w w':World}(hc:CLe c c')(p:∀f b,c.K f b->w'.heap[b]? =w.heap[b]?)(A:World.jW w w'){x:Cell}
  (h:bQ c w v x):bQ c' w' v x:=by
 induction h with
 | d f v x h=>exact .d f v x (h.mono (hc.K f) (p f))
 | nil=>exact .nil
 | clip f a n k s h=>exact .clip f a n k s (h.mono (hc.K f) (p f))
 | os0 a l k e hm=>exact .os0 a l k (Nat.lt_of_lt_of_le e hc.n) ((hc.μ l e).trans hm)
 | osE a l k q b e hm=>exact .osE a l k q b (Nat.lt_of_lt_of_le e hc.n) ((hc.μ l e).trans hm)
 | os l k q n m b o e hm hn B=>exact .os l k q n m b o (Nat.lt_of_lt_of_le e hc.n) ((hc.ν l e).trans hm) hn (A b _ B)
 | ptr l k i j b o e hm=>exact .ptr l k i j b o (Nat.lt_of_lt_of_le e hc.n) ((hc.ν l e).trans hm)
 | rp f b r k s i j u C H D z E=>
  exact .rp f b r k s i j u (hc.K f b C) (λi j t y=>by grind [qC]) D
   (λi j t y=>(z i j t y).mono (hc.K f) (p f)) E
 | fn g F m e _ G=>grind [fn]
 | np=>exact .np
inductive F2 {α β:Type} (R:α->β->Prop):List α->List β->Prop
 | nil:F2 R [] []
 | cons {a:α} {b:β} {l:List α} {m:List β}:R a b->F2 R l m->F2 R (a::l) (b::m)
inductive PV where
 | c (x:Cell)
 | agg (cs:List Cell)
 | tup (vs:List PV)
 deriving Inhabited
inductive bK (c:Ctx) (w:World):Value->PV->Prop
 | c (v:Value) (x:Cell):bQ c w v x->bK c w v (.c x)
 | agg (vs:List Value) (cs:List Cell):F2 (bQ c w) vs cs->bK c w (.agg vs.toArray) (.agg cs)
 | tup (vs:List Value) (ps:List PV):vs.length=ps.length->(∀i,i<ps.length->bK c w (vs.getD i undef) (ps.getD i default))->bK c w (.tuple vs.toArray) (.tup ps)
def F2.mono{α β:Type}{R S:α->β->Prop}(h:∀a b,R a b->S a b){l:List α}{m:List β}(c:F2 R l m):F2 S l m:=by
 induction c with
 | nil=>exact .nil
 | cons e _ d=>grind [cons]
def F2.length{α β:Type}{R:α->β->Prop}{l:List α}{m:List β}(b:F2 R l m):l.length=m.length:=by
 induction b with
 | nil=>rfl
 | cons _ _ a=>simp [a]
def F2.get{α β:Type}{R:α->β->Prop}{l:List α}{m:List β}(c:F2 R l m){i:Nat}{b:β}(h:m[i]? =some b):∃a,l[i]? =some a/\R a b:=by
 induction c generalizing i with
 | nil=>simp at h
 | @cons a f l m e _ d=>grind
def F2.append{α β:Type}{R:α->β->Prop}{l c:List α}{m b:List β}(f:F2 R l m)(a:F2 R c b):F2 R (l++c) (m++b):=by
 induction f with
 | nil=>exact a
 | cons e _ d=>exact .cons e d
def F2.take{α β:Type}{R:α->β->Prop}{l:List α}{m:List β}(c:F2 R l m)(n:Nat):F2 R (l.take n) (m.take n):=by
 induction c generalizing n with
 | nil=>simp;exact .nil
 | cons b _ a=>cases n with
  | zero=>exact .nil
  | succ n=>exact .cons b (a n)
def F2.drop{α β:Type}{R:α->β->Prop}{l:List α}{m:List β}(d:F2 R l m)(n:Nat):F2 R (l.drop n) (m.drop n):=by
 induction d generalizing n with
 | nil=>simp;exact .nil
 | cons c b a=>cases n with
  | zero=>exact .cons c b
  | succ n=>exact a n
def F2.EZ{α β:Type}{R:α->β->Prop}:∀ {l:List α} {m:List β},l.length=m.length->(∀(i:Nat) (a:α) (b:β),l[i]? =some a->m[i]? =some b->R a b)->F2 R l m
 | [],[],_,_=> .nil
 | a::l,b::m,h,k=> .cons (k 0 a b rfl rfl) (F2.EZ (by simpa using h) λi x y c d=>k (i+1) x y (by simpa using c) (by simpa using d))
def bK.mono{c c':Ctx}{w w':World}(hc:CLe c c')(d:∀f b,c.K f b->w'.heap[b]? =w.heap[b]?)(e:World.jW w w'){x:PV}
  (h:bK c w v x):bK c' w' v x:=by
 induction h with
 | c v x h=>exact .c v x (h.mono hc d e)
 | agg a cs h=>exact .agg a cs (F2.mono (λ_ _ h=>h.mono hc d e) h)
 | tup a j i _ g=>exact .tup a j i g
inductive fK where
 | box (cs:List Cell)
 | rows (f:Bool) (sz:Nat) (es:List (List D))
 | gone
 deriving Inhabited
abbrev Heap:=List (Nat×fK)
def look:Heap->Nat->Option fK
 | [],_=>none
 | (m,o)::t,l=>if m=l then some o else look t l
def bT(K:Nat->Prop)(w:World)(cells:Array Value)(sz:Nat)(es:List (List D)):Prop:=
 ∀i,i<es.length->(es.getD i []).length=sz/\∀j,j<sz->∃v,cells[i*sz+j]? =some v/\dM K w v (gd es i j)
def from_(cells:Array Value)(o:Nat):Array Value:=(cells.toList.drop o).toArray
def Av{cells:Array Value}{o i:Nat}:(from_ cells o)[i]? =cells[o+i]? :=by simp [from_]
@[simp] theorem aar{cells : Array Value} : from_ cells 0 = cells := by simp [from_]
def jM(c:Ctx)(w:World)(l:Nat):fK->Prop
 | .box cs=>∃b vs E,c.ν l=some (b,0)/\w.heap[b]? =some (.cells vs.toArray E (0,0))/\F2 (bQ c w) vs cs
 | .rows f sz es=>match c.ν l with
  | none=>es=[]
  | some (b,o)=>∃cells E,w.heap[b]? =some (.cells cells E (0,0))/\bT (c.K f) w (from_ cells o) sz es
 | .gone=>True
def fK.live:fK->Prop
 | .gone=>False
 | _=>True
def fP(c:Ctx)(h:Heap)(b:Nat):Prop:=∃l o,look h l=some o/\o.live/\c.μ l=some b
structure bL(c:Ctx)(w:World)(h:Heap):Prop where
 obj:∀l o,look h l=some o->l<c.n/\jM c w l o
 inj:∀l o l' o' b,look h l=some o->o.live->look h l'=some o'->o'.live->c.μ l=some b->c.μ l'=some b->l=l'
 own:∀f b,fP c h b->¬c.K f b
 low:∀f b,c.K f b->b<w.heap.size
 sub:∀b,c.K true b->c.K false b
structure Grow(c:Ctx)(w:World)(h:Heap)(c':Ctx)(w':World)(h':Heap):Prop where
 le:CLe c c'
 size:w.heap.size<=w'.heap.size
 stays:World.jW w w'
 kept:∀b,b<w.heap.size->¬fP c h b->w'.heap[b]? =w.heap[b]?
 yT:∀f b,c'.K f b->c.K f b\/w.heap.size<=b\/fP c h b
 qV:∀b,fP c' h' b->fP c h b\/w.heap.size<=b
 os:w'.os=w.os
 tape:w'.tape=w.tape
 output:w'.output=w.output
def World.jW.refl(w:World):World.jW w w:=λ_ _ h=>h
def World.jW.trans{a b c:World}(h:World.jW a b)(k:World.jW b c):World.jW a c:=λx m d=>k x m (h x m d)
def Grow.refl(c:Ctx)(w:World)(h:Heap):Grow c w h c w h:=
 ⟨.refl c,Nat.le_refl _,.refl w,λ_ _ _=>rfl,λ_ _ h=> .inl h,λ_ h=> .inl h,rfl,rfl,rfl⟩
def Grow.trans{c c' e:Ctx}{w w' j:World}{h h' i:Heap}(g:Grow c w h c' w' h')(k:Grow c' w' h' e j i):Grow c w h e j i where
 le:=g.le.trans k.le
 size:=Nat.le_trans g.size k.size
 stays:=g.stays.trans k.stays
 kept:=λb d hn=>by
  rw [k.kept b (Nat.lt_of_lt_of_le d g.size) (λl=>(g.qV b l).elim hn (λm=>by omega)),g.kept b d hn]
 yT:=λf b d=>by
  rcases k.yT f b d with a | a | a
  .exact g.yT f b a
  .exact .inr (.inl (Nat.le_trans g.size a))
  .rcases g.qV b a with h2 | h2
   all_goals simp_all
 qV:=λb d=>by
  rcases k.qV b d with a | a
  .exact g.qV b a
  .exact .inr (Nat.le_trans g.size a)
 os:=k.os.trans g.os
 tape:=k.tape.trans g.tape
 output:=k.output.trans g.output
def Grow.ro{c e:Ctx}{w a:World}{h j:Heap}(g:Grow c w h e a j)(r:bL c w h)(f:Bool)(b:Nat)(d:c.K f b):a.heap[b]? =w.heap[b]? :=
 g.kept b (r.low f b d) (λi=>r.own f b i d)
def bQ.grow{c c':Ctx}{w w':World}{h b:Heap}(r:bL c w h)(g:Grow c w h c' w' b){x:Cell}(a:bQ c w v x):bQ c' w' v x:=
 a.mono g.le (g.ro r) g.stays
def bK.grow{c c':Ctx}{w w':World}{h b:Heap}(r:bL c w h)(g:Grow c w h c' w' b){x:PV}(a:bK c w v x):bK c' w' v x:=
 a.mono g.le (g.ro r) g.stays
end Go.AE
namespace Go.AE
open Go
inductive mO where
 | scalar
 | str
 | bool
 | int (k:IntKind)
 | slice (e:TypeId)
 | struct (fs:List (Nat×TypeId))
 deriving Inhabited
structure TY where
 desc:mO
 size:Nat
 bytes:Nat
 zero:List Cell
 deriving Inhabited
def mO.agg:mO->Bool | .struct _=>true | _=>false
structure Tab where
 P:Program
 ty:TypeId->Option TY
 glob:Nat->Option D
 ieq:TypeId->Option Nat
def Ld(P:Program)(t:TypeId):mO->Prop
 | .scalar=>∃d,P.underlying t=some d/\(∀a,d≠ .struct a)/\(∀n e,d≠ .array n e)
 | .str=>P.underlying t=some .string
 | .bool=>P.underlying t=some .bool
 | .int k=>P.underlying t=some (.int k)
 | .slice e=>P.underlying t=some (.slice e)
 | .struct a=>∃F:Array Field,P.underlying t=some (.struct F)/\F.toList.map (λf=>(f.offset,f.type))=a
structure abm(P:Program)(t:TypeId)(y:TY):Prop where
 info:∃i,P.info? t=some i/\i.size=y.size/\i.bytes=y.bytes/\∃z,i.zero=some z/\∀c w,F2 (bQ c w) z.cells.toList y.zero
 desc:Ld P t y.desc
 len:y.zero.length=y.size
structure aI(E:Tab):Prop where
 ty:∀t y,E.ty t=some y->abm E.P t y
 ieq:∀t n,E.ieq t=some n->∀(xs ys:List Int),xs.length=n->ys.length=n->∀w,
  (Op.equal t (.agg (xs.map (Value.int .i64)).toArray) (.agg (ys.map (Value.int .i64)).toArray)).run E.P w= .ok (xs==ys) w/\
  (eqGuard .eql t (.tmp 0) (.tmp 0) (.agg (xs.map (Value.int .i64)).toArray) (.agg (ys.map (Value.int .i64)).toArray)).run E.P w= .ok () w
def qW(E:Tab)(c:Ctx)(w:World):Prop:=∀g d,E.glob g=some d->c.K false g/\∃u,w.cell? ⟨g,0,none⟩=some u/\dM (c.K false) w u d
abbrev Slots:=List (Nat×Option PV)
def aY:Slots->Nat->Option PV
 | [],_=>none
 | (m,o)::t,l=>if m=l then o else aY t l
def ci(k:IntKind)(n:Int):PV:= .c (.d true (.int k n))
def cb(b:Bool):PV:= .c (.d true (.bool b))
def ic(k:IntKind)(n:Int):List D:=[.int k n]
def Qs:Value->Option PV
 | .int k n=>some (ci k n)
 | .bool b=>some (cb b)
 | .string s=>some (.c (.d true (.str s)))
 | .slice none 0 0=>some (.c .nil)
 | .pointer none=>some (.c .np)
 | _=>none
def ev(E:Tab)(t:Slots):Operand->Option PV
 | .tmp i=>aY t i
 | .const v=>Qs v
 | .global g=>(E.glob g).map λd=> .c (.rp false 1 [[d]] 0 0)
 | .func f=>some (.c (.fn f []))
def aT(o:Option PV)(K:PV->Prop):Prop:=match o with | some v=>K v | none=>False
def NS(b:Bool)(x y:Prop):Prop:=(b=true->x)/\(b=false->y)
def aD(o:Option TY)(K:TY->Prop):Prop:=match o with | some v=>K v | none=>False
def qD(o:Option fK)(K:fK->Prop):Prop:=match o with | some v=>K v | none=>False
def DC(o:Option Cell)(K:Cell->Prop):Prop:=match o with | some v=>K v | none=>False
def Ki:PV->(Bool->Prop)->Prop
 | .c (.d _ (.bool b)),K=>K b
 | _,_=>False
def sS:PV->(IntKind->Int->Prop)->Prop
 | .c (.d _ (.int k n)),K=>K k n
 | _,_=>False
def vM(f:Bool)(y:TY)(row:List D)(j:Nat)(K:PV->Prop):Prop:=
 match y.desc with
 | .struct _=>j+y.size<=row.length/\K (.agg (((row.drop j).take y.size).map (.d f)))
 | .int k=>(∃n,row[j]? =some (.int k n))/\∀n,row[j]? =some (.int k n)->K (ci k n)
 | _=>j<row.length/\∀x,row[j]? =some x->K (.c (.d f x))
def abn(f:Bool)(a:List (List D))(i j:Nat)(y:TY)(K:PV->Prop):Prop:=
 i<a.length/\∀row,a[i]? =some row->vM f y row j K
def Le(cs:List Cell)(j:Nat)(y:TY)(K:PV->Prop):Prop:=
 if y.desc.agg then j+y.size<=cs.length/\K (.agg ((cs.drop j).take y.size))else DC cs[j]? λx=>K (.c x)
def aio(o:fK)(sz i j:Nat)(y:TY)(K:PV->Prop):Prop:=
 match o with
 | .box cs=>i=0/\Le cs j y K
 | .rows f a b=>sz=a/\abn f b i j y K
 | .gone=>False
def mP(E:Tab)(h:Heap)(ty:TypeId)(p:PV)(K:PV->Prop):Prop:=
 aD (E.ty ty) λy=>
  match p with
  | .c (.ptr l sz i j)=>qD (look h l) λo=>aio o sz i j y K
  | .c (.rp f _ es i j)=>abn f es i j y K
  | _=>False
def Qt:PV->(PV->Prop)->Prop
 | .c (.ptr l s i j),K=>K (.c (.ptr l s i j))
 | .c (.rp f s es i j),K=>K (.c (.rp f s es i j))
 | _,_=>False
def ku(c:BinOp)(k:IntKind)(x y:Int):Int:=
 let a:=BitVec.ofInt k.bits x
 let b:=BitVec.ofInt k.bits y
 k.wrap (match c with | .and=>(a&&&b).toNat | .or=>(a ||| b).toNat | .xor=>(a^^^b).toNat | _=>(a&&& ~~~b).toNat:Nat)
def Ca(a:BinOp)(k:IntKind)(x y:Int)(K:PV->Prop):Prop:=
 match a with
 | .add=>K (ci k (k.wrap (x+y)))
 | .sub=>K (ci k (k.wrap (x-y)))
 | .mul=>K (ci k (k.wrap (x*y)))
 | .quo=>y≠0/\K (ci k (k.wrap (x.tdiv y)))
 | .rem=>y≠0/\K (ci k (x.tmod y))
 | .and=>K (ci k (ku .and k x y))
 | .or=>K (ci k (ku .or k x y))
 | .xor=>K (ci k (ku .xor k x y))
 | .shl=>0<=y/\K (ci k (k.wrap (x*2^ (min y.toNat k.bits))))
 | .shr=>0<=y/\K (ci k (x.fdiv (2^ (min y.toNat k.bits))))
 | .eql=>K (cb (decide (x=y)))
 | .neq=>K (cb (!decide (x=y)))
 | .lss=>K (cb (decide (x<y)))
 | .leq=>K (cb (decide (x<=y)))
 | .gtr=>K (cb (decide (y<x)))
 | .geq=>K (cb (decide (y<=x)))
 | _=>False
def Qu:Cell->Option Int
 | .d _ (.int .i64 n)=>some n
 | _=>none
def iM:List Cell->Option (List Int)
 | []=>some []
 | x::r=>match Qu x,iM r with | some n,some l=>some (n::l) | _,_=>none
def vN(o:Option (List Int))(K:List Int->Prop):Prop:=match o with | some v=>K v | none=>False
def YL:BinOp->Bool
 | .shl | .shr=>true
 | _=>false
def Cc(E:Tab)(c:BinOp)(ty:TypeId)(a b:PV)(K:PV->Prop):Prop:=
 match a,b with
 | .c (.d _ (.int k x)),.c (.d _ (.int k' y))=>(k=k'\/YL c=true)/\Ca c k x y K
 | .c (.d _ (.bool x)),.c (.d _ (.bool y))=>aD (E.ty ty) λz=>z.desc= .bool/\(match c with | .eql=>K (cb (x==y)) | .neq=>K (cb (!(x==y))) | _=>False)
 | .c (.d _ (.str x)),.c (.d _ (.str y))=>aD (E.ty ty) λz=>z.desc= .str/\(match c with | .eql=>K (cb (x.toList==y.toList)) | .neq=>K (cb (!(x.toList==y.toList))) | _=>False)
 | .agg xs,.agg ys=>vN (iM xs) λx=>vN (iM ys) λy=>
  E.ieq ty=some x.length/\x.length=y.length/\(match c with | .eql=>K (cb (x==y)) | .neq=>K (cb (!(x==y))) | _=>False)
 | .c (.os _ _ _ n),.c .nil=>n≠0/\aD (E.ty ty) λz=>(∃e,z.desc= .slice e)/\(match c with | .eql=>K (cb false) | .neq=>K (cb true) | _=>False)
 | .c (.d _ (.rows _ es)),.c .nil=>es≠ []/\aD (E.ty ty) λz=>(∃e,z.desc= .slice e)/\(match c with | .eql=>K (cb false) | .neq=>K (cb true) | _=>False)
 | _,_=>False
def unA(c:UnOp)(a:PV)(K:PV->Prop):Prop:=
 match c,a with
 | .not,.c (.d _ (.bool b))=>K (cb (!b))
 | .neg,.c (.d _ (.int k n))=>K (ci k (k.wrap (0-n)))
 | _,_=>False
def ak6:List D->Option Int
 | [.int .u8 n]=>some n
 | _=>none
def NT:List (List D)->Option (List Int)
 | []=>some []
 | x::r=>match ak6 x,NT r with | some n,some l=>some (n::l) | _,_=>none
def E5(E:Tab)(src b:TypeId)(a:PV)(K:PV->Prop):Prop:=
 aD (E.ty b) λy=>match y.desc,a with
  | .int k,.c (.d _ (.int _ n))=>aD (E.ty src) λ_=>K (ci k (k.wrap n))
  | .str,.c (.d _ (.rows _ es))=>aD (E.ty src) λz=>(match z.desc with
   | .slice e=>aD (E.ty e) λt=>t.desc= .int .u8/\vN (NT es) λc=>K (.c (.d true (.str (strOfNums c))))
   | _=>False)
  | _,_=>False
def jC(E:Tab)(s:TypeId)(a:PV)(f:Nat)(K:PV->Prop):Prop:=
 aD (E.ty s) λy=>match y.desc with
  | .struct b=>match b[f]? with
   | some (off,ft)=>aD (E.ty ft) λz=>z.size≠0/\(match a with
    | .c (.ptr l sz i j)=>K (.c (.ptr l sz i (j+off)))
    | .c (.rp r sz es i j)=>K (.c (.rp r sz es i (j+off)))
    | _=>False)
   | none=>False
  | _=>False
def vO(E:Tab)(s:TypeId)(a:PV)(f:Nat)(K:PV->Prop):Prop:=
 aD (E.ty s) λy=>match y.desc with
  | .struct b=>match b[f]? with
   | some (off,ft)=>aD (E.ty ft) λz=>match a with
    | .agg cs=>off+z.size<=cs.length/\(if z.desc.agg then K (.agg ((cs.drop off).take z.size))else DC cs[off]? λx=>K (.c x))
    | _=>False
   | none=>False
  | _=>False
def kL(E:Tab)(t:TypeId)(a b:PV)(K:PV->Prop):Prop:=
 aD (E.ty t) λy=>match y.desc with
  | .slice e=>aD (E.ty e) λz=>sS b λ_ i=>
   match a with
   | .c (.d f (.rows sz es))=>(es≠ []->sz=z.size)/\0<=i/\i<es.length/\K (.c (.rp f sz es i.toNat 0))
   | .c (.clip f sz es)=>(es≠ []->sz=z.size)/\0<=i/\i<es.length/\K (.c (.rp f sz es i.toNat 0))
   | .c (.os l sz lo n)=>sz=z.size/\0<=i/\i<n/\K (.c (.ptr l sz (lo+i.toNat) 0))
   | _=>False
  | _=>False
def NU:PV->(PV->Prop)->Prop
 | .c (.d _ (.rows _ es)),K=>K (ci .i64 es.length)
 | .c (.clip _ _ es),K=>K (ci .i64 es.length)
 | .c (.os _ _ _ n),K=>K (ci .i64 n)
 | .c .nil,K=>K (ci .i64 0)
 | _,_=>False
def rM(a:PV)(i:Nat)(K:PV->Prop):Prop:=
 match a with
 | .tup b=>aT b[i]? K
 | _=>False
def aR:PV->List Cell
 | .c x=> [x]
 | .agg cs=>cs
 | .tup _=> []
def Aw(E:Tab)(t:Slots)(o:Option Operand)(a:Int)(K:Int->Prop):Prop:=
 match o with
 | none=>K a
 | some x=>aT (ev E t x) λv=>sS v λ_ n=>K n
def vP(E:Tab)(t:Slots)(ty:TypeId)(a:PV)(lo c d:Option Operand)(K:PV->Prop):Prop:=
  aD (E.ty ty) λy=>match y.desc with
    | .slice e=>aD (E.ty e) λz=>Aw E t lo 0 λl=>
      match a with
      | .c (.d f (.rows sz es))=>(es≠ []->sz=z.size)/\(Aw E t c es.length λh=>0<=l/\l<=h/\h<=es.length/\
          (match d with
           | none=>K (.c (.d f (.rows sz ((es.take h.toNat).drop l.toNat))))
           | some _=>Aw E t d 0 λm=>c.isSome=true/\m=h/\K (.c (.clip f sz ((es.take h.toNat).drop l.toNat)))))
      | .c (.os b sz lo0 n)=>sz=z.size/\d=none/\(Aw E t c n λh=>0<=l/\l<=h/\h<=n/\K (.c (.os b sz (lo0+l.toNat) (h.toNat-l.toNat))))
      | .c .nil=>d=none/\(Aw E t c 0 λh=>l=0/\h=0/\K (.c .nil))
      | _=>False
    | _=>False
def splice(cs new:List Cell)(a:Nat):List Cell:=cs.take a++new++cs.drop (a+new.length)
def uG(E:Tab)(t:Slots)(a:Nat->Option (Nat×Nat)):List (Nat×Operand)->List Cell->(List Cell->Prop)->Prop
 | [],cs,K=>K cs
 | (i,x)::rest,cs,K=>match a i with
  | none=>False
  | some (off,size)=>aT (ev E t x) λv=>(aR v).length=size/\size≠0/\off+size<=cs.length/\uG E t a rest (splice cs (aR v) off) K
def qE(E:Tab)(a:List (Nat×TypeId))(i:Nat):Option (Nat×Nat):=
 match a[i]? with
 | some (off,ft)=>match E.ty ft with | some z=>some (off,z.size) | none=>none
 | none=>none
def Ce(E:Tab)(t:Slots)(ty:TypeId)(a:List (Nat×Operand))(K:PV->Prop):Prop:=
 aD (E.ty ty) λy=>match y.desc with
  | .struct b=>(∀c∈b,(E.ty c.2).isSome=true)/\uG E t (qE E b) a y.zero λcs=>K (.agg cs)
  | _=>False
def uH(E:Tab)(t:Slots):List Operand->(List Cell->Prop)->Prop
 | [],K=>K []
 | x::r,K=>aT (ev E t x) λv=>match v with
  | .c y=>uH E t r λa=>K (y::a)
  | _=>False
def abo:PV->(PV->Prop)->Prop
 | .c .nil,K=>K (ci .i64 0)
 | _,_=>False
def uI(E:Tab)(t:Slots)(c:Call)(K:PV->Prop):Prop:=
 match c.callee with
 | .builtin .len=>match c.args.toList,c.argTypes.toList with
  | [x],[ty]=>aD (E.ty ty) λy=>(match y.desc with | .slice _=>True | _=>False)/\aT (ev E t x) λv=>NU v K
  | _,_=>False
 | .builtin .cap=>match c.args.toList,c.argTypes.toList with
  | [x],[ty]=>aD (E.ty ty) λy=>(match y.desc with | .slice _=>True | _=>False)/\aT (ev E t x) λv=>abo v K
  | _,_=>False
 | .builtin .min=>match c.args.toList with
  | [x,y]=>aT (ev E t x) λa=>aT (ev E t y) λb=>sS a λk m=>sS b λ_ n=>K (ci k (if n<m then n else m))
  | _=>False
 | .builtin .max=>match c.args.toList with
  | [x,y]=>aT (ev E t x) λa=>aT (ev E t y) λb=>sS a λk m=>sS b λ_ n=>K (ci k (if m<n then n else m))
  | _=>False
 | _=>False
def gX(E:Tab)(j:Op)(t:Slots)(h:Heap)(K:PV->Prop):Prop:=
 match j with
 | .move x | .assign x=>aT (ev E t x) K
 | .pick c a b=>aT (ev E t c) λv=>Ki v λq=>NS q (aT (ev E t a) K) (aT (ev E t b) K)
 | .load ty p=>aT (ev E t p) λv=>mP E h ty v K
 | .nilCheck x=>aT (ev E t x) λv=>Qt v K
 | .binOp j ty x y _=>aT (ev E t x) λa=>aT (ev E t y) λb=>Cc E j ty a b K
 | .unOp j _ x=>aT (ev E t x) λa=>unA j a K
 | .convert s d x=>aT (ev E t x) λa=>E5 E s d a K
 | .fieldAddr s x f=>aT (ev E t x) λa=>jC E s a f K
 | .field s x f=>aT (ev E t x) λa=>vO E s a f K
 | .indexAddr ty x i=>aT (ev E t x) λa=>aT (ev E t i) λb=>kL E ty a b K
 | .slice ty x m l n=>aT (ev E t x) λa=>vP E t ty a m l n K
 | .extract x i=>aT (ev E t x) λa=>rM a i K
 | .build ty e=>Ce E t ty e.toList K
 | .makeFunc o first k=>match o with
  | .func g=>first= #[]/\uH E t k.toList λcs=>K (.c (.fn g cs))
  | _=>False
 | .call c=>uI E t c K
 | _=>False
variable{K:PV->Prop}{c:Ctx}{w:World}{v:PV}{E:Tab}{t:TypeId}{h:Heap}{x:Operand}{u:Value}{f:Bool}{k:IntKind}{y:TY}
structure rO(E:Tab)(c:Ctx)(w:World)(t:Slots)(h:Heap)(a:Act):Prop where
 slot:∀i v,aY t i=some v->∃u,a.tmps[i]? =some u/\bK c w u v
 heap:bL c w h
 glob:qW E c w
def kM{o:Option PV}(h:aT o K):∃v,o=some v/\K v:=by
 cases o with
 | none=>exact h.elim
 | some v=>exact⟨v,rfl,h⟩
def aJ{o:Option TY}{K:TY->Prop}(h:aD o K):∃v,o=some v/\K v:=by
 cases o with
 | none=>exact h.elim
 | some v=>exact⟨v,rfl,h⟩
def mW{o:Option fK}{K:fK->Prop}(h:qD o K):∃v,o=some v/\K v:=by
 cases o with
 | none=>exact h.elim
 | some v=>exact⟨v,rfl,h⟩
def E8{o:Option Cell}{K:Cell->Prop}(h:DC o K):∃v,o=some v/\K v:=by
 cases o with
 | none=>exact h.elim
 | some v=>exact⟨v,rfl,h⟩
def bQ.ofInt(k:IntKind)(n:Int)(f:Bool):bQ c w (.int k n) (.d f (.int k n)):= .d f _ _ (.int k n)
def bK.ofInt(k:IntKind)(n:Int):bK c w (.int k n) (ci k n):= .c _ _ (.ofInt k n true)
def bK.ofBool(b:Bool):bK c w (.bool b) (cb b):= .c _ _ (.d true _ _ (.bool b))
def Lf{v:Value}{p:PV}(h:Qs v=some p):bK c w v p:=by
 unfold Qs at h;split at h<;>first | (cases h) | skip
 .exact .ofInt _ _
 .exact .ofBool _
 .exact .c _ _ (.d true _ _ (.str _))
 .exact .c _ _ .nil
 .exact .c _ _ .np
def NV{t:Slots}{a:Act}(A:rO E c w t h a)(e:ev E t x=some v):
  bK c w (a.eval x) v:=by
 cases x with
 | tmp i=>
  obtain⟨u,l,m⟩:=A.slot i v e;have:a.eval (.tmp i)=u:=by simp [Act.eval,Array.getD_eq_getD_getElem?,l]
  rw [this];exact m
 | const o=>exact Lf e
 | global g=>
  simp only [ev,Option.map_eq_some_iff]at e;obtain⟨d,hd,rfl⟩:=e;obtain⟨hk,u,l,m⟩:=A.glob g d hd;refine .c _ _ ?_;have:=bQ.rp (c:=c) (w:=w) false g 0 1 [[d]] 0 0 (λ_ _=>u) hk ?_ ?_ ?_ (by simp)
  .simpa [Act.eval]using this
  .intro i j b hj;have k:i=0:=by simpa using b
   have n:j=0:=by omega
   subst k;subst n;simpa using l
  .intro i b;have k:i=0:=by simpa using b
   subst k;rfl
  .intro i j b hj;have k:i=0:=by simpa using b
   have n:j=0:=by omega
   subst k;subst n;exact m
 | func f=>
  simp only [ev,Option.some.injEq]at e;subst e;refine .c _ _ ?_;exact bQ.fn f [] [] rfl (λi b=>by simp at b)
def Gives(P:Program)(c:Ctx)(w:World)(s:Sem Value)(K:PV->Prop):Prop:=∃u pv,s.run P w= .ok u w/\bK c w u pv/\K pv
def dR{t:Slots}{a:Act}(A:rO E c w t h a)(b:aT (ev E t x) K):
  ∃v,bK c w (a.eval x) v/\K v:=by
 obtain⟨v,d,hk⟩:=kM b;exact⟨v,NV A d,hk⟩
def E9{K:Bool->Prop}(h:Ki v K):∃f b,v= .c (.d f (.bool b))/\K b:=by
 unfold Ki at h;split at h
 .exact⟨_,_,rfl,h⟩
 .exact h.elim
def kZ{K:IntKind->Int->Prop}(h:sS v K):∃f k n,v= .c (.d f (.int k n))/\K k n:=by
 unfold sS at h;split at h
 .exact⟨_,_,_,rfl,h⟩
 .exact h.elim
def lT{b:Bool}(h:bK c w u (.c (.d f (.bool b)))):u= .bool b:=by
 cases h with | c _ _ h=>cases h with | d _ _ _ h=>cases h;rfl
def iN{n:Int}(h:bK c w u (.c (.d f (.int k n)))):u= .int k n:=by
 cases h with | c _ _ h=>cases h with | d _ _ _ h=>cases h;rfl
theorem abp{n:Int}(h:bQ c w u (.d f (.int k n))):u= .int k n:=by
 cases h with | d _ _ _ h=>cases h;rfl
theorem addr_add(b o n:Nat):(⟨b,o,none⟩:Addr).add n=⟨b,o+n,none⟩:=by
 unfold Addr.add;split
 .rename_i h;subst h;rfl
 .rfl
def Cg(hE:aI E)(e:E.ty t=some y)(w:World):(isAgg t).run E.P w= .ok y.desc.agg w:=by
 have hd:=(hE.ty t y e).desc;unfold Ld at hd;split at hd
 .rename_i he;obtain⟨d,a,c,b⟩:=hd;simp only [isAgg,Sem.run_bind,run_underlying a,Result.andThen_ok,he,mO.agg];cases d<;>first | rfl | exact absurd rfl (c _) | exact absurd rfl (b _ _)
 .rename_i he;simp [isAgg,run_underlying hd,he,mO.agg]
 .rename_i he;simp [isAgg,run_underlying hd,he,mO.agg]
 .rename_i he;simp [isAgg,run_underlying hd,he,mO.agg]
 .rename_i he;simp [isAgg,run_underlying hd,he,mO.agg]
 .rename_i he;obtain⟨F,a,_⟩:=hd;simp [isAgg,run_underlying a,he,mO.agg]
def run_sizeOf(hE:aI E)(b:E.ty t=some y)(w:World):(sizeOf t).run E.P w= .ok y.size w:=by
 obtain⟨i,a,c,_⟩:=(hE.ty t y b).info;simp [sizeOf,typeInfo,a,c]
def qF(hE:aI E)(d:E.ty t=some y){b o:Nat}(a:List Value)
  (e:∀j v,a[j]? =some v->w.cell? ⟨b,o+j,none⟩=some v) (c:a.length=if y.desc.agg then y.size else 1):
  (loadVar t ⟨b,o,none⟩).run E.P w= .ok (if y.desc.agg then .agg a.toArray else a.getD 0 undef) w:=by
 simp only [loadVar,Sem.run_bind,Cg hE d,Result.andThen_ok];by_cases f:y.desc.agg=true
 .simp only [f,if_true]at c ⊢;simp only [Sem.run_bind,run_sizeOf hE d,Result.andThen_ok];have:=run_loadCells_list (P:=E.P) (w:=w) ⟨b,o,none⟩ a (λj v g=>by rw [addr_add];exact e j v g);rw [c]at this;simp [this]
 .have ha':y.desc.agg=false:=by simpa using f
  simp only [ha']at c ⊢;cases a with
  | nil=>simp at c
  | cons v r=>
   have:=e 0 v rfl;simp at this;simp [this]
theorem qG{α:Type}{l:List α}{i:Nat}{x d:α}(h:l[i]? =some x):l.getD i d=x:=by
 simp [List.getD,h]
def NW(hE:aI E)(F:E.ty t=some y){b o s j:Nat}{row:List D}
  (M:row.length=s) (u:Nat->Value) (hc:∀j,j<s->w.cell? ⟨b,o+j,none⟩=some (u j)) (G:∀j,j<s->dM (c.K f) w (u j) (row.getD j default))
  (h:vM f y row j K):Gives E.P c w (loadVar t ⟨b,o+j,none⟩) K:=by
 have one:∀x,y.desc.agg=false->row[j]? =some x->∃u,(loadVar t ⟨b,o+j,none⟩).run E.P w= .ok u w/\dM (c.K f) w u x:=by
  intro x m e;have C:j<s:=by rw [<-M];exact(List.getElem?_eq_some_iff.1 e).1
  have d:=qF hE F (w:=w) (b:=b) (o:=o+j) [u j] (λi v q=>by
   cases i with
   | zero=>simp at q;subst q;exact hc j C
   | succ i=>simp at q) (by simp [m])
  refine⟨u j,by simpa [m]using d,?_⟩;have:=G j C
  rwa [qG e]at this
 unfold vM at h;split at h
 .rename_i fs he;obtain⟨H,hk⟩:=h;have m:y.desc.agg=true:=by rw [he];rfl
  have d:=qF hE F (w:=w) (b:=b) (o:=o+j) ((List.range y.size).map λi=>u (j+i)) (λi v q=>by
   simp only [List.getElem?_map,Option.map_eq_some_iff]at q;obtain⟨J,g,rfl⟩:=q;obtain⟨a,abq⟩:=List.getElem?_eq_some_iff.1 g;simp at a abq;subst abq;rw [Nat.add_assoc];exact hc (j+i) ah) (by simp [m])
  refine⟨_,_,d,?_,hk⟩;simp only [m,if_true];refine .agg _ _ (F2.EZ (by simp;omega) ?_);intro i x z e I;simp only [List.getElem?_map,Option.map_eq_some_iff]at e I;obtain⟨J,g,rfl⟩:=e;obtain⟨a,abq⟩:=List.getElem?_eq_some_iff.1 g;simp at a abq;subst abq;obtain⟨L,r,rfl⟩:=I;have B:row[j+i]? =some L:=by
   rw [List.getElem?_take_of_lt a,List.getElem?_drop]at r;exact r
  have:=G (j+i) ah;rw [qG B]at this;exact .d f _ _ this
 .rename_i k he;obtain⟨⟨n,hn⟩,hk⟩:=h;obtain⟨A,l,p⟩:=one _ (by rw [he];rfl) hn;refine⟨A,_,l,?_,hk n hn⟩;cases p;exact .ofInt k n
 .rename_i hns hni;obtain⟨a,hk⟩:=h;have m:y.desc.agg=false:=by
   unfold mO.agg;split
   .rename_i fs he;exact absurd he (hns fs)
   .rfl
  have e:row[j]? =some row[j]:=List.getElem?_eq_getElem a;obtain⟨A,l,p⟩:=one _ m e;exact⟨A,_,l,.c _ _ (.d f _ _ p),hk _ e⟩
def Fa(hE:aI E)(g:E.ty t=some y){b o sz i j:Nat}{a:List (List D)}
  (u:Nat->Nat->Value) (hc:∀i j,i<a.length->j<sz->w.cell? ⟨b,o+i*sz+j,none⟩=some (u i j))
  (m:∀i,i<a.length->(a.getD i []).length=sz) (k:∀i j,i<a.length->j<sz->dM (c.K f) w (u i j) (gd a i j))
  (h:abn f a i j y K):Gives E.P c w (loadVar t ⟨b,o+i*sz+j,none⟩) K:=by
 obtain⟨d,h⟩:=h;have l:a[i]? =some (a.getD i []):=by simp [List.getD,List.getElem?_eq_getElem d]
 exact NW hE g (m i d) (u i) (λj e=>hc i j d e) (λj e=>k i j d e) (h _ l)
theorem rP{b:Nat}{cs:Array Value}{E:TypeId}{a:Nat×Nat}(h:w.heap[b]? =some (.cells cs E a))(o:Nat):w.cell? ⟨b,o,none⟩=cs[o]? :=by
 simp [World.cell?,h]
def Qv(hE:aI E)(l:E.ty t=some y){b j:Nat}{g:List Value}{cs:List Cell}{e:TypeId}{q:Nat×Nat}
  (m:w.heap[b]? =some (.cells g.toArray e q)) (k:F2 (bQ c w) g cs) (h:Le cs j y K):Gives E.P c w (loadVar t ⟨b,j,none⟩) K:=by
 unfold Le at h;split at h
 .rename_i ha;obtain⟨n,hk⟩:=h;have p:=k.length;have a:=qF hE l (w:=w) (b:=b) (o:=j) ((g.drop j).take y.size) (λi v d=>by
   rw [rP m];rw [List.getElem?_take]at d;split at d
   .rw [List.getElem?_drop]at d;simpa using d
   .cases d) (by simp [ha];omega)
  simp only [ha,if_true]at a;exact⟨_,_,a,.agg _ _ ((k.drop j).take y.size),hk⟩
 .rename_i ha;obtain⟨x,r,hk⟩:=E8 h;obtain⟨v,s,f⟩:=k.get r;have a:=qF hE l (w:=w) (b:=b) (o:=j) [v] (λi u d=>by
   cases i with
   | zero=>simp at d;subst d;rw [rP m];simpa using s
   | succ i=>simp at d) (by simp [ha])
  simp only [ha]at a;exact⟨_,_,by simpa using a,.c _ _ f,hk⟩
def Qw(hE:aI E)(s:E.ty t=some y){l sz i j b m:Nat}{o:fK}
  (hm:c.ν l=some (b,m)) (r:jM c w l o) (h:aio o sz i j y K):Gives E.P c w (loadVar t ⟨b,m+(i*sz+j),none⟩) K:=by
 unfold aio at h;split at h
 .rename_i cs;obtain⟨rfl,h⟩:=h;obtain⟨z,x,e,k,q,p⟩:=r;rw [hm]at k;cases k;simpa using Qv hE s q p h
 .rename_i f sz' es;obtain⟨rfl,h⟩:=h;simp only [jM,hm]at r;obtain⟨cells,e,q,d⟩:=r;have n:∀i j,∃u,i<es.length->j<sz->w.cell? ⟨b,m+i*sz+j,none⟩=some u/\dM (c.K f) w u (gd es i j):=by
   intro i j;by_cases a:i<es.length
   .by_cases g:j<sz
    .obtain⟨v,hv,p⟩:=(d i a).2 j g;exact⟨v,λ_ _=>⟨by rw [rP q,Nat.add_assoc];rwa [Av]at hv,p⟩⟩
    .exact⟨undef,λ_ h=>absurd h g⟩
   .exact⟨undef,λh=>absurd h a⟩
  have:=Fa hE s (c:=c) (w:=w) (b:=b) (o:=m) (sz:=sz) (λi j=>Classical.choose (n i j)) (λi j a g=>(Classical.choose_spec (n i j) a g).1)
   (λi a=>(d i a).1) (λi j a g=>(Classical.choose_spec (n i j) a g).2) h
  rwa [Nat.add_assoc]at this
 .exact h.elim
def Fb(hE:aI E)(g:bL c w h){p:PV}(a:bK c w u p)
  (d:mP E h t p K):Gives E.P c w (Instr.loadAt t u) K:=by
 obtain⟨y,e,d⟩:=aJ d;split at d
 .rename_i l sz i j;obtain⟨o,q,hk⟩:=mW d;cases a with | c _ _ a=>cases a with | ptr _ _ _ _ b _ r hm=>
  have:=Qw hE e hm (g.obj _ _ q).2 hk;simpa [Gives,Instr.loadAt,Instr.sureAddr]using this
 .rename_i f sz es i j;cases a with | c _ _ a=>cases a with | rp _ b m _ _ _ _ u v s n k x=>
  have:=Fa hE e u s n k d;simpa [Gives,Instr.loadAt,Instr.sureAddr]using this
 .exact d.elim
end Go.AE
namespace Go.AE
open Go
variable{P:Program}{c:Ctx}{w:World}{u:Value}{p:PV}{K:PV->Prop}{t:TypeId}{E:Tab}{y:TY}{s:TypeId}{i:Nat}
def aas{ρ:Operand->Value}{o:Oper}{x:Operand}(d:o.op= .nilCheck x)(e:ρ x=u)(a:bK c w u p)(h:Qt p K):
  ∃u pv,(execOp ρ o).run P w= .ok (.value u) w/\bK c w u pv/\K pv:=by
 unfold Qt at h;split at h
 .have hu':=a;cases a with | c _ _ a=>cases a with | ptr _ _ _ _ b _ g hm=>
  exact⟨_,_,by simp [execOp,d,e],hu',h⟩
 .have hu':=a;cases a with | c _ _ a=>cases a with | rp _ b f _ _ _ _ u j m k i l=>
  exact⟨_,_,by simp [execOp,d,e],hu',h⟩
 .exact h.elim
def Lg{a:BinOp}{k:IntKind}{x y:Int}(h:Ca a k x y K):
  Gives P c w (binOp a t (.int k x) (.int k y)) K:=by
 unfold Ca at h;split at h
 .exact⟨_,_,by simp [binOp,Op.intArith],.ofInt _ _,h⟩
 .exact⟨_,_,by simp [binOp,Op.intArith],.ofInt _ _,h⟩
 .exact⟨_,_,by simp [binOp,Op.intArith],.ofInt _ _,h⟩
 .exact⟨_,_,by simp [binOp,Op.intDiv,h.1],.ofInt _ _,h.2⟩
 .exact⟨_,_,by simp [binOp,Op.intDiv,h.1],.ofInt _ _,h.2⟩
 .exact⟨_,_,by simp [binOp,Op.intBits,ku],.ofInt _ _,h⟩
 .exact⟨_,_,by simp [binOp,Op.intBits,ku],.ofInt _ _,h⟩
 .exact⟨_,_,by simp [binOp,Op.intBits,ku],.ofInt _ _,h⟩
 .have:¬y<0:=by omega
  exact⟨_,_,by simp [binOp,Op.shift,this],.ofInt _ _,h.2⟩
 .have:¬y<0:=by omega
  exact⟨_,_,by simp [binOp,Op.shift,this],.ofInt _ _,h.2⟩
 .exact⟨_,_,by simp [binOp,Op.intCmp];rfl,.ofBool _,h⟩
 .exact⟨_,_,by simp [binOp,Op.intCmp];rfl,.ofBool _,h⟩
 .exact⟨_,_,by simp [binOp,Op.intCmp],.ofBool _,h⟩
 .exact⟨_,_,by simp [binOp,Op.intCmp],.ofBool _,h⟩
 .exact⟨_,_,by simp [binOp,Op.intCmp],.ofBool _,h⟩
 .exact⟨_,_,by simp [binOp,Op.intCmp],.ofBool _,h⟩
 .exact h.elim
def zJ{o:Option (List Int)}{K:List Int->Prop}(h:vN o K):∃v,o=some v/\K v:=by
 cases o with
 | none=>exact h.elim
 | some v=>exact⟨v,rfl,h⟩
def y9{cs:List Cell}{b:List Int}(h:iM cs=some b){a:List Value}(d:F2 (bQ c w) a cs):a=b.map (Value.int .i64):=by
 induction d generalizing b with
 | nil=>grind [iM]
 | @cons v x a cs f _ e=>
  simp only [iM]at h;split at h
  .rename_i n l hn hl;cases h;have:=e hl;subst this;unfold Qu at hn
   grind [abp]
  .cases h
def run_equal_bool(c:P.underlying t=some .bool)(a b:Bool)(w:World):(Op.equal t (.bool a) (.bool b)).run P w= .ok (a==b) w:=by
 have h:∀d,(Op.equalIn (d+1) t (.bool a) (.bool b)).run P w= .ok (a==b) w:=by
  intro d;simp [Op.equalIn,run_underlying c]
 exact h 9999
def kI{t e:TypeId}(c:P.underlying t=some (.slice e))(a:Addr)(n b:Nat)(w:World):(Op.equal t (.slice (some a) n b) (.slice none 0 0)).run P w= .ok false w:=by
 have h:∀d,(Op.equalIn (d+1) t (.slice (some a) n b) (.slice none 0 0)).run P w= .ok false w:=by
  intro d;simp [Op.equalIn,run_underlying c]
 exact h 9999
def aat(hE:aI E){B:BinOp}{u v:Value}{p q:PV}(g:bK c w u p)(i:bK c w v q)(h:Cc E B t p q K)
  (x y:Operand):Gives E.P c w (do eqGuard B t x y u v;binOp B t u v) K:=by
 unfold Cc at h;split at h
 .rename_i k m _ k' n;obtain⟨hk,h⟩:=h;rw [iN g,iN i];have F:∀a b,(eqGuard B t x y (.int a b) v).run E.P w= .ok () w:=by simp_all [eqGuard]
  have A:Gives E.P c w (binOp B t (.int k m) (.int k' n)) K:=by
   rcases hk with rfl | Q
   .exact Lg h
   .have:∀V:0<=n,¬n<0:=λV=>by omega
    cases B<;>first
     | exact absurd Q (by decide)
     | (unfold Ca at h;exact⟨_,_,by simp [binOp,Op.shift,this h.1],.ofInt _ _,h.2⟩)
  obtain⟨r,pv,X,S,P⟩:=A;refine⟨r,pv,?_,S,P⟩;have:=F;rw [iN i]at this;simp [this,X]
 .replace h:=aJ h;obtain⟨z,C,hd,h⟩:=h
  have e:=(hE.ty t z C).desc;rw [hd]at e;rw [lT g,lT i];split at h
  .exact⟨_,_,by simp [eqGuard,binOp,run_equal_bool e],.ofBool _,h⟩
  .exact⟨_,_,by simp [eqGuard,binOp,run_equal_bool e],.ofBool _,h⟩
  .exact h.elim
 .rename_i f s f' s'
  replace h:=aJ h;obtain⟨z,C,hd,h⟩:=h
  have e:=(hE.ty t z C).desc;rw [hd]at e;have U:u= .string s:=by cases g with | c _ _ g=>cases g with | d _ _ _ g=>cases g;rfl
  have ev:v= .string s':=by cases i with | c _ _ i=>cases i with | d _ _ _ i=>cases i;rfl
  subst U ev;split at h
  .exact⟨_,_,by simp [eqGuard,binOp,Op.stringOp],.ofBool _,h⟩
  .exact⟨_,_,by simp [eqGuard,binOp,Op.stringOp],.ofBool _,h⟩
  .exact h.elim
 .replace h:=zJ h;obtain⟨H,W,h⟩:=h
  replace h:=zJ h;obtain⟨I,N,J,Y,h⟩:=h
  cases g with | agg Z cs g=>
  cases i with | agg L M i=>
  rw [y9 W g,y9 N i];have A:=hE.ieq t _ J H I rfl Y.symm w;have F:(eqGuard B t x y (.agg (H.map (Value.int .i64)).toArray) (.agg (I.map (Value.int .i64)).toArray)).run E.P w= .ok () w:=by grind [eqGuard]
  split at h
  .exact⟨_,_,by simp [F,binOp,A.1],.ofBool _,h⟩
  .exact⟨_,_,by simp [F,binOp,A.1],.ofBool _,h⟩
  .exact h.elim
 .rename_i l D O n0;obtain⟨G,h⟩:=h
  replace h:=aJ h;obtain⟨z,C,⟨T,hd⟩,h⟩:=h
  have e:=(hE.ty t z C).desc;rw [hd]at e;have g:∃b o n j,u= .slice (some ⟨b,o,none⟩) n j:=by
   cases g with | c _ _ g=>cases g with
    | os0=>omega
    | osE=>omega
    | os l D O n j b oo=>simp_all
  obtain⟨b,o,n,j,rfl⟩:=g;have i:v= .slice none 0 0:=by cases i with | c _ _ i=>cases i;rfl
  subst i;split at h
  .exact⟨_,_,by simp [eqGuard,binOp,kI e],.ofBool _,h⟩
  .exact⟨_,_,by simp [eqGuard,binOp,kI e],.ofBool _,h⟩
  .exact h.elim
 .rename_i f D R;obtain⟨G,h⟩:=h
  replace h:=aJ h;obtain⟨z,C,⟨T,hd⟩,h⟩:=h
  have e:=(hE.ty t z C).desc;rw [hd]at e;have g:∃b o n j,u= .slice (some ⟨b,o,none⟩) n j:=by
   cases g with | c _ _ g=>cases g with | d _ _ _ g=>cases g with
    | none a j D=>simp_all
    | rows b o j D n R u=>simp_all
  obtain⟨b,o,n,j,rfl⟩:=g;have i:v= .slice none 0 0:=by cases i with | c _ _ i=>cases i;rfl
  subst i;split at h
  .exact⟨_,_,by simp [eqGuard,binOp,kI e],.ofBool _,h⟩
  .exact⟨_,_,by simp [eqGuard,binOp,kI e],.ofBool _,h⟩
  .exact h.elim
 .exact h.elim
def abr{b:UnOp}(a:bK c w u p)(h:unA b p K):Gives P c w (Op.unary b u) K:=by
 unfold unA at h;split at h
 .rw [lT a];exact⟨_,_,by simp [Op.unary],.ofBool _,h⟩
 .rw [iN a];exact⟨_,_,by simp [Op.unary,Op.intArith],.ofInt _ _,h⟩
 .exact h.elim
def yU(hE:aI E)(a:E.ty t=some y):∃d,E.P.underlying t=some d:=by
 have hd:=(hE.ty t y a).desc;unfold Ld at hd
 grind
def NY:∀ {b:List (List D)} {a:List Int},NT b=some a->a.length=b.length/\∀i,i<b.length->b.getD i []=[.int .u8 (a.getD i 0)]
 | [],a,h=>by grind [NT,Option.some.injEq,absurd]
 | x::r,a,h=>by
  unfold NT at h;split at h
  .rename_i n l hn hl;cases h;obtain⟨d,c⟩:=NY hl;have e:x=[.int .u8 n]:=by
    unfold ak6 at hn
    grind
   grind
  .cases h
def Qx{K:Nat->Prop}{m:Nat}{k:List (List D)}{h:List Int}(q:dM K w u (.rows m k))(v:NT k=some h){src e d:TypeId}
  (l:P.underlying src=some (.slice e)) (o:P.underlying e=some (.int .u8)) (hd:P.underlying d=some .string):(convert src d u).run P w= .ok (.string (strOfNums h)) w:=by
 have zero:∀(p:Option Addr) (c:Nat),(convert src d (.slice p 0 c)).run P w= .ok (.string (strOfNums [])) w:=λp c=>by
  rw [run_convert_bytes_string w src d e _ 0 c l o hd];cases p<;>simp [Conv.bytesToString,loadCells]
  all_goals rfl
 obtain⟨x,s⟩:=NY v;cases q with
 | none a f=>simp_all
 | rows b j f _ n _ u B hn hc z t y=>
  subst hn;cases k with
  | nil=>simp_all
  | cons C A=>
   have r:m=1:=by
    have a:=t 0 (by simp);simp_all
   subst r;refine run_convert_bytes_arg w src e l o b j _ f h x (λi g=> ?_) d hd;have a:=z i 0 g ah;have c:=y i 0 g ah;rw [Nat.mul_one,Nat.add_zero]at a;rw [a];unfold gd at c;rw [s i g]at c;cases hv:u i 0<;>rw [hv]at c<;>cases c
   rfl
def Qy(hE:aI E){s d:TypeId}(a:bK c w u p)(h:E5 E s d p K):Gives E.P c w (convert s d u) K:=by
 replace h:=aJ h;obtain⟨y,m,h⟩:=h
 split at h
 .rename_i k f k' n he
  replace h:=aJ h;obtain⟨z,l,h⟩:=h
  obtain⟨A,g⟩:=yU hE l;have b:=(hE.ty d y m).desc;rw [he]at b;rw [iN a];refine⟨_,_,?_,.ofInt _ _,h⟩;simp only [convert,Sem.run_bind,run_underlying g,run_underlying b,Result.andThen_ok];simp_all [Conv.intToInt]
 .rename_i f sz es he
  replace h:=aJ h;obtain⟨z,l,h⟩:=h
  split at h
  .rename_i e hs
   replace h:=aJ h;obtain⟨t,v,j,h⟩:=h
   replace h:=zJ h;obtain⟨B,x,h⟩:=h
   have q:=(hE.ty s z l).desc;rw [hs]at q;have o:=(hE.ty e t v).desc;rw [j]at o;have r:=(hE.ty d y m).desc;rw [he]at r;have i:∃K,dM K w u (.rows sz es):=by cases a with | c _ _ a=>cases a with | d _ _ _ a=>exact⟨_,a⟩
   obtain⟨C,i⟩:=i;exact⟨_,_,Qx i x q o r,.c _ _ (.d _ _ _ (.str _)),h⟩
  .exact h.elim
 .exact h.elim
def vQ(hE:aI E){f:Field}{z:TY}(c:E.ty f.type=some z)(a:z.size≠0)(b o:Nat)(w:World):
  (fieldPlace ⟨b,o,none⟩ f).run E.P w= .ok ⟨b,o+f.offset,none⟩ w:=by
 simp [fieldPlace,run_sizeOf hE c,a,addr_add]
def Kj{F:Array Field}{b:List (Nat×TypeId)}(d:F.toList.map (λf=>(f.offset,f.type))=b){i a:Nat}{c:TypeId}(h:b[i]? =some (a,c)):
 ∃f:Field,F[i]? =some f/\f.offset=a/\f.type=c:=by grind
def D9(hE:aI E)(a:bK c w u p)(h:jC E s p i K):
  Gives E.P c w (Instr.fieldAt s u i) K:=by
 replace h:=aJ h;obtain⟨y,l,h⟩:=h
 split at h
 .rename_i fs he;split at h
  .rename_i off ft hf
   replace h:=aJ h;obtain⟨z,k,d,h⟩:=h
   have hd:=(hE.ty s y l).desc;rw [he]at hd;obtain⟨F,e,n⟩:=hd;obtain⟨f,g,rfl,rfl⟩:=Kj n hf;split at h
   .cases a with | c _ _ a=>cases a with | ptr _ _ _ _ b _ j hm=>
    refine⟨_,_,by simp [Instr.fieldAt,run_underlying e,g,Instr.sureAddr,vQ hE k d];rfl,.c _ _ ?_,h⟩;rw [Nat.add_assoc,Nat.add_assoc];exact .ptr _ _ _ _ b _ j hm
   .cases a with | c _ _ a=>cases a with | rp _ b o _ _ _ _ u q v r m t=>
    refine⟨_,_,by simp [Instr.fieldAt,run_underlying e,g,Instr.sureAddr,vQ hE k d];rfl,.c _ _ ?_,h⟩;rw [Nat.add_assoc];exact .rp _ b o _ _ _ _ u q v r m t
   .exact h.elim
  .exact h.elim
 .exact h.elim
def NZ(hE:aI E)(a:bK c w u p)(h:vO E s p i K):
  Gives E.P c w (Instr.field s u i) K:=by
 replace h:=aJ h;obtain⟨y,g,h⟩:=h
 split at h
 .rename_i fs he;split at h
  .rename_i off ft hf
   replace h:=aJ h;obtain⟨z,o,h⟩:=h
   have hd:=(hE.ty s y g).desc;rw [he]at hd;obtain⟨F,k,j⟩:=hd;obtain⟨f,l,rfl,rfl⟩:=Kj j hf;split at h
   .cases a with | agg e cs a=>
    obtain⟨d,h⟩:=h;have n:=a.length;split at h
    .rename_i ha;refine⟨.agg ((e.drop f.offset).take z.size).toArray,_,?_,.agg _ _ ((a.drop f.offset).take z.size),h⟩;simp_all [Instr.field,run_underlying,asAgg,part,Cg,run_sizeOf]
    .rename_i ha
     replace h:=E8 h;obtain⟨x,m,hk⟩:=h
     obtain⟨v,q,b⟩:=a.get m;refine⟨v,_,?_,.c _ _ b,hk⟩;simp_all [Instr.field,run_underlying,asAgg,part,Cg]
   .exact h.elim
  .exact h.elim
 .exact h.elim
def Fe{f:Bool}{g i:Nat}{e:List (List D)}{a:Option Addr}{n j:Nat}(k:i<e.length)
  (h:dM (c.K f) w (.slice a n j) (.rows g e)):n=e.length/\∃b d,a=some ⟨b,d,none⟩/\bQ c w (.pointer (some ⟨b,d+i*g,none⟩)) (.rp f g e i 0):=by
 cases h with
 | none=>simp at k
 | rows b d _ _ _ _ u o hn l hc p m=>
  refine⟨hn,b,d,rfl,?_⟩;have:=bQ.rp (c:=c) (w:=w) f b d g e i 0 u o hc p m k;simpa using this
def Ea(hE:aI E){u v:Value}{p q:PV}(m:bK c w u p)(O:bK c w v q)(h:kL E t p q K):
  Gives E.P c w (Instr.indexAt t u v) K:=by
 replace h:=aJ h;obtain⟨y,M,h⟩:=h
 split at h
 .rename_i e he
  replace h:=aJ h;obtain⟨z,N,h⟩:=h
  replace h:=kZ h;obtain⟨Q,k,i,rfl,h⟩:=h
  rw [iN O];have A:=(hE.ty t y M).desc;rw [he]at A
  have o:∀(a:Option Addr) (n g:Nat) (b j:Nat) (r:Value),a=some ⟨b,j,none⟩->0<=i->i<n->r= .pointer (some ⟨b,j+i.toNat*z.size,none⟩)->
    (Instr.indexAt t (.slice a n g) (.int k i)).run E.P w= .ok r w:=by
   intro a n g b j r B s C x;subst B;subst x;simp [Instr.indexAt,asIntOf,run_underlying A,s,C,run_sizeOf hE N,addr_add]
  split at h
  .obtain⟨hsz,s,C,h⟩:=h;rename_i f D H;cases m with | c _ _ m=>cases m with | d _ _ _ m=>
   obtain⟨n,g,a,rfl⟩:∃n g a,u= .slice a n g:=by cases m<;>exact⟨_,_,_,rfl⟩
   have F:i.toNat<H.length:=by omega
   obtain⟨hn,b,j,B,x⟩:=Fe F m;have G:D=z.size:=hsz (by grind);subst G;exact⟨_,_,o a n g b j _ B s ah rfl,.c _ _ x,h⟩
  .obtain⟨hsz,s,C,h⟩:=h;rename_i f D H;cases m with | c _ _ m=>cases m with | clip _ a n _ _ m=>
   have F:i.toNat<H.length:=by omega
   obtain⟨hn,b,j,B,x⟩:=Fe F m;have G:D=z.size:=hsz (by grind);subst G;exact⟨_,_,o a n n b j _ B s ah rfl,.c _ _ x,h⟩
  .obtain⟨hsz,s,C,h⟩:=h;rename_i l D J n;subst hsz;cases m with | c _ _ m=>cases m with
   | os0=>omega
   | osE=>omega
   | os _ _ _ _ g b L P hm hn I=>
    refine⟨_,_,o _ n g b (L+J*z.size) _ rfl s C rfl,.c _ _ ?_,h⟩;have:=bQ.ptr (c:=c) (w:=w) l z.size (J+i.toNat) 0 b L P hm
    grind
  .exact h.elim
 .exact h.elim
def aau(hE:aI E)(o:E.ty t=some y)(m:(match y.desc with | .slice _=>True | _=>False))
  (g:bK c w u p) (h:NU p K) (j:Array Bool) (ty:TypeId):
  ∃r pv,(builtin .len #[t] ty j #[u]).run E.P w= .ok (.value r) w/\bK c w r pv/\K pv:=by
 have hd:=(hE.ty t y o).desc;split at m
 .rename_i e he;rw [he]at hd;have f:∀a n i,(builtin .len #[t] ty j #[.slice a n i]).run E.P w= .ok (.value (.int .i64 n)) w:=by
   intro a n i;simp [builtin,Builtin.len_,run_underlying hd,goInt]
  unfold NU at h;split at h
  .cases g with | c _ _ g=>cases g with | d _ _ _ g=>cases g with
   | none a i=>exact⟨_,_,f _ _ _,.ofInt _ _,h⟩
   | rows b k i _ n _ u q hn=>subst hn;exact⟨_,_,f _ _ _,.ofInt _ _,h⟩
  .cases g with | c _ _ g=>cases g with | clip _ a n _ _ g=>cases g with
   | none a i=>exact⟨_,_,f _ _ _,.ofInt _ _,h⟩
   | rows b k i _ n _ u q hn=>subst hn;exact⟨_,_,f _ _ _,.ofInt _ _,h⟩
  .cases g with | c _ _ g=>cases g with
   | os0=>exact⟨_,_,f _ _ _,.ofInt _ _,h⟩
   | osE=>exact⟨_,_,f _ _ _,.ofInt _ _,h⟩
   | os _ _ _ _ i b _ s hm hn l=>exact⟨_,_,f _ _ _,.ofInt _ _,h⟩
  .cases g with | c _ _ g=>cases g;exact⟨_,_,f _ _ _,.ofInt _ _,h⟩
  .exact h.elim
 .exact m.elim
def aav(hE:aI E)(f:E.ty t=some y)(d:(match y.desc with | .slice _=>True | _=>False))
  (b:bK c w u p) (h:abo p K) (a:Array Bool) (ty:TypeId):
  ∃r pv,(builtin .cap #[t] ty a #[u]).run E.P w= .ok (.value r) w/\bK c w r pv/\K pv:=by
 have hd:=(hE.ty t y f).desc;split at d
 .rename_i e he;rw [he]at hd;unfold abo at h;split at h
  .cases b with | c _ _ b=>
   cases b;refine⟨.int .i64 0,_,?_,.ofInt _ _,h⟩;simp [builtin,Builtin.cap_,run_underlying hd,goInt]
  .exact h.elim
 .exact d.elim
def Jq(f:bK c w u p)(h:rM p i K):Gives P c w (Instr.extract u i) K:=by
 unfold rM at h;split at h
 .replace h:=kM h;obtain⟨v,d,hk⟩:=h
  cases f with | tup b _ k g=>
  rename_i j;have e:i<j.length:=(List.getElem?_eq_some_iff.1 d).1;have a:i<b.length:=by omega
  have:=g i e;rw [qG d]at this;refine⟨b.getD i undef,v,?_,this,hk⟩;simp [Instr.extract,List.getElem?_eq_getElem a]
 .exact h.elim
end Go.AE
namespace Go.AE
open Go
variable{w:World}{t:Slots}{K:Nat->Prop}{P:Program}{u:Value}
def rQ{E:Tab}{c:Ctx}{h:Heap}{a:Act}(A:rO E c w t h a){o:Option Operand}{d:Int}{K:Int->Prop}(hk:Aw E t o d K):
  ∃n:Int,K n/\((o=none/\n=d)\/∃x k,o=some x/\a.eval x= .int k n):=by
 cases o with
 | none=>exact⟨d,hk,.inl ⟨rfl,rfl⟩⟩
 | some x=>
  obtain⟨v,b,hk⟩:=dR A hk;obtain⟨f,k,n,rfl,hk⟩:=kZ hk;exact⟨n,hk,.inr ⟨x,k,rfl,iN b⟩⟩
def run_sliceBound{k:IntKind}{i:Int}{y:Nat}{a:BoundsCode}(b:0<=i)(c:i<=y):
  (Instr.sliceBound (.int k i) y a).run P w= .ok i.toNat w:=by
 simp [Instr.sliceBound,asIntOf,b,c]
def nN{len cap:Nat}{l h:Int}{b a:Option Value}(f:(b=none/\l=0)\/∃k,b=some (.int k l))(e:(a=none/\h=len)\/∃k,a=some (.int k h))
  (c:0<=l) (n:l<=h) (i:h<=len) (m:len<=cap):(Instr.sliceBounds true len cap b a none).run P w= .ok (l.toNat,h.toNat,cap) w:=by
 have d:∀k,(Instr.sliceBound (.int k h) cap .sliceAcap).run P w= .ok h.toNat w:=λk=>run_sliceBound ah ah
 have g:∀k,(Instr.sliceBound (.int k l) h.toNat .sliceB).run P w= .ok l.toNat w:=λk=>run_sliceBound c ah
 rcases f with⟨rfl,rfl⟩ | ⟨k,rfl⟩<;>rcases e with⟨rfl,rfl⟩ | ⟨j,rfl⟩<;>simp [Instr.sliceBounds,d]<;>first | done | simp_all
def N7{len cap:Nat}{l h:Int}{a:Option Value}{k k':IntKind}(f:(a=none/\l=0)\/∃k,a=some (.int k l))
  (c:0<=l) (i:l<=h) (g:h<=cap):(Instr.sliceBounds true len cap a (some (.int k h)) (some (.int k' h))).run P w= .ok (l.toNat,h.toNat,h.toNat) w:=by
 have d:(Instr.sliceBound (.int k' h) cap .slice3Acap).run P w= .ok h.toNat w:=run_sliceBound ah ah;have e:(Instr.sliceBound (.int k h) h.toNat .slice3B).run P w= .ok h.toNat w:=run_sliceBound ah ah;have b:∀k,(Instr.sliceBound (.int k l) h.toNat .slice3C).run P w= .ok l.toNat w:=λk=>run_sliceBound c ah
 rcases f with⟨rfl,rfl⟩ | ⟨k,rfl⟩<;>simp [Instr.sliceBounds,d,e,b]
theorem Fg{a:List (List D)}{l h i:Nat}(b:i<h-l):((a.take h).drop l).getD i []=a.getD (l+i) []:=by grind
def dM.sub{a:Option Addr}{n cap sz l h m:Nat}{es:List (List D)}(p:dM K w (.slice a n cap) (.rows sz es))(v:l<=h)(o:h<=es.length)(hm:h<=m)
  (k:Option Addr) (q:k=if m=l then a else a.map (·.add (l*sz))):dM K w (.slice k (h-l) (m-l)) (.rows sz ((es.take h).drop l)):=by
 by_cases t:l=h
 .simp_all [Nat.sub_self,none]
 .have hlt:l<h:=by omega
  cases p with
  | none=>simp at o;omega
  | rows b e _ _ _ _ u d hn f hc r s=>
   have c:¬m=l:=by omega
   rw [q,if_neg c];simp only [Option.map_some,addr_add];have g:((es.take h).drop l).length=h-l:=by simp;omega
   refine .rows b (e+l*sz) (m-l) sz (h-l) _ (λi j=>u (l+i) j) d (by simp;omega) ah ?_ ?_ ?_
   all_goals grind [Nat.add_mul,Fg,gd]
def dM.abt{f:Nat}{d:List (List D)}(g:dM K w u (.rows f d)):∃a n cap,u= .slice a n cap/\n=d.length/\n<=cap:=by
 cases g with
 | none a cap=>grind
 | rows b e cap _ n _ u h hn c=>grind
def N8{E:Tab}(hE:aI E){c:Ctx}{h:Heap}{q:Act}(A:rO E c w t h q){ty:TypeId}{p:PV}{Q s V:Option Operand}{K:PV->Prop}
  (o:bK c w u p) (hk:vP E t ty p Q s V K):Gives E.P c w (Instr.sliceAt ty u (Q.map q.eval) (s.map q.eval) (V.map q.eval)) K:=by
 replace hk:=aJ hk;obtain⟨y,hy,hk⟩:=hk
 split at hk
 .rename_i e he
  replace hk:=aJ hk;obtain⟨z,F,hk⟩:=hk
  have g:=(hE.ty ty y hy).desc;rw [he]at g
  replace hk:=rQ A hk;obtain⟨l,hk,a3⟩:=hk
  have aaw:(Q.map q.eval=none/\l=0)\/∃k,Q.map q.eval=some (.int k l):=by grind
  split at hk
  .rename_i f sz es;obtain⟨Y,hk⟩:=hk
   replace hk:=rQ A hk;obtain⟨i,hk,C⟩:=hk
   obtain⟨I,L,W,hk⟩:=hk;have Qz:(s.map q.eval=none/\i=es.length)\/∃k,s.map q.eval=some (.int k i):=by grind
   cases o with | c _ _ o=>cases o with | d _ _ _ o=>
   obtain⟨a,n,cap,rfl,hn,N⟩:=o.abt
   have v:∀m R,i.toNat<=m->m<=cap->R=(if m=l.toNat then a else a.map (·.add (l.toNat*z.size)))->
     dM (c.K f) w (.slice R (i.toNat-l.toNat) (m-l.toNat)) (.rows sz ((es.take i.toNat).drop l.toNat)):=by
    intro m R X a2 a0;by_cases O:es=[]
    .subst O;have:((([]:List (List D)).take i.toNat).drop l.toNat)=[]:=by simp
     rw [this];have H:i.toNat-l.toNat=0:=by simp at W;omega
     rw [H];exact .none _ _ _
    .have:=Y O;subst this;exact o.sub ah ah X R a0
   cases V with
   | none=>
    simp only at hk;refine⟨_,_,?_,.c _ _ (.d f _ _ (v cap _ ah (Nat.le_refl _) rfl)),hk⟩;have j:=nN (P:=E.P) (w:=w) (len:=n) (cap:=cap) aaw (by rw [hn];exact Qz) I L ah N;simp [Instr.sliceAt,run_underlying g,Instr.slice,j,run_sizeOf hE F]
   | some mo=>
    simp only at hk
    replace hk:=rQ A hk;obtain⟨m,⟨hs,Z,hk⟩,r⟩:=hk
    subst Z;rcases r with⟨h',_⟩ | ⟨x,k,hx,S⟩
    .cases h'
    .cases hx;rcases C with⟨rfl,_⟩ | ⟨x',k',rfl,T⟩
     .simp at hs
     .have j:=N7 (P:=E.P) (w:=w) (len:=n) (cap:=cap) (k:=k') (k':=k) aaw I L ah;refine⟨_,_,?_,.c _ _ (.clip f _ _ _ _ (v m.toNat _ (Nat.le_refl _) ah rfl)),hk⟩;simp [Instr.sliceAt,run_underlying g,Instr.slice,S,T,j,run_sizeOf hE F]
  .rename_i b sz lo0 n;obtain⟨rfl,r,hk⟩:=hk;subst r
   replace hk:=rQ A hk;obtain⟨i,hk,C⟩:=hk
   obtain⟨I,L,W,hk⟩:=hk;have Qz:(s.map q.eval=none/\i=n)\/∃k,s.map q.eval=some (.int k i):=by grind
   cases o with | c _ _ o=>cases o with
   | os0 a _ _ M hm=>
    have G:l=0:=by omega
    have B:i=0:=by omega
    subst G;subst B;have j:=nN (P:=E.P) (w:=w) (len:=0) (cap:=0) aaw Qz I L ah (Nat.le_refl _);refine⟨.slice a 0 0,_,?_,.c _ _ (.os0 a b z.size M hm),by simpa using hk⟩;simp at j;simp [Instr.sliceAt,run_underlying g,Instr.slice,j,run_sizeOf hE F]
   | osE a _ _ _ J M hm=>
    have G:l=0:=by omega
    have B:i=0:=by omega
    subst G;subst B;have j:=nN (P:=E.P) (w:=w) (len:=0) (cap:=0) aaw Qz I L ah (Nat.le_refl _);refine⟨.slice a 0 0,_,?_,.c _ _ (.osE a b z.size lo0 J M hm),by simpa using hk⟩;simp at j;simp [Instr.sliceAt,run_underlying g,Instr.slice,j,run_sizeOf hE F]
   | os _ _ _ _ cap J U M hm hn a1=>
    have j:=nN (P:=E.P) (w:=w) (len:=n) (cap:=cap) aaw Qz I L W hn;by_cases hc:cap=l.toNat
    .subst hc;have H:i.toNat-l.toNat=0:=by omega
     refine⟨.slice (some ⟨J,U+lo0*z.size,none⟩) 0 0,_,?_,.c _ _ (.osE _ b z.size (lo0+l.toNat) J M (kY hm)),by simp_all⟩;simp [Instr.sliceAt,run_underlying g,Instr.slice,j,run_sizeOf hE F,H]
    .refine⟨.slice (some ⟨J,U+(lo0+l.toNat)*z.size,none⟩) (i.toNat-l.toNat) (cap-l.toNat),_,?_,.c _ _ (.os b z.size _ _ _ J U M hm ah ?_),hk⟩
     .simp [Instr.sliceAt,run_underlying g,Instr.slice,j,run_sizeOf hE F,hc,addr_add,Nat.add_mul,Nat.add_assoc]
     grind
  .obtain⟨r,hk⟩:=hk;subst r
   replace hk:=rQ A hk;obtain⟨i,hk,C⟩:=hk
   obtain⟨rfl,rfl,hk⟩:=hk;have Qz:(s.map q.eval=none/\(0:Int)=(0:Nat))\/∃k,s.map q.eval=some (.int k 0):=by grind
   cases o with | c _ _ o=>cases o with | nil=>
   have j:=nN (P:=E.P) (w:=w) (len:=0) (cap:=0) aaw Qz ah ah ah (Nat.le_refl _);refine⟨.slice none 0 0,_,?_,.c _ _ .nil,hk⟩;simp at j;simp [Instr.sliceAt,run_underlying g,Instr.slice,j,run_sizeOf hE F]
  .exact hk.elim
 .exact hk.elim
end Go.AE
namespace Go.AE
open Go
variable{c:Ctx}{w:World}{v:Value}{E:Tab}{t:Slots}{h:Heap}{a:Act}{K:PV->Prop}
def bQ.cells{x:Cell}(h:bQ c w v x):v.cells= #[v]:=by
 cases h with
 | d f _ x h=>cases h<;>rfl
 | nil=>rfl
 | clip=>rfl
 | os0=>rfl
 | osE=>rfl
 | os=>rfl
 | ptr=>rfl
 | rp=>rfl
 | fn=>rfl
 | np=>rfl
def bK.cells{p:PV}(h:bK c w v p)(hn:(aR p).length≠0):F2 (bQ c w) v.cells.toList (aR p):=by
 cases h with
 | c _ x h=>rw [h.cells];exact .cons h .nil
 | agg a cs h=>simpa [Value.cells,aR]using h
 | tup=>simp [aR]at hn
def zK(l:List Value):∀(b:List Value) (a k:Nat),a+k+b.length<=l.length->
  (b.zipIdx k).foldl (λ(cs:List Value) (x:Value×Nat)=>cs.set (a+x.2) x.1) l=l.take (a+k)++b++l.drop (a+k+b.length)
 | [],a,k,h=>by simp
 | v::b,a,k,h=>by
  simp only [List.length_cons]at h;rw [List.zipIdx_cons,List.foldl_cons];have c:=zK (l.set (a+k) v) b a (k+1) (by simp;omega)
  grind [List.take_add_one,List.take_set_of_le,List.getElem?_set_self,List.drop_set_of_lt]
def foldl_toList(cells:Array Value)(l:List (Value×Nat))(a:Nat):
  (l.foldl (λ(cs:Array Value) (x:Value×Nat)=>cs.setIfInBounds (a+x.2) x.1) cells).toList=l.foldl (λ(cs:List Value) (x:Value×Nat)=>cs.set (a+x.2) x.1) cells.toList:=by
 induction l generalizing cells with
 | nil=>rfl
 | cons x l b=>simp_all
def Fh(A:rO E c w t h a)(b:Nat->Option (Nat×Nat)):
  ∀(d:List (Nat×Operand)) (cs:List Cell) (j:Array Value) (K:List Cell->Prop),F2 (bQ c w) j.toList cs->uG E t b d cs K->
   ∃(e:Array Value) (f:List Cell),Instr.fill b j (d.map λx=>(x.1,a.eval x.2))=some e/\F2 (bQ c w) e.toList f/\K f
 | [],cs,j,K,hr,hk=>⟨j,cs,rfl,hr,hk⟩
 | (i,x)::rest,cs,j,K,hr,hk=>by
  unfold uG at hk;cases hp:b i with
  | none=>simp_all
  | some q=>
   obtain⟨g,size⟩:=q;rw [hp]at hk
   replace hk:=dR A hk;obtain⟨v,p,r,o,y,hk⟩:=hk
   have hc:=p.cells (by rw [r];exact o);have l:=hc.length;have n:=hr.length;have m:(a.eval x).cells.size=size:=by simp_all
   have k:F2 (bQ c w) ((a.eval x).cells.zipIdx.foldl (λ(cs:Array Value) (x:Value×Nat)=>cs.setIfInBounds (g+x.2) x.1) j).toList (splice cs (aR v) g):=by
    rw [<-Array.foldl_toList,foldl_toList,Array.toList_zipIdx];rw [zK _ _ g 0 ah];unfold splice;refine((hr.take _).append hc).append ?_;rw [Nat.add_zero,l];exact hr.drop _
   obtain⟨e,f,z,u,s⟩:=Fh A b rest _ _ K k hk
   grind [Instr.fill]
def Kk(hE:aI E):∀(F:List Field),(∀b∈F.map (λf=>(f.offset,f.type)),(E.ty b.2).isSome=true)->
  ∃a,F.mapM (λf=>(E.P.info? f.type).map λi=>(f.offset,i.size))=some a/\∀i,a[i]? =qE E (F.map (λf=>(f.offset,f.type))) i
 | [],_=>⟨[],rfl,λi=>by simp [qE]⟩
 | f::F,h=>by
  obtain⟨a,g,e⟩:=Kk hE F (λb hm=>h b (by simp_all));obtain⟨z,d⟩:=Option.isSome_iff_exists.1 (h (f.offset,f.type) (by simp));obtain⟨c,vR,j,_⟩:=(hE.ty _ z d).info;refine⟨(f.offset,z.size)::a,by simp_all,λi=> ?_⟩
  grind [qE]
def N9(hE:aI E)(A:rO E c w t h a){ty:TypeId}{b:Array (Nat×Operand)}
  (hk:Ce E t ty b.toList K):Gives E.P c w (Instr.build ty (b.map λ(i,x)=>(i,a.eval x))) K:=by
 replace hk:=aJ hk;obtain⟨y,m,hk⟩:=hk
 split at hk
 .rename_i fs he;obtain⟨q,hk⟩:=hk;have g:=hE.ty ty y m;have hd:=g.desc;rw [he]at hd;obtain⟨F,k,o⟩:=hd;obtain⟨s,vR,_,_,z,u,e⟩:=g.info;obtain⟨j,r,l⟩:=Kk hE F.toList (by grind);rw [o]at l;obtain⟨d,f,v,p,n⟩:=Fh A (qE E fs) b.toList y.zero z.cells _ (e c w) hk;refine⟨.agg d,.agg f,?_,?_,n⟩
  .refine run_build w ty _ d ?_;simp only [Program.built,vR,k,u,r];simp_all
  .have:=bK.agg (c:=c) (w:=w) d.toList f p;simpa using this
 .exact hk.elim
def Fj(A:rO E c w t h a):
  ∀(d:List Operand) (K:List Cell->Prop),uH E t d K->∃b,b.length=d.length/\(∀i,i<b.length->bQ c w ((d.map a.eval).getD i undef) (b.getD i default))/\K b
 | [],K,hk=>⟨[],rfl,λi f=>by simp at f,hk⟩
 | x::r,K,hk=>by
  unfold uH at hk
  replace hk:=dR A hk;obtain⟨v,e,hk⟩:=hk
  generalize g:a.eval x=u at e;split at hk
  .rename_i y;obtain⟨b,k,j,hk⟩:=Fj A r _ hk;cases e with | c _ _ e=>grind
  .exact hk.elim
theorem vS(hE:aI E)(A:rO E c w t h a)(o:Oper)(hk:gX E o.op t h K):
  ∃u pv,(execOp a.eval o).run E.P w= .ok (.value u) w/\bK c w u pv/\K pv:=by
 have j:∀(s:Sem Value) (K:PV->Prop),Gives E.P c w s K->∃u pv,((do pure (Next.value (<-s)):Sem Next)).run E.P w= .ok (.value u) w/\bK c w u pv/\K pv:=by
  rintro s K ⟨u,pv,z,F,L⟩;exact⟨u,pv,by simp [z],F,L⟩
 cases ho:o.op<;>rw [ho]at hk<;>simp only [gX]at hk
 case move x=>
  replace hk:=dR A hk;simp_all [execOp]
 case assign x=>
  replace hk:=dR A hk;simp_all [execOp]
 case pick Y x y=>
  replace hk:=dR A hk;obtain⟨v,D,hk⟩:=hk
  obtain⟨f,b,rfl,hk⟩:=E9 hk;have B:=lT D;cases b with
  | true=>
   obtain⟨O,H,hk⟩:=dR A (hk.1 rfl);exact⟨_,O,by simp [execOp,ho,B,asBool],H,hk⟩
  | false=>
   obtain⟨O,H,hk⟩:=dR A (hk.2 rfl);exact⟨_,O,by simp [execOp,ho,B,asBool],H,hk⟩
 case load ty p=>
  replace hk:=dR A hk;obtain⟨v,D,hk⟩:=hk
  have:=j _ _ (Fb hE A.heap D hk)
  grind [execOp]
 case nilCheck x=>
  replace hk:=dR A hk;obtain⟨v,D,hk⟩:=hk
  exact aas ho rfl D hk
 case binOp R ty x y yt=>
  replace hk:=dR A hk;obtain⟨u,l,hk⟩:=hk
  replace hk:=dR A hk;obtain⟨v,D,hk⟩:=hk
  have:=j _ _ (aat hE l D hk x y)
  grind [execOp]
 case unOp R ty x=>
  replace hk:=dR A hk;obtain⟨u,l,hk⟩:=hk
  have:=j _ _ (abr (P:=E.P) l hk)
  grind [execOp]
 case convert s d x=>
  replace hk:=dR A hk;obtain⟨u,l,hk⟩:=hk
  have:=j _ _ (Qy hE l hk)
  grind [execOp]
 case fieldAddr s x f=>
  replace hk:=dR A hk;obtain⟨u,l,hk⟩:=hk
  have:=j _ _ (D9 hE l hk)
  grind [execOp]
 case field s x f=>
  replace hk:=dR A hk;obtain⟨u,l,hk⟩:=hk
  have:=j _ _ (NZ hE l hk)
  grind [execOp]
 case indexAddr ty x i=>
  replace hk:=dR A hk;obtain⟨u,l,hk⟩:=hk
  replace hk:=dR A hk;obtain⟨v,D,hk⟩:=hk
  have:=j _ _ (Ea hE l D hk)
  grind [execOp]
 case slice ty x X W Z=>
  replace hk:=dR A hk;obtain⟨u,l,hk⟩:=hk
  have:=j _ _ (N8 hE A l hk)
  grind [execOp]
 case extract x i=>
  replace hk:=dR A hk;obtain⟨u,l,hk⟩:=hk
  have:=j _ _ (Jq (P:=E.P) l hk)
  grind [execOp]
 case build ty N=>
  have:=j _ _ (N9 hE A hk)
  grind [execOp]
 case makeFunc fn first C=>
  split at hk
  .rename_i g;obtain⟨rfl,hk⟩:=hk;obtain⟨T,V,S,hk⟩:=Fj A _ _ hk;refine⟨.func (.func g) #[] (C.map a.eval),_,by simp [execOp,ho,Instr.makeFunc],.c _ _ ?_,hk⟩;have:=bQ.fn (c:=c) (w:=w) g (C.toList.map a.eval) T (by simp [V]) S;have e:(C.toList.map a.eval).toArray=C.map a.eval:=by grind
   rwa [e]at this
  .exact hk.elim
 case call U=>
  unfold uI at hk;obtain⟨I,G,q⟩:=U;obtain⟨G⟩:=G;obtain⟨q⟩:=q;split at hk
  .rename_i B;simp only at B;subst B;split at hk
   .rename_i x ty z F;simp only at z F;subst z;subst F
    replace hk:=aJ hk;obtain⟨y,J,M,hk⟩:=hk
    replace hk:=dR A hk;obtain⟨u,l,hk⟩:=hk
    obtain⟨r,pv,z,F,L⟩:=aau hE J M l hk (#[x].map λ| .const _=>true | _=>false) o.type
    grind [execOp,resolve,invoke]
   .exact hk.elim
  .rename_i B;simp only at B;subst B;split at hk
   .rename_i x ty z F;simp only at z F;subst z;subst F
    replace hk:=aJ hk;obtain⟨y,J,M,hk⟩:=hk
    replace hk:=dR A hk;obtain⟨u,l,hk⟩:=hk
    obtain⟨r,pv,z,F,L⟩:=aav hE J M l hk (#[x].map λ| .const _=>true | _=>false) o.type
    grind [execOp,resolve,invoke]
   .exact hk.elim
  .rename_i B;simp only at B;subst B;split at hk
   .rename_i x y z;simp only at z;subst z
    replace hk:=dR A hk;obtain⟨u,l,hk⟩:=hk
    replace hk:=dR A hk;obtain⟨v,D,hk⟩:=hk
    replace hk:=kZ hk;obtain⟨_,k,m,rfl,hk⟩:=hk
    replace hk:=kZ hk;obtain⟨_,Q,n,rfl,hk⟩:=hk
    refine⟨_,_,?_,.ofInt _ _,hk⟩;simp [execOp,ho,resolve,invoke,builtin,Builtin.min_,iN l,iN D,Builtin.min2]
   .exact hk.elim
  .rename_i B;simp only at B;subst B;split at hk
   .rename_i x y z;simp only at z;subst z
    replace hk:=dR A hk;obtain⟨u,l,hk⟩:=hk
    replace hk:=dR A hk;obtain⟨v,D,hk⟩:=hk
    replace hk:=kZ hk;obtain⟨_,k,m,rfl,hk⟩:=hk
    replace hk:=kZ hk;obtain⟨_,Q,n,rfl,hk⟩:=hk
    refine⟨_,_,?_,.ofInt _ _,hk⟩;simp [execOp,ho,resolve,invoke,builtin,Builtin.max_,iN l,iN D,Builtin.max2]
   .exact hk.elim
  .exact hk.elim
 all_goals exact hk.elim
end Go.AE
namespace Go.AE
open Go
variable{w:World}{o:fK}{b:Option Nat}{l:Nat}{c:Ctx}{h:Heap}
theorem aK(m:Nat)(o:fK)(h:Heap):look ((m,o)::h) m=some o:=by simp [look]
theorem aC{m l:Nat}(o:fK)(h:Heap)(a:m≠l):look ((m,o)::h) l=look h l:=by simp [look,a]
def upd{α:Type}(μ:Nat->Option α)(l:Nat)(b:Option α):Nat->Option α:=λx=>if x=l then b else μ x
def Ctx.nameAt(c:Ctx)(p:Option (Nat×Nat)):Ctx:={c with ν:=upd c.ν c.n p,n:=c.n+1}
abbrev Ctx.name(c : Ctx)(b : Option Nat) : Ctx := c.nameAt (b.map λx => (x, 0))
def lg(c:Ctx)(p:Option (Nat×Nat)):(c.nameAt p).μ=upd c.μ c.n (p.map (·.1)):=by
 funext x;simp only [Ctx.μ,Ctx.nameAt,upd];split<;>rfl
def iO(c:Ctx)(b:Option Nat):(c.name b).μ=upd c.μ c.n b:=by
 rw [lg];cases b<;>rfl
def Ctx.Ch(c:Ctx)(p:Option (Nat×Nat)):CLe c (c.nameAt p):=
 ⟨λ_ _ h=>h,Nat.le_succ _,λl a=>by simp only [Ctx.nameAt,upd];grind⟩
def Ctx.keep(c:Ctx)(f:Bool)(b:Option Nat):Ctx:={c with K:=λg x=>c.K g x\/(some x=b/\(g=true->f=true))}
def Ctx.qH(c:Ctx)(b:Option Nat):CLe c (c.name b):=c.Ch _
def Ctx.YM(c:Ctx)(f:Bool)(b:Option Nat):CLe c (c.keep f b):=⟨λ_ _ h=> .inl h,Nat.le_refl _,λ_ _=>rfl⟩
def Fp{w w':World}(h:∀(b:Nat) (c:Array Value) (E:TypeId) (e:Nat×Nat),w.heap[b]? =some (.cells c E e)->∃c' a,w'.heap[b]? =some (.cells c' E a)/\c'.size=c.size):World.jW w w':=by
 rintro b m ⟨c,E,e,f,hm⟩;obtain⟨c',a,d,g⟩:=h b c E e f;exact⟨c',E,a,d,ah⟩
theorem alloc_old{o:Go.Obj}{b:Nat}(a:b<w.heap.size):(w.alloc o).heap[b]? =w.heap[b]? :=RowKit.Below.heap_alloc w o b a
def jN(w:World)(o:Go.Obj):(w.alloc o).heap[w.heap.size]? =some o:=by
 show(w.heap.push o)[w.heap.size]? =_;simp
def lt_of_some{b:Nat}{o:Go.Obj}(h:w.heap[b]? =some o):b<w.heap.size:=(Array.getElem?_eq_some_iff.1 h).1
def qI(w:World)(o:Go.Obj):World.jW w (w.alloc o):=
 Fp λb c E a h=>⟨c,a,by rw [alloc_old (lt_of_some h)];exact h,rfl⟩
def jM.mono{c c':Ctx}{w w':World}(hc:CLe c c')(g:∀f b,c.K f b->w'.heap[b]? =w.heap[b]?)(r:World.jW w w')(m:l<c.n)
  (k:∀b,o.live->c.μ l=some b->w'.heap[b]? =w.heap[b]?) (h:jM c w l o):jM c' w' l o:=by
 cases o with
 | box cs=>
  obtain⟨b,n,E,hm,d,a⟩:=h;exact⟨b,n,E,(hc.ν l m).trans hm,(k b trivial (kY hm)).trans d,F2.mono (λ_ _ h=>h.mono hc g r) a⟩
 | rows f t u=>
  simp only [jM]at h ⊢;rw [hc.ν l m];cases hm:c.ν l with
  | none=>simp_all
  | some p=>
   rw [hm]at h;obtain⟨cells,E,d,a⟩:=h;refine⟨cells,E,(k p.1 trivial (kY hm)).trans d,λi e=>⟨(a i e).1,λj q=> ?_⟩⟩;obtain⟨v,s,hd⟩:=(a i e).2 j q;exact⟨v,s,hd.mono (hc.K f) (g f)⟩
 | gone=>trivial
def jM.lt{l b:Nat}(h:jM c w l o)(a:o.live)(hm:c.μ l=some b):b<w.heap.size:=by
 cases o with
 | box cs=>obtain⟨k,g,E,d,e,_⟩:=h;rw [kY d]at hm;cases hm;exact lt_of_some e
 | rows f i j=>
  obtain⟨o,a⟩:=aqE hm;simp only [jM,a]at h;obtain⟨cells,E,e,_⟩:=h;exact lt_of_some e
 | gone=>exact a.elim
def bL.new{w r:World}(H:bL c w h)(y:∀x,b=some x->x=w.heap.size)(D:World.jW w r)
  (j:∀x,x<w.heap.size->r.heap[x]? =w.heap[x]?) (A:w.heap.size<=r.heap.size) (E:jM (c.name b) r c.n o):bL (c.name b) r ((c.n,o)::h) where
 obj:=by
  intro l z n;by_cases e:c.n=l
  .subst e;rw [aK]at n;cases n;exact⟨Nat.lt_succ_self _,E⟩
  .rw [aC _ _ e]at n;obtain⟨k,i⟩:=H.obj l z n;refine⟨Nat.lt_succ_of_lt k,i.mono (c.qH b) (λf x s=>j x (H.low f x s)) D k (λx m s=>j x (i.lt m s))⟩
 inj:=by
  intro l v g u x k p i q d a;by_cases e:c.n=l<;>by_cases t:c.n=g
  .omega
  .exfalso;subst e;rw [aC _ _ t]at i;have C:=(H.obj g u i).1;simp only [iO,upd,if_true]at d;have s:=y x d;have:c.μ g=some x:=by simpa [iO,upd,show g≠c.n by omega]using a
   have:=(H.obj g u i).2.lt q this;omega
  .exfalso;subst t;rw [aC _ _ e]at k;have C:=(H.obj l v k).1;simp only [iO,upd,if_true]at a;have s:=y x a;have:c.μ l=some x:=by simpa [iO,upd,show l≠c.n by omega]using d
   have:=(H.obj l v k).2.lt p this;omega
  .rw [aC _ _ e]at k;rw [aC _ _ t]at i;have B:c.μ l=some x:=by simpa [iO,upd,show l≠c.n from λh=>e h.symm]using d
   have F:c.μ g=some x:=by simpa [iO,upd,show g≠c.n from λh=>t h.symm]using a
   exact H.inj l v g u x k p i q B F
 own:=by
  rintro f x ⟨l,z,n,m,hm⟩ hk;by_cases e:c.n=l
  .subst e;simp only [iO,upd,if_true]at hm;have:=y x hm;have:=H.low f x hk;omega
  .rw [aC _ _ e]at n;have B:c.μ l=some x:=by simpa [iO,upd,show l≠c.n from λh=>e h.symm]using hm
   exact H.own f x ⟨l,z,n,m,B⟩ hk
 low:=λf x hk=>Nat.lt_of_lt_of_le (H.low f x hk) A
 sub:=H.sub
def Grow.new{w a:World}(q:∀x,b=some x->x=w.heap.size)(k:World.jW w a)
  (d:∀x,x<w.heap.size->a.heap[x]? =w.heap[x]?) (g:w.heap.size<=a.heap.size) (p:a.os=w.os) (h2:a.tape=w.tape) (j:a.output=w.output):
  Grow c w h (c.name b) a ((c.n,o)::h) where
 le:=c.qH b
 size:=g
 stays:=k
 kept:=λx n _=>d x n
 yT:=λ_ _ hk=> .inl hk
 qV:=by
  rintro x ⟨l,m,i,f,hm⟩;by_cases e:c.n=l
  .simp_all [iO,upd,if_true,Nat.le_refl]
  .rw [aC _ _ e]at i;exact .inl ⟨l,m,i,f,by simpa [iO,upd,show l≠c.n from λh=>e h.symm]using hm⟩
 os:=p
 tape:=h2
 output:=j
def bL.write{w w':World}(H:bL c w h){l b:Nat}{o o':fK}(q:look h l=some o)(g:o.live)(hm:c.μ l=some b)
  (d:∀x,x≠b->w'.heap[x]? =w.heap[x]?) (z:w'.heap.size=w.heap.size) (I:World.jW w w') (K:jM c w' l o'):bL c w' ((l,o')::h) where
 obj:=by
  intro k a hk;by_cases e:l=k
  .subst e;rw [aK]at hk;cases hk;exact⟨(H.obj l o q).1,K⟩
  .rw [aC _ _ e]at hk;obtain⟨p,v⟩:=H.obj k a hk;refine⟨p,v.mono (.refl c) (λf x n=>d x (λB=> ?_)) I p (λx t r=>d x (λB=> ?_))⟩
   .subst B;exact H.own f x ⟨l,o,q,g,hm⟩ n
   .subst B;exact e (H.inj l o k a x q g hk t hm r)
 inj:=by
  intro k a D m x p u v A y s;have i:∀k a,look ((l,o')::h) k=some a->a.live->∃m,look h k=some m/\m.live:=by grind [aC]
  obtain⟨E,L,M⟩:=i k a p u;obtain⟨J,F,G⟩:=i D m v A;exact H.inj k E D J x L M F G y s
 own:=by
  rintro f x ⟨k,a,hk,C,n⟩ j;by_cases e:l=k
  .subst e;exact H.own f x ⟨l,o,q,g,n⟩ j
  .rw [aC _ _ e]at hk;exact H.own f x ⟨k,a,hk,C,n⟩ j
 low:=λf x hk=>by rw [z];exact H.low f x hk
 sub:=H.sub
def Grow.write{w w':World}{l b:Nat}{o o':fK}(i:look h l=some o)(a:o.live)(hm:c.μ l=some b)
  (d:∀x,x≠b->w'.heap[x]? =w.heap[x]?) (q:w'.heap.size=w.heap.size) (n:World.jW w w') (r:w'.os=w.os) (p:w'.tape=w.tape) (j:w'.output=w.output):
  Grow c w h c w' ((l,o')::h) where
 le:= .refl c
 size:=by omega
 stays:=n
 kept:=λx _ hn=>d x (λe=>hn ⟨l,o,i,a,by rw [e];exact hm⟩)
 yT:=λ_ _ hk=> .inl hk
 qV:=by
  rintro x ⟨k,m,hk,f,g⟩;by_cases e:l=k
  .subst e;exact .inl ⟨l,o,i,a,g⟩
  .rw [aC _ _ e]at hk;exact .inl ⟨k,m,hk,f,g⟩
 os:=r
 tape:=p
 output:=j
def bL.give(H:bL c w h)(f:Bool)(s:look h l=some o)(n:o.live):bL (c.keep f (c.μ l)) w ((l,.gone)::h) where
 obj:=by
  intro k i hk;by_cases e:l=k
  .subst e;rw [aK]at hk;cases hk;exact⟨(H.obj l o s).1,trivial⟩
  .rw [aC _ _ e]at hk;obtain⟨d,j⟩:=H.obj k i hk;exact⟨d,j.mono (c.YM f _) (λ_ _ _=>rfl) (.refl w) d (λ_ _ _=>rfl)⟩
 inj:=by
  intro k i t v x d m j p r q;by_cases e:l=k
  .subst e;rw [aK]at d;cases d;exact m.elim
  .by_cases e':l=t
   .subst e';rw [aK]at j;cases j;exact p.elim
   .rw [aC _ _ e]at d;rw [aC _ _ e']at j;exact H.inj k i t v x d m j p r q
 own:=by
  rintro g x ⟨k,i,hk,b,u⟩ a;by_cases e:l=k
  .subst e;rw [aK]at hk;cases hk;exact b.elim
  .rw [aC _ _ e]at hk;rcases a with a | ⟨a,_⟩
   .exact H.own g x ⟨k,i,hk,b,u⟩ a
   .exact e (H.inj l o k i x s n hk b a.symm u)
 low:=by
  rintro g x (hk | ⟨hk,_⟩)
  .exact H.low g x hk
  .exact(H.obj l o s).2.lt n hk.symm
 sub:=by
  rintro x (hk | ⟨hk,y⟩)
  .exact .inl (H.sub x hk)
  .exact .inr ⟨hk,λh=>by cases h⟩
theorem Grow.give(f:Bool)(i:look h l=some o)(b:o.live):Grow c w h (c.keep f (c.μ l)) w ((l,.gone)::h) where
 le:=c.YM f _
 size:=Nat.le_refl _
 stays:= .refl w
 kept:=λ_ _ _=>rfl
 yT:=by
  rintro g x (hk | ⟨hk,_⟩)
  .exact .inl hk
  .exact .inr (.inr ⟨l,o,i,b,hk.symm⟩)
 qV:=by
  rintro x ⟨k,j,hk,a,d⟩;by_cases e:l=k
  .subst e;rw [aK]at hk;cases hk;exact a.elim
  .rw [aC _ _ e]at hk;exact .inl ⟨k,j,hk,a,d⟩
 os:=rfl
 tape:=rfl
 output:=rfl
def qW.grow{E:Tab}{c c':Ctx}{w w':World}{h f:Heap}(r:bL c w h)(g:Grow c w h c' w' f)(G:qW E c w):qW E c' w':=by
 intro x d hd;obtain⟨a,u,b,e⟩:=G x d hd;exact⟨g.le.K _ _ a,u,by rw [qC (g.ro r false x a)];exact b,e.mono (g.le.K false) (g.ro r false)⟩
end Go.AE
namespace Go.AE
open Go
def nm(n k:Nat):Nat:=n+k
theorem abu{n a b:Nat}:nm (nm n a) b=nm n (a+b):=by simp [nm,Nat.add_assoc]
def DF(h:Heap)(x:Cell)(K:Bool->D->Heap->Prop):Prop:=
 match x with
 | .d f x=>K (f || x.oG) x h
 | .nil=>∃a,K true (.rows a []) h
 | .clip f a b=>K f (.rows a b) h
 | .os l a d n=>qD (look h l) λo=>match o with
  | .rows f c b=>a=c/\d+n<=b.length/\K f (.rows a ((b.drop d).take n)) ((l,.gone)::h)
  | _=>False
 | _=>False
def qX(h:Heap):List Cell->(Bool->List D->Heap->Prop)->Prop
 | [],K=>K true [] h
 | x::r,K=>DF h x λf d b=>qX b r λg c a=>K (f&&g) (d::c) a
def vU(E:Tab)(t:Slots)(c:Nat):Heap->List (Nat×Operand)->(Bool->List (List D)->Heap->Prop)->Prop
 | h,[],K=>K true [] h
 | h,(_,x)::r,K=>aT (ev E t x) λv=>(aR v).length=c/\qX h (aR v) λf e d=>vU E t c d r λg a b=>K (f&&g) (e::a) b
def mX(k:IntKind):List (List D)->Option (List Int)
 | []=>some []
 | [.int k' n]::r=>if k=k' then(match mX k r with | some l=>some (n::l) | none=>none)else none
 | _=>none
def ir(d:mO)(a:List (List D)):List (List D):=
 match d with
 | .int k=>match mX k a with | some b=>b.map (ic k) | none=>a
 | _=>a
inductive ZD:List Cell->List D->Prop
 | nil:ZD [] []
 | d (f:Bool) (x:D) {r:List Cell} {ds:List D}:ZD r ds->ZD (.d f x::r) (x::ds)
 | nl (sz:Nat) {r:List Cell} {ds:List D}:ZD r ds->ZD (.nil::r) (.rows sz []::ds)
def Ay:Nat:=1073741824
def iq(row a:List D)(j:Nat):List D:=row.take j++a++row.drop (j+a.length)
def Ci(h:Heap)(y:TY)(p v:PV)(K:Heap->Prop):Prop:=
 (aR v).length=y.size/\y.size≠0/\
 match p with
 | .c (.ptr l sz i j)=>qD (look h l) λo=>match o with
  | .box cs=>i=0/\j+(aR v).length<=cs.length/\K ((l,.box (splice cs (aR v) j))::h)
  | .rows f a b=>sz=a/\i<b.length/\qX h (aR v) λg c d=>look d l=some (.rows f a b)/\j+c.length<=sz/\
   ∀row,b[i]? =some row->K ((l,.rows (f&&g) sz (b.set i (if j=0/\c.length=sz then c else iq row c j)))::d)
  | .gone=>False
 | _=>False
def rR(d:mO)(v:PV):Prop:=match d,v with | .int _,.c (.d _ (.int _ _))=>True | .slice _,.c (.d _ (.int _ _))=>False | .slice _,_=>True | _,_=>False
def QA(h:Heap)(c:List D)(v:PV)(K:Bool->Nat->List (List D)->Prop):Prop:=
 match v with
 | .c .nil=>K true 0 []
 | .c (.d f (.rows sz a))=>K f sz a
 | .c (.clip f sz a)=>K f sz a
 | .c (.os l sz lo n)=>qD (look h l) λo=>match o with
  | .rows f b a=>sz=b/\lo+n<=a.length/\K f sz ((a.drop lo).take n)
  | _=>False
 | .c (.d _ (.int _ n))=>0<=n/\n<=Ay/\K true c.length (List.replicate n.toNat c)
 | _=>False
def Fq(ds:List (List D)):Bool:=ds.all λr=>r.all D.oG
def vV(h:Heap)(n k:Nat)(z:TY)(a:PV)(f2:Bool)(ds:List (List D))(K:PV->Heap->Nat->Prop):Prop:=
  match a with
  | .c .nil=>ds.length<=Ay/\K (.c (.os (nm n k) z.size 0 ds.length)) ((nm n k,.rows f2 z.size ds)::h) (k+1)
  | .c (.os l sz lo m)=>qD (look h l) λo=>match o with
    | .rows c d b=>lo+m<=b.length/\sz=d/\sz=z.size/\m+ds.length<=Ay/\
        K (.c (.os (nm n k) z.size 0 (m+ds.length))) ((nm n k,.rows (c&&f2) z.size ((b.drop lo).take m++ds))::(l,.gone)::h) (k+1)
    | _=>False
  | .c (.clip c sz b) => (b ≠ [] -> sz = z.size) /\ (ds = [] -> b = []) /\ b.length + ds.length <= Ay /\
        K (.c (.os (nm n k) z.size 0 (b.length+ds.length))) ((nm n k,.rows (c&&f2) z.size (b++ds))::h) (k+1)
  | _=>False
def Az(h:Heap)(n k:Nat)(z:TY)(a b:PV)(K:PV->Heap->Nat->Prop):Prop:=
 ∃e,ZD z.zero e/\z.size≠0/\z.bytes<=1024/\QA h e b λf c d=>(d≠ []->c=z.size)/\vV h n k z a (f || Fq d) d K
def vW(h:Heap)(c:List D)(z:TY)(v:PV)(K:Heap->Prop):Prop:=
 match v with
 | .c .nil=>K h
 | .c (.os l sz lo n)=>qD (look h l) λo=>match o with
  | .rows f a b=>sz=a/\sz=z.size/\z.size≠0/\lo+n<=b.length/\K ((l,.rows f sz (b.take lo++List.replicate n c++b.drop (lo+n)))::h)
  | _=>False
 | _=>False
def iB(E:Tab)(r:Op)(t:Slots)(h:Heap)(n k:Nat)(K:PV->Heap->Nat->Prop):Prop:=
 match r with
 | .alloc ty=>aD (E.ty ty) λy=>y.zero≠ []/\K (.c (.ptr (nm n k) y.size 0 0)) ((nm n k,.box y.zero)::h) (k+1)
 | .box _ x=>aT (ev E t x) λv=>(aR v).length≠0/\K (.c (.ptr (nm n k) (aR v).length 0 0)) ((nm n k,.box (aR v))::h) (k+1)
 | .buildSlice ty len d=>aD (E.ty ty) λy=>match y.desc with
  | .slice e=>aD (E.ty e) λz=>z.size≠0/\d.toList.map (·.1)=List.range len/\len*z.size<=16777216/\
    vU E t z.size h d.toList λf s g=>K (.c (.os (nm n k) z.size 0 len)) ((nm n k,.rows f z.size (ir z.desc s))::g) (k+1)
  | _=>False
 | .makeSlice ty l c=>aD (E.ty ty) λy=>match y.desc with
  | .slice e=>aD (E.ty e) λz=>∃i,ZD z.zero i/\aT (ev E t l) λlv=>aT (ev E t c) λq=>sS lv λ_ m=>sS q λ_ u=>
    z.size≠0/\z.bytes<=1024/\u=m/\0<=m/\m<=Ay/\K (.c (.os (nm n k) z.size 0 m.toNat)) ((nm n k,.rows true z.size (List.replicate m.toNat i))::h) (k+1)
  | _=>False
 | .store ty p x=>aD (E.ty ty) λy=>aT (ev E t p) λpv=>aT (ev E t x) λv=>Ci h y pv v λg=>K (.tup []) g k
 | .call c=>match c.callee,c.args.toList,c.argTypes.toList with
  | .builtin .append,[a,b],ty::ty2=>aD (E.ty ty) λy=>match y.desc with
   | .slice e=>aD (E.ty e) λz=>aT (ev E t a) λj=>aT (ev E t b) λo=>
     (match ty2 with | [t2]=>aD (E.ty t2) λy2=>rR y2.desc o | _=>False)/\
     Az h n k z j o K
   | _=>False
  | .builtin .clear,[a],[ty]=>aD (E.ty ty) λy=>match y.desc with
   | .slice e=>aD (E.ty e) λz=>∃i,ZD z.zero i/\aT (ev E t a) λj=>vW h i z j λg=>K (.tup []) g k
   | _=>False
  | _,_,_=>False
 | _=>False
variable{c:Ctx}{w:World}{v:Value}{x:List D}{K:Nat->Prop}{cells:Array Value}{a:List (List D)}{t:TypeId}
def Turns(P:Program)(c:Ctx)(w:World)(h:Heap)(n:Nat)(s:Sem Next)(K:PV->Heap->Nat->Prop):Prop:=
 ∃d u b a e f pv,s.run P w= .ok d a/\(d= .value u\/(d= .skip/\u=undef))/\Grow c w h b a e/\bL b a e/\b.n=nm n f/\bK b a u pv/\K pv e f
theorem dM.flag(d:∀b,c.K true b->c.K false b){x:D}{f g:Bool}(h:dM (c.K f) w v x):dM (c.K (f&&g)) w v x:=by
 refine h.mono' (λb a=> ?_);cases f<;>cases g<;>first | exact a | exact d b a
def dM.abv(d:∀b,c.K true b->c.K false b){x:D}{f g:Bool}(h:dM (c.K g) w v x):dM (c.K (f&&g)) w v x:=by
 refine h.mono' (λb a=> ?_);cases f<;>cases g<;>first | exact a | exact d b a
def bT.aqF{a:Nat}{b:List (List D)}(h:bT K w cells a b):
  ∃u:Nat->Nat->Value,∀i j,i<b.length->j<a->cells[i*a+j]? =some (u i j)/\dM K w (u i j) (gd b i j):=by
 have e:∀i j,∃u,i<b.length->j<a->cells[i*a+j]? =some u/\dM K w u (gd b i j):=by
  intro i j;by_cases c:i<b.length
  .by_cases d:j<a
   .obtain⟨v,hv⟩:=(h i c).2 j d;simp_all
   .exact⟨undef,λ_ h=>absurd h d⟩
  .exact⟨undef,λh=>absurd h c⟩
 exact⟨λi j=>Classical.choose (e i j),λi j c d=>Classical.choose_spec (e i j) c d⟩
def DJ{h:Heap}(H:bL c w h){x:Cell}{K:Bool->D->Heap->Prop}(r:bQ c w v x)(hk:DF h x K):
  ∃p s f d,Grow c w h p w s/\bL p w s/\p.n=c.n/\dM (p.K f) w v d/\K f d s:=by
 unfold DF at hk;split at hk
 .rename_i f x;cases r with | d _ _ _ hd=>
  refine⟨c,h,f || x.oG,x,.refl _ _ _,H,rfl,?_,hk⟩;cases hs:x.oG with
  | true=>exact hd.oG _ hs
  | false=>simpa using hd
 .cases r with | nil=>
  obtain⟨m,hk⟩:=hk;exact⟨c,h,true,_,.refl _ _ _,H,rfl,.none _ _ _,hk⟩
 .rename_i f m es;cases r with | clip _ a n _ _ hd=>
  exact⟨c,h,f,_,.refl _ _ _,H,rfl,hd,hk⟩
 .rename_i l m lo n
  replace hk:=mW hk;obtain⟨o,t,hk⟩:=hk
  split at hk
  .rename_i f sz' es;obtain⟨rfl,B,hk⟩:=hk;have q:=Grow.give (c:=c) (w:=w) (h:=h) f t (by trivial);have I:=H.give f t (by trivial);refine⟨_,_,f,_,q,I,rfl,?_,hk⟩;have k:=(H.obj l _ t).2;cases r with
   | os0 a _ _ C hm=>rw [List.take_zero];exact .none _ _ _
   | osE a _ _ _ b C hm=>rw [List.take_zero];exact .none _ _ _
   | os _ _ _ _ z b F C hm hn y=>
    simp only [jM,hm]at k;obtain⟨cells,E,G,g⟩:=k;obtain⟨u,A⟩:=g.aqF;have e:((es.drop lo).take n).length=n:=by simp;omega
    have q:∀i,i<n->((es.drop lo).take n).getD i []=es.getD (lo+i) []:=by grind
    refine .rows b (F+lo*m) z m n _ (λi j=>u (lo+i) j) ?_ e.symm hn ?_ ?_ ?_
    .exact .inr ⟨(kY hm).symm,λh=>h⟩
    .intro i j hi hj;rw [e]at hi;have L:=(A (lo+i) j ah hj).1;rw [rP G];simpa only [Av,Nat.add_mul,Nat.add_assoc]using L
    .intro i hi;rw [e]at hi;rw [q i hi];exact(g (lo+i) ah).1
    .intro i j hi hj;rw [e]at hi;unfold gd;rw [q i hi];exact((A (lo+i) j ah hj).2).mono' (λx J=> .inl J)
  .exact hk.elim
 .exact hk.elim
def sU:∀(cs:List Cell) {c:Ctx} {h:Heap} (_:bL c w h) {a:List Value} {K:Bool->List D->Heap->Prop} (_:F2 (bQ c w) a cs) (_:qX h cs K),
  ∃e i f b,Grow c w h e w i/\bL e w i/\e.n=c.n/\F2 (dM (e.K f) w) a b/\K f b i
 | [],c,h,H,a,K,hv,hk=>by
  cases hv;exact⟨c,h,true,[],.refl _ _ _,H,rfl,.nil,hk⟩
 | x::r,c,h,H,a,K,hv,hk=>by
  cases hv with | @cons v _ a _ y s=>
  obtain⟨A,t,f,d,m,z,u,p,hk⟩:=DJ H y hk;obtain⟨q,k,g,b,l,j,o,n,hk⟩:=sU r z (F2.mono (λ_ _ h=>h.grow H m) s) hk;refine⟨q,k,f&&g,d::b,m.trans l,j,o.trans u,.cons ?_ (F2.mono (λ_ _ h=>h.abv j.sub) n),hk⟩;exact(p.mono' (l.le.K f)).flag j.sub
def bQ.oneCell{x:Cell}(h:bQ c w v x):v.oneCell'=true:=by
 cases h with
 | d f _ x h=>cases h<;>rfl
 | _=>rfl
def dM.oneCell{x:D}(h:dM K w v x):v.oneCell'=true:=by cases h<;>rfl
def F2.all{α β:Type}{R:α->β->Prop}{p:α->Prop}(h:∀a b,R a b->p a){l:List α}{m:List β}(c:F2 R l m):∀a∈l,p a:=by
 induction c with
 | nil=>simp_all
 | cons e _ d=>grind
def oH{b:Nat}{old cs:Array Value}{a:Nat×Nat}(d:w.heap[b]? =some (.cells old t a))(g:cs.size=old.size):World.jW w (w.setRow b cs):=
 Fp λx c E f h=>by
  by_cases e:x=b
  .subst e;rw [d]at h;cases h;exact⟨cs,a,setRow_heap w x old cs t a d,g⟩
  grind [setRow_other]
def size_setRow(w:World)(b:Nat)(cs:Array Value):(w.setRow b cs).heap.size=w.heap.size:=by simp [World.setRow]
def bT.mono{K K':Nat->Prop}{w w':World}{sz:Nat}{es:List (List D)}(hK:∀b,K b->K' b)(c:∀b,K b->w'.heap[b]? =w.heap[b]?)
  (h:bT K w cells sz es):bT K' w' cells sz es:=λi a=>
 ⟨(h i a).1,λj d=>let⟨v,e,hd⟩:=(h i a).2 j d;⟨v,e,hd.mono hK c⟩⟩
def za{i:Nat}(h:i<a.length):(a.set i x).getD i []=x:=by simp_all
def getD_set_ne{i j:Nat}(h:i≠j):(a.set i x).getD j []=a.getD j []:=by simp_all
def Fu(l a:List Value)(o q:Nat)(h:o+a.length<=l.length):(l.take o++a++l.drop (o+a.length))[q]? =if o<=q/\q<o+a.length then a[q-o]? else l[q]? :=by grind [List.append_assoc,List.getElem?_append_left,List.getElem?_take_of_lt,List.getElem?_append_right,List.length_take,Nat.min_eq_left]
def Oa(row a:List D)(j q:Nat)(h:j+a.length<=row.length):(iq row a j).getD q default=if j<=q/\q<j+a.length then a.getD (q-j) default else row.getD q default:=by grind [iq,List.getD,List.append_assoc,List.getElem?_append_left,List.getElem?_take_of_lt,List.getElem?_append_right,List.length_take,Nat.min_eq_left]
def bT.store{b i j:Nat}{c:List (List D)}{p:List Value}{a:List D}(h:bT K w cells b c)(o:i<c.length)(hd:F2 (dM K w) p a)
  (x:j+a.length<=b) (n:i*b+j+p.length<=cells.size):
  bT K w (cells.toList.take (i*b+j)++p++cells.toList.drop (i*b+j+p.length)).toArray b (c.set i (if j=0/\a.length=b then a else iq (c.getD i []) a j)):=by
 have s:=hd.length;have t:(c.getD i []).length=b:=(h i o).1;intro k g;rw [List.length_set]at g;by_cases e:i=k
 .subst e;rw [za o];have d:(if j=0/\a.length=b then a else iq (c.getD i []) a j)=iq (c.getD i []) a j:=by grind [iq,List.drop_eq_nil_of_le]
  rw [d];refine⟨by grind [iq,List.length_append,List.length_take,List.length_drop],λq r=> ?_⟩;have f:gd (c.set i (iq (c.getD i []) a j)) i q=(iq (c.getD i []) a j).getD q default:=by
   unfold gd;rw [za o]
  rw [f,Oa _ _ _ _ ah];simp only [List.getElem?_toArray];rw [Fu _ _ _ _ (by simpa using n)];by_cases m:j<=q/\q<j+a.length
  .rw [if_pos ah,if_pos m];have u:a[q-j]? =some (a.getD (q-j) default):=by grind
   obtain⟨v,z,y⟩:=hd.get u
   grind
  .rw [if_neg ah,if_neg m];have:=(h i o).2 q r;simpa [gd]using this
 .rw [getD_set_ne e];refine⟨(h k g).1,λq r=> ?_⟩;have f:gd (c.set i (if j=0/\a.length=b then a else iq (c.getD i []) a j)) k q=gd c k q:=by
   unfold gd;rw [getD_set_ne e]
  rw [f];simp only [List.getElem?_toArray];rw [Fu _ _ _ _ (by simpa using n),if_neg ?_]
  .simpa using(h k g).2 q r
  .intro hh;rcases Nat.lt_or_gt_of_ne e with l | l
   .have:(i+1)*b<=k*b:=Nat.mul_le_mul_right _ l
    grind
   .have:(k+1)*b<=i*b:=Nat.mul_le_mul_right _ l
    grind
def vX{o k:Nat}{vs:List Value}(h:o+k<=cells.size):
  from_ (cells.toList.take (o+k)++vs++cells.toList.drop (o+k+vs.length)).toArray o=((from_ cells o).toList.take k++vs++(from_ cells o).toList.drop (k+vs.length)).toArray:=by
 have b:o<=(cells.toList.take (o+k)).length:=by simp;omega
 have a:(cells.toList.take (o+k)).drop o=(cells.toList.drop o).take k:=by rw [List.drop_take];congr 1;omega
 unfold from_;simp only [List.append_assoc];rw [List.drop_append_of_le_length b,a,List.drop_drop,Nat.add_assoc]
def mY{o:Nat}:(from_ cells o).size=cells.size-o:=by simp [from_]
def Ob{E:Tab}(hE:aI E){h:Heap}{n k:Nat}(H:bL c w h)(hn:c.n=nm n k){y:TY}(hy:E.ty t=some y){u v:Value}{p q:PV}{K:PV->Heap->Nat->Prop}
  (R:bK c w u p) (hv:bK c w v q) (hk:Ci h y p q λS=>K (.tup []) S k):Turns E.P c w h n (do Instr.storeAt t u v;pure .skip) K:=by
 obtain⟨a2,a0,hk⟩:=hk;have d:=hv.cells ah;have a3:=d.length;have V:∀x∈v.cells.toList,x.oneCell'=true:=d.all (λ_ _ h=>h.oneCell);have P:∀(c:Ctx) (w:World),bK c w undef (.tup []):=λc w=> .tup [] [] rfl (λi Q=>by simp at Q)
 have run:∀(b o:Nat) (A:Array Value) (e:TypeId),w.heap[b]? =some (.cells A e (0,0))->o+v.cells.toList.length<=A.size->u= .pointer (some ⟨b,o,none⟩)->
   ((do Instr.storeAt t u v;pure .skip):Sem Next).run E.P w= .ok .skip (w.setRow b (A.toList.take o++v.cells.toList++A.toList.drop (o+v.cells.toList.length)).toArray):=by
  intro b o A e D hl he;have:=run_storeCells_at E.P b o e v.cells.toList 0 A w D (by simpa using hl) V;simp_all [Instr.storeAt,Instr.sureAddr,storeVar,run_sizeOf]
 split at hk
 .rename_i l sz i j
  replace hk:=mW hk;obtain⟨o,O,hk⟩:=hk
  cases R with | c _ _ R=>cases R with | ptr _ _ _ _ b I hl hm=>
  split at hk
  .rename_i cs;obtain⟨rfl,Z,hk⟩:=hk;obtain⟨b',G,e,m,D,U⟩:=(H.obj l _ O).2;rw [hm]at m;cases m;have a4:=U.length;have z:(G.take j++v.cells.toList++G.drop (j+v.cells.toList.length)).toArray.size=G.toArray.size:=by grind
   have F:=run b j G.toArray e D (by simp_all) (by simp);simp only []at F;have B:=oH D z;have C:∀f x,c.K f x->(w.setRow b (G.take j++v.cells.toList++G.drop (j+v.cells.toList.length)).toArray).heap[x]? =w.heap[x]? :=
    λf x r=>setRow_other _ _ _ _ (λX=>H.own f b ⟨l,_,O,trivial,kY hm⟩ (X▸r))
   have s:∀a x,bQ c w a x->bQ c (w.setRow b (G.take j++v.cells.toList++G.drop (j+v.cells.toList.length)).toArray) a x:=λa x r=>r.mono (.refl c) C B
   refine⟨.skip,undef,c,_,_,k,.tup [],F,.inr ⟨rfl,rfl⟩,Grow.write O trivial (kY hm) (λx r=>setRow_other _ _ _ _ r) (size_setRow _ _ _) B rfl rfl rfl,
    H.write O trivial (kY hm) (λx r=>setRow_other _ _ _ _ r) (size_setRow _ _ _) B ?_,hn,P _ _,hk⟩
   refine⟨b,_,e,hm,setRow_heap w b _ _ e _ D,?_⟩;unfold splice;refine F2.append (F2.append (F2.mono s (U.take j)) (F2.mono s d)) ?_;have h4:=F2.mono s (U.drop (j+v.cells.toList.length));simp_all
  .rename_i f sz' es;obtain⟨rfl,Q,hk⟩:=hk;obtain⟨L,S,g,T,hg,M,W,hd,YN,hj,hk⟩:=sU _ H d hk;have Y:l<c.n:=(H.obj l _ O).1;have m:L.ν l=some (b,I):=(hg.le.ν l Y).trans hm;have C:=(M.obj l _ YN).2;simp only [jM,m]at C;obtain⟨cells,e,D,J⟩:=C;have ajP:i*sz+j+v.cells.toList.length<=(from_ cells I).size:=by
    have a1:=hd.length;have:=(J i Q).2 (sz-1) ah
    grind
   have N:I+(i*sz+j)+v.cells.toList.length<=cells.size:=by rw [mY]at ajP;omega
   have F:=run b (I+(i*sz+j)) cells e D N rfl;have z:(cells.toList.take (I+(i*sz+j))++v.cells.toList++cells.toList.drop (I+(i*sz+j)+v.cells.toList.length)).toArray.size=cells.size:=by grind
   have B:=oH D z;have C:∀f x,L.K f x->(w.setRow b (cells.toList.take (I+(i*sz+j))++v.cells.toList++cells.toList.drop (I+(i*sz+j)+v.cells.toList.length)).toArray).heap[x]? =w.heap[x]? :=
    λf x r=>setRow_other _ _ _ _ (λX=>M.own f b ⟨l,_,YN,trivial,kY m⟩ (X▸r))
   have hG:Grow L w S L _ _:=Grow.write (o':= .rows (f&&g) sz (es.set i (if j=0/\T.length=sz then T else iq (es.getD i []) T j))) YN trivial (kY m) (λx r=>setRow_other _ _ _ _ r) (size_setRow _ _ _) B rfl rfl rfl;refine⟨.skip,undef,L,_,_,k,.tup [],F,.inr ⟨rfl,rfl⟩,hg.trans hG,?_,W.trans hn,P _ _,hk (es.getD i []) (by simp_all)⟩;refine M.write YN trivial (kY m) (λx r=>setRow_other _ _ _ _ r) (size_setRow _ _ _) B ?_;simp only [jM,m];refine⟨_,e,setRow_heap w b _ _ e _ D,?_⟩
   have h3:=(bT.mono (K':=L.K (f&&g)) (w':=w) (λx r=>by cases f<;>cases g<;>first | exact r | exact M.sub x r) (λ_ _=>rfl) J).store Q
    (F2.mono (λ_ _ h=>h.abv (f:=f) M.sub) hd) hj ajP
   rw [vX ah];exact h3.mono (λ_ h=>h) (C (f&&g))
  .exact hk.elim
 .exact hk.elim
end Go.AE
namespace Go.AE
open Go
variable{P:Program}{c:Ctx}{h:Heap}{cells:Array Value}{e:TypeId}{K:PV->Heap->Nat->Prop}{w:World}{E:Tab}{t:TypeId}{sz:Nat}
def rT{w w1:World}{n k:Nat}(H:bL c w h)(hn:c.n=nm n k){s:Sem Next}{u:Value}{o:fK}{pv:PV}
  (g:s.run P w= .ok (.value u) w1) (j:w1.heap=(w.alloc (.cells cells e)).heap) (p:w1.os=w.os) (r:w1.tape=w.tape) (q:w1.output=w.output)
  (B:World.jW w w1->(∀x,x<w.heap.size->w1.heap[x]? =w.heap[x]?)->w1.heap[w.heap.size]? =some (.cells cells e (0,0))->jM (c.name (some w.heap.size)) w1 c.n o)
  (t:w1.heap[w.heap.size]? =some (.cells cells e (0,0))->bK (c.name (some w.heap.size)) w1 u pv) (hk:K pv ((nm n k,o)::h) (k+1)):Turns P c w h n s K:=by
 have l:World.jW w w1:=λb m z=>by
  have:=qI w (.cells cells e) b m z;obtain⟨y,E,v,C,A⟩:=this;exact⟨y,E,v,by rw [j];exact C,A⟩
 have a:∀x,x<w.heap.size->w1.heap[x]? =w.heap[x]? :=λx i=>by grind [alloc_old]
 have d:w1.heap[w.heap.size]? =some (.cells cells e (0,0)):=by rw [j];exact jN w _
 have f:w.heap.size<=w1.heap.size:=by rw [j];simp
 refine⟨.value u,u,c.name (some w.heap.size),_,(c.n,o)::h,k+1,pv,g,.inl rfl,Grow.new (λx i=>(Option.some.inj i).symm) l a f p r q,
  H.new (λx i=>(Option.some.inj i).symm) l a f (B l a d),?_,t d,?_⟩
 .show c.n+1=_;rw [hn];rfl
 simp_all
def Oc{w g:World}(H:bL c w h){vs:List Value}{cs:List Cell}(j:F2 (bQ c w) vs cs)(l:World.jW w g)
  (a:∀x,x<w.heap.size->g.heap[x]? =w.heap[x]?) (d:g.heap[w.heap.size]? =some (.cells vs.toArray e (0,0))):jM (c.name (some w.heap.size)) g c.n (.box cs):=
 ⟨w.heap.size,vs,e,by simp [Ctx.nameAt,upd],d,F2.mono (λ_ _ k=>k.mono (c.qH _) (λf b i=>a b (H.low f b i)) l) j⟩
def YO{b a m:Nat}(hm:c.n=m):bK (c.name (some b)) w (.pointer (some ⟨b,0,none⟩)) (.c (.ptr m a 0 0)):=by
 subst hm;have:=bQ.ptr (c:=c.name (some b)) (w:=w) c.n a 0 0 b 0 (Nat.lt_succ_self _) (by simp [Ctx.nameAt,upd]);exact .c _ _ (by simpa using this)
def Od(hE:aI E){n k:Nat}(H:bL c w h)(hn:c.n=nm n k)
  (hk:aD (E.ty t) λy=>y.zero≠ []/\K (.c (.ptr (nm n k) y.size 0 0)) ((nm n k,.box y.zero)::h) (k+1)):Turns E.P c w h n (do pure (Next.value (<-Instr.alloc t true (.tuple #[])))) K:=by
 replace hk:=aJ hk;obtain⟨y,d,j,hk⟩:=hk
 obtain⟨g,vR,i,_,z,a,b⟩:=(hE.ty t y d).info;refine rT H hn (cells:=z.cells) (e:=t) (w1:=w.alloc (.cells z.cells t)) (o:= .box y.zero) (u:= .pointer (some ⟨w.heap.size,0,none⟩)) ?_ rfl rfl rfl rfl ?_ (λ_=>YO hn) hk
 .simp [Instr.alloc,zeroValue,typeInfo,vR,a,newVar,newRow]
 .intro hst hold hnew;have f:=b c w;exact Oc H (vs:=z.cells.toList) f hst hold (by simpa using hnew)
def Oe{n k:Nat}(H:bL c w h)(hn:c.n=nm n k){v:Value}{p:PV}(a:bK c w v p)
  (b:(aR p).length≠0) (hk:K (.c (.ptr (nm n k) (aR p).length 0 0)) ((nm n k,.box (aR p))::h) (k+1)):Turns P c w h n (do pure (Next.value (<-Instr.box t v))) K:=by
 refine rT H hn (cells:=v.cells) (e:=t) (w1:=w.alloc (.cells v.cells t)) (o:= .box (aR p)) (u:= .pointer (some ⟨w.heap.size,0,none⟩)) ?_ rfl rfl rfl rfl ?_ (λ_=>YO hn) hk
 .simp [Instr.box,newVar,newRow]
 .intro hst hold hnew;exact Oc H (vs:=v.cells.toList) (a.cells b) hst hold (by simpa using hnew)
def AA{a:Act}{t:Slots}:∀(p:List (Nat×Operand)) {c:Ctx} {h:Heap} (_:∀i v,aY t i=some v->∃u,a.tmps[i]? =some u/\bK c w u v) (_:qW E c w) (_:bL c w h)
  {K:Bool->List (List D)->Heap->Prop} (_:sz≠0) (_:vU E t sz h p K),
  ∃e j f b,Grow c w h e w j/\bL e w j/\e.n=c.n/\F2 (λ(v:Value) (d:List D)=>d.length=sz/\F2 (dM (e.K f) w) v.cells.toList d) (p.map λx=>a.eval x.2) b/\K f b j
 | [],c,h,hs,G,H,K,hsz,hk=>⟨c,h,true,[],.refl _ _ _,H,rfl,.nil,hk⟩
 | (i,x)::r,c,h,hs,G,H,K,hsz,hk=>by
  unfold vU at hk;obtain⟨v,I,L,hk⟩:=dR (a:=a) (w:=w) (c:=c) (h:=h) ⟨hs,H,G⟩ hk;have hc:=I.cells ah;obtain⟨B,s,f,d,n,J,F,o,hk⟩:=sU _ H hc hk;have m:∀i v,aY t i=some v->∃u,a.tmps[i]? =some u/\bK B w u v:=λi v y=>let⟨u,s,l⟩:=hs i v y;⟨u,s,l.grow H n⟩
  obtain⟨C,l,g,b,q,k,A,z,hk⟩:=AA r m (G.grow H n) J hsz hk;refine⟨C,l,f&&g,d::b,n.trans q,k,A.trans F,.cons ⟨?_,?_⟩ ?_,hk⟩
  .rw [<-o.length,hc.length,L]
  .exact F2.mono (λ_ _ h=>(h.mono' (q.le.K f)).flag k.sub) o
  .exact F2.mono (λ_ _ h=>⟨h.1,F2.mono (λ_ _ h=>h.abv k.sub) h.2⟩) z
def Og(sz:Nat):∀(b:List Value) (m:Nat) (pre a:List Value),(∀v∈b,v.cells.size=sz)->pre.length=m*sz->a.length=b.length*sz->
  Instr.fill (λi=>some (i*sz,sz)) (pre++a).toArray ((List.range' m b.length).zip b)=some (pre++(b.flatMap λv=>v.cells.toList)).toArray
 | [],m,pre,a,_,_,hp=>by simp_all [Instr.fill]
 | v::b,m,pre,a,hv,hpre,hp=>by
  have d:v.cells.size=sz:=hv v (by simp);simp only [List.length_cons,List.range'_succ,List.zip_cons_cons,Instr.fill];have g:a.length=b.length*sz+sz:=by grind
  rw [if_neg (by grind)];have f:(v.cells.zipIdx.foldl (λ(cs:Array Value) (x:Value×Nat)=>cs.setIfInBounds (m*sz+x.2) x.1) (pre++a).toArray)=((pre++v.cells.toList)++a.drop sz).toArray:=by
   apply Array.ext';rw [<-Array.foldl_toList,foldl_toList,Array.toList_zipIdx];rw [zK _ _ (m*sz) 0 (by grind)];simp_all [Nat.add_zero,List.take_left',List.drop_append]
  rw [f];have c:=Og sz b (m+1) (pre++v.cells.toList) (a.drop sz) (λx e=>hv x (by simp [e])) (by grind) (by simp;omega);rw [c];simp
theorem flat_get{b:Nat}:∀(a:List (List Value)) (_:∀v∈a,v.length=b) (i j:Nat) (_:i<a.length) (_:j<b),(a.flatten)[i*b+j]? =(a.getD i [])[j]?
 | v::a,h,0,j,_,hj=>by grind
 | v::a,h,i+1,j,hi,hj=>by
  have d:v.length=b:=h v (by simp);simp only [List.flatten_cons];rw [List.getElem?_append_right (by grind),d,show(i+1)*b+j-b=i*b+j by grind];have:=flat_get a (λx c=>h x (by simp [c])) i j (by simpa using hi) hj;simpa using this
def QB{K:Nat->Prop}{d:List (List Value)}{c:List (List D)}(h:F2 (λ(v:List Value) (f:List D)=>f.length=sz/\F2 (dM K w) v f) d c):bT K w d.flatten.toArray sz c:=by
 have t:∀v∈d,v.length=sz:=h.all (λa b e=>by rw [e.2.length];exact e.1);have g:=h.length;intro i q;have o:c[i]? =some (c.getD i []):=by simp_all
 obtain⟨v,s,p,n⟩:=h.get o;refine⟨p,λj r=> ?_⟩;have l:(c.getD i [])[j]? =some (gd c i j):=by grind [gd,List.getD]
 obtain⟨x,k,m⟩:=n.get l
 grind [flat_get,qG]
theorem rU{k:IntKind}:∀ {b:List (List D)} {a:List Int},mX k b=some a->b=a.map (ic k)
 | [],a,h=>by grind [mX]
 | [.int k' n]::r,a,h=>by
  simp only [mX]at h;split at h
  .rename_i e;subst e;split at h
   .rename_i l hl;cases h;rw [rU hl];rfl
   .cases h
  .cases h
 | []::_,a,h=>by simp [mX]at h
 | [.bool _]::_,a,h=>by simp [mX]at h
 | [.str _]::_,a,h=>by simp [mX]at h
 | [.rows _ _]::_,a,h=>by simp [mX]at h
 | (_::_::_)::_,a,h=>by simp [mX]at h
theorem Oh(d:mO)(a:List (List D)):ir d a=a:=by
 unfold ir
 grind [rU]
def QC{b sz m q:Nat}{d:Nat×Nat}(a:Nat)(g:c.n=q)(f:w.heap[b]? =some (.cells cells e d))(hm:m<=a)(hc:a*sz<=cells.size):
  bK (c.name (some b)) w (.slice (some ⟨b,0,none⟩) m a) (.c (.os q sz 0 m)):=by
 subst g;have:=bQ.os (c:=c.name (some b)) (w:=w) c.n sz 0 m a b 0 (Nat.lt_succ_self _) (by simp [Ctx.nameAt,upd]) hm ⟨cells,e,d,f,by simpa using hc⟩;exact .c _ _ (by simpa using this)
def Cj{w g:World}(H:bL c w h){f:Bool}{i:List (List D)}(k:bT (c.K f) w cells sz i)
  (a:∀x,x<w.heap.size->g.heap[x]? =w.heap[x]?) (d:g.heap[w.heap.size]? =some (.cells cells e (0,0))):jM (c.name (some w.heap.size)) g c.n (.rows f sz i):=by
 have hm:(c.name (some w.heap.size)).ν c.n=some (w.heap.size,0):=by simp [Ctx.nameAt,upd]
 simp only [jM,hm,aar];exact⟨cells,e,d,k.mono (λ_ h=>h) (λb j=>a b (H.low f b j))⟩
theorem zip_map{α β γ:Type}(f:α->β)(g:α->γ)(l:List α):(l.map f).zip (l.map g)=l.map λx=>(f x,g x):=by grind
theorem Ck(hE:aI E){t:Slots}{n k:Nat}{a:Act}(A:rO E c w t h a)(hn:c.n=nm n k){ty:TypeId}{len:Nat}{b:Array (Nat×Operand)}
  (hk:iB E (.buildSlice ty len b) t h n k K):Turns E.P c w h n (do pure (Next.value (<-Instr.buildSlice ty len (b.map λ(i,x)=>(i,a.eval x))))) K:=by
 simp only [iB]at hk
 replace hk:=aJ hk;obtain⟨y,Q,hk⟩:=hk
 split at hk
 .rename_i e he
  replace hk:=aJ hk;obtain⟨z,B,I,m,L,hk⟩:=hk
  obtain⟨T,J,f,p,g1,O,N,s,hk⟩:=AA (E:=E) (a:=a) (t:=t) (w:=w) (sz:=z.size) b.toList A.slot A.glob A.heap I hk;rw [Oh]at hk;have j:=(hE.ty ty y Q).desc;rw [he]at j;obtain⟨a0,vR,hs,_,q,D,F⟩:=(hE.ty e z B).info;have d:b.toList.length=len:=by have:=congrArg List.length m;simpa using this
  have G:p.length=len:=by rw [<-s.length];simpa using d
  have r:∀v∈b.toList.map (λx=>a.eval x.2),v.cells.size=z.size:=s.all (λv ds C=>by have:=C.2.length;simp_all);have DK:=Og z.size (b.toList.map λx=>a.eval x.2) 0 [] ((List.range (len*z.size)).map λi=>q.cells[i%q.cells.size]!) r (by simp) (by simp_all);have aqG:((List.range' 0 (b.toList.map λx=>a.eval x.2).length).zip (b.toList.map λx=>a.eval x.2))=b.toList.map λx=>(x.1,a.eval x.2):=by grind [List.range_eq_range',List.length_map,zip_map]
  rw [aqG]at DK;simp only [List.nil_append]at DK;have a1:q.cells.size=z.size:=by
   have J:=(F c w).length;have h2:=(hE.ty e z B).len;simp at J;omega
  have aqH:((b.toList.map λx=>a.eval x.2).flatMap λv=>v.cells.toList).length=len*z.size:=by
   rw [<-d];have:∀(l:List Value),(∀v∈l,v.cells.size=z.size)->(l.flatMap λv=>v.cells.toList).length=l.length*z.size:=by
    intro l hl
    induction l with
    | nil=>simp
    | cons x l M=>grind
   grind
  have hg:Turns E.P T w J n (do pure (Next.value (<-Instr.buildSlice ty len (b.map λ(i,x)=>(i,a.eval x))))) K:=by
   refine rT O (N.trans hn) (cells:=((b.toList.map λx=>a.eval x.2).flatMap λv=>v.cells.toList).toArray) (e:=e) (o:= .rows f z.size p)
    (w1:=w.alloc (.cells ((b.toList.map λx=>a.eval x.2).flatMap λv=>v.cells.toList).toArray e))
    (u:= .slice (some ⟨w.heap.size,0,none⟩) len len) ?_ rfl rfl rfl rfl ?_ (λW=>QC len (N.trans hn) W (Nat.le_refl _) (by simp_all)) hk
   .have ak7:Instr.fill (λi=>some (i*z.size,z.size)) (Array.map (λi=>q.cells[i%q.cells.size]!) (Array.range (len*z.size))) (b.toList.map λx=>(x.1,a.eval x.2))=
      some ((b.toList.map λx=>a.eval x.2).flatMap λv=>v.cells.toList).toArray:=by
     rw [<-DK];congr 1;grind
    have g:¬16777216<len*z.size:=by omega
    by_cases Z:len*z.size=0
    .have hl0:len=0:=by grind [Nat.mul_eq_zero,absurd]
     subst hl0;have H:b= #[]:=by simp_all
     subst H;simp [Instr.buildSlice,run_underlying j,run_sizeOf hE B,Instr.fill,newRow]
     grind
    .simp [Instr.buildSlice,run_underlying j,run_sizeOf hE B,g,Z,zeroValue,typeInfo,vR,D,newRow];rw [ak7];simp
   .intro hst hold hnew;refine Cj O ?_ hold hnew;have:((b.toList.map λx=>a.eval x.2).flatMap λv=>v.cells.toList)=((b.toList.map λx=>a.eval x.2).map λv=>v.cells.toList).flatten:=by simp [List.flatMap]
    rw [this];refine QB ?_
    clear DK aqG r this hk aqH hnew G
    generalize b.toList.map (λx=>a.eval x.2)=vs at s
    induction s with
    | nil=>exact .nil
    | cons C _ M=>exact .cons C M
  obtain⟨nx,u,V,w',S,R,pv,q1,P,q3,U,q5,X,Y⟩:=hg;exact⟨nx,u,V,w',S,R,pv,q1,P,g1.trans q3,U,q5,X,Y⟩
 .exact hk.elim
end Go.AE
namespace Go.AE
open Go
variable{w:World}
def QD:Ctx:={K:=λ_ _=>False,ν:=λ_=>none,n:=0}
def Cm{cs:List Cell}{vs:List Value}{e:List D}(h:F2 (bQ QD w) vs cs)(g:ZD cs e):F2 (dM (λ_=>False) w) vs e:=by
 induction g generalizing vs with
 | nil=>cases h;exact .nil
 | d f x _ b=>cases h with | cons a c=>cases a with | d _ _ _ a=>exact .cons a (b c)
 | nl i _ b=>cases h with | cons a c=>cases a with | nil=>exact .cons (.none _ _ _) (b c)
def rowAt_zero{K:Nat->Prop}{b:Array Value}{a:List D}{sz m N:Nat}(e:F2 (dM (λ_=>False) w) b.toList a)(o:b.size=sz)(p:m*sz<=N):
  bT K w ((Array.range N).map λi=>b[i%b.size]!) sz (List.replicate m a):=by
 intro i d;rw [List.length_replicate]at d;have k:(List.replicate m a).getD i []=a:=by simp_all
 have r:=e.length;refine⟨by simp_all,λj n=> ?_⟩;have c:gd (List.replicate m a) i j=a.getD j default:=by unfold gd;rw [k]
 have g:a[j]? =some (a.getD j default):=by simp_all
 obtain⟨v,q,f⟩:=e.get g;refine⟨v,?_,by rw [c];exact f.mono' (λ_ h=>h.elim)⟩;have l:i*sz+j<N:=by
  have:(i+1)*sz<=m*sz:=Nat.mul_le_mul_right _ d
  grind
 grind [Nat.mul_comm,Nat.mul_add_mod,Nat.mod_eq_of_lt,Array.getElem?_eq_some_iff,Array.getElem!_eq_getD]
theorem Eb{E:Tab}(hE:aI E){c:Ctx}{t:Slots}{h:Heap}{n k:Nat}{a:Act}(A:rO E c w t h a)(hn:c.n=nm n k){ty:TypeId}{l I:Operand}{K:PV->Heap->Nat->Prop}
  (hk:iB E (.makeSlice ty l I) t h n k K):Turns E.P c w h n (do pure (Next.value (<-Instr.makeSlice ty (a.eval l) (a.eval I)))) K:=by
 simp only [iB]at hk
 replace hk:=aJ hk;obtain⟨y,J,hk⟩:=hk
 split at hk
 .rename_i e he
  replace hk:=aJ hk;obtain⟨z,r,hk⟩:=hk
  obtain⟨Q,G,hk⟩:=hk
  replace hk:=dR A hk;obtain⟨U,C,hk⟩:=hk
  replace hk:=dR A hk;obtain⟨R,v,hk⟩:=hk
  replace hk:=kZ hk;obtain⟨_,W,m,rfl,hk⟩:=hk
  replace hk:=kZ hk;obtain⟨_,V,L,rfl,hk⟩:=hk
  obtain⟨D,N,O,M,j,hk⟩:=hk;subst L;rw [iN C,iN v];have d:=(hE.ty ty y J).desc;rw [he]at d;obtain⟨F,vR,S,x,q,B,g⟩:=(hE.ty e z r).info;have H:q.cells.size=z.size:=by
   have s:=(g c w).length;have T:=(hE.ty e z r).len;simp at s;omega
  have hm:m<=1073741824:=j;have b:IntKind.i64.wrap m=m:=IntWalk.i64_in _ ah;have p:¬(F.bytes:Int)*m>281474976710656:=by
   rw [x];have s:(z.bytes:Int)*m<=1024*m:=Int.mul_le_mul_of_nonneg_right ah M;omega
  refine rT A.heap hn (cells:=(Array.range (m.toNat*z.size)).map λi=>q.cells[i%q.cells.size]!) (e:=e) (o:= .rows true z.size (List.replicate m.toNat Q))
   (w1:=w.alloc (.cells ((Array.range (m.toNat*z.size)).map λi=>q.cells[i%q.cells.size]!) e))
   (u:= .slice (some ⟨w.heap.size,0,none⟩) m.toNat m.toNat) ?_ rfl rfl rfl rfl ?_ (λx=>QC m.toNat hn x (Nat.le_refl _) (by simp)) hk
  .by_cases hm0:m.toNat=0
   .have:m=0:=by omega
    subst this;have P:∀f:Nat->Value,Array.map f (Array.range 0)= #[]:=by simp_all
    simp [Instr.makeSlice,run_underlying d,asInt,asIntOf,typeInfo,vR,b,run_sizeOf hE r,newRow,P]
   .have hne:m.toNat*z.size≠0:=Nat.mul_ne_zero hm0 D;have s:¬m<0:=by omega
    simp [Instr.makeSlice,run_underlying d,asInt,asIntOf,typeInfo,vR,b,run_sizeOf hE r,newRow,zeroValue,B,s,p,hne]
  .intro hst hold hnew;refine Cj A.heap (rowAt_zero (Cm (g QD w) G) H (Nat.le_refl _)) hold hnew
 .exact hk.elim
end Go.AE
namespace Go.AE
open Go
variable{c:Ctx}{w:World}{h:Heap}{K:Nat->Prop}{sz:Nat}{cells:Array Value}{es:List (List D)}{P:Program}{ds:List (List D)}{e:TypeId}
def bL.rename(H:bL c w h){l b q:Nat}{o o':fK}(D:look h l=some o)(p:o.live)(hm:c.μ l=some b)(I:jM (c.nameAt (some (b,q))) w c.n o'):
  bL (c.nameAt (some (b,q))) w ((c.n,o')::(l,.gone)::h) where
 obj:=by
  intro x t r;by_cases e:c.n=x
  .subst e;rw [aK]at r;cases r;exact⟨Nat.lt_succ_self _,I⟩
  .rw [aC _ _ e]at r;by_cases n:l=x
   .subst n;rw [aK]at r;cases r;exact⟨Nat.lt_succ_of_lt (H.obj l o D).1,trivial⟩
   .rw [aC _ _ n]at r;obtain⟨a,k⟩:=H.obj x t r;exact⟨Nat.lt_succ_of_lt a,k.mono (c.Ch _) (λ_ _ _=>rfl) (.refl w) a (λ_ _ _=>rfl)⟩
 inj:=by
  intro x t u C y a j k m g d;have i:∀z s,c.n≠z->look ((c.n,o')::(l,.gone)::h) z=some s->s.live->z≠l/\look h z=some s/\(c.nameAt (some (b,q))).μ z=c.μ z:=by
   intro z s E a k;rw [aC _ _ E]at a;by_cases e:l=z
   .subst e;rw [aK]at a;cases a;exact k.elim
   .rw [aC _ _ e]at a;exact⟨λh=>e h.symm,a,by simp [lg,upd,show z≠c.n from λh=>E h.symm]⟩
  by_cases e:c.n=x<;>by_cases n:c.n=u
  .omega
  .exfalso;obtain⟨B,v,A⟩:=i u C n k m;subst e;have:y=b:=by simpa [lg,upd]using g.symm
   subst this;rw [A]at d;exact B (H.inj u C l o y v m D p d hm)
  .exfalso;obtain⟨B,v,A⟩:=i x t e a j;subst n;have:y=b:=by simpa [lg,upd]using d.symm
   subst this;rw [A]at g;exact B (H.inj x t l o y v j D p g hm)
  .obtain⟨B,v,A⟩:=i x t e a j;obtain⟨K,F,J⟩:=i u C n k m;rw [A]at g;rw [J]at d;exact H.inj x t u C y v j F m g d
 own:=by
  rintro f x ⟨z,s,a,k,G⟩ hk;by_cases e:c.n=z
  .subst e;have:x=b:=by simp_all [lg,upd]
   subst this;exact H.own f x ⟨l,o,D,p,hm⟩ hk
  .rw [aC _ _ e]at a;by_cases n:l=z
   .subst n;rw [aK]at a;cases a;exact k.elim
   .rw [aC _ _ n]at a;exact H.own f x ⟨z,s,a,k,by simpa [lg,upd,show z≠c.n from λh=>e h.symm]using G⟩ hk
 low:=H.low
 sub:=H.sub
theorem Grow.rename{l b q:Nat}{o o':fK}(k:look h l=some o)(d:o.live)(hm:c.μ l=some b):Grow c w h (c.nameAt (some (b,q))) w ((c.n,o')::(l,.gone)::h) where
 le:=c.Ch _
 size:=Nat.le_refl _
 stays:= .refl w
 kept:=λ_ _ _=>rfl
 yT:=λ_ _ h=> .inl h
 qV:=by
  rintro x ⟨z,i,a,f,j⟩;by_cases e:c.n=z
  .subst e;have:x=b:=by simp_all [lg,upd]
   subst this;exact .inl ⟨l,o,k,d,hm⟩
  .rw [aC _ _ e]at a;by_cases g:l=z
   .subst g;rw [aK]at a;cases a;exact f.elim
   .rw [aC _ _ g]at a;exact .inl ⟨z,i,a,f,by simpa [lg,upd,show z≠c.n from λh=>e h.symm]using j⟩
 os:=rfl
 tape:=rfl
 output:=rfl
theorem Grow.forget{l:Nat}:Grow c w h c w ((l,.gone)::h) where
 le:= .refl c
 size:=Nat.le_refl _
 stays:= .refl w
 kept:=λ_ _ _=>rfl
 yT:=λ_ _ h=> .inl h
 qV:=by
  rintro x ⟨z,e,a,b,f⟩;by_cases d:l=z
  .subst d;rw [aK]at a;cases a;exact b.elim
  .rw [aC _ _ d]at a;exact .inl ⟨z,e,a,b,f⟩
 os:=rfl
 tape:=rfl
 output:=rfl
def bL.forget(H:bL c w h){l:Nat}{o:fK}(t:look h l=some o):bL c w ((l,.gone)::h) where
 obj:=by
  intro x m j;by_cases b:l=x
  .subst b;rw [aK]at j;cases j;exact⟨(H.obj l o t).1,trivial⟩
  .rw [aC _ _ b]at j;exact H.obj x m j
 inj:=by
  intro x m p r y a g d i n k;by_cases e:l=x
  .subst e;rw [aK]at a;cases a;exact g.elim
  .by_cases b:l=p
   .subst b;rw [aK]at d;cases d;exact i.elim
   .rw [aC _ _ e]at a;rw [aC _ _ b]at d;exact H.inj x m p r y a g d i n k
 own:=by
  rintro f x ⟨z,q,a,d,s⟩ hk;by_cases b:l=z
  .subst b;rw [aK]at a;cases a;exact d.elim
  .rw [aC _ _ b]at a;exact H.own f x ⟨z,q,a,d,s⟩ hk
 low:=H.low
 sub:=H.sub
def bT.append{c d rest:List Value}{a b:List (List D)}(p:bT K w c.toArray sz a)(o:c.length=a.length*sz)
  (n:bT K w d.toArray sz b):bT K w (c++d++rest).toArray sz (a++b):=by
 intro i l;rw [List.length_append]at l;by_cases e:i<a.length
 .have h:(a++b).getD i []=a.getD i []:=by simp_all
  obtain⟨f,g⟩:=p i e
  grind [gd,List.getElem?_eq_some_iff,List.append_assoc,List.getElem?_append_left]
 .have hi2:i-a.length<b.length:=by omega
  have h:(a++b).getD i []=b.getD (i-a.length) []:=by simp_all
  obtain⟨f,g⟩:=n _ hi2;refine⟨by rw [h];exact f,λj m=> ?_⟩;obtain⟨v,k,hd⟩:=g j m;refine⟨v,?_,by grind [gd]⟩;simp only [List.getElem?_toArray]at k ⊢;have r:(i-a.length)*sz+j<d.length:=(List.getElem?_eq_some_iff.1 k).1;have q:i*sz+j=c.length+((i-a.length)*sz+j):=by
   rw [o,<-Nat.add_assoc,<-Nat.add_mul];congr 2;omega
  grind
def o8{sz lo n:Nat}(h:bT K w cells sz es)(hn:lo+n<=es.length):
  bT K w ((cells.toList.drop (lo*sz)).take (n*sz)).toArray sz ((es.drop lo).take n):=by
 intro i b;have a:i<n:=by simp at b;omega
 have f:((es.drop lo).take n).getD i []=es.getD (lo+i) []:=by grind
 obtain⟨d,e⟩:=h (lo+i) ah;refine⟨by rw [f];exact d,λj c=> ?_⟩;obtain⟨v,k,hd⟩:=e j c;refine⟨v,?_,by grind [gd]⟩;have g:i*sz+j<n*sz:=by
  have:(i+1)*sz<=n*sz:=Nat.mul_le_mul_right _ a
  grind
 grind
def sV(h:bT K w cells sz es)(c:sz≠0):es.length*sz<=cells.size:=by
 by_cases b:es.length=0
 .simp_all
 .obtain⟨v,hv,_⟩:=(h (es.length-1) ah).2 (sz-1) ah;obtain⟨a,_⟩:=Array.getElem?_eq_some_iff.1 hv;have:es.length*sz=(es.length-1)*sz+sz:=by
   rw [show es.length=es.length-1+1 by omega,Nat.add_mul];simp
  omega
def EB(P:Program)(K:Nat->Prop)(w:World)(u:Value)(sz:Nat)(ds:List (List D)):Prop:=
 ∃(a:Option Addr) (c:Nat) (cells:List Value),u= .slice a ds.length c/\(∀b:World,b.heap=w.heap->(Builtin.firstCells sz ds.length u).run P b= .ok cells.toArray b)/\cells.length=ds.length*sz/\bT K w cells.toArray sz ds/\
  (∀v∈cells,v.oneCell'=true)
theorem Fv{w a:World}(h:a.heap=w.heap)(b:Addr):a.cell? b=w.cell? b:=by unfold World.cell?;rw [h]
theorem lu{a:Option Addr}{b sz:Nat}:EB P K w (.slice a 0 b) sz []:=by
 refine⟨a,b,[],rfl,λd _=> ?_,by simp,λi c=>by simp at c,by simp⟩;cases a<;>simp [Builtin.firstCells,loadCells,loadCellsFrom]
def oI{cells:List Value}(f:cells.length=ds.length*sz)(h:bT K w cells.toArray sz ds):∀v∈cells,v.oneCell'=true:=by
 intro v a;obtain⟨q,e,rfl⟩:=List.mem_iff_getElem.1 a;have b:0<sz:=by grind
 have c:q/sz<ds.length:=by rw [Nat.div_lt_iff_lt_mul b];omega
 obtain⟨v,a,hd⟩:=(h (q/sz) c).2 (q%sz) (Nat.mod_lt _ b);have d:q/sz*sz+q%sz=q:=by rw [Nat.mul_comm];exact Nat.div_add_mod q sz
 rw [d]at a;simp [e]at a;rw [a];exact hd.oneCell
def zL{u:Value}{sz c:Nat}(h:dM K w u (.rows c ds))(t:ds≠ []->c=sz):EB P K w u sz ds:=by
 cases h with
 | none a f=>exact lu
 | rows b e f _ n _ k y hn o hc s p=>
  subst hn;by_cases l:ds=[]
  .subst l;exact lu
  .have:=t l;subst this;have r:0<ds.length:=List.length_pos_iff.2 l;refine⟨some ⟨b,e,none⟩,f,(List.range (ds.length*c)).map λq=>k (q/c) (q%c),rfl,?_,by simp,?_,?_⟩
   .intro w1 hw1;have:=run_loadCells_list (P:=P) w1 ⟨b,e,none⟩ ((List.range (ds.length*c)).map λq=>k (q/c) (q%c)) (λj v g=>by grind [Option.map_eq_some_iff,List.getElem?_eq_some_iff,Nat.eq_zero_or_pos,addr_add,Fv,Nat.div_lt_iff_lt_mul,Nat.mod_lt,Nat.add_assoc,Nat.mul_comm,Nat.div_add_mod]);simpa [Builtin.firstCells]using this
   .intro i d;refine⟨s i d,λj g=>⟨k i j,?_,p i j d g⟩⟩;have m:i*c+j<ds.length*c:=by
     have:(i+1)*c<=ds.length*c:=Nat.mul_le_mul_right _ d
     grind
    have x:(i*c+j)/c=i:=by grind [Nat.mul_comm,Nat.mul_add_div,Nat.div_eq_of_lt]
    grind [Nat.mul_comm,Nat.mul_add_mod,Nat.mod_eq_of_lt]
   .refine oI (K:=K) (w:=w) (sz:=c) (ds:=ds) (by simp) ?_;intro i d;refine⟨s i d,λj g=>⟨k i j,?_,p i j d g⟩⟩;have m:i*c+j<ds.length*c:=by
     have:(i+1)*c<=ds.length*c:=Nat.mul_le_mul_right _ d
     grind
    have x:(i*c+j)/c=i:=by grind [Nat.mul_comm,Nat.mul_add_div,Nat.div_eq_of_lt]
    grind [Nat.mul_comm,Nat.mul_add_mod,Nat.mod_eq_of_lt]
theorem Kl{b c sz lo n g:Nat}{i:Nat×Nat}(m:w.heap[b]? =some (.cells cells e i))(j:bT K w (from_ cells c) sz es)
  (h:sz≠0) (hn:lo+n<=es.length) (d:World) (l:d.heap=w.heap):
  (Builtin.firstCells sz n (.slice (some ⟨b,c+lo*sz,none⟩) n g)).run P d= .ok (((from_ cells c).toList.drop (lo*sz)).take (n*sz)).toArray d:=by
 have a:=sV j h;have f:(lo+n)*sz<=es.length*sz:=Nat.mul_le_mul_right _ hn;rw [Nat.add_mul]at f;rw [mY]at a;have hd:(from_ cells c).toList.drop (lo*sz)=cells.toList.drop (c+lo*sz):=by simp [from_,List.drop_drop]
 rw [hd];have k:((cells.toList.drop (c+lo*sz)).take (n*sz)).length=n*sz:=by simp;omega
 grind [run_loadCells_list,addr_add,Fv,rP,Builtin.firstCells]
def Oi{b c sz a n g:Nat}{l:Nat×Nat}{d:List (List D)}(p:w.heap[b]? =some (.cells cells e l))(h:bT K w (from_ cells c) sz d)
  (k:sz≠0) (hn:a+n<=d.length):EB P K w (.slice (some ⟨b,c+a*sz,none⟩) n g) sz ((d.drop a).take n):=by
 have j:=sV h k;have i:(a+n)*sz<=d.length*sz:=Nat.mul_le_mul_right _ hn;rw [Nat.add_mul]at i;have f:((d.drop a).take n).length=n:=by simp;omega
 have m:(((from_ cells c).toList.drop (a*sz)).take (n*sz)).length=n*sz:=by simp;omega
 refine⟨some ⟨b,c+a*sz,none⟩,g,((from_ cells c).toList.drop (a*sz)).take (n*sz),by rw [f],λq o=> ?_,by simp_all,o8 h hn,?_⟩
 .grind [Kl]
 .exact oI (by simp_all) (o8 h hn)
end Go.AE
namespace Go.AE
open Go
variable{E:Tab}{w:World}{z:TY}{x:Value}{n:Nat}{base:Option Addr}{h:Heap}{P:Program}{c:Ctx}{s:Sem Next}{K:PV->Heap->Nat->Prop}
theorem Km(a:Nat):∀(r c:Nat),Builtin.growBy a r c<=max c (2*a+192)
 | 0,c=>by simp [Builtin.growBy];omega
 | r+1,c=>by
  unfold Builtin.growBy;split
  .omega
  .have:=Km a r (c+(c+768)/4);omega
def nextslicecap_le{a b:Nat}(h:b<a):Builtin.nextslicecap a b<=2*a+512:=by grind [Builtin.nextslicecap,Km]
inductive QE (E:Tab) (w:World) (t2 e:TypeId) (z:TY) (x:Value) (n:Nat) (cells:List Value):Prop
 | slice (y2:TY) (e2:TypeId) (a:Option Addr) (cap:Nat):E.ty t2=some y2->y2.desc= .slice e2->x= .slice a n cap->
  (∀w1:World,w1.heap=w.heap->(Builtin.firstCells z.size n x).run E.P w1= .ok cells.toArray w1)->QE E w t2 e z x n cells
 | zeros (y2:TY) (k k':IntKind) (zv:Value) (inf:TypeInfo):E.ty t2=some y2->y2.desc= .int k->x= .int k' n->n<=Ay->E.P.info? e=some inf->inf.bytes=z.bytes->inf.zero=some zv->
  cells=(List.range (n*zv.cells.size)).map (λi=>zv.cells[i%zv.cells.size]!)->zv.cells.size=z.size->QE E w t2 e z x n cells
def ze(hE:aI E){ty g e:TypeId}{cells:List Value}(h:E.P.underlying ty=some (.slice e))(s:E.ty e=some z)(u:z.size≠0)(B:z.bytes<=1024)
  (l:QE E w g e z x n cells)  {sLen sCap:Nat} (b:sLen+n<=sCap):
  (Builtin.append_ #[ty,g] ty #[.slice base sLen sCap,x]).run E.P w=
   ((match base with | some a=>storeCells (a.add (sLen*z.size)) cells | none=>pure ():Sem Unit).run E.P w).andThen λ_ C=> .ok (.slice base (sLen+n) sCap) C:=by
 cases l with
 | slice y2 H a G m p l f=>
  have hd:=(hE.ty g y2 m).desc;rw [p]at hd;have c:E.P.underlying g=some (.slice H):=hd;subst l;have:=f w rfl;simp [Builtin.append_,run_underlying h,run_sizeOf hE s,run_underlying c,Builtin.lenOf,b,this];cases base<;>simp
 | zeros y2 k I y D m p l i t v q hc F=>
  have hd:=(hE.ty g y2 m).desc;rw [p]at hd;have c:E.P.underlying g=some (.int k):=hd;subst l;have hm:n<=1073741824:=i;have d:IntKind.i64.wrap (n:Int)=n:=IntWalk.i64_in _ ah;have A:¬(n:Int)<0:=by omega
  have j:¬(281474976710656:Int)< (n:Int)*(z.bytes:Int):=by
   have m:(n:Int)*(z.bytes:Int)<=(n:Int)*1024:=Int.mul_le_mul_of_nonneg_left ah ah;omega
  simp [Builtin.append_,run_underlying h,run_sizeOf hE s,run_underlying c,asInt,asIntOf,d,A,typeInfo,t,v,j,b,zeroValue,q];have r:(Builtin.zeroCells y.cells n).toList=cells:=by subst hc;simp [Builtin.zeroCells]
  rw [r];by_cases o:n=0
  .have hc0:cells=[]:=by simp_all
   subst hc0;rw [if_pos (by simp_all)];cases base<;>simp
  .rw [if_neg (Nat.mul_ne_zero o u)];cases base<;>simp
theorem run_append_grow(hE:aI E){ty r e:TypeId}{cells d:List Value}(y:E.P.underlying ty=some (.slice e))(I:E.ty e=some z)(X:z.size≠0)(P:z.bytes<=1024)
  (G:QE E w r e z x n cells) {h:Option Addr} {b c:Nat} (u:c<b+n) (A:b+n<=Ay) (N:d.length=b*z.size) (O:cells.length=n*z.size)
  (F:∀w1:World,w1.heap=w.heap->(Builtin.firstCells z.size b (.slice h b c)).run E.P w1= .ok d.toArray w1):
  ∃f i,b+n<=f/\f*z.size<=(d++cells++i).length/\(Builtin.append_ #[ty,r] ty #[.slice h b c,x]).run E.P w=
   .ok (.slice (some ⟨w.heap.size,0,none⟩) (b+n) f) {w.alloc (.cells (d++cells++i).toArray e)with drawn:=w.drawn+1}:=by
 have hm:b+n<=1073741824:=A;obtain⟨a1,vR,a0,t,g,o,L⟩:=(hE.ty e z I).info;have M:=nextslicecap_le u;have v:¬281474976710656<Builtin.nextslicecap (b+n) c*z.bytes:=by
  have p:Builtin.nextslicecap (b+n) c*z.bytes<=(2*(b+n)+512)*1024:=Nat.mul_le_mul M P;omega
 have s:¬b+n<=c:=by omega
 have R:g.cells.size=z.size:=by
  have p:=(L QD w).length;have H:=(hE.ty e z I).len;simp at p;omega
 have C:¬(9223372036854775807:Int)< (b:Int)+(n:Int):=by omega
 generalize K:(Question.appendCap (b+n) c e).cut (w.tape w.drawn (Question.appendCap (b+n) c e))=q;have atV:b+n<=q:=by rw [<-K];simp [Question.cut]
 have YP:(Question.appendCap (b+n) c e).forced=false:=rfl;refine⟨q,(Builtin.zeroCells g.cells (q- (b+n))).toList,atV,?_,?_⟩
 .simp [Builtin.zeroCells,N,O,R];rw [<-Nat.add_mul,<-Nat.add_mul]
  grind
 .have ajQ:=F w.drew rfl;cases G with
  | slice y2 e2 a a2 p H G j=>
   have hd:=(hE.ty r y2 p).desc;rw [H]at hd;have l:E.P.underlying r=some (.slice e2):=hd;subst G;have ak8:=j w.drew rfl;simp [Builtin.append_,run_underlying y,run_sizeOf hE I,run_underlying l,Builtin.lenOf,s,typeInfo,vR,t,v,C,YP,K,ajQ,ak8,zeroValue,o,newRow];have D:d.toArray++(cells.toArray++Builtin.zeroCells g.cells (q- (b+n)))=(d++(cells++(Builtin.zeroCells g.cells (q- (b+n))).toList)).toArray:=by simp_all
   rw [D];rfl
  | zeros y2 k k' Y T p H G aqI S hb aqJ hc U=>
   have hd:=(hE.ty r y2 p).desc;rw [H]at hd;have l:E.P.underlying r=some (.int k):=hd;subst G;rw [vR]at S;cases S;rw [o]at aqJ;cases aqJ;have V:n<=1073741824:=aqI;have m:IntKind.i64.wrap (n:Int)=n:=IntWalk.i64_in _ ah;have Z:¬(n:Int)<0:=by omega
   have B:¬(281474976710656:Int)< (n:Int)*(z.bytes:Int):=by
    have p:(n:Int)*(z.bytes:Int)<=(n:Int)*1024:=Int.mul_le_mul_of_nonneg_left ah ah;omega
   have Q:Builtin.zeroCells g.cells n=cells.toArray:=by grind [Array.ext',Builtin.zeroCells]
   simp [Builtin.append_,run_underlying y,run_sizeOf hE I,run_underlying l,asInt,asIntOf,m,Z,typeInfo,vR,t,B,s,v,C,YP,K,ajQ,zeroValue,o,newRow,Q];have D:d.toArray++(cells.toArray++Builtin.zeroCells g.cells (q- (b+n)))=(d++(cells++(Builtin.zeroCells g.cells (q- (b+n))).toList)).toArray:=by simp_all
   by_cases J:n=0
   .have hc0:cells=[]:=by simp_all
    rw [if_pos (by simp_all)];rw [hc0]at D ⊢;have W:d.toArray++Builtin.zeroCells g.cells (q- (b+n))=(d++([]++(Builtin.zeroCells g.cells (q- (b+n))).toList)).toArray:=by rw [<-D];simp
    rw [W];rfl
   .rw [if_neg (Nat.mul_ne_zero J X),D];rfl
theorem zN{n k:Nat}(H:bL c w h)(hn:c.n=nm n k){a:Option Addr}{f:Bool}{sz:Nat}
  (b:s.run P w= .ok (.value (.slice a 0 0)) w) (hk:K (.c (.os (nm n k) sz 0 0)) ((nm n k,.rows f sz [])::h) (k+1)):Turns P c w h n s K:=by
 refine⟨_,_,c.name none,w,(c.n,.rows f sz [])::h,k+1,.c (.os (nm n k) sz 0 0),b,.inl rfl,Grow.new (λx d=>by cases d) (.refl w) (λ_ _=>rfl) (Nat.le_refl _) rfl rfl rfl,
  H.new (λx d=>by cases d) (.refl w) (λ_ _=>rfl) (Nat.le_refl _) ?_,?_,?_,?_⟩
 .simp_all [Ctx.nameAt,upd,jM]
 .show c.n+1=_;rw [hn];rfl
 .rw [<-hn];exact .c _ _ (.os0 a c.n sz (Nat.lt_succ_self _) (by simp [iO,upd]))
 simp_all
theorem Turns.after{c a:Ctx}{h b:Heap}(g:Grow c w h a w b)(t:Turns P a w b n s K):Turns P c w h n s K:=by
 obtain⟨p,u,j,o,f,e,pv,q,d,m,i,r,k,l⟩:=t;exact⟨p,u,j,o,f,e,pv,q,d,g.trans m,i,r,k,l⟩
theorem sW(hE:aI E){n k:Nat}(H:bL c w h)(hn:c.n=nm n k){ty A e:TypeId}{m:Nat}{cells old:List Value}(r:E.P.underlying ty=some (.slice e))(L:E.ty e=some z)
  (C:z.size≠0) (v:z.bytes<=1024) (J:QE E w A e z x m cells)  {sLen sCap:Nat} (g:sCap<sLen+m) (j:sLen+m<=Ay) (i:old.length=sLen*z.size) (t:cells.length=m*z.size)
  (q:∀w1:World,w1.heap=w.heap->(Builtin.firstCells z.size sLen (.slice base sLen sCap)).run E.P w1= .ok old.toArray w1) {f1 f2:Bool} {es ds:List (List D)} (I:es.length=sLen)
  (s:bT (c.K f1) w old.toArray z.size es) (y:bT (c.K f2) w cells.toArray z.size ds) 
  (hk:K (.c (.os (nm n k) z.size 0 (sLen+m))) ((nm n k,.rows (f1&&f2) z.size (es++ds))::h) (k+1)):
  Turns E.P c w h n (do pure (Next.value (<-Builtin.append_ #[ty,A] ty #[.slice base sLen sCap,x]))) K:=by
 obtain⟨a,d,M,F,p⟩:=run_append_grow hE r L C v J g j i t q
 refine rT H hn (cells:=(old++cells++d).toArray) (e:=e) (o:= .rows (f1&&f2) z.size (es++ds)) (u:= .slice (some ⟨w.heap.size,0,none⟩) (sLen+m) a)
  (w1:={w.alloc (.cells (old++cells++d).toArray e)with drawn:=w.drawn+1}) (by simp [p]) rfl rfl rfl rfl ?_ (λf=>QC a hn f M (by simpa using F)) hk
 intro B G l;refine Cj H (bT.append ?_ (by rw [i,I]) ?_) G l
 .exact s.mono (λb f=>by cases f1<;>cases f2<;>first | exact f | exact H.sub b f) (λ_ _=>rfl)
 .exact y.mono (λb f=>by cases f1<;>cases f2<;>first | exact f | exact H.sub b f) (λ_ _=>rfl)
def QF(hE:aI E)(H:bL c w h){M e:TypeId}{y2 z:TY}{u:Value}{v:PV}{C:List D}(y:E.ty M=some y2)(U:E.ty e=some z)(s:z.size≠0)(S:ZD z.zero C)
  (g:bK c w u v) (a0:rR y2.desc v)
  {K:Bool->Nat->List (List D)->Prop} (hk:QA h C v K):
  ∃f T ds,K f T ds/\((ds≠ []->T=z.size)->∃cells,QE E w M e z u ds.length cells/\cells.length=ds.length*z.size/\bT (c.K f) w cells.toArray z.size ds/\(∀v∈cells,v.oneCell'=true)):=by
 have mk:∀(f:Bool) (ds:List (List D)) (p:TypeId),y2.desc= .slice p->EB E.P (c.K f) w u z.size ds->
   ∃cells,QE E w M e z u ds.length cells/\cells.length=ds.length*z.size/\bT (c.K f) w cells.toArray z.size ds/\(∀v∈cells,v.oneCell'=true):=by
  rintro f ds p hd ⟨a,F,cells,G,L,X,h4,W⟩;exact⟨cells,.slice y2 p a F y hd G L,X,h4,W⟩
 unfold QA at hk;split at hk
 .cases g with | c _ _ g=>cases g with | nil=>
  cases hd:y2.desc with
  | slice p=>exact⟨true,0,[],hk,λ_=>mk true [] p hd lu⟩
  | _=>grind [rR]
 .rename_i f sz es;cases g with | c _ _ g=>cases g with | d _ _ _ g=>
  cases hd:y2.desc with
  | slice p=>exact⟨f,sz,es,hk,λs=>mk f es p hd (zL g s)⟩
  | _=>grind [rR]
 .rename_i f sz es;cases g with | c _ _ g=>cases g with | clip _ a n _ _ g=>
  cases hd:y2.desc with
  | slice p=>exact⟨f,sz,es,hk,λs=>mk f es p hd (zL g s)⟩
  | _=>grind [rR]
 .rename_i l sz lo n
  replace hk:=mW hk;obtain⟨o,ho,hk⟩:=hk
  split at hk
  .rename_i f sz' es;obtain⟨rfl,x,hk⟩:=hk;cases hd:y2.desc with
   | slice p=>
    refine⟨f,sz,_,hk,λO=>mk f _ p hd ?_⟩;have B:=(H.obj l _ ho).2;cases g with | c _ _ g=>cases g with
    | os0 a _ _ V hm=>rw [List.take_zero];exact lu
    | osE a _ _ _ b V hm=>rw [List.take_zero];exact lu
    | os _ _ _ _ F b oo V hm hn R=>
     by_cases h0:n=0
     .grind [lu]
     .have hne:(es.drop lo).take n≠ []:=by
       intro he;have:=congrArg List.length he
       grind
      simp only [jM,hm]at B;obtain⟨cells,E',Z,j⟩:=B;have J:=O hne;subst J;exact Oi Z j s x
   | _=>grind [rR]
  .exact hk.elim
 .rename_i f k' n;obtain⟨h0,A,hk⟩:=hk;rw [iN g];cases hd:y2.desc with
  | int Y=>
   obtain⟨P,vR,a1,I,k,Q,t⟩:=(hE.ty e z U).info;have q:k.cells.size=z.size:=by
    have G:=(t QD w).length;have L:=(hE.ty e z U).len;simp at G;omega
   have hm:n<=1073741824:=A;have r:((List.replicate n.toNat C).length:Int)=n:=by simp;omega
   have j:bT (c.K true) w ((List.range (n.toNat*k.cells.size)).map (λi=>k.cells[i%k.cells.size]!)).toArray z.size (List.replicate n.toNat C):=by
    have G:=rowAt_zero (K:=c.K true) (w:=w) (N:=n.toNat*z.size) (m:=n.toNat) (Cm (t QD w) S) q (Nat.le_refl _);have L:(Array.range (n.toNat*z.size)).map (λi=>k.cells[i%k.cells.size]!)=((List.range (n.toNat*k.cells.size)).map (λi=>k.cells[i%k.cells.size]!)).toArray:=by grind
    simp_all
   refine⟨true,_,_,hk,λ_=>⟨(List.range (n.toNat*k.cells.size)).map (λi=>k.cells[i%k.cells.size]!),.zeros y2 Y k' k P y hd (by rw [r]) ah vR I Q (by rw [List.length_replicate]) q,by simp [q],j,?_⟩⟩;exact oI (K:=c.K true) (w:=w) (sz:=z.size) (ds:=List.replicate n.toNat C) (by simp [q]) j
  | _=>grind [rR]
 .exact hk.elim
def Lh(hE:aI E){n k:Nat}(H:bL c w h)(hn:c.n=nm n k){ty t2 e:TypeId}{y2 z:TY}{s x:Value}{a b:PV}(I:E.P.underlying ty=some (.slice e))(X:E.ty e=some z)
    (a9:E.ty t2=some y2) (F:bK c w s a) (W:bK c w x b)
    (b3:rR y2.desc b) 
    (hk:Az h n k z a b K):Turns E.P c w h n (do pure (Next.value (<-Builtin.append_ #[ty,t2] ty #[s,x]))) K:=by
  unfold Az at hk;obtain⟨zd,b5,y,L,hk⟩:=hk;have hq:=QF hE H a9 X y b5 W b3 hk
  clear hk
  obtain⟨f2,s2,ds,⟨a8,hk⟩,a6⟩:=hq;obtain⟨cells,hX,Q,g,h1⟩:=a6 a8;have g:bT (c.K (f2 || Fq ds)) w cells.toArray z.size ds:=by
    cases hsc:Fq ds with
    | false=>simpa using g
    | true=>
      intro i O;refine⟨(g i O).1,λj hj=> ?_⟩;obtain⟨v,hv,hd⟩:=(g i O).2 j hj;refine⟨v,hv,hd.oG _ ?_⟩;have hl:=(g i O).1;have c4:ds.getD i []∈ds:=by simp_all
      have h1:=List.all_eq_true.1 hsc _ c4
      grind [gd,default,List.getD,List.getElem?_eq_getElem,List.getElem_mem,List.all_eq_true]
  generalize (f2 || Fq ds)=f2 at hk g;unfold vV at hk;have c8:∀(base:Option Addr),ds.length=0->((do pure (Next.value (<-Builtin.append_ #[ty,t2] ty #[.slice base 0 0,x])):Sem Next)).run E.P w= .ok (.value (.slice base 0 0)) w:=by
    intro base h0;have:=ze hE (w:=w) I X y L hX (base:=base) (sLen:=0) (sCap:=0) ah;have c6:cells=[]:=by simp_all
    subst c6;rw [h0]at this;cases base<;>simp [this,storeCells]
  have abw:∀(base:Option Addr) (r:Nat) (N:World),(Builtin.firstCells z.size 0 (.slice base 0 r)).run E.P N= .ok ([]:List Value).toArray N:=by
    intro base r N;cases base<;>simp [Builtin.firstCells,loadCells,loadCellsFrom]
  split at hk
  · obtain⟨R,hk⟩:=hk;cases F with | c _ _ F=>cases F with | nil=>
    by_cases h0:ds.length=0
    · grind [List.eq_nil_of_length_eq_zero,zN]
    · have:=sW hE H hn I X y L hX (old:=[]) (base:=none) (sLen:=0) (sCap:=0) ah ah (by simp) Q (λN _=>abw none 0 N) (f1:=true) (f2:=f2) (es:=[]) (ds:=ds) rfl
        (λi O=>by simp at O) g (K:=K) (by simpa using hk)
      exact this
  · rename_i l sz lo m
    replace hk:=mW hk;obtain⟨o,Z,hk⟩:=hk
    split at hk
    · rename_i f1 d3 es;obtain⟨hm,rfl,rfl,R,hk⟩:=hk;have YQ:=Grow.forget (c:=c) (w:=w) (h:=h) (l:=l);have Hf:=H.forget Z;have c7:∀base:Option Addr,m=0->s= .slice base 0 0->Turns E.P c w h n (do pure (Next.value (<-Builtin.append_ #[ty,t2] ty #[s,x]))) K:=by
        intro base b7 c1;subst b7;subst c1;rw [List.take_zero]at hk;by_cases h0:ds.length=0
        · grind [List.eq_nil_of_length_eq_zero,Turns.after,zN]
        · exact Turns.after YQ (sW hE Hf hn I X y L hX (old:=[]) (base:=base) (sLen:=0) (sCap:=0) ah ah (by simp) Q (λN _=>abw base 0 N) (f1:=f1) (f2:=f2) (es:=[]) (ds:=ds) rfl
            (λi O=>by simp at O) g (K:=K) (by simpa using hk))
      cases F with | c _ _ F=>cases F with
      | os0 aa _ _ hl t=>simp_all
      | osE aa _ _ _ u hl t=>simp_all
      | os _ _ _ _ r u T hl t c9 U=>
        have a4:=(H.obj l _ Z).2;simp only [jM,t]at a4;obtain⟨d,V,C,G⟩:=a4;have J:=o8 (lo:=lo) (n:=m) G hm;have b1:=sV G y;have b6:(lo+m)*z.size<=es.length*z.size:=Nat.mul_le_mul_right _ hm;rw [Nat.add_mul]at b6;have a5:((es.drop lo).take m).length=m:=by simp;omega
        have d0:(from_ d T).size=d.size-T:=mY;have c5:(from_ d T).toList.drop (lo*z.size)=(from_ d (T+lo*z.size)).toList:=by simp [from_,List.drop_drop]
        by_cases S:m+ds.length<=r
        ·
          obtain⟨c2,E2,d4,a3,ak9⟩:=U;rw [C]at a3;cases a3;have ala:(m+ds.length)*z.size<=r*z.size:=Nat.mul_le_mul_right _ ah;rw [Nat.add_mul]at ala;rw [Nat.add_mul]at ak9;generalize hB:T+lo*z.size=B at*;have b0:B+m*z.size+cells.length<=d.size:=by rw [Q];omega
          have a2:=run_storeCells_at E.P u (B+m*z.size) V cells 0 d w C (by simpa using b0) h1;have D:=ze hE (w:=w) I X y L hX (base:=some ⟨u,B,none⟩) (sLen:=m) (sCap:=r) S;simp only [addr_add,Nat.add_zero]at D a2;rw [a2]at D;simp only [Result.andThen_ok]at D;have M:(d.toList.take (B+m*z.size)++cells++d.toList.drop (B+m*z.size+cells.length)).toArray.size=d.size:=by grind
          have Oj:=oH C M;have p:∀x,x≠u->(w.setRow u (d.toList.take (B+m*z.size)++cells++d.toList.drop (B+m*z.size+cells.length)).toArray).heap[x]? =w.heap[x]? :=λx W=>setRow_other _ _ _ _ W
          have atW:∀f x,c.K f x->(w.setRow u (d.toList.take (B+m*z.size)++cells++d.toList.drop (B+m*z.size+cells.length)).toArray).heap[x]? =w.heap[x]? :=
            λf x W=>p x (λV=>H.own f u ⟨l,_,Z,trivial,kY t⟩ (V▸W))
          have aip:bT (c.K (f1&&f2)) (w.setRow u (d.toList.take (B+m*z.size)++cells++d.toList.drop (B+m*z.size+cells.length)).toArray)
              (from_ (d.toList.take (B+m*z.size)++cells++d.toList.drop (B+m*z.size+cells.length)).toArray B) z.size ((es.drop lo).take m++ds):=by
            rw [vX ah];have hp:bT (c.K f1) w ((from_ d B).toList.take (m*z.size)).toArray z.size ((es.drop lo).take m):=by rw [<-c5];exact J
            have d5:(from_ d B).size=d.size-B:=mY;refine(bT.append (sz:=z.size) (hp.mono (λb C=> ?_) (λ_ _=>rfl)) (by rw [a5,List.length_take,Array.length_toList];omega) (g.mono (λb C=> ?_) (λ_ _=>rfl))).mono (λ_ h=>h) (atW (f1&&f2))
            · cases f1<;>cases f2<;>first | exact C | exact H.sub b C
            · cases f1<;>cases f2<;>first | exact C | exact H.sub b C
          have A:=setRow_heap w u d (d.toList.take (B+m*z.size)++cells++d.toList.drop (B+m*z.size+cells.length)).toArray V (0,0) C;have g1:Grow c w h c _ ((l,.rows true z.size [])::h):=Grow.write Z trivial (kY t) p (size_setRow _ _ _) Oj rfl rfl rfl;have H1:bL c _ ((l,.rows true z.size [])::h):=H.write Z trivial (kY t) p (size_setRow _ _ _) Oj (by
            simp only [jM,t];exact⟨_,V,A,λi O=>by cases O⟩)
          have a0:look ((l,.rows true z.size [])::h) l=some (.rows true z.size []):=aK _ _ _;have aqK:(c.nameAt (some (u,B))).ν c.n=some (u,B):=by simp [Ctx.nameAt,upd]
          have Y:=H1.rename a0 trivial (kY t) (q:=B) (o':= .rows (f1&&f2) z.size ((es.drop lo).take m++ds)) (by simp only [jM,aqK];exact⟨_,V,A,aip⟩);have g2:=Grow.rename (w:=w.setRow u (d.toList.take (B+m*z.size)++cells++d.toList.drop (B+m*z.size+cells.length)).toArray) (q:=B) (o':= .rows (f1&&f2) z.size ((es.drop lo).take m++ds)) a0 trivial (kY t)
          have b8:∀x,look ((c.n,fK.rows (f1&&f2) z.size ((es.drop lo).take m++ds))::(l,.gone)::(l,.rows true z.size [])::h) x=
              look ((c.n,fK.rows (f1&&f2) z.size ((es.drop lo).take m++ds))::(l,.gone)::h) x:=by grind [look]
          refine⟨.value (.slice (some ⟨u,B,none⟩) (m+ds.length) r),_,c.nameAt (some (u,B)),_,(c.n,.rows (f1&&f2) z.size ((es.drop lo).take m++ds))::(l,.gone)::h,k+1,.c (.os (nm n k) z.size 0 (m+ds.length)),by(simp only [Sem.run_bind,D,Result.andThen_ok,Sem.run_pure];rfl),.inl rfl,?_,?_,?_,?_,?_⟩
          · have g3:=g1.trans g2;exact {g3 with qV:=λb C=>g3.qV b (by obtain⟨x,o,p1,p2,p3⟩:=C;exact⟨x,o,by simp_all,p2,p3⟩)}
          · exact { obj := λx o W => Y.obj x o (by simp_all)
                    inj:=λx o x' o' b p1 p2 p3 p4 p5 p6=>Y.inj x o x' o' b (by simp_all) p2 (by simp_all) p4 p5 p6
                    own:=λf b C=>Y.own f b (by obtain⟨x,o,p1,p2,p3⟩:=C;exact⟨x,o,by simp_all,p2,p3⟩)
                    low:=Y.low
                    sub:=Y.sub}
          · show c.n+1=_;rw [hn];rfl
          · have:=bQ.os (c:=c.nameAt (some (u,B))) (w:=w.setRow u (d.toList.take (B+m*z.size)++cells++d.toList.drop (B+m*z.size+cells.length)).toArray) c.n z.size 0 (m+ds.length) r u B (Nat.lt_succ_self _) aqK S ⟨_,V,(0,0),A,by rw [M,Nat.zero_add];omega⟩;rw [<-hn];exact .c _ _ (by simpa using this)
          · rw [hn];exact hk
        · refine Turns.after YQ (sW hE Hf hn I X y L hX (old:=((from_ d T).toList.drop (lo*z.size)).take (m*z.size)) (base:=some ⟨u,T+lo*z.size,none⟩) (sLen:=m) (sCap:=r) ah ah (by rw [List.length_take,List.length_drop,Array.length_toList];omega) Q ?_
            (f1:=f1) (f2:=f2) (es:=(es.drop lo).take m) (ds:=ds) a5 J g (K:=K) hk)
          exact λN b4=>Kl C G y ah N b4
    · exact hk.elim
  · rename_i f1 sz es;obtain⟨b9,b2,R,hk⟩:=hk;cases F with | c _ _ F=>cases F with | clip _ aa nn _ _ F=>
    by_cases h0:ds.length=0
    · have a7:ds=[]:=List.eq_nil_of_length_eq_zero h0;have c0:=b2 a7;subst a7;subst c0;have d1:nn=0:=by cases F with | none=>rfl | rows _ _ _ _ _ _ _ _ c3=>simpa using c3
      grind [zN]
    · obtain⟨a1,avz,d2,q1,q2,q3,q4,q5⟩:=zL (P:=E.P) F b9
      grind [sW]
  · exact hk.elim
end Go.AE
namespace Go.AE
open Go
variable{w:World}{K:PV->Heap->Nat->Prop}
def Ol(c:Ctx)(w:World):bK c w undef (.tup []):= .tup [] [] rfl (λi a=>by simp at a)
def Om{E:Tab}(hE:aI E){c:Ctx}{h:Heap}{n k:Nat}(H:bL c w h)(hn:c.n=nm n k){ty e tr:TypeId}{z:TY}{u:Value}{v:PV}{W:List D}(Q:E.P.underlying ty=some (.slice e))(hz:E.ty e=some z)
    (a3:ZD z.zero W) (L:bK c w u v)  (hk:vW h W z v λh'=>K (.tup []) h' k):Turns E.P c w h n (do pure (Next.value (<-Builtin.clear_ #[ty] tr #[u]))) K:=by
  obtain⟨b0,vR,b4,a9,t,b2,T⟩:=(hE.ty e z hz).info;have S:t.cells.size=z.size:=by
    have h1:=(T QD w).length;have h2:=(hE.ty e z hz).len;simp at h1;omega
  unfold vW at hk;split at hk
  · cases L with | c _ _ L=>cases L with | nil=>
    exact⟨_,_,c,w,h,k,.tup [],by simp [Builtin.clear_,run_underlying Q];rfl,.inl rfl,.refl _ _ _,H,hn,Ol c w,hk⟩
  · rename_i l sz lo m
    replace hk:=mW hk;obtain⟨o,P,hk⟩:=hk
    split at hk
    · rename_i f b1 q;obtain⟨rfl,rfl,Y,O,hk⟩:=hk;have F:∀a,m=0->u= .slice a 0 0\/(∃y,u= .slice a 0 y)->Turns E.P c w h n (do pure (Next.value (<-Builtin.clear_ #[ty] tr #[u]))) K:=by
        intro a hm X;subst hm;have he:q.take lo++List.replicate 0 W++q.drop (lo+0)=q:=by simp
        rw [he]at hk;have G:=H.obj l _ P;have p:((do pure (Next.value (<-Builtin.clear_ #[ty] tr #[u])):Sem Next)).run E.P w= .ok (.value (.tuple #[])) w:=by
          rcases X with rfl | ⟨y,rfl⟩<;>(cases a<;>simp [Builtin.clear_,run_underlying Q])
        have a8:∀x,look ((l,fK.rows f z.size q)::h) x=look h x:=by grind [aK,aC]
        refine⟨_,_,c,w,_,k,.tup [],p,.inl rfl,?_,?_,hn,Ol c w,hk⟩
        · exact {(Grow.refl c w h)with qV:=λb I=>by obtain⟨x,o,M,R,B⟩:=I;exact .inl ⟨x,o,by simp_all,R,B⟩}
        · exact { obj := λx o hx => H.obj x o (by simp_all)
                  inj:=λx o x' o' b M R B p4 p5 p6=>H.inj x o x' o' b (by simp_all) R (by simp_all) p4 p5 p6
                  own:=λf b I=>H.own f b (by obtain⟨x,o,M,R,B⟩:=I;exact⟨x,o,by simp_all,R,B⟩)
                  low:=H.low
                  sub:=H.sub}
      cases L with | c _ _ L=>cases L with
      | os0 aa _ _ hl j=>simp_all
      | osE aa _ _ _ A hl j=>simp_all
      | os _ _ _ _ y A i hl j a7 a6=>
        by_cases a4:m=0
        · subst a4;exact F _ rfl (.inr ⟨y,rfl⟩)
        · · have G := (H.obj l _ P).2;simp only [jM,j]at G;obtain⟨d,V,I,r⟩:=G;have C:=sV r Y;rw [mY]at C;have a5:(lo+m)*z.size<=q.length*z.size:=Nat.mul_le_mul_right _ O;rw [Nat.add_mul]at a5;have s:(Builtin.zeroCells t.cells m).toList.length=m*z.size:=by simp [Builtin.zeroCells,S]
            have b3:0<m*z.size:=Nat.mul_pos ah ah;have ajR:bT (c.K f) w (Builtin.zeroCells t.cells m).toList.toArray z.size (List.replicate m W):=by
              have h1:=rowAt_zero (K:=c.K f) (w:=w) (N:=m*z.size) (m:=m) (Cm (T QD w) a3) S (Nat.le_refl _)
              grind [Array.range,Builtin.zeroCells,Array.ext']
            have Z:=run_storeCells_at E.P A (i+lo*z.size) V (Builtin.zeroCells t.cells m).toList 0 d w I (by rw [s];omega) (oI (by simp [s]) ajR);simp only [Nat.add_zero]at Z
            have p:((do pure (Next.value (<-Builtin.clear_ #[ty] tr #[.slice (some ⟨A,i+lo*z.size,none⟩) m y])):Sem Next)).run E.P w=
                .ok (.value (.tuple #[])) (w.setRow A (d.toList.take (i+lo*z.size)++(Builtin.zeroCells t.cells m).toList++d.toList.drop (i+lo*z.size+(Builtin.zeroCells t.cells m).toList.length)).toArray):=by simp_all [absurd,Builtin.clear_,run_underlying,zeroValue,typeInfo]
            rw [s]at p;have J:(d.toList.take (i+lo*z.size)++(Builtin.zeroCells t.cells m).toList++d.toList.drop (i+lo*z.size+m*z.size)).toArray.size=d.size:=by grind
            have Oj:=oH I J;have g:∀x,x≠A->(w.setRow A (d.toList.take (i+lo*z.size)++(Builtin.zeroCells t.cells m).toList++d.toList.drop (i+lo*z.size+m*z.size)).toArray).heap[x]? =w.heap[x]? :=λx hx=>setRow_other _ _ _ _ hx
            refine⟨_,_,c,_,_,k,.tup [],p,.inl rfl,Grow.write P trivial (kY j) g (size_setRow _ _ _) Oj rfl rfl rfl,H.write P trivial (kY j) g (size_setRow _ _ _) Oj ?_,hn,Ol _ _,hk⟩;simp only [jM,j];refine⟨_,V,setRow_heap w A _ _ V _ I,?_⟩;have M:=o8 (lo:=0) (n:=lo) r ah;have B:=o8 (lo:=lo+m) (n:=q.length- (lo+m)) r ah;rw [List.drop_zero]at M;have e3:(q.drop (lo+m)).take (q.length- (lo+m))=q.drop (lo+m):=List.take_of_length_le (by simp);rw [e3]at B;simp only [Nat.zero_mul,List.drop_zero]at M;have U:(q.take lo).length=lo:=by simp;omega
            have a1:=bT.append (rest:=[]) M (by rw [U,List.length_take,Array.length_toList,mY];omega) ajR;rw [List.append_nil]at a1;have a2:=bT.append (rest:=((from_ d i).toList.drop ((lo+m)*z.size)).drop ((q.length- (lo+m))*z.size)) a1 (by
              rw [List.length_append,List.length_append,U,List.length_replicate,s,List.length_take,Array.length_toList,mY,Nat.add_mul];omega) B
            have atX:(from_ d i).toList.take (lo*z.size)++(Builtin.zeroCells t.cells m).toList++((from_ d i).toList.drop ((lo+m)*z.size)).take ((q.length- (lo+m))*z.size)++((from_ d i).toList.drop ((lo+m)*z.size)).drop ((q.length- (lo+m))*z.size)=
                (from_ d i).toList.take (lo*z.size)++(Builtin.zeroCells t.cells m).toList++(from_ d i).toList.drop (lo*z.size+m*z.size):=by
              rw [List.append_assoc _ _ (List.drop _ _),List.take_append_drop,Nat.add_mul]
            have fs:=vX (cells:=d) (o:=i) (k:=lo*z.size) (vs:=(Builtin.zeroCells t.cells m).toList) ah;rw [s]at fs;rw [atX,<-fs]at a2;exact a2.mono (λ_ h=>h) (λb a0=>g b (λV=>H.own f A ⟨l,_,P,trivial,kY j⟩ (V▸a0)))
    · exact hk.elim
  · exact hk.elim
def vY{E:Tab}(hE:aI E){c:Ctx}{t:Slots}{h:Heap}{n k:Nat}{a:Act}(A:rO E c w t h a)(hn:c.n=nm n k)(o:Oper)(hk:iB E o.op t h n k K):
  Turns E.P c w h n (execOp a.eval o) K:=by
 cases ho:o.op<;>rw [ho]at hk
 case alloc ty=>
  have:=Od hE A.heap hn hk
  grind [execOp]
 case box ty x=>
  simp only [iB]at hk
  replace hk:=dR A hk;obtain⟨v,u,I,hk⟩:=hk
  have:=Oe (P:=E.P) (t:=ty) A.heap hn u I hk
  grind [execOp]
 case buildSlice ty len q=>grind [Ck,execOp]
 case makeSlice ty l M=>grind [Eb,execOp]
 case store ty p x=>
  simp only [iB]at hk
  replace hk:=aJ hk;obtain⟨y,g,hk⟩:=hk
  replace hk:=dR A hk;obtain⟨pv,G,hk⟩:=hk
  replace hk:=dR A hk;obtain⟨v,u,hk⟩:=hk
  have:=Ob hE A.heap hn g G u hk
  grind [execOp]
 case call H=>
  obtain⟨i,⟨C⟩,⟨f⟩⟩:=H;simp only [iB]at hk;split at hk
  .rename_i x y ty ty2
   replace hk:=aJ hk;obtain⟨j,g,hk⟩:=hk
   split at hk
   .rename_i e he
    replace hk:=aJ hk;obtain⟨z,s,hk⟩:=hk
    replace hk:=dR A hk;obtain⟨F,r,hk⟩:=hk
    replace hk:=dR A hk;obtain⟨J,D,b,hk⟩:=hk
    have d:=(hE.ty ty j g).desc;rw [he]at d;split at b
    .rename_i t2
     replace b:=aJ b;obtain⟨y2,m,b⟩:=b
     have:=Lh hE A.heap hn d s m r D b hk
     grind [execOp,pure,Builtin.append_,resolve,invoke,builtin]
    .exact b.elim
   .exact hk.elim
  .rename_i x ty
   replace hk:=aJ hk;obtain⟨j,g,hk⟩:=hk
   split at hk
   .rename_i e he
    replace hk:=aJ hk;obtain⟨z,s,hk⟩:=hk
    obtain⟨L,B,hk⟩:=hk
    replace hk:=dR A hk;obtain⟨F,r,hk⟩:=hk
    have d:=(hE.ty ty j g).desc;rw [he]at d;have:=Om hE (tr:=ty) A.heap hn d s B r hk
    grind [execOp,pure,Builtin.clear_,resolve,invoke,builtin]
   .exact hk.elim
  .exact hk.elim
 all_goals exact hk.elim
end Go.AE
namespace Go.AE
open Go
variable{v:Option PV}{a:Act}{t:Slots}{E:Tab}{c:Ctx}{w:World}
structure St where
 t:Slots
 h:Heap
 n:Nat
 k:Nat
 m:Nat
abbrev Trans:=List PV->Heap->Nat->(PV->Heap->Nat->Prop)->Prop
abbrev o9:=FuncId->Option Trans
def dOK(m:Nat):Option Nat->Prop | none=>True | some d=>d<m
def St.put(s:St)(d:Option Nat)(v:Option PV):St:=match d with | none=>s | some d=> {s with t:=(d,v)::s.t}
def Kn(E:Tab)(t:Slots):List Operand->(List PV->Prop)->Prop
 | [],K=>K []
 | x::r,K=>aT (ev E t x) λv=>Kn E t r λa=>K (v::a)
def abx(o:Option Trans)(K:Trans->Prop):Prop:=match o with | some v=>K v | none=>False
def fnA(v:PV)(K:FuncId->List Cell->Prop):Prop:=match v with | .c (.fn g cs)=>K g cs | _=>False
def ajS(E:Tab)(G:o9)(f:Operand)(a:List Operand)(s:St)(K:PV->Heap->Nat->Prop):Prop:=
 aT (ev E s.t f) λd=>fnA d λg cs=>Kn E s.t a λb=>abx (G g) λR=>R (b++cs.map .c) s.h (nm s.n s.k) λr c j=>K r c (s.k+j)
def jq:Op->Nat
 | .alloc _ | .box .. | .buildSlice .. | .makeSlice .. | .store .. =>1
 | .call {callee:= .builtin b,.. }=>match b with | .append | .clear=>1 | _=>0
 | .call {callee:= .value _,.. }=>2
 | _=>0
def vZ(E:Tab)(G:o9)(a:Op)(s:St)(K:PV->Heap->Nat->Prop):Prop:=
 match a with
 | .call c=>match c.callee with | .value f=>ajS E G f c.args.toList s K | _=>False
 | _=>False
def aby(E:Tab)(G:o9)(o:Oper)(s:St)(K:St->Prop):Prop:=
 dOK s.m o.dst/\match jq o.op with
 | 0=>gX E o.op s.t s.h λv=>K (s.put o.dst (some v))
 | 1=>iB E o.op s.t s.h s.n s.k λv h k=>K (St.put {s with h:=h,k:=k} o.dst (some v))
 | _=>vZ E G o.op s λv h k=>K (St.put {s with h:=h,k:=k} o.dst (some v))
def gslot(ops:List Oper)(j:Nat):Option Nat:=(ops[j]?).bind (·.dst)
def DL(d:Option Nat)(K:Nat->Prop):Prop:=match d with | some d=>K d | none=>False
def mZ(v:Option PV)(want:Bool)(T F:Prop):Prop:=match v with | some (.c (.d _ (.bool b)))=>NS (b==want) T F | some (.tup [])=>F | _=>False
def qz:PV:= .tup []
def pq{a:Bool}{T F:Prop}(h:mZ v a T F):(∃f b,v=some (.c (.d f (.bool b)))/\(b=a->T)/\(b≠a->F))\/(v=some qz/\F):=by
 unfold mZ at h;split at h
 .rename_i f b;exact .inl ⟨f,b,rfl,λe=>h.1 (by simp [e]),λe=>h.2 (by simpa using e)⟩
 .exact .inr ⟨rfl,h⟩
 .exact h.elim
theorem fU{f b a:Bool}{T F:Prop}(d:b=a->T)(c:b≠a->F):mZ (some (.c (.d f (.bool b)))) a T F:=
 ⟨λe=>d (by simpa using e),λe=>c (by simpa using e)⟩
def Cq(E:Tab)(G:o9)(a:List Oper)(o:Oper)(s:St)(K:St->Prop):Prop:=
 match o.guard with
 | none=>aby E G o s K
 | some (j,want)=>dOK s.m o.dst/\DL (gslot a j) λd=>mZ (aY s.t d) want (aby E G o s K) (K (s.put o.dst (some qz)))
def zO(E:Tab)(G:o9)(a:List Oper):List Oper->(St->Prop)->St->Prop
 | [],K,s=>K s
 | o::r,K,s=>Cq E G a o s λb=>zO E G a r K b
structure nO(E:Tab)(s:St)(c:Ctx)(w:World)(a:Act):Prop where
 abs:rO E c w s.t s.h a
 n:c.n=nm s.n s.k
 defers:a.defers=[]
 size:a.tmps.size=s.m
def Post(Q:Value->World->Prop):Ending->World->Prop
 | .returned v,w=>Q v w
 | .outgrown,_=>False
 | .panicked _,_=>False
def Enters(P:Program)(f:FuncId):Prop:=∀a w,(callFunc f a).run P w= .ok (.enter f a) w
structure dP(E:Tab)(f:FuncId)(R:Trans):Prop where
 enters:Enters E.P f
 calls:∀args h n K,R args h n K->∀c w vs,c.n=n->F2 (bK c w) vs args->bL c w h->qW E c w->
  Calls E.P f vs.toArray w (Post λv w'=>∃c' r h' j,Grow c w h c' w' h'/\bL c' w' h'/\c'.n=nm n j/\bK c' w' v r/\K r h' j)
def qY(E:Tab)(G:o9):Prop:=∀f R,G f=some R->dP E f R
def zf(E:Tab)(b:Ctx)(d:World)(h0:Heap)(Q:Exit->St->Prop):Exit->Act->World->Prop
 | .outgrown,_,_=>False
 | .panic _,_,_=>False
 | .goto _,_,_=>False
 | .normal,a,w=>∃c s,Grow b d h0 c w s.h/\nO E s c w a/\Q .normal s
 | .ret,a,w=>∃c s,Grow b d h0 c w s.h/\nO E s c w a/\Q .ret s
 | .exit i,a,w=>∃c s,Grow b d h0 c w s.h/\nO E s c w a/\Q (.exit i) s
theorem ji{d i:Nat}:aY ((d,v)::t) i=if d=i then v else aY t i:=rfl
theorem nO.put{s:St}(A:nO E s c w a){d:Option Nat}(hd:dOK s.m d){u:Value}{v:PV}(k:bK c w u v):nO E (s.put d (some v)) c w (a.put d u):=by
 cases d with
 | none=>exact A
 | some d=>
  refine⟨⟨λi x b=> ?_,A.abs.heap,A.abs.glob⟩,A.n,A.defers,by simp [Act.put,St.put,A.size]⟩;simp only [St.put,ji]at b;have f:d<a.tmps.size:=by rw [A.size];exact hd
  by_cases e:d=i
  .grind [Act.put]
  .rw [if_neg e]at b;obtain⟨g,j,h⟩:=A.abs.slot i x b
   grind [Act.put,Array.getElem?_setIfInBounds_ne]
def nO.grow{s:St}{c c':Ctx}{w w':World}{b:Heap}{d:Nat}(A:nO E s c w a)(g:Grow c w s.h c' w' b)(H:bL c' w' b)(hn:c'.n=nm s.n d):nO E {s with h:=b,k:=d} c' w' a:=
 ⟨⟨λi x f=>let⟨u,j,e⟩:=A.abs.slot i x f;⟨u,j,e.grow A.abs.heap g⟩,H,A.abs.glob.grow A.abs.heap g⟩,hn,A.defers,A.size⟩
def wo{h:Heap}(A:rO E c w t h a):
  ∀(d:List Operand) (K:List PV->Prop),Kn E t d K->∃b,F2 (bK c w) (d.map a.eval) b/\K b
 | [],K,hk=>⟨[],.nil,hk⟩
 | x::r,K,hk=>by
  unfold Kn at hk;obtain⟨v,e,hk⟩:=dR A hk;obtain⟨b,f,hk⟩:=wo A r _ hk;exact⟨v::b,.cons e f,hk⟩
theorem Fw(hE:aI E){G:o9}(hG:qY E G){U:Ctx}{V:World}{T:Heap}{Q:Exit->St->Prop}{s:St}(A:nO E s c w a)(S:Grow U V T c w s.h)(o:Oper)
  {K:St->Prop} {next:Act->World->Prop} (b:∀M z D Y,nO E M z D Y->Grow U V T z D M.h->K M->next Y D) (hk:aby E G o s K):
  o.wp E.P a w next (zf E U V T Q):=by
 obtain⟨hd,hk⟩:=hk;split at hk
 .obtain⟨u,pv,l,g,hk⟩:=vS hE A.abs o hk;unfold Oper.wp;rw [l,Oper.upon_value];exact b _ _ _ _ (A.put hd g) (by cases o.dst<;>exact S) hk
 .obtain⟨nx,u,z,D,L,k',pv,l,hnx,F,J,p,g,hk⟩:=vY hE A.abs A.n o hk;have H:=(A.grow F J p).put (d:=o.dst) (s:={s with h:=L,k:=k'}) hd g;have W:=S.trans F;unfold Oper.wp;rw [l];rcases hnx with rfl | ⟨rfl,rfl⟩
  .rw [Oper.upon_value];exact b _ _ _ _ H (by cases o.dst<;>exact W) hk
  .rw [Oper.upon_skip];exact b _ _ _ _ H (by cases o.dst<;>exact W) hk
 .unfold vZ at hk;split at hk
  .rename_i cl ho;split at hk
   .rename_i f hf;obtain⟨I,⟨m⟩,q⟩:=cl;simp only at hf;subst hf;obtain⟨fv,n,hk⟩:=dR A.abs hk;unfold fnA at hk;generalize a0:a.eval f=fu at n;split at hk
    .rename_i gid cs;obtain⟨ps,P,hk⟩:=wo A.abs _ _ hk;cases hR:G gid with
     | none=>rw [hR]at hk;exact hk.elim
     | some R=>
     rw [hR]at hk;simp only [abx]at hk;cases n with | c _ _ n=>cases n with | fn _ Li _ hl hc=>
     have t:F2 (bK c w) Li (cs.map .c):=F2.EZ (by simp [hl]) (λi x y hx X=>by
      simp only [List.getElem?_map,Option.map_eq_some_iff]at X;obtain⟨y',B,rfl⟩:=X;have Z:i<cs.length:=(List.getElem?_eq_some_iff.1 B).1;have:=hc i Z;rw [qG hx,qG B]at this;exact .c _ _ this)
     have C:=hG gid R hR;have QG:=C.calls _ _ _ _ hk c w (m.map a.eval++Li) A.n (P.append t) A.abs.heap A.abs.glob;have l:(execOp a.eval o).run E.P w= .ok (.enter gid (m.map a.eval++Li).toArray) w:=by
      have h1:=C.enters (m.map a.eval++Li).toArray w
      grind [execOp,resolve,Deferred.ofValue,invoke]
     unfold Oper.wp;rw [l,Oper.upon_enter];refine QG.mono ?_;intro e D O;cases e with
     | returned v=>
      obtain⟨z,r,L,j,F,J,p,g,hk⟩:=O;have N:z.n=nm s.n (s.k+j):=by rw [p,abu]
      have H:=(A.grow F J N).put (d:=o.dst) (s:={s with h:=L,k:=s.k+j}) hd g;exact b _ _ _ _ H (by cases o.dst<;>exact S.trans F) hk
     | panicked ch=>exact O.elim
     | outgrown=>exact O.elim
    .exact hk.elim
   .exact hk.elim
  .exact hk.elim
theorem zP{ops:Array Oper}{tmps:Array Value}{j d:Nat}{b a:Bool}(e:gslot ops.toList j=some d)(c:tmps[d]? =some (.bool b)):(yielded ops tmps j==some a)=(b==a):=by grind [bind,gslot,yielded]
def AB(hE:aI E){G:o9}(F:qY E G){x:Ctx}{y:World}{h0:Heap}{Q:Exit->St->Prop}(g:Array Oper):
  ∀(l:List Oper) {s:St} {c:Ctx} {w:World} {a:Act} (_:nO E s c w a) (_:Grow x y h0 c w s.h),zO E G g.toList l (Q .normal) s->wpList E.P g (zf E x y h0 Q) l a w
 | [],s,c,w,a,A,g0,hk=>wpList_nil ⟨c,s,g0,A,hk⟩
 | o::r,s,c,w,a,A,g0,hk=>by
  refine wpList_step λnext h=> ?_
  have hn:∀k t m q,nO E k t m q->Grow x y h0 t m k.h->zO E G g.toList r (Q .normal) k->next q m:=λk t m q H C v=>h _ _ (AB hE F g r H C v)
  unfold zO Cq at hk;split at hk
  .grind [Region.wanted,Fw]
  .rename_i j want hgd;obtain⟨i,hk⟩:=hk;unfold DL at hk;split at hk
   .rename_i d hd;rcases pq hk with⟨f,b,z,I,p⟩ | ⟨z,p⟩
    .obtain⟨u,hu,hr⟩:=A.abs.slot d _ z;have:=lT hr;subst this;have n:Region.wanted o (yielded g a.tmps)=(b==want):=by grind [Region.wanted,zP]
     rw [n];by_cases B:b=want
     .grind [Fw]
     .rw [if_neg (by simp [B])];exact hn _ _ _ _ (A.put i (Ol _ _)) (by cases o.dst<;>exact g0) (p B)
    .obtain⟨u,hu,hr⟩:=A.abs.slot d _ z;have J:(g[j]?).bind (·.dst)=some d:=by simpa [gslot]using hd
     have D:∀b,u≠ .bool b:=by
      intro b e;subst e;cases hr
     have n:Region.wanted o (yielded g a.tmps)=false:=by grind [Region.wanted,yielded]
     rw [if_neg (by rw [n];simp)];exact hn _ _ _ _ (A.put i (Ol _ _)) (by cases o.dst<;>exact g0) p
   .exact hk.elim
end Go.AE
namespace Go.AE
open Go
abbrev ajT:=Nat->Array Oper->(St->Prop)->St->Prop
def alb(E:Tab)(g:ajT):Prop:=∀(id:Nat) (b:Array Oper) (Q:Exit->St->Prop) (s:St) (e:Ctx) (f:World) (d:Heap) (c:Ctx) (w:World) (a:Act),nO E s c w a->Grow e f d c w s.h->g id b (Q .normal) s->
 (Code.region id b true).wp E.P (zf E e f d Q) a w
def Oo(E:Tab)(s:St):List ResultVar->(List PV->Prop)->Prop
 | [],K=>K []
 | .tmp t::r,K=>aT (aY s.t t) λv=>Oo E s r λa=>K (v::a)
 | .cell t ty::r,K=>aT (aY s.t t) λp=>mP E s.h ty p λv=>Oo E s r λa=>K (v::a)
def one(a:List PV):PV:=match a with | [v]=>v | a=> .tup a
def aax(tmps:Array Value):ResultVar->Sem Value
 | .tmp t=>pure (tmps.getD t undef)
 | .cell a t=>do loadVar t (<-asAddr (tmps.getD a undef))
def Oq{P:Program}{a:Func}{tmps:Array Value}{w:World}{us:List Value}(h:(a.results.toList.mapM (aax tmps)).run P w= .ok us w):
  (results a tmps).run P w= .ok (if h:us.toArray.size=1 then us.toArray[0]else .tuple us.toArray) w:=by
 have e:results a tmps=(do let vs<-a.results.mapM (aax tmps);pure (if h:vs.size=1 then vs[0]else .tuple vs)):=by
  unfold results;congr 1
 grind [Array.mapM_eq_mapM_toList,Sem.run_bind,Sem.run_map,Result.andThen_ok,Sem.run_pure]
def Cr{E:Tab}(hE:aI E){s:St}{c:Ctx}{w:World}{a:Act}(A:nO E s c w a):∀(k:List ResultVar) (K:List PV->Prop),Oo E s k K->
  ∃b d,(k.mapM (aax a.tmps)).run E.P w= .ok b w/\F2 (bK c w) b d/\K d
 | [],K,hk=>⟨[],[],by simp,.nil,hk⟩
 | .tmp t::r,K,hk=>by
  unfold Oo at hk;obtain⟨v,o,hk⟩:=kM hk;obtain⟨u,l,h⟩:=A.abs.slot t v o;obtain⟨b,d,q,i,g⟩:=Cr hE A r _ hk;refine⟨u::b,v::d,?_,.cons h i,g⟩;simp_all [aax,Array.getD_eq_getD_getElem?,List.mapM_cons,Sem.run_bind,Result.andThen_ok,Sem.run_pure]
 | .cell t ty::r,K,hk=>by
  unfold Oo at hk;obtain⟨p,m,hk⟩:=kM hk;obtain⟨u,l,h⟩:=A.abs.slot t p m;obtain⟨x,pv,f,e,hk⟩:=Fb hE A.abs.heap h hk;obtain⟨b,d,q,i,g⟩:=Cr hE A r _ hk;refine⟨x::b,pv::d,?_,.cons e i,g⟩;have n:a.tmps.getD t undef=u:=by simp_all
  have y:(aax a.tmps (.cell t ty)).run E.P w= .ok x w:=by
   unfold Instr.loadAt at f;simp only [aax,n];cases u with
   | pointer j=>
    cases j with
    | none=>simp [Instr.sureAddr]at f
    | some j=>simpa [Instr.sureAddr,asAddr]using f
   | _=>simp [Instr.sureAddr]at f
  simp_all
def zc:Value->Option Cell
 | .int k n=>some (.d true (.int k n))
 | .bool b=>some (.d true (.bool b))
 | .string s=>some (.d true (.str s))
 | .slice none 0 0=>some .nil
 | .pointer none=>some .np
 | _=>none
def alc{c:Ctx}{w:World}{v:Value}{x:Cell}(h:zc v=some x):bQ c w v x:=by
 unfold zc at h;split at h<;>first | (cases h;done) | skip
 .cases h;exact .ofInt _ _ _
 .cases h;exact .d true _ _ (.bool _)
 .cases h;exact .d true _ _ (.str _)
 .cases h;exact .nil
 .cases h;exact .np
def zcs:List Value->Option (List Cell)
 | []=>some []
 | v::r=>match zc v,zcs r with | some x,some xs=>some (x::xs) | _,_=>none
def YR{c:Ctx}{w:World}:∀ {b:List Value} {a:List Cell},zcs b=some a->F2 (bQ c w) b a
 | [],a,h=>by simp [zcs]at h;subst h;exact .nil
 | v::r,a,h=>by
  simp only [zcs]at h;split at h
  .rename_i x ys h1 h2;cases h;exact .cons (alc h1) (YR h2)
  .cases h
variable{α:Type}
def bU(T:(α->Prop)->Prop):Prop:=∀K,T K->∃v,K v/\T (λa=>a=v)
def bU.const(v:α):bU (λK=>K v):=λ_ h=>⟨v,h,rfl⟩
def bU.no:bU (λ_:α->Prop=>False):=λ_ h=>h.elim
def bU.and{p:Prop}{T:(α->Prop)->Prop}(h:bU T):bU (λK=>p/\T K):=λK hk=>let⟨v,b,a⟩:=h K hk.2;⟨v,b,hk.1,a⟩
def bU.aT(o:Option PV){T:PV->(α->Prop)->Prop}(h:∀v,bU (T v)):bU (λK=>aT o λv=>T v K):=by
 cases o with
 | none=>exact .no
 | some v=>exact h v
theorem bU.aD(o:Option TY){T:TY->(α->Prop)->Prop}(h:∀v,bU (T v)):bU (λK=>aD o λv=>T v K):=by
 cases o with
 | none=>exact .no
 | some v=>exact h v
theorem bU.qD(o:Option fK){T:fK->(α->Prop)->Prop}(h:∀v,bU (T v)):bU (λK=>qD o λv=>T v K):=by
 cases o with
 | none=>exact .no
 | some v=>exact h v
def bU.DC(o:Option Cell){T:Cell->(α->Prop)->Prop}(h:∀v,bU (T v)):bU (λK=>DC o λv=>T v K):=by
 cases o with
 | none=>exact .no
 | some v=>exact h v
theorem bU.vN(o:Option (List Int)){T:List Int->(α->Prop)->Prop}(h:∀v,bU (T v)):bU (λK=>vN o λv=>T v K):=by
 cases o with
 | none=>exact .no
 | some v=>exact h v
def bU.Ki(v:PV){T:Bool->(α->Prop)->Prop}(h:∀v,bU (T v)):bU (λK=>Ki v λb=>T b K):=by
 intro K hk;obtain⟨f,b,rfl,hk⟩:=E9 hk;exact h b K hk
def bU.sS(v:PV){T:IntKind->Int->(α->Prop)->Prop}(h:∀k n,bU (T k n)):bU (λK=>sS v λk n=>T k n K):=by
 intro K hk;unfold AE.sS at hk;split at hk
 .exact h _ _ K hk
 .exact hk.elim
def bU.NS(b:Bool){T U:(α->Prop)->Prop}(h:bU T)(d:bU U):bU (λK=>NS b (T K) (U K)):=by
 cases b with
 | true=>intro K hk;obtain⟨v,c,a⟩:=h K (hk.1 rfl);exact⟨v,c,⟨λ_=>a,λe=>absurd e (by simp)⟩⟩
 | false=>intro K hk;obtain⟨v,c,a⟩:=d K (hk.2 rfl);exact⟨v,c,⟨λe=>absurd e (by simp),λ_=>a⟩⟩
def bU.all{α β:Type}(o:Option β){p:Prop}{T:β->(α->Prop)->Prop}(c:p->∃x,o=some x)(h:∀x,bU (T x)):bU (λK=>p/\∀x,o=some x->T x K):=by
 rintro K ⟨b,hk⟩;obtain⟨x,a⟩:=c b;obtain⟨v,e,d⟩:=h x K (hk x a)
 grind
def bU.ite(p:Prop)[Decidable p]{T U:(α->Prop)->Prop}(h:bU T)(a:bU U):bU (λK=>if p then T K else U K):=by
 by_cases e:p
 all_goals simp_all
def aay(f:Bool)(y:TY)(row:List D)(j:Nat):bU (vM f y row j):=by
 unfold vM;cases y.desc with
 | struct a=>exact .and (.const _)
 | int k=>
  intro K hk
  grind
 | scalar=>exact .all _ (λh=>⟨_,List.getElem?_eq_getElem h⟩) (λx=> .const _)
 | str=>exact .all _ (λh=>⟨_,List.getElem?_eq_getElem h⟩) (λx=> .const _)
 | bool=>exact .all _ (λh=>⟨_,List.getElem?_eq_getElem h⟩) (λx=> .const _)
 | slice e=>exact .all _ (λh=>⟨_,List.getElem?_eq_getElem h⟩) (λx=> .const _)
def Ou(f:Bool)(a:List (List D))(i j:Nat)(y:TY):bU (abn f a i j y):=
 .all _ (λh=>⟨_,List.getElem?_eq_getElem h⟩) (λrow=>aay f y row j)
def abz(cs:List Cell)(j:Nat)(y:TY):bU (Le cs j y):=by
 unfold Le;exact .ite _ (.and (.const _)) (.DC _ λ_=> .const _)
def abA(o:fK)(a i j:Nat)(y:TY):bU (aio o a i j y):=by
 cases o with
 | box cs=>exact .and (abz cs j y)
 | rows f b c=>exact .and (Ou f c i j y)
 | gone=>exact .no
def aaz(E:Tab)(h:Heap)(ty:TypeId)(p:PV):bU (mP E h ty p):=by
 unfold mP;refine .aD _ λy=> ?_
 split
 .exact .qD _ λo=>abA o _ _ _ _
 .exact Ou _ _ _ _ _
 .exact .no
def abB(p:PV):bU (Qt p):=by
 intro K hk;unfold Qt at hk;split at hk
 .exact⟨_,hk,rfl⟩
 .exact⟨_,hk,rfl⟩
 .exact hk.elim
def QH(a:BinOp)(k:IntKind)(x y:Int):bU (Ca a k x y):=by
 cases a<;>first | exact .const _ | exact .and (.const _) | exact .no
def abC(E:Tab)(c:BinOp)(ty:TypeId)(a b:PV):bU (Cc E c ty a b):=by
 unfold Cc;split
 .exact .and (QH _ _ _ _)
 .exact .aD _ λz=> .and (by cases c<;>first | exact .const _ | exact .no)
 .exact .aD _ λz=> .and (by cases c<;>first | exact .const _ | exact .no)
 .exact .vN _ λx=> .vN _ λy=> .and (.and (by cases c<;>first | exact .const _ | exact .no))
 .exact .and (.aD _ λz=> .and (by cases c<;>first | exact .const _ | exact .no))
 .exact .and (.aD _ λz=> .and (by cases c<;>first | exact .const _ | exact .no))
 .exact .no
def aiq(b:UnOp)(a:PV):bU (unA b a):=by
 intro K hk;unfold unA at hk;split at hk
 .exact⟨_,hk,rfl⟩
 .exact⟨_,hk,rfl⟩
 .exact hk.elim
def aaA(E:Tab)(s d:TypeId)(a:PV):bU (E5 E s d a):=by
 unfold E5;refine .aD _ λy=> ?_
 split
 .exact .aD _ λ_=> .const _
 .refine .aD _ λz=> ?_
  split
  .exact .aD _ λt=> .and (.vN _ λb=> .const _)
  .exact .no
 .exact .no
def Fx(E:Tab)(s:TypeId)(a:PV)(f:Nat):bU (jC E s a f):=by
 unfold jC;refine .aD _ λy=> ?_
 split
 .split
  .refine .aD _ λz=> .and ?_
   split
   .exact .const _
   .exact .const _
   .exact .no
  .exact .no
 .exact .no
def QI(E:Tab)(s:TypeId)(a:PV)(f:Nat):bU (vO E s a f):=by
 unfold vO;refine .aD _ λy=> ?_
 split
 .split
  .refine .aD _ λz=> ?_
   split
   .exact .and (.ite _ (.const _) (.DC _ λ_=> .const _))
   .exact .no
  .exact .no
 .exact .no
def Fy(E:Tab)(t:TypeId)(a b:PV):bU (kL E t a b):=by
 unfold kL;refine .aD _ λy=> ?_
 split
 .refine .aD _ λz=> .sS _ λ_ i=> ?_
  split
  .exact .and (.and (.and (.const _)))
  .exact .and (.and (.and (.const _)))
  .exact .and (.and (.and (.const _)))
  .exact .no
 .exact .no
def abD(a:PV):bU (NU a):=by
 intro K hk;unfold NU at hk;split at hk<;>first | exact⟨_,hk,rfl⟩ | exact hk.elim
def Lj(a:PV)(i:Nat):bU (rM a i):=by
 unfold rM;split
 .exact .aT _ λ_=> .const _
 .exact .no
def wu(E:Tab)(t:Slots)(o:Option Operand)(d:Int){T:Int->(α->Prop)->Prop}(h:∀n,bU (T n)):bU (λK=>Aw E t o d λn=>T n K):=by
 unfold Aw;split
 .exact h _
 .exact .aT _ λ_=> .sS _ λ_ n=>h n
def QJ(E:Tab)(t:Slots)(ty:TypeId)(a:PV)(c b d:Option Operand):bU (vP E t ty a c b d):=by
 unfold vP;refine .aD _ λy=> ?_
 split
 .refine .aD _ λz=>wu E t c 0 λl=> ?_
  split
  .refine .and (wu E t b _ λh=> .and (.and (.and ?_)));split
   .exact .const _
   .exact wu E t _ 0 λm=> .and (.and (.const _))
  .exact .and (.and (wu E t b _ λh=> .and (.and (.and (.const _)))))
  .exact .and (wu E t b _ λh=> .and (.and (.const _)))
  .exact .no
 .exact .no
def Ko(E:Tab)(t:Slots)(a:Nat->Option (Nat×Nat)):∀(l:List (Nat×Operand)) (cs:List Cell),bU (uG E t a l cs)
 | [],cs=> .const _
 | (i,x)::r,cs=>by
  intro K hk;unfold uG at hk;cases hp:a i with
  | none=>simp_all
  | some p=>
   rw [hp]at hk;obtain⟨v,f,c,d,b,hk⟩:=kM hk;obtain⟨u,g,e⟩:=Ko E t a r _ K hk;refine⟨u,g,?_⟩;unfold uG;rw [hp,f];exact⟨c,d,b,e⟩
def bU.map{α β:Type}{T:(α->Prop)->Prop}(h:bU T)(mono:∀(K a:α->Prop),(∀v,K v->a v)->T K->T a)(f:α->β):bU (λK=>T λv=>K (f v)):=λK hk=>
 let⟨v,c,b⟩:=h _ hk
 ⟨f v,c,mono _ _ (λd e=>by rw [e]) b⟩
def Fz(E:Tab)(t:Slots)(a:Nat->Option (Nat×Nat))(K b:List Cell->Prop)(hK:∀v,K v->b v):∀(l:List (Nat×Operand)) (cs:List Cell),uG E t a l cs K->uG E t a l cs b
 | [],cs,h=>hK _ h
 | (i,x)::r,cs,h=>by
  unfold uG at h ⊢;cases hp:a i with
  | none=>simp_all
  | some p=>
   rw [hp]at h;cases hv:ev E t x with
   | none=>rw [hv]at h;exact h.elim
   | some v=>rw [hv]at h;exact⟨h.1,h.2.1,h.2.2.1,Fz E t a K b hK r _ h.2.2.2⟩
def QK(E:Tab)(t:Slots)(ty:TypeId)(l:List (Nat×Operand)):bU (Ce E t ty l):=by
 unfold Ce;refine .aD _ λy=> ?_
 split
 .exact .and (bU.map (Ko E t _ l _) (λK a h=>Fz E t _ K a h l _) PV.agg)
 .exact .no
def zQ(E:Tab)(t:Slots):∀(l:List Operand) (K a:List Cell->Prop),(∀v,K v->a v)->uH E t l K->uH E t l a
 | [],K,a,h,hk=>h _ hk
 | x::r,K,a,h,hk=>by
  unfold uH at hk ⊢;cases hv:ev E t x with
  | none=>rw [hv]at hk;exact hk.elim
  | some v=>
   rw [hv]at hk;simp only [AE.aT]at hk ⊢;split at hk
   .exact zQ E t r _ _ (λl b=>h _ b) hk
   .exact hk.elim
def Kq(E:Tab)(t:Slots):∀(l:List Operand),bU (uH E t l)
 | []=> .const _
 | x::r=>by
  intro K hk;unfold uH at hk;obtain⟨v,b,hk⟩:=kM hk;split at hk
  .rename_i y;obtain⟨u,c,a⟩:=Kq E t r _ hk;refine⟨_,c,?_⟩;unfold uH;rw [b];exact zQ E t r _ _ (λl d=>by rw [d]) a
  .exact hk.elim
def abE(a:PV):bU (abo a):=by
 intro K hk
 grind [abo]
def aaB(E:Tab)(t:Slots)(c:Call):bU (uI E t c):=by
 unfold uI;split
 .split
  .exact .aD _ λy=> .and (.aT _ λv=>abD v)
  .exact .no
 .split
  .exact .aD _ λy=> .and (.aT _ λv=>abE v)
  .exact .no
 .split
  .exact .aT _ λa=> .aT _ λb=> .sS _ λk m=> .sS _ λ_ n=> .const _
  .exact .no
 .split
  .exact .aT _ λa=> .aT _ λb=> .sS _ λk m=> .sS _ λ_ n=> .const _
  .exact .no
 .exact .no
def aaC(E:Tab)(e:Op)(t:Slots)(h:Heap):bU (gX E e t h):=by
 cases e
 case move x=>exact .aT _ λ_=> .const _
 case assign x=>exact .aT _ λ_=> .const _
 case pick c a b=>exact .aT _ λv=> .Ki _ λq=> .NS _ (.aT _ λ_=> .const _) (.aT _ λ_=> .const _)
 case load ty p=>exact .aT _ λv=>aaz _ _ _ _
 case nilCheck x=>exact .aT _ λv=>abB _
 case binOp e ty x y z=>exact .aT _ λa=> .aT _ λb=>abC _ _ _ _ _
 case unOp e ty x=>exact .aT _ λa=>aiq _ _
 case convert s d x=>exact .aT _ λa=>aaA _ _ _ _
 case fieldAddr s x f=>exact .aT _ λa=>Fx _ _ _ _
 case field s x f=>exact .aT _ λa=>QI _ _ _ _
 case indexAddr ty x i=>exact .aT _ λa=> .aT _ λb=>Fy _ _ _ _
 case slice ty x o n r=>exact .aT _ λa=>QJ _ _ _ _ _ _ _
 case extract x i=>exact .aT _ λa=>Lj _ _
 case build ty j=>exact QK _ _ _ _
 case call c=>exact aaB _ _ _
 case makeFunc m first k=>
  intro K hk;unfold gX at hk ⊢;cases m with
  | func g=>exact bU.and (bU.map (Kq E t _) (λK l hK=>zQ E t _ K l hK) _) K hk
  | _=>exact hk.elim
 all_goals exact .no
end Go.AE
namespace Go.AE
open Go
variable{t:Slots}{E:Tab}{h:Heap}{f:Bool}
abbrev fM:=Nat×List Nat×List Nat
abbrev Held:=Nat×Oper×Slots×Option PV
def qJ:List Held->Nat->Option (Oper×Slots×Option PV)
 | [],_=>none
 | (i,x)::r,j=>if i=j then some x else qJ r j
def cut(t:Slots):List Nat->Slots
 | []=> []
 | r::rs=>(r,aY t r)::cut t rs
def Ov{r:Nat}{v:PV}:∀ {a:List Nat},aY (cut t a) r=some v->r∈a/\aY t r=some v
 | [],h=>by simp [cut,aY]at h
 | x::a,h=>by
  simp only [cut,aY]at h;split at h
  .simp_all
  .obtain⟨h1,h2⟩:=Ov h;simp_all
def jd(E:Tab)(ops:List Oper)(o:Oper)(t:Slots)(h:Heap)(K:Option PV->Prop):Prop:=
 match o.guard with
 | none=>gX E o.op t h λv=>K (some v)
 | some (j,want)=>DL (gslot ops j) λd=>mZ (aY t d) want (gX E o.op t h λv=>K (some v)) (K (some qz))
def FB(E:Tab)(a:Op)(t:Slots)(h:Heap):bU (λK:Option PV->Prop=>gX E a t h λv=>K (some v)):=λK hk=>
 let⟨v,b,c⟩:=aaC E a t h _ hk
 ⟨some v,b,by simp_all⟩
def aaD(E:Tab)(a:List Oper)(o:Oper)(t:Slots)(h:Heap):bU (jd E a o t h):=by
 intro K hk;unfold jd at hk ⊢;cases hg:o.guard with
 | none=>rw [hg]at hk;exact FB E o.op t h K hk
 | some g=>
  obtain⟨j,c⟩:=g;rw [hg]at hk;simp only at hk ⊢;cases hd:gslot a j with
  | none=>rw [hd]at hk;exact hk.elim
  | some d=>
   rw [hd]at hk;simp only [DL]at hk ⊢;rcases pq hk with⟨f,b,i,l,k⟩ | ⟨i,k⟩
   .rw [i];by_cases e:b=c
    .obtain⟨v,h1,h2⟩:=FB E o.op t h K (l e)
     grind [fU,absurd]
    grind [qz,fU,absurd]
   .rw [i];exact⟨some qz,k,rfl⟩
def Ow(hE:aI E){c:Ctx}{w:World}{a:Act}(A:rO E c w t h a){ops:Array Oper}{o:Oper}{K:Option PV->Prop}(hk:jd E ops.toList o t h K):
  (Region.wanted o (yielded ops a.tmps)=true/\∃u v,(execOp a.eval o).run E.P w= .ok (.value u) w/\bK c w u v/\K (some v))\/
  (Region.wanted o (yielded ops a.tmps)=false/\K (some qz)):=by
 unfold jd at hk;split at hk
 .grind [vS,Region.wanted]
 .rename_i j want hg;cases hd:gslot ops.toList j with
  | none=>rw [hd]at hk;exact hk.elim
  | some d=>
   rw [hd]at hk;rcases pq hk with⟨f,b,g,l,i⟩ | ⟨g,i⟩
   .obtain⟨u,hu,hr⟩:=A.slot d _ g;have:=lT hr
    grind [Region.wanted,yielded,zP,vS]
   .obtain⟨u,hu,hr⟩:=A.slot d _ g;refine .inr ⟨?_,i⟩;have m:(ops[j]?).bind (·.dst)=some d:=by simpa [gslot]using hd
    have k:∀b,u≠ .bool b:=by
     intro b e;subst e;cases hr
    grind [Region.wanted,yielded]
def isLoad:Op->Bool | .load .. =>true | _=>false
def zR{a:Op}(c:isLoad a=false)(t:Slots)(h b:Heap):gX E a t h=gX E a t b:=by
 cases a<;>first | rfl | (simp [isLoad]at c)
def QL{a:List Oper}{o:Oper}(c:isLoad o.op=false)(t:Slots)(h b:Heap):jd E a o t h=jd E a o t b:=by
 unfold jd;rw [zR c t h b]
inductive ZC:Cell->Bool->D->Prop
 | d (f:Bool) (x:D):ZC (.d f x) (f || x.oG) x
 | nil (sz:Nat):ZC .nil true (.rows sz [])
 | clip (f:Bool) (sz:Nat) (es:List (List D)):ZC (.clip f sz es) f (.rows sz es)
inductive ZCs:List Cell->Bool->List D->Prop
 | nil:ZCs [] true []
 | cons {x:Cell} {r:List Cell} {f g:Bool} {d:D} {ds:List D}:ZC x f d->ZCs r g ds->ZCs (x::r) (f&&g) (d::ds)
inductive ZPs (E:Tab) (t:Slots) (sz:Nat):List (Nat×Operand)->Bool->List (List D)->Prop
 | nil:ZPs E t sz [] true []
 | cons {i:Nat} {x:Operand} {r:List (Nat×Operand)} {v:PV} {f g:Bool} {ds:List D} {es:List (List D)}:ev E t x=some v->(aR v).length=sz->ZCs (aR v) f ds->ZPs E t sz r g es->
  ZPs E t sz ((i,x)::r) (f&&g) (ds::es)
def zA(E:Tab)(c:Op)(t:Slots)(K:PV->Prop):Prop:=
 match c with
 | .buildSlice ty len a=>aD (E.ty ty) λy=>match y.desc with
  | .slice e=>aD (E.ty e) λz=>z.size≠0/\a.toList.map (·.1)=List.range len/\len*z.size<=16777216/\
   ∃f b,ZPs E t z.size a.toList f b/\b.length=len/\K (.c (.clip f z.size b))
  | _=>False
 | _=>False
def ald(E:Tab)(a:Op)(t:Slots):bU (zA E a t):=by
 intro K hk;unfold zA at hk ⊢;split at hk
 .rename_i ty len parts;cases hy:E.ty ty with
  | none=>rw [hy]at hk;exact hk.elim
  | some y=>
   rw [hy]at hk;simp only [aD]at hk ⊢
   grind
 .exact hk.elim
def Ll{x:Cell}{d:D}{K:Bool->D->Heap->Prop}(b:ZC x f d)(hk:K f d h):DF h x K:=by
 cases b with
 | d=>exact hk
 | nil a=>exact⟨a,hk⟩
 | clip=>exact hk
def Cu{cs:List Cell}{a:List D}(c:ZCs cs f a){K:Bool->List D->Heap->Prop}(hk:K f a h):qX h cs K:=by
 induction c generalizing K with
 | nil=>exact hk
 | cons d _ b=>exact Ll d (b hk)
def Cv{a:Nat}{l:List (Nat×Operand)}{b:List (List D)}(e:ZPs E t a l f b){K:Bool->List (List D)->Heap->Prop}(hk:K f b h):vU E t a h l K:=by
 induction e generalizing K with
 | nil=>exact hk
 | cons g d i _ c=>
  unfold vU;rw [g];exact⟨d,Cu i (c hk)⟩
end Go.AE
namespace Go.AE
open Go
variable{c:Ctx}{w:World}{h:Heap}{b:Nat}{P:Program}{ty:TypeId}
def Ctx.wide(c:Ctx)(K:Bool->Nat->Prop):Ctx:={c with K:=K}
def bL.lt(H:bL c w h)(e:fP c h b):b<w.heap.size:=by
 obtain⟨l,o,d,a,f⟩:=e;exact((H.obj l o d).2).lt a f
def side{w w':World}(H:bL c w h){K:Bool->Nat->Prop}(m:w.heap.size<=w'.heap.size)(hk:∀b,b<w.heap.size->w'.heap[b]? =w.heap[b]?)
  (n:World.jW w w') (B:∀f b,c.K f b->K f b) (p:∀f b,K f b->c.K f b\/w.heap.size<=b) (r:∀f b,K f b->b<w'.heap.size) (A:∀b,K true b->K false b)
  (u:w'.os=w.os) (q:w'.tape=w.tape) (e:w'.output=w.output):bL (c.wide K) w' h/\Grow c w h (c.wide K) w' h:=by
 have g:CLe c (c.wide K):=⟨B,Nat.le_refl _,λ_ _=>rfl⟩
 refine⟨⟨λl o C=> ?_,λl o s y b i j v t x z=>H.inj l o s y b i j v t x z,λf b d hK=> ?_,r,A⟩,
  ⟨g,m,n,λb d _=>hk b d,λf b d=>(p f b d).imp id .inl,λb d=> .inl d,u,q,e⟩⟩
 .obtain⟨i,j⟩:=H.obj l o C;exact⟨i,j.mono g (λf b d=>hk b (H.low f b d)) n i (λb k hm=>hk b (j.lt k hm))⟩
 .rcases p f b hK with a | a
  .exact H.own f b d a
  .exact absurd (H.lt (c:=c) d) ah
def bL.nil(H:bL c w h):bL c w []:=
 ⟨λl o a=>by simp [look]at a,λl o d e b a=>by simp [look]at a,λf b ⟨l,o,a,_⟩=>by simp [look]at a,H.low,H.sub⟩
theorem zh:¬fP c [] b:=λ⟨l,o,a,_⟩=>by simp [look]at a
theorem andThen_ok{α β:Type}{r:Result α}{f:α->World->Result β}{v:β}(h:r.andThen f= .ok v w):∃a b,r= .ok a b/\f a b= .ok v w:=by
 cases r with
 | ok a b=>exact⟨a,b,rfl,h⟩
 | halt c b=>simp_all
def run_bind_ok{α β:Type}{s:Sem α}{f:α->Sem β}{w w':World}{v:β}(h:(s>>=f).run P w= .ok v w'):∃a b,s.run P w= .ok a b/\(f a).run P b= .ok v w':=by
 rw [Sem.run_bind]at h;exact andThen_ok h
theorem FD{len:Nat}{a:Array (Nat×Value)}{w w':World}{u:Value}(h:(Instr.buildSlice ty len a).run P w= .ok u w'):∃e,u= .slice e len len:=by
 unfold Instr.buildSlice at h;obtain⟨d,k,n,h⟩:=run_bind_ok h;split at h
 .rename_i el0;obtain⟨c,m,j,h⟩:=run_bind_ok h;have fin:∀(b:String) (z:Array Value) (g:TypeId) (f:World),(match Instr.fill (λi=>some (i*c,c)) ((Array.range (len*c)).map (z[· %z.size]!)) a.toList with | some cells=>(do pure (.slice (some (<-newRow g cells)) len len):Sem Value) | _=>stuck b).run P f= .ok u w'->∃e,u= .slice e len len:=by
   intro b z g f h;split at h
   .obtain⟨e,w4,_,h⟩:=run_bind_ok h;simp at h;grind
   simp_all
  have atY:∀(b:String) (f:World),(if len*c=0 then(do let zero<-pure #[];(match Instr.fill (λi=>some (i*c,c)) ((Array.range (len*c)).map (λx=>zero[x%zero.size]!)) a.toList with | some cells=>(do pure (.slice (some (<-newRow el0 cells)) len len):Sem Value) | _=>stuck b))else
    (do let zero<-pure (<-zeroValue el0).cells;(match Instr.fill (λi=>some (i*c,c)) ((Array.range (len*c)).map (λx=>zero[x%zero.size]!)) a.toList with | some cells=>(do pure (.slice (some (<-newRow el0 cells)) len len):Sem Value) | _=>stuck b))).run P f= .ok u w'->∃e,u= .slice e len len:=by
   intro b f h;split at h
   .obtain⟨z,w4,_,h⟩:=run_bind_ok h;exact fin _ _ _ _ h
   .obtain⟨z,w4,_,h⟩:=run_bind_ok h;obtain⟨z,l,_,h⟩:=run_bind_ok h;exact fin _ _ _ _ h
  simp only []at h;split at h
  .simp_all
  .exact atY _ _ h
 simp_all
def aaE{E:Tab}(hE:aI E){t:Slots}{a:Act}(A:rO E c w t h a)(o:Oper){K:PV->Prop}(hk:zA E o.op t K):
  ∃u q w' v,(execOp a.eval o).run E.P w= .ok (.value u) w'/\Grow c w h q w' h/\bL q w' h/\q.n=c.n/\bK q w' u v/\K v:=by
 unfold zA at hk;split at hk
 .rename_i ty len parts ho
  replace hk:=aJ hk;obtain⟨y,O,hk⟩:=hk
  split at hk
  .rename_i e C
   replace hk:=aJ hk;obtain⟨z,V,D,n,p,f,s,T,J,hk⟩:=hk
   .have A0:rO E c w t [] a:=⟨A.slot,A.heap.nil,A.glob⟩;have N:iB E o.op t [] c.n 0 (λv P k'=>v= .c (.os (nm c.n 0) z.size 0 len)/\P=[(nm c.n 0,.rows f z.size (ir z.desc s))]):=by
     rw [ho];simp only [iB];rw [O];show(match y.desc with | .slice e=>_ | _=>False);rw [C];simp only;rw [V];exact⟨D,n,p,Cv T ⟨rfl,rfl⟩⟩
    obtain⟨U,u,c1,L,W,k1,pv,l,r,Y,X,n1,k,rfl,rfl⟩:=vY hE A0 (by simp [nm]) o N;cases k with | c _ _ k=>
    have F:DF [(nm c.n 0,fK.rows f z.size (ir z.desc s))] (.os (nm c.n 0) z.size 0 len) (λg d _=>g=f/\d= .rows z.size (ir z.desc s)):=by grind [ir,Oh,List.take_of_length_le,DF,look,qD]
    obtain⟨Q,I,g,d,S,H,n2,hd,rfl,rfl⟩:=DJ X k F;have j:=Y.trans S
    obtain⟨R,G⟩:=side (c:=c) (w:=w) (w':=L) (h:=h) A.heap (K:=Q.K) j.size (λb B=>j.kept b B zh) j.stays j.le.K
     (λf b B=>by rcases j.yT f b B with a | a | a;all_goals grind [absurd,zh]) H.low H.sub j.os j.tape j.output
    have atZ:U= .value u:=by
     rcases r with h | ⟨_,h⟩
     .exact h
     .subst h;cases k
    subst atZ;have m:∃M,u= .slice M len len:=by
     have C:execOp a.eval o=(do pure (Next.value (<-Instr.buildSlice ty len (parts.map λ(i,x)=>(i,a.eval x))))):=by simp [execOp,ho]
     rw [C]at l;obtain⟨Z,w2,W,I⟩:=run_bind_ok l;simp at I
     grind [FD]
    obtain⟨M,rfl⟩:=m;exact⟨_,_,L,_,l,G,R,rfl,.c _ _ (.clip _ _ _ _ _ (by rw [Oh]at hd;exact hd)),hk⟩
  .exact hk.elim
 .exact hk.elim
def Jr{E:Tab}(hE:aI E)(H:bL c w h)(o:Oper)(m:o.op= .alloc ty){y:TY}(g:E.ty ty=some y)(ev:Operand->Value):
  ∃w' e i,(execOp ev o).run E.P w= .ok (.value (.pointer (some ⟨w.heap.size,0,none⟩))) w'/\Grow c w h c w' h/\bL c w' h/\
   w'.heap[w.heap.size]? =some (.cells e i (0,0))/\∀c w,F2 (bQ c w) e.toList y.zero:=by
 obtain⟨k,vR,l,_,z,j,d⟩:=(hE.ty ty y g).info;refine⟨w.alloc (.cells z.cells ty),z.cells,ty,?_,?_,?_,jN _ _,d⟩
 .simp_all [execOp,Instr.alloc,zeroValue,typeInfo,newVar,newRow]
 .have:=(side (w':=w.alloc (.cells z.cells ty)) H (K:=c.K) (Nat.le_of_lt (lt_of_some (jN _ _))) (λb a=>alloc_old a) (qI _ _) (λ_ _ h=>h) (λ_ _ h=> .inl h)
   (λf b a=>Nat.lt_of_lt_of_le (H.low f b a) (Nat.le_of_lt (lt_of_some (jN _ _)))) H.sub rfl rfl rfl).2
  exact this
 .have:=(side (w':=w.alloc (.cells z.cells ty)) H (K:=c.K) (Nat.le_of_lt (lt_of_some (jN _ _))) (λb a=>alloc_old a) (qI _ _) (λ_ _ h=>h) (λ_ _ h=> .inl h)
   (λf b a=>Nat.lt_of_lt_of_le (H.low f b a) (Nat.le_of_lt (lt_of_some (jN _ _)))) H.sub rfl rfl rfl).1
  exact this
def bL.reg(H:bL c w h){o:fK}(z:jM (c.name (some b)) w c.n o)(i:¬fP c h b)(hk:∀f,¬c.K f b):
  bL (c.name (some b)) w ((c.n,o)::h):=by
 have hμ:(c.name (some b)).μ c.n=some b:=by simp [iO,upd]
 have y:∀l o,look h l=some o->c.n≠l:=λl o a e=>by have:=(H.obj l o a).1;omega
 have avA:∀l o,look h l=some o->(c.name (some b)).μ l=c.μ l:=λl o a=>(c.qH (some b)).μ l (H.obj l o a).1
 refine⟨λl n a=> ?_,λl s j r x g k d t u v=> ?_,λf x ⟨l,n,g,k,d⟩ hK=> ?_,H.low,H.sub⟩
 .by_cases e:c.n=l
  .subst e;rw [aK]at a;cases a;exact⟨Nat.lt_succ_self _,z⟩
  .rw [aC o h e]at a;obtain⟨p,q⟩:=H.obj l n a;exact⟨Nat.lt_succ_of_lt p,q.mono (c.qH _) (λ_ _ _=>rfl) (.refl _) p (λ_ _ _=>rfl)⟩
 .by_cases e:c.n=l
  .by_cases m:c.n=j
   .omega
   .exfalso;subst e;rw [hμ]at u;cases u;rw [aC o h m]at d;exact i ⟨j,r,d,t,by simp_all⟩
  .rw [aC o h e]at g;by_cases m:c.n=j
   .exfalso;subst m;rw [hμ]at v;cases v;exact i ⟨l,s,g,k,by simp_all⟩
   .rw [aC o h m]at d;exact H.inj l s j r x g k d t (by simp_all) (by simp_all)
 .by_cases e:c.n=l
  .subst e;rw [hμ]at d;cases d;exact hk f hK
  .rw [aC o h e]at g;exact H.own f x ⟨l,n,g,k,by simp_all⟩ hK
def Grow.reg{i c:Ctx}{d w:World}{f h:Heap}(g:Grow i d f c w h)(H:bL c w h){o:fK}(n:d.heap.size<=b):Grow i d f (c.name (some b)) w ((c.n,o)::h) where
 le:=g.le.trans (c.qH _)
 size:=g.size
 stays:=g.stays
 kept:=g.kept
 yT:=g.yT
 qV:=λx ⟨l,j,a,m,k⟩=>by
  by_cases e:c.n=l
  .simp_all [iO,upd]
  .rw [aC o h e]at a;exact g.qV x ⟨l,j,a,m,by rw [<-(c.qH (some b)).μ l (H.obj l j a).1];exact k⟩
 os:=g.os
 tape:=g.tape
 output:=g.output
def Grow.drawn(c:Ctx)(w:World)(h:Heap)(d:Nat):Grow c w h c {w with drawn:=d} h:=
 ⟨.refl c,Nat.le_refl _,λ_ _ a=>a,λ_ _ _=>rfl,λ_ _ h=> .inl h,λ_ h=> .inl h,rfl,rfl,rfl⟩
def bL.drawn(H:bL c w h)(d:Nat):bL c {w with drawn:=d} h:=
 ⟨λl o b=>let⟨p,q⟩:=H.obj l o b;⟨p,q.mono (w:=w) (w':={w with drawn:=d}) (.refl c) (λ_ _ _=>rfl) (λ_ _ a=>a) p (λ_ _ _=>rfl)⟩,H.inj,H.own,H.low,H.sub⟩
end Go.AE
namespace Go.AE
open Go
def aaF(E:Tab)(G:o9)(o:Oper)(t:Slots)(s:St)(K:PV->Heap->Nat->Prop):Prop:=
 match jq o.op with
 | 1=>iB E o.op t s.h s.n s.k K
 | _=>vZ E G o.op {s with t:=t} K
theorem QM{E:Tab}(hE:aI E){G:o9}(N:qY E G){Q:Exit->Act->World->Prop}{s:St}{t:Slots}{c:Ctx}{w:World}{a:Act}(A:rO E c w t s.h a)(hn:c.n=nm s.n s.k)(o:Oper)
  {K:PV->Heap->Nat->Prop} {next:Act->World->Prop} (H:∀u v k l n C,Grow c w s.h k l n->bL k l n->k.n=nm s.n C->bK k l u v->K v n C->next (a.put o.dst u) l)
  (hk:aaF E G o t s K):o.wp E.P a w next Q:=by
 unfold aaF at hk;split at hk
 .obtain⟨nx,u,k,l,n,C,pv,g,hnx,S,L,I,p,hk⟩:=vY hE A hn o hk
  grind [Oper.wp,Oper.upon_value,Oper.upon_skip]
 .unfold vZ at hk;split at hk
  .rename_i cl ho;split at hk
   .rename_i f hf;obtain⟨B,⟨b⟩,h⟩:=cl;simp only at hf;subst hf;obtain⟨Z,d,hk⟩:=dR A hk;unfold fnA at hk;generalize O:a.eval f=W at d;split at hk
    .rename_i gid cs;obtain⟨V,F,hk⟩:=wo A _ _ hk;cases hR:G gid with
     | none=>rw [hR]at hk;exact hk.elim
     | some R=>
     rw [hR]at hk;simp only [abx]at hk;cases d with | c _ _ d=>cases d with | fn _ Li _ T hc=>
     have m:F2 (bK c w) Li (cs.map .c):=F2.EZ (by simp [T]) (λi x y P J=>by
      simp only [List.getElem?_map,Option.map_eq_some_iff]at J;obtain⟨Y,q,rfl⟩:=J;have M:i<cs.length:=(List.getElem?_eq_some_iff.1 q).1;have:=hc i M;rw [qG P,qG q]at this;exact .c _ _ this)
     have z:=N gid R hR;have QG:=z.calls _ _ _ _ hk c w (b.map a.eval++Li) hn (F.append m) A.heap A.glob;have g:(execOp a.eval o).run E.P w= .ok (.enter gid (b.map a.eval++Li).toArray) w:=by
      have X:=z.enters (b.map a.eval++Li).toArray w
      grind [execOp,resolve,Deferred.ofValue,invoke]
     unfold Oper.wp;rw [g,Oper.upon_enter];refine QG.mono ?_;intro e l D;cases e with
     | returned v=>
      obtain⟨k,r,n,j,S,L,I,p,hk⟩:=D
      grind [abu]
     | panicked U=>exact D.elim
     | outgrown=>exact D.elim
    .exact hk.elim
   .exact hk.elim
  .exact hk.elim
def Ox(P:Program)(ty:TypeId):Prop:=∃k e,P.underlying ty=some (.map k e)/\P.underlying k=some (.int .i64)/\∃a:TypeInfo,P.info? e=some a/\a.zero=some (.bool false)
theorem run_makeMap{P:Program}{w:World}{ty:TypeId}:(Instr.makeMap ty none).run P w= .ok (.map (some w.heap.size)) (w.alloc (.map #[] 0)):=by
 simp [Instr.makeMap,Result.andThen]
theorem wz{k:Int}:∀(a:List MapEntry) (i:Nat),(∀e∈a,∃n,e.key= .int .i64 n)->
  ∃r,Instr.findNow (.int .i64) (.int .i64 k) a i=some r/\((r=none/\∀e∈a,e.key≠ .int .i64 k)\/∃j v e,r=some (j,v)/\e∈a/\e.key= .int .i64 k/\e.val=v)
 | [],i,_=>⟨none,rfl,.inl ⟨rfl,λe h=>by cases h⟩⟩
 | x::a,i,h=>by
  obtain⟨n,hn⟩:=h x (by simp);obtain⟨r,d,c⟩:=wz (k:=k) a (i+1) (λe b=>h e (by simp [b]))
  grind [Instr.findNow,Instr.sameNow]
theorem isKey(k:Int):MapKept.IsKey (.int .i64) (.int .i64 k):=by simp [MapKept.IsKey]
theorem Lm{P:Program}{w:World}{t:TypeId}{a:TypeInfo}(h:P.info? t=some a)(b:a.zero=some (.bool false)):(zeroValue t).run P w= .ok (.bool false) w:=by
 simp [zeroValue,typeInfo,h,b,Result.andThen]
theorem QN{P:Program}{w:World}{ty:TypeId}(g:Ox P ty){b:Nat}{c:Array MapEntry}{a:Nat}(d:w.heap[b]? =some (.map c a)){k:Int}{v:Value}(hk:∀e∈c.toList,∃n,e.key= .int .i64 n)(hn:∀e∈c.toList,e.key≠ .int .i64 k):
  (Instr.mapUpdate ty (.map (some b)) (.int .i64 k) v).run P w= .ok () {w with heap:=w.heap.setIfInBounds b (.map (c.push {key:= .int .i64 k,val:=v,born:=a}) (a+1))}:=by
 obtain⟨q,m,j,f,i,o,s⟩:=g;obtain⟨r,l,p⟩:=wz (k:=k) c.toList 0 hk;have h:r=none:=by grind
 subst h;simp [Instr.mapUpdate,run_underlying j,MapKept.run_getObj_map d,MapKept.run_checkKey f (isKey k),MapKept.run_findKey f l,MapKept.run_setObj_map _ d,Result.andThen]
theorem QO{P:Program}{w:World}{ty:TypeId}(l:Ox P ty){b:Nat}{a:Array MapEntry}{d:Nat}(f:w.heap[b]? =some (.map a d)){k:Int}(hk:∀e∈a.toList,∃n,e.key= .int .i64 n):
  ∃u,(Instr.lookup ty (.map (some b)) (.int .i64 k) false).run P w= .ok u w/\((u= .bool false/\∀e∈a.toList,e.key≠ .int .i64 k)\/∃e∈a.toList,e.key= .int .i64 k/\e.val=u):=by
 obtain⟨z,y,h,c,s,m,x⟩:=l;obtain⟨r,i,p⟩:=wz (k:=k) a.toList 0 hk;rcases p with⟨rfl,g⟩ | ⟨j,v,e,rfl,t,q,o⟩
 .refine⟨.bool false,?_,.inl ⟨rfl,g⟩⟩;simp [Instr.lookup,run_underlying h,MapKept.run_getObj_map f,MapKept.run_checkKey c (isKey k),MapKept.run_findKey c i,Result.andThen,Lm m x]
 .refine⟨v,?_,.inr ⟨e,t,q,o⟩⟩;simp [Instr.lookup,run_underlying h,MapKept.run_getObj_map f,MapKept.run_checkKey c (isKey k),MapKept.run_findKey c i,Result.andThen]
class aB where
 l:List Nat
 m:List Nat
variable [aB]
def at0(a:Array (Nat×Operand)):Bool:=match a.toList with | [(_,.tmp t)]=>aB.l.contains t | _=>false
def nK:Operand->Bool | .tmp t=>aB.m.contains t | _=>false
def mapD:Nat:=aB.m.getD 0 0
def aaG:Nat:=aB.m.getD 1 0
def kindOf(b:Op):Nat:=match b with | .alloc _=>2 | .buildSlice _ _ a=>if at0 a then 3 else 1 | .makeMap .. =>1 | .insert .. =>1 | .lookup .. =>1 | .move x=>if nK x then 1 else 0 | b=>if jq b=0 then 0 else 3
def DN(o:Oper):Option (Int×Nat):=match o.op with | .insert _ _ (.const (.int .i64 k)) (.tmp r)=>some (k,r) | _=>none
def nu(a:List Oper):List (Int×Nat):=a.filterMap DN
def FH(t:Slots)(k:Int):List (Int×Nat)->(Bool->Prop)->Prop
 | [],K=>K false
 | (k',r)::rest,K=>∃f b,aY t r=some (.c (.d f (.bool b)))/\if k=k' then K b else FH t k rest K
def zM(E:Tab)(a:List Oper)(c:Op)(t:Slots)(K:Option PV->Prop):Prop:=match c with
 | .makeMap .. =>K none
 | .insert _ _ _ v=>(match v with | .tmp r=>∃p,aY t r=some p | _=>False)/\K none
 | .move x=>nK x=true/\K none
 | .lookup _ _ (.tmp q) _=>∃f n,aY t q=some (.c (.d f (.int .i64 n)))/\FH t n (nu a) λb=>K (some (.c (.d true (.bool b))))
 | c=>zA E c t λv=>K (some v)
theorem FJ(t:Slots)(k:Int):∀(l:List (Int×Nat)),bU (FH t k l)
 | [],_,h=>⟨false,h,rfl⟩
 | (k',r)::rest,K,h=>by
  obtain⟨f,b,c,a⟩:=h;by_cases e:k=k'
  .rw [if_pos e]at a;exact⟨b,a,f,b,c,by rw [if_pos e]⟩
  .rw [if_neg e]at a;obtain⟨v,d,g⟩:=FJ t k rest K a;exact⟨v,d,f,b,c,by simp_all⟩
def FK:Op->Bool
 | .makeMap .. =>false | .insert .. =>false | .move _=>false
 | .lookup _ _ q _=>match q with | .tmp _=>false | _=>true
 | _=>true
theorem AJ{E:Tab}{ops:List Oper}{c:Op}(h:FK c=true){t:Slots}{K:Option PV->Prop}:zM E ops c t K=zA E c t λv=>K (some v):=by
 cases c
 case makeMap=>cases h
 case insert=>cases h
 case move=>cases h
 case lookup a b q d=>cases q<;>first | rfl | cases h
 all_goals rfl
theorem ale(E:Tab)(c:List Oper)(e:Op)(t:Slots):bU (zM E c e t):=by
 intro K hk;by_cases g:FK e=true
 .rw [AJ g]at hk;obtain⟨v,i,h⟩:=ald _ _ _ _ hk
  grind [AJ]
 .cases e
  case makeMap=>exact⟨none,hk,rfl⟩
  case insert=>exact⟨none,hk.2,hk.1,rfl⟩
  case move x=>exact⟨none,hk.2,hk.1,rfl⟩
  case lookup a b q d=>
   cases q with
   | tmp q=>
    obtain⟨f,n,i,h⟩:=hk;obtain⟨b,j,k⟩:=FJ t n _ _ h;exact⟨_,j,f,n,i,by simp_all⟩
   | _=>exact absurd rfl g
  all_goals exact absurd rfl g
def bB(ops:List Oper)(i:Nat):Nat:=match ops[i]? with | some o=>kindOf o.op | none=>4
def ajU(o:Option Oper)(K:Oper->Prop):Prop:=match o with | some v=>K v | none=>False
def QS(E:Tab)(ops:List Oper)(h:Heap)(a:List Held):List Nat->Prop
 | []=>True
 | j::r=>(match qJ a j with | some (o,t,v)=>jd E ops o t h (λb=>b=v) | none=>False)/\QS E ops h a r
def fD(E:Tab)(G:o9)(ops:List Oper):List fM->List Held->(St->Prop)->St->Prop
 | [],_,K,s=>K s
 | (i,rs,cs)::r,hs,K,s=>ajU ops[i]? λo=>dOK s.m o.dst/\match kindOf o.op with
  | 0=>jd E ops o (cut s.t rs) s.h λv=>fD E G ops r ((i,o,cut s.t rs,v)::hs) K (s.put o.dst v)
  | 1=>zM E ops o.op (cut s.t rs) λv=>fD E G ops r hs K (s.put o.dst v)
  | 2=>iB E o.op [] s.h s.n s.k λv h k=>fD E G ops r hs K (St.put {s with h:=h,k:=k} o.dst (some v))
  | _=>match o.guard with
   | none=>aaF E G o (cut s.t rs) s λv h k=>QS E ops h hs cs/\fD E G ops r hs K (St.put {s with h:=h,k:=k} o.dst (some v))
   | some (j,want)=>DL (gslot ops j) λd=>mZ (aY (cut s.t rs) d) want
    (aaF E G o (cut s.t rs) s λv h k=>QS E ops h hs cs/\fD E G ops r hs K (St.put {s with h:=h,k:=k} o.dst (some v)))
    (fD E G ops r hs K (s.put o.dst (some qz)))
def AL(ops:List Oper)(i:Nat):Bool:=match ops[i]? with | some o=>o.guard.isSome | none=>true
def loadAt(a:List Oper)(i:Nat):Bool:=match a[i]? with | some o=>isLoad o.op | none=>true
def air(b:List Oper)(a:Nat->Nat->Bool)(pre:List Nat)(i:Nat)(c:List Nat):Bool:=
 (List.range b.length).all λj=>match gslot b j with
  | none=>true
  | some d=> !c.contains d || j==i || (if pre.contains j then a i j else a j i)
def DR(a:List Oper)(b:Nat->Nat->Bool)(i:Nat):List fM->Bool
 | []=>true
 | (q,_,_)::r=>if bB a q=2 then DR a b i r else bB a q==3&&b q i
def uJ(ops:List Oper)(anc:Nat->Nat->Bool):List Nat->Option Nat->List fM->Bool
  | _,_,[]=>true
  | pre,lm,(i,rs,cs)::r=>
    decide (i<ops.length)&& !pre.contains i&&air ops anc pre i rs&&
    (bB ops i==2 || (match lm with | none=>true | some q=>anc i q))&&
    (match bB ops i with
     | 0=>true
     | 1=>true
     | 2=>DR ops anc i r&& (gslot ops i).isSome
     | 3=>pre.all λj=> !loadAt ops j || anc i j || cs.contains j
     | _=>false)&&
    (bB ops i==0 || bB ops i==3 || !AL ops i)&&
    uJ ops anc (i::pre) (if bB ops i==3 then some i else lm) r
def abF(a:List Nat)(b:List Edge):Nat:=b.foldl (λs e=>if Region.binds .any e then s ||| 2^e.on ||| a.getD e.on 0 else s) 0
def Lp:List Oper->List Nat->List Nat
 | [],acc=>acc
 | o::r,acc=>Lp r (acc++ [abF acc o.after.toList])
def masks(ops:List Oper):List Nat:=Lp ops []
def lN(m:List Nat)(i j:Nat):Bool:=(m.getD i 0).testBit j
def ais(ops:List Oper):Bool:=(List.range ops.length).all λi=>match ops[i]? with
 | some o=>o.after.toList.all λe=> !Region.binds .any e || decide (e.on<i)
 | none=>true
def bY(ops:List Oper):Bool:=(List.range ops.length).all λi=>(List.range ops.length).all λj=>
 i==j || (match gslot ops i,gslot ops j with | some d,some e=>d !=e | _,_=>true)
def Lr(a:List Oper)(b:List fM):Bool:=
 ais a&&bY a&& ((List.range a.length).all λi=>(b.map (·.1)).contains i)&&uJ a (lN (masks a)) [] none b
inductive Reach (ops:List Oper):Nat->Nat->Prop
 | one {i j:Nat} {o:Oper} {e:Edge}:ops[i]? =some o->e∈o.after.toList->Region.binds .any e=true->e.on=j->Reach ops i j
 | step {i j:Nat} {o:Oper} {e:Edge}:ops[i]? =some o->e∈o.after.toList->Region.binds .any e=true->Reach ops e.on j->Reach ops i j
theorem FL{a:List Nat}{j:Nat}:∀(b:List Edge) (s:Nat),(b.foldl (λs e=>if Region.binds .any e then s ||| 2^e.on ||| a.getD e.on 0 else s) s).testBit j=true->
  s.testBit j=true\/∃e∈b,Region.binds .any e=true/\(e.on=j\/(a.getD e.on 0).testBit j=true)
 | [],s,h=> .inl h
 | e::b,s,h=>by
  simp only [List.foldl_cons]at h;rcases FL b _ h with c | ⟨f,c,d,g⟩
  all_goals grind
theorem zi(b:List Oper):∀(r:List Oper) (a:List Nat) (pre:List Oper),pre++r=b->pre.length=a.length->
  (∀i j,(a.getD i 0).testBit j=true->Reach b i j)->∀i j,((Lp r a).getD i 0).testBit j=true->Reach b i j
 | [],a,pre,h1,h2,h3=>h3
 | o::r,a,pre,h1,h2,h3=>by
  refine zi b r _ (pre++ [o]) (by simp [h1]) (by simp [h2]) ?_;intro i j f;rw [List.getD_eq_getElem?_getD]at f;by_cases l:i<a.length
  .grind
  .rw [List.getElem?_append_right ah]at f;by_cases g:i=a.length
   .subst g;simp only [Nat.sub_self,List.getElem?_cons_zero,Option.getD_some]at f;have k:b[a.length]? =some o:=by grind
    rcases FL _ _ f with c | ⟨e,h,d,c⟩
    .simp at c
    .rcases c with c | c
     .exact .one k h d c
     .exact .step k h d (h3 _ _ c)
   grind
theorem lC{a:List Oper}{i j:Nat}(h:lN (masks a) i j=true):Reach a i j:=
 zi a a [] [] rfl rfl (λi j h=>by simp at h) i j h
def Lst(l:Array Bool)(i:Nat):Prop:=l.getD i false=true
def Closed(a:List Oper)(l:Array Bool):Prop:=∀i o,Lst l i->a[i]? =some o->∀e∈o.after.toList,Region.binds .any e=true->Lst l e.on
theorem nP{a:List Oper}{l:Array Bool}(hc:Closed a l){i j:Nat}(h:Reach a i j)(hd:∀o,a[i]? =some o->∀e∈o.after.toList,Region.binds .any e=true->Lst l e.on):Lst l j:=by
 induction h with
 | one c b d k=>grind
 | step c b d _ f=>exact f (λo g=>hc _ o (hd _ c _ b d) g)
theorem rV{a:List Oper}{l:Array Bool}(hc:Closed a l){i j:Nat}(h:Reach a i j)(b:Lst l i):Lst l j:=
 nP hc h λo c=>hc i o b c
def qZ(a:List Oper)(i:Nat):Bool:=match a[i]? with | some o=>(match o.op with | .makeMap .. =>true | _=>false) | none=>false
def wB(a:List Oper)(i:Nat):Bool:=match a[i]? with | some o=>(match o.op with | .insert .. =>true | _=>false) | none=>false
def Cw(a:List Oper)(i:Nat):Bool:=match a[i]? with | some o=>(match o.op with | .move x=>nK x | _=>false) | none=>false
def Ls(P:Program)(ty:TypeId):Bool:=match P.underlying ty with
 | some (.map k e)=>(match P.underlying k with | some (.int .i64)=>true | _=>false)&& (match P.info? e with | some i=>(match i.zero with | some (.bool false)=>true | _=>false) | none=>false)
 | _=>false
theorem Kr{P:Program}{ty:TypeId}(h:Ls P ty=true):Ox P ty:=by
 unfold Ls at h;split at h
 .rename_i k e h1;rw [Bool.and_eq_true]at h;obtain⟨a,b⟩:=h;refine⟨k,e,h1,?_,?_⟩
  all_goals grind
 .cases h
def aaH(b:List Oper)(a:Nat->Nat->Bool)(p:Nat->Bool)(i:Nat):Bool:=(List.range b.length).any λm=>p m&&a i m
theorem YS{a:List Oper}{p:Nat->Bool}{i:Nat}(h:aaH a (lN (masks a)) p i=true):∃m,p m=true/\Reach a i m:=by grind [aaH,List.any_eq_true,lC]
def Oy(P:Program)(a:List Oper)(b:Nat->Nat->Bool)(i:Nat)(o:Oper):Bool:=match o.op with
 | .makeMap _ r=>r.isNone&&o.dst==some mapD
 | .insert ty x k v=>match x,k,v with
  | .tmp x,.const (.int .i64 _),.tmp r=>x==mapD&&o.dst.isNone&&Ls P ty&&aaH a b (qZ a) i&& (List.range a.length).all λj=>gslot a j !=some r || b i j
  | _,_,_=>false
 | .lookup ty x q ok=>match x,q with
  | .tmp x,.tmp _=>x==aaG&& !ok&&Ls P ty&&aaH a b (qZ a) i&&aaH a b (Cw a) i&& (List.range a.length).all λj=> !wB a j || b i j
  | _,_=>false
 | .move x=> !nK x || ((match x with | .tmp x=>x==mapD | _=>false)&&o.dst==some aaG&&aaH a b (qZ a) i)
 | _=>true
def Lu(P:Program)(a:List Oper):Bool:=((List.range a.length).all λi=>match a[i]? with | some o=>Oy P a (lN (masks a)) i o | none=>true)&&decide ((nu a).map Prod.fst).Nodup
structure q9(P:Program)(ops:List Oper):Prop where
 mkm:∀(i:Nat) o ty r,ops[i]? =some o->o.op= .makeMap ty r->r=none/\o.dst=some mapD
 ins:∀(i:Nat) o ty x k v,ops[i]? =some o->o.op= .insert ty x k v->o.dst=none/\∃n r,x= .tmp mapD/\k= .const (.int .i64 n)/\v= .tmp r/\Ox P ty/\(∃m,qZ ops m=true/\Reach ops i m)/\∀j,gslot ops j=some r->Reach ops i j
 lk:∀(i:Nat) o ty x q ok,ops[i]? =some o->o.op= .lookup ty x q ok->ok=false/\x= .tmp aaG/\(∃q',q= .tmp q')/\Ox P ty/\(∃m,qZ ops m=true/\Reach ops i m)/\(∃m,Cw ops m=true/\Reach ops i m)/\∀j,wB ops j=true->Reach ops i j
 mv:∀(i:Nat) o x,ops[i]? =some o->o.op= .move x->nK x=true->x= .tmp mapD/\o.dst=some aaG/\∃m,qZ ops m=true/\Reach ops i m
 nd:((nu ops).map Prod.fst).Nodup
theorem aaI{α:Type}{l:List α}{i:Nat}{x:α}(h:l[i]? =some x):i<l.length:=(List.getElem?_eq_some_iff.1 h).1
theorem abG{a:List Oper}{j:Nat}(h:wB a j=true):j<a.length:=by grind [wB,aaI]
theorem abH{a:List Oper}{j r:Nat}(h:gslot a j=some r):j<a.length:=by grind [Nat.lt_or_ge,gslot,List.getElem?_eq_none]
theorem aaJ{P:Program}{a:List Oper}(h:Lu P a=true):q9 P a:=by
 unfold Lu at h;rw [Bool.and_eq_true,decide_eq_true_eq,List.all_eq_true]at h;obtain⟨h,d⟩:=h;have e:∀(i:Nat) o,a[i]? =some o->Oy P a (lN (masks a)) i o=true:=λi o c=>by grind
 refine⟨λi o ty r c b=> ?_,λi o ty x k v c b=> ?_,λi o ty x q ok c b=> ?_,λi o x c b f=> ?_,d⟩
 .grind [Oy,Option.isNone_iff_eq_none]
 .have:=e i o c;unfold Oy at this
  grind [Option.isNone_iff_eq_none,Kr,YS,List.all_eq_true,abH,lC]
 all_goals grind [Oy,Bool.not_eq_true',Kr,YS,List.all_eq_true,abG,lC,Bool.not_true]
end Go.AE
namespace Go.AE
open Go
variable [aB]
def Src(a:List Oper)(s0:St)(pre:List Nat)(b:Nat->Option PV)(i r:Nat)(v:PV):Prop:=
 (∃j,gslot a j=some r/\j∈pre/\Reach a i j/\b j=some v)\/(aY s0.t r=some v/\∀j,gslot a j=some r->j=i\/Reach a j i)
def pz(a:List Oper)(j:Nat)(k:Int)(r:Nat):Prop:=∃o ty x,a[j]? =some o/\o.op= .insert ty x (.const (.int .i64 k)) (.tmp r)
structure MP(ops:List Oper)(L:Array Bool)(c:Ctx)(w:World)(h:Heap)(a:Act)(n0 b:Nat):Prop where
 slot:a.tmps[mapD]? =some (.map (some b))
 obj:∃es clk,w.heap[b]? =some (.map es clk)/\(∀e∈es.toList,∃j k r,pz ops j k r/\Lst L j/\e.key= .int .i64 k/\a.tmps[r]? =some e.val)/\
  ∀j k r,pz ops j k r->Lst L j->∃e∈es.toList,e.key= .int .i64 k/\a.tmps[r]? =some e.val
 no:¬fP c h b
 nk:∀f,¬c.K f b
 ge:n0<=b
 mv:∀j,Cw ops j=true->Lst L j->a.tmps[aaG]? =some (.map (some b))
def Cx(d:List Oper)(L:Array Bool)(c:Ctx)(w:World)(h:Heap)(a:Act)(e:Nat):Prop:=∀m,qZ d m=true->Lst L m->∃b,MP d L c w h a e b
structure DI(E:Tab)(G:o9)(ops:Array Oper)(K:St->Prop)(s0:St)(c0:Ctx)(w0:World)(h0:Heap)
    (pre:List Nat) (lm:Option Nat) (suf:List fM) (s:St) (hs:List Held) (val:Nat->Option PV) (pb:Nat->Nat)
    (L:Array Bool) (c:Ctx) (w:World) (a:Act):Prop where
  run:fD E G ops.toList suf hs K s
  chk:uJ ops.toList (lN (masks ops.toList)) pre lm suf=true
  cov:∀i,i<ops.size->i∈pre\/i∈suf.map (·.1)
  done:∀i,i∈pre->2<=bB ops.toList i->Lst L i
  only:∀i,Lst L i->i∈pre\/bB ops.toList i=2
  closed:Closed ops.toList L
  size:L.size=ops.size
  s1:∀j r v,gslot ops.toList j=some r->Lst L j->j∈pre->val j=some v->∃u,a.tmps[r]? =some u/\bK c w u v
  s2:∀r v,(∀j,gslot ops.toList j=some r->¬Lst L j)->aY s0.t r=some v->∃u,a.tmps[r]? =some u/\bK c w u v
  t1:∀j r,gslot ops.toList j=some r->j∈pre->aY s.t r=val j
  t2:∀r,(∀j,gslot ops.toList j=some r->j∉pre)->aY s.t r=aY s0.t r
  pend:∀i,i∈pre->¬Lst L i->∃o t,ops.toList[i]? =some o/\dOK s.m o.dst/\(∀r v,aY t r=some v->Src ops.toList s0 pre val i r v)/\
     ((kindOf o.op=0/\qJ hs i=some (o,t,val i)/\jd E ops.toList o t s.h (λv'=>v'=val i))\/(kindOf o.op=1/\o.guard=none/\zM E ops.toList o.op t (λv=>val i=v)))
  rW:∀i,Lst L i->i∉pre->∃(o:Oper) (ty:TypeId) (y:TY) (d:Nat) (vs:Array Value) (Et:TypeId),ops.toList[i]? =some o/\o.op= .alloc ty/\E.ty ty=some y/\o.dst=some d/\
     a.tmps[d]? =some (.pointer (some ⟨pb i,0,none⟩))/\w.heap[pb i]? =some (.cells vs Et (0,0))/\(∀c w,F2 (bQ c w) vs.toList y.zero)/\¬fP c s.h (pb i)/\(∀f,¬c.K f (pb i))/\w0.heap.size<=pb i
  dist:∀i j,Lst L i->i∉pre->Lst L j->j∉pre->pb i=pb j->i=j
  heap:bL c w s.h
  glob:qW E c w
  grow:Grow c0 w0 h0 c w s.h
  cn:c.n=nm s.n s.k
  defers:a.defers=[]
  nQ:a.tmps.size=s.m
  sn:s.n=s0.n
  sm:s.m=s0.m
  ms:q9 E.P ops.toList
  mp:Cx ops.toList L c w s.h a w0.heap.size
theorem aZ{L:Array Bool}{i j:Nat}(a:i<L.size):Lst (L.setIfInBounds i true) j↔j=i\/Lst L j:=by
 unfold Lst;simp only [Array.getD_eq_getD_getElem?,Array.getElem?_setIfInBounds]
 grind
theorem lU{a:List Oper}(h:bY a=true){i j d e:Nat}(f:gslot a i=some d)(g:gslot a j=some e)(b:i≠j):d≠e:=by
 have c:i<a.length:=by grind [Nat.lt_or_ge,gslot,List.getElem?_eq_none]
 have k:j<a.length:=by grind [Nat.lt_or_ge,gslot,List.getElem?_eq_none]
 unfold bY at h;rw [List.all_eq_true]at h;have l:=h i (List.mem_range.2 c)
 grind
theorem bE{ops:List Oper}{i:Nat}{o:Oper}(h:ops[i]? =some o):gslot ops i=o.dst:=by simp [gslot,h]
theorem wC{a:Act}{d:Nat}{u:Value}(h:d<a.tmps.size):(a.put (some d) u).tmps[d]? =some u:=by simp [Act.put,h]
theorem pE{a:Act}{o:Option Nat}{r:Nat}{u:Value}(h:∀d,o=some d->d≠r):(a.put o u).tmps[r]? =a.tmps[r]? :=by
 cases o with
 | none=>rfl
 | some d=>simp [Act.put,Array.getElem?_setIfInBounds_ne (h d rfl)]
theorem FN{a:Act}{o:Option Nat}{u:Value}:(a.put o u).tmps.size=a.tmps.size:=by
 cases o with
 | none=>rfl
 | some d=>simp [Act.put]
theorem put_defers{a:Act}{o:Option Nat}{u:Value}:(a.put o u).defers=a.defers:=by cases o<;>rfl
def DT:Op->Bool | .makeMap .. =>true | .insert .. =>true | .move x=>nK x | _=>false
theorem ait{a:List Oper}{i:Nat}{o:Oper}(b:a[i]? =some o)(h:DT o.op=false):qZ a i=false/\wB a i=false/\Cw a i=false:=by
 unfold qZ wB Cw
 grind [DT]
theorem FQ{a:Op}(h:kindOf a≠1):DT a=false:=by
 unfold DT
 grind [absurd,kindOf,nK]
theorem aiu{a:List Oper}{m:Nat}(h:qZ a m=true):∃o ty r,a[m]? =some o/\o.op= .makeMap ty r:=by grind [qZ]
theorem YT{a:List Oper}{m:Nat}(h:Cw a m=true):∃o x,a[m]? =some o/\o.op= .move x/\nK x=true:=by grind [Cw]
theorem AO{a:List Oper}{j:Nat}{k:Int}{r:Nat}(h:pz a j k r):wB a j=true:=by
 obtain⟨o,ty,x,c,b⟩:=h
 grind [wB]
theorem q9.gD{P:Program}{a:List Oper}(S:q9 P a){m:Nat}(h:qZ a m=true):gslot a m=some mapD:=by
 obtain⟨o,ty,r,b,c⟩:=aiu h;rw [bE b];exact(S.mkm m o ty r b c).2
theorem q9.gE{P:Program}{a:List Oper}(S:q9 P a){m:Nat}(h:Cw a m=true):gslot a m=some aaG:=by
 obtain⟨o,x,b,c,d⟩:=YT h;rw [bE b];exact(S.mv m o x b c d).2.1
theorem q9.reads{P:Program}{a:List Oper}(S:q9 P a){j:Nat}{k:Int}{r:Nat}(h:pz a j k r){i:Nat}(d:gslot a i=some r):Reach a j i:=by
 obtain⟨o,ty,x,c,b⟩:=h;obtain⟨_,n,g,_,_,e,_,_,f⟩:=S.ins j o ty x _ _ c b;simp_all
theorem MP.keep{P:Program}{g:List Oper}{L:Array Bool}{c z:Ctx}{w H:World}{h D:Heap}{a:Act}{G b i:Nat}{o:Oper}{u:Value}(M:MP g L c w h a G b)(S:q9 P g)(A:bY g=true)(hc:Closed g L)(I:i<L.size)
  (F:g[i]? =some o) (t:¬Lst L i) (O:qZ g i=false) (R:wB g i=false) (J:Cw g i=false) {m:Nat} (hm:qZ g m=true) (N:∀x,w.heap[b]? =some x->H.heap[b]? =some x) (y:¬fP z D b) (C:∀f,¬z.K f b):
  MP g (L.setIfInBounds i true) z H D (a.put o.dst u) G b:=by
 have s:∀j r,gslot g j=some r->j≠i->(a.put o.dst u).tmps[r]? =a.tmps[r]? :=λj r n l=>pE (λd hd e=>lU A ((bE F).trans hd) n (Ne.symm l) e)
 have avB:∀j k r,pz g j k r->Lst L j->(a.put o.dst u).tmps[r]? =a.tmps[r]? :=λj k r n q=>pE (λd hd e=>t (rV hc (S.reads n ((bE F).trans (hd.trans (congrArg some e)))) q))
 have v:∀ {j:Nat},Lst (L.setIfInBounds i true) j->j≠i->Lst L j:=λq l=>((aZ I).1 q).resolve_left l
 have ne:∀ {p:Nat->Bool} {j:Nat},p i=false->p j=true->j≠i:=λE Q e=>by simp_all
 obtain⟨K,B,E,Q,U⟩:=M.obj;refine⟨by rw [s m _ (S.gD hm) (ne O hm)];exact M.slot,⟨K,B,N _ E,λe T=> ?_,λj k r n q=> ?_⟩,y,C,M.ge,λj n q=> ?_⟩
 .grind [aZ]
 .grind [AO]
 .have l:=ne J n;rw [s j _ (S.gE n) l];exact M.mv j n (v q l)
section
variable {E:Tab} {G:o9} {ops:Array Oper} {K:St->Prop} {s0:St} {c0:Ctx} {w0:World} {h0:Heap} {pre:List Nat} {lm:Option Nat} {suf:List fM} {s:St} {hs:List Held}
 {val:Nat->Option PV} {pb:Nat->Nat} {L:Array Bool} {c:Ctx} {w:World} {a:Act}
theorem Closed.set{ops:List Oper}{L:Array Bool}(h:Closed ops L){i:Nat}{o:Oper}(k:ops[i]? =some o)(c:i<L.size)(hd:∀e∈o.after.toList,Region.binds .any e=true->Lst L e.on):Closed ops (L.setIfInBounds i true):=by
 intro j f a b e g d;rw [aZ c]at a ⊢;rcases a with rfl | a
 .simp_all
 .exact .inr (h j f a b e g d)
theorem DI.src(D:DI E G ops K s0 c0 w0 h0 pre lm suf s hs val pb L c w a){i:Nat}{o:Oper}(u:ops.toList[i]? =some o)(hn:¬Lst L i)(hd:∀e∈o.after.toList,Region.binds .any e=true->Lst L e.on)
  {t:Slots} (k:∀r v,aY t r=some v->Src ops.toList s0 pre val i r v) (h:Heap) (H:bL c w h):rO E c w t h a:=by
 refine⟨λr v q=> ?_,H,D.glob⟩;rcases k r v q with⟨j,d,b,l,p⟩ | ⟨d,b⟩
 .exact D.s1 j r v d (nP D.closed l (λx n=>by simp_all)) b p
 .exact D.s2 r v (λj g f=>by
   rcases b j g with rfl | m
   .exact hn f
   .exact hn (rV D.closed m f)) d
theorem DI.rd(D:DI E G ops K s0 c0 w0 h0 pre lm suf s hs val pb L c w a){i:Nat}{f:List Nat}(l:i∉pre)(h:air ops.toList (lN (masks ops.toList)) pre i f=true)(r:Nat)(v:PV)(b:aY (cut s.t f) r=some v):
  Src ops.toList s0 pre val i r v:=by
 obtain⟨m,b⟩:=Ov b;unfold air at h;rw [List.all_eq_true]at h;have g:∀j,gslot ops.toList j=some r->j=i\/(if pre.contains j then lN (masks ops.toList) i j else lN (masks ops.toList) j i)=true:=by grind [Nat.lt_or_ge,gslot,List.getElem?_eq_none,Bool.not_eq_true']
 by_cases e:∃j,gslot ops.toList j=some r/\j∈pre
 .obtain⟨j,h1,h2⟩:=e;refine .inl ⟨j,h1,h2,?_,by rw [<-D.t1 j r h1 h2];exact b⟩
  grind [absurd,lC]
 .have hnw:∀j,gslot ops.toList j=some r->j∉pre:=λj d k=>e ⟨j,d,k⟩
  refine .inr ⟨by rw [<-D.t2 r hnw];exact b,λj d=> ?_⟩
  grind [lC]
theorem x9{c d:Ctx}{w i:World}{h k:Heap}(g:Grow c w h d i k){b:Nat}{x:Go.Obj}(j:w.heap[b]? =some x)(a:¬fP c h b)(hk:∀f,¬c.K f b):
  i.heap[b]? =some x/\¬fP d k b/\∀f,¬d.K f b:=by
 have e:=lt_of_some j;refine⟨(g.kept b e a).trans j,λl=> ?_,λf m=> ?_⟩
 .rcases g.qV b l with h | h
  .exact a h
  .omega
 .rcases g.yT f b m with h | h | h
  all_goals grind
theorem Cx.keep{P:Program}{d:List Oper}{L:Array Bool}{c q:Ctx}{w t:World}{h p:Heap}{a:Act}{s i:Nat}{o:Oper}{u:Value}(I:Cx d L c w h a s)(S:q9 P d)(k:bY d=true)(hc:Closed d L)(n:i<L.size)
  (r:d[i]? =some o) (f:¬Lst L i) (l:DT o.op=false) (g:Grow c w h q t p):Cx d (L.setIfInBounds i true) q t p (a.put o.dst u) s:=λm hm D=>by
 obtain⟨B,z,v⟩:=ait r l;have j:m≠i:=λe=>by simp_all
 obtain⟨b,M⟩:=I m hm (((aZ n).1 D).resolve_left j);obtain⟨E,A,y,_⟩:=M.obj;obtain⟨G,C,k3⟩:=x9 g y M.no M.nk;exact⟨b,M.keep S k hc n r f B z v hm (λx F=>by simp_all) C k3⟩
theorem DI.YU(D:DI E G ops K s0 c0 w0 h0 pre lm suf s hs val pb L c w a)(I:bY ops.toList=true){i:Nat}{o:Oper}(z:ops.toList[i]? =some o)(A:i∈pre)(hd:∀e∈o.after.toList,Region.binds .any e=true->Lst L e.on)
  (hm:dOK s.m o.dst) {c':Ctx} {w':World} (hV:∀ {u:Value} {v:PV},bK c w u v->bK c' w' u v)
  (hP:∀ {b:Nat} {t:Array Value} {x:TypeId} {Q:Nat×Nat},w.heap[b]? =some (.cells t x Q)->¬fP c s.h b->(∀f,¬c.K f b)->w'.heap[b]? =some (.cells t x Q)/\¬fP c' s.h b/\∀f,¬c'.K f b)
  (Z:qW E c' w') (M:Grow c0 w0 h0 c' w' s.h) (H:bL c' w' s.h) (hn:c'.n=c.n) {u:Value} (W:∀v,val i=some v->bK c' w' u v) (F:Cx ops.toList (L.setIfInBounds i true) c' w' s.h (a.put o.dst u) w0.heap.size):
  DI E G ops K s0 c0 w0 h0 pre lm suf s hs val pb (L.setIfInBounds i true) c' w' (a.put o.dst u):=by
 have l:i<L.size:=by rw [D.size];grind
 have n:∀j r,gslot ops.toList j=some r->j≠i->(a.put o.dst u).tmps[r]? =a.tmps[r]? :=λj r m B=>pE (λd hd e=>lU I ((bE z).trans hd) m (Ne.symm B) e)
 exact {
  run:=D.run,chk:=D.chk,cov:=D.cov
  done:=λj g h=>(aZ l).2 (.inr (D.done j g h))
  only:=λj m=>by
   rcases(aZ l).1 m with rfl | m
   .exact .inl A
   .exact D.only j m
  closed:=D.closed.set z l hd
  size:=by simp [D.size]
  s1:=λj r v g h C q=>by
   by_cases e:j=i
   .subst e;rw [bE z]at g;refine⟨u,?_,W v q⟩;rw [g]at hm ⊢;exact wC (by rw [D.nQ];exact hm)
   .obtain⟨O,R,S⟩:=D.s1 j r v g (((aZ l).1 h).resolve_left e) C q
    grind
  s2:=λr v g h=>by
   obtain⟨O,R,S⟩:=D.s2 r v (λj m N=>g j m ((aZ l).2 (.inr N))) h;exact⟨O,by rw [pE (λd hd e=>g i (by rw [bE z,hd,e]) ((aZ l).2 (.inl rfl)))];exact R,hV S⟩
  t1:=D.t1,t2:=D.t2
  pend:=λj g h=>D.pend j g (λN=>h ((aZ l).2 (.inr N)))
  rW:=λj g h=>by
   have p:j≠i:=λe=>h (e▸A)
   obtain⟨o',ty,y,d,t,x,P,p2,p3,T,X,U,p7,p8,Y,J⟩:=D.rW j (((aZ l).1 g).resolve_left p) h;obtain⟨q1,V,q3⟩:=hP U p8 Y;exact⟨o',ty,y,d,t,x,P,p2,p3,T,by rw [n j d ((bE P).trans T) p];exact X,q1,p7,V,q3,J⟩
  dist:=λj k g h C q=>D.dist j k (((aZ l).1 g).resolve_left (λe=>h (e▸A))) h (((aZ l).1 C).resolve_left (λe=>q (e▸A))) q
  heap:=H
  glob:=Z
  grow:=M
  cn:=hn.trans D.cn
  defers:=by rw [put_defers];exact D.defers
  nQ:=by rw [FN];exact D.nQ
  sn:=D.sn,sm:=D.sm,ms:=D.ms,mp:=F}
theorem DI.Lv(D:DI E G ops K s0 c0 w0 h0 pre lm suf s hs val pb L c w a)(f:bY ops.toList=true){i:Nat}{o:Oper}(m:ops.toList[i]? =some o)(n:i∈pre)(hd:∀e∈o.after.toList,Region.binds .any e=true->Lst L e.on)
  (hm:dOK s.m o.dst) {b:Ctx} {w':World} (g:Grow c w s.h b w' s.h) (H:bL b w' s.h) (hn:b.n=c.n) {u:Value} (j:∀v,val i=some v->bK b w' u v) (d:Cx ops.toList (L.setIfInBounds i true) b w' s.h (a.put o.dst u) w0.heap.size):
  DI E G ops K s0 c0 w0 h0 pre lm suf s hs val pb (L.setIfInBounds i true) b w' (a.put o.dst u):=
 D.YU f m n hd hm (λh=>h.grow D.heap g) (λp l k=>x9 g p l k) (D.glob.grow D.heap g) (D.grow.trans g) H hn j d
theorem DI.listed(D:DI E G ops K s0 c0 w0 h0 pre lm suf s hs val pb L c w a)(d:bY ops.toList=true){i:Nat}{o:Oper}(k:ops.toList[i]? =some o)(m:i∈pre)(h:¬Lst L i)(j:DT o.op=false)(hd:∀e∈o.after.toList,Region.binds .any e=true->Lst L e.on)
  (hm:dOK s.m o.dst) {b:Ctx} {f:World} (g:Grow c w s.h b f s.h) (H:bL b f s.h) (hn:b.n=c.n) {u:Value} (l:∀v,val i=some v->bK b f u v):
  DI E G ops K s0 c0 w0 h0 pre lm suf s hs val pb (L.setIfInBounds i true) b f (a.put o.dst u):=
 D.Lv d k m hd hm g H hn l (D.mp.keep D.ms d D.closed (by rw [D.size];grind) k h j g)
theorem DI.made(D:DI E G ops K s0 c0 w0 h0 pre lm suf s hs val pb L c w a)(x:bY ops.toList=true){i:Nat}{o:Oper}(t:ops.toList[i]? =some o)(W:i∉pre)(J:¬Lst L i)(hd:∀e∈o.after.toList,Region.binds .any e=true->Lst L e.on)
  {d:Nat} (m:o.dst=some d) (hm:d<s.m) {ty:TypeId} (z:o.op= .alloc ty) {y:TY} (U:E.ty ty=some y) {C:World} (g:Grow c w s.h c C s.h) (H:bL c C s.h) {p:Array Value} {B:TypeId}
  (V:C.heap[w.heap.size]? =some (.cells p B (0,0))) (hz:∀c w,F2 (bQ c w) p.toList y.zero):
  DI E G ops K s0 c0 w0 h0 pre lm suf s hs val (λj=>if j=i then w.heap.size else pb j) (L.setIfInBounds i true) c C (a.put o.dst (.pointer (some ⟨w.heap.size,0,none⟩))):=by
 have l:i<L.size:=by rw [D.size];grind
 have q:∀j r u,gslot ops.toList j=some r->j≠i->(a.put o.dst u).tmps[r]? =a.tmps[r]? :=λj r u n M=>pE (λd hd e=>lU x ((bE t).trans hd) n (Ne.symm M) e)
 have Z:∀j,Lst L j->j∉pre->pb j<w.heap.size:=λj b h=>by
  obtain⟨_,_,_,_,_,_,_,_,_,_,_,F,_⟩:=D.rW j b h;exact lt_of_some F
 exact {
  run:=D.run,chk:=D.chk,cov:=D.cov
  done:=λj b h=>(aZ l).2 (.inr (D.done j b h))
  only:=λj n=>by
   rcases(aZ l).1 n with rfl | n
   .grind [bB,kindOf]
   .exact D.only j n
  closed:=D.closed.set t l hd
  size:=by simp [D.size]
  s1:=λj r v b h A P=>by
   have e:j≠i:=λe=>W (e▸A)
   obtain⟨I,S,O⟩:=D.s1 j r v b (((aZ l).1 h).resolve_left e) A P;exact⟨I,by grind,O.grow D.heap g⟩
  s2:=λr v b h=>by
   obtain⟨I,S,O⟩:=D.s2 r v (λj n Q=>b j n ((aZ l).2 (.inr Q))) h;exact⟨I,by rw [pE (λd hd e=>b i (by rw [bE t,hd,e]) ((aZ l).2 (.inl rfl)))];exact S,O.grow D.heap g⟩
  t1:=D.t1,t2:=D.t2
  pend:=λj b h=>D.pend j b (λQ=>h ((aZ l).2 (.inr Q)))
  rW:=λj b h=>by
   by_cases e:j=i
   .subst e;simp only [if_true];refine⟨o,ty,y,d,p,B,t,z,U,m,?_,V,hz,λN=> ?_,λf X=> ?_,D.grow.size⟩
    .rw [m];exact wC (by rw [D.nQ];exact hm)
    .exact absurd (D.heap.lt N) (Nat.lt_irrefl _)
    .exact absurd (D.heap.low f _ X) (Nat.lt_irrefl _)
   .obtain⟨o',ty,y,d,p,B,p1,p2,p3,p4,p5,F,p7,p8,p9,p10⟩:=D.rW j (((aZ l).1 b).resolve_left e) h;obtain⟨q1,T,Y⟩:=x9 g F p8 p9;simp only [e,if_false];exact⟨o',ty,y,d,p,B,p1,p2,p3,p4,by rw [q j d _ ((bE p1).trans p4) e];exact p5,q1,p7,T,Y,p10⟩
  dist:=λj k b h A P R=>by
   by_cases e:j=i
   .grind [aZ]
   .by_cases e':k=i
    .grind [aZ]
    .simp only [e,e',if_false]at R;exact D.dist j k (((aZ l).1 b).resolve_left e) h (((aZ l).1 A).resolve_left e') P R
  heap:=H
  glob:=D.glob.grow D.heap g
  grow:=D.grow.trans g
  cn:=D.cn
  defers:=by rw [put_defers];exact D.defers
  nQ:=by rw [FN];exact D.nQ
  sn:=D.sn,sm:=D.sm,ms:=D.ms
  mp:=D.mp.keep D.ms x D.closed l t J (by rw [z];rfl) g}
end
end Go.AE
namespace Go.AE
open Go
variable [aB]
theorem QT{s:St}{d:Option Nat}{v:Option PV}:(s.put d v).h=s.h/\(s.put d v).n=s.n/\(s.put d v).k=s.k/\(s.put d v).m=s.m:=by cases d<;>exact⟨rfl,rfl,rfl,rfl⟩
theorem yg{s:St}{o:Option Nat}{v:Option PV}{r:Nat}(h:∀d,o=some d->d≠r):aY (s.put o v).t r=aY s.t r:=by
 cases o with
 | none=>rfl
 | some d=>grind [St.put,ji]
theorem Cy{s:St}{d:Nat}{v:Option PV}:aY (s.put (some d) v).t d=v:=by simp [St.put,ji]
theorem aaK{E:Tab}{h:Heap}{a:Nat}{b:fK}(c:look h a=none){ty:TypeId}{p:PV}{K:PV->Prop}(hk:mP E h ty p K):mP E ((a,b)::h) ty p K:=by
 unfold mP at hk ⊢;cases hy:E.ty ty with
 | none=>rw [hy]at hk;exact hk.elim
 | some y=>
  rw [hy]at hk;simp only [aD]at hk ⊢;split
  .rename_i l sz i j;simp only at hk;by_cases e:a=l
   .subst e;rw [c]at hk;exact hk.elim
   grind [aC]
  all_goals simp_all
theorem Kt{E:Tab}{h:Heap}{c:Nat}{e:fK}(f:look h c=none){b:Op}{t:Slots}{K:PV->Prop}(hk:gX E b t h K):gX E b t ((c,e)::h) K:=by
 by_cases a:isLoad b=false
 .rw [<-zR a t h];exact hk
 .cases b<;>first | (exact absurd rfl a) | skip
  rename_i ty p;simp only [gX]at hk ⊢;obtain⟨v,d,hk⟩:=kM hk;rw [d];exact aaK f hk
theorem aaL{E:Tab}{a:List Oper}{o:Oper}{h:Heap}{g:Nat}{i:fK}(k:look h g=none){t:Slots}{K:Option PV->Prop}(hk:jd E a o t h K):jd E a o t ((g,i)::h) K:=by
 unfold jd at hk ⊢;split at hk
 .exact Kt k hk
 .rename_i j want hg;cases hd:gslot a j with
  | none=>rw [hd]at hk;exact hk.elim
  | some d=>
   rw [hd]at hk;simp only [DL]at hk ⊢;rcases pq hk with⟨f,b,c,l,e⟩ | ⟨c,e⟩
   .grind [fU,Kt]
   .rw [c];exact e
theorem Oz{i j:Nat}{x:Oper×Slots×Option PV}{a:List Held}(h:i≠j):qJ ((i,x)::a) j=qJ a j:=by simp [qJ,h]
section
variable {E:Tab} {G:o9} {ops:Array Oper} {K:St->Prop} {s0:St} {c0:Ctx} {w0:World} {h0:Heap} {pre:List Nat} {lm:Option Nat} {suf:List fM} {s:St} {hs:List Held}
 {val:Nat->Option PV} {pb:Nat->Nat} {L:Array Bool} {c:Ctx} {w:World} {a:Act}
structure aqL(ops:List Oper)(pre:List Nat)(lm:Option Nat)(i:Nat)(rs cs:List Nat)(r:List fM):Prop where
 lt:i<ops.length
 new:i∉pre
 rd:air ops (lN (masks ops)) pre i rs=true
 after:bB ops i=2\/∀q,lm=some q->lN (masks ops) i q=true
 two:bB ops i=2->DR ops (lN (masks ops)) i r=true/\(gslot ops i).isSome=true
 three:bB ops i=3->∀j∈pre,loadAt ops j=true->lN (masks ops) i j=true\/j∈cs
 guard:bB ops i≠0->bB ops i≠3->AL ops i=false
 rest:uJ ops (lN (masks ops)) (i::pre) (if bB ops i=3 then some i else lm) r=true
theorem lV{ops:List Oper}{pre:List Nat}{a:Option Nat}{i:Nat}{b cs:List Nat}{r:List fM}(h:uJ ops (lN (masks ops)) pre a ((i,b,cs)::r)=true):aqL ops pre a i b cs r:=by
 unfold uJ at h;simp only [Bool.and_eq_true,decide_eq_true_eq,Bool.not_eq_true',Bool.or_eq_true,beq_iff_eq]at h;obtain⟨⟨⟨⟨⟨⟨k,e⟩,d⟩,g⟩,l⟩,o⟩,f⟩:=h;refine⟨k,by simpa using e,d,g.imp id (λh q n=>by simp_all),λhk=> ?_,λhk j m p=> ?_,λhk c=> ?_,f⟩
 all_goals grind
theorem Src.mono{a:List Oper}{s0:St}{pre:List Nat}{val:Nat->Option PV}{i r:Nat}{v:PV}{n:Nat}(hn:n∉pre)(x:Option PV)(h:Src a s0 pre val i r v):Src a s0 (n::pre) (λj=>if j=n then x else val j) i r v:=by
 rcases h with⟨j,c,b,d,e⟩ | h
 .exact .inl ⟨j,c,List.mem_cons_of_mem _ b,d,by grind⟩
 .exact .inr h
theorem DI.push{i:Nat}{q cs:List Nat}{r:List fM}(D:DI E G ops K s0 c0 w0 h0 pre lm ((i,q,cs)::r) s hs val pb L c w a)(H:bY ops.toList=true){o:Oper}(F:ops.toList[i]? =some o)(hk:bB ops.toList i<=1)
  (hm:dOK s.m o.dst) (v:Option PV) (g:List Held) (p:fD E G ops.toList r g K (s.put o.dst v)) (P:∀j,j≠i->qJ g j=qJ hs j)
  (hc:(kindOf o.op=0/\qJ g i=some (o,cut s.t q,v)/\jd E ops.toList o (cut s.t q) s.h (λl=>l=v))\/(kindOf o.op=1/\o.guard=none/\zM E ops.toList o.op (cut s.t q) (λl=>v=l))):
  DI E G ops K s0 c0 w0 h0 (i::pre) (if bB ops.toList i=3 then some i else lm) r (s.put o.dst v) g (λj=>if j=i then v else val j) pb L c w a:=by
 have C:=lV D.chk;have A:¬Lst L i:=λO=>(D.only i O).elim C.new (λh=>by omega)
 obtain⟨y,M,N,u⟩:= @QT _ s o.dst v
 exact {
  run:=p
  chk:=C.rest
  cov:=λj n=>by
   rcases D.cov j n with h | h
   all_goals grind
  done:=λj b f=>by
   rcases List.mem_cons.1 b with rfl | b
   .omega
   .exact D.done j b f
  only:=λj n=>(D.only j n).imp (List.mem_cons_of_mem _) id
  closed:=D.closed,size:=D.size
  s1:=λj x l b f B z=>by
   have e:j≠i:=λe=>A (e▸f)
   simp only [e,if_false]at z;exact D.s1 j x l b f ((List.mem_cons.1 B).resolve_left e) z
  s2:=D.s2
  t1:=λj x b f=>by
   by_cases e:j=i
   .grind [bE,Cy]
   .rw [if_neg e,yg (λd hd I=>lU H ((bE F).trans hd) b (Ne.symm e) I)];exact D.t1 j x b ((List.mem_cons.1 f).resolve_left e)
  t2:=λx b=>by
   rw [yg (λd hd I=>b i (by rw [bE F,hd,I]) (by simp))];exact D.t2 x (λj n m=>b j n (List.mem_cons_of_mem _ m))
  pend:=λj b f=>by
   by_cases e:j=i
   .subst e;refine⟨o,cut s.t q,F,by rw [u];exact hm,λx l J=>Src.mono C.new v (D.rd C.new C.rd x l J),?_⟩;simp_all
   .obtain⟨o',t,p1,p2,p3,p4⟩:=D.pend j ((List.mem_cons.1 b).resolve_left e) f;refine⟨o',t,p1,by rw [u];exact p2,λx l J=>Src.mono C.new v (p3 x l J),?_⟩;simp_all
  rW:=λj b f=>by rw [y];exact D.rW j b (λm=>f (List.mem_cons_of_mem _ m))
  dist:=λj k b f B z=>D.dist j k b (λm=>f (List.mem_cons_of_mem _ m)) B (λm=>z (List.mem_cons_of_mem _ m))
  heap:=by rw [y];exact D.heap
  glob:=D.glob
  grow:=by rw [y];exact D.grow
  cn:=by rw [M,N];exact D.cn
  defers:=D.defers
  nQ:=by rw [u];exact D.nQ
  sn:=by rw [M];exact D.sn
  sm:=by rw [u];exact D.sm
  ms:=D.ms
  mp:=by rw [y];exact D.mp}
theorem AP{ops:List Oper}{i:Nat}{o:Oper}(h:ops[i]? =some o):bB ops i=kindOf o.op:=by simp [bB,h]
theorem DI.adv(e:bY ops.toList=true):∀(n:List fM) {pre:List Nat} {k:Option Nat} {s:St} {g:List Held} {d:Nat->Option PV},DI E G ops K s0 c0 w0 h0 pre k n s g d pb L c w a->
  ∃l m aaM F t f,DI E G ops K s0 c0 w0 h0 l m aaM F t f pb L c w a/\∀i A cs r,aaM=(i,A,cs)::r->2<=bB ops.toList i
 | [],pre,k,s,g,d,D=>⟨pre,k,[],s,g,d,D,λ_ _ _ _ h=>by cases h⟩
 | (i,A,cs)::r,pre,k,s,g,d,D=>by
  have C:=lV D.chk;by_cases hk:2<=bB ops.toList i
  .exact⟨pre,k,_,s,g,d,D,λI _ _ _ h=>by cases h;exact hk⟩
  .have b:=D.run;unfold fD at b;cases ho:ops.toList[i]? with
   | none=>rw [ho]at b;exact b.elim
   | some o=>
    rw [ho]at b;obtain⟨hm,b⟩:=b;have B:=AP ho;split at b
    .rename_i h0;obtain⟨v,y,q⟩:=aaD _ _ _ _ _ _ b;exact DI.adv e r (D.push e ho ah hm v _ y (λj z=>Oz (Ne.symm z)) (.inl ⟨h0,by simp [qJ],q⟩))
    .rename_i h0;obtain⟨v,y,q⟩:=ale _ _ _ _ _ b;have H:=C.guard ah ah;have p:o.guard=none:=by simpa [AL,ho]using H
     refine DI.adv e r (D.push e ho ah hm v _ y (λj z=>rfl) (.inr ⟨h0,p,?_⟩));have:(λu=>v=u)=(λu=>u=v):=by funext x;simp [eq_comm]
     rw [this];exact q
    .omega
    .rename_i h1 h2 h3;have:kindOf o.op=0\/kindOf o.op=1:=by omega
     rcases this with h | h
     .exact absurd h h1
     .exact absurd h h2
end
end Go.AE
namespace Go.AE
open Go
variable [aB]
section
variable {E:Tab} {G:o9} {ops:Array Oper} {K:St->Prop} {s0:St} {c0:Ctx} {w0:World} {h0:Heap} {pre:List Nat} {lm:Option Nat} {suf:List fM} {s:St} {hs:List Held}
 {val:Nat->Option PV} {pb:Nat->Nat} {L:Array Bool} {c:Ctx} {w:World} {a:Act}
theorem DI.reg{i:Nat}{rs cs:List Nat}{r:List fM}(D:DI E G ops K s0 c0 w0 h0 pre lm ((i,rs,cs)::r) s hs val pb L c w a)(a0:bY ops.toList=true)(hk:bB ops.toList i=2)(T:Lst L i):
  ∃s' N c',DI E G ops K s0 c0 w0 h0 (i::pre) lm r s' hs N pb L c' w a:=by
 have C:=lV D.chk;obtain⟨o,ty,y,d,vs,Et,Q,Y,hy,O,hu,hb,hz,a4,a6,a3⟩:=D.rW i T C.new;have f:=D.run;unfold fD at f;rw [Q]at f;obtain⟨hm,f⟩:=f;have n:kindOf o.op=2:=by grind [AP]
 rw [n]at f;simp only [iB,Y,hy,aD]at f;obtain⟨a9,f⟩:=f;have B:uJ ops.toList (lN (masks ops.toList)) (i::pre) lm r=true:=by have:=C.rest;simp_all
 rw [<-D.cn]at f;obtain⟨R,pn,pk,V⟩:= @QT _ {s with h:=(c.n,.box y.zero)::s.h,k:=s.k+1} o.dst (some (.c (.ptr c.n y.size 0 0)));have A:=c.qH (some (pb i));have hO:jM (c.name (some (pb i))) w c.n (.box y.zero):=⟨pb i,vs.toList,Et,by simp [Ctx.nameAt,upd],hb,hz _ _⟩;have H':=D.heap.reg hO a4 a6;have S:look s.h c.n=none:=by
  cases hx:look s.h c.n with
  | none=>rfl
  | some F=>exact absurd (D.heap.obj _ _ hx).1 (Nat.lt_irrefl _)
 have mono:∀ {u:Value} {v:PV},bK c w u v->bK (c.name (some (pb i))) w u v:=λh=>h.mono A (λ_ _ _=>rfl) (.refl _)
 refine⟨_,λj=>if j=i then some (.c (.ptr c.n y.size 0 0))else val j,c.name (some (pb i)),{
  run:=f
  chk:=B
  cov:=λj I=>by
   rcases D.cov j I with h | h
   all_goals grind
  done:=λj g n=>by
   rcases List.mem_cons.1 g with rfl | g
   .exact T
   .exact D.done j g n
  only:=λj I=>(D.only j I).imp (List.mem_cons_of_mem _) id
  closed:=D.closed,size:=D.size
  s1:=λj x J g n Z H=>by
   by_cases e:j=i
   .subst e;simp only [if_true,Option.some.injEq]at H;subst H;rw [bE Q,O]at g;cases g;refine⟨_,hu,?_⟩;have:=bQ.ptr (c:=c.name (some (pb j))) (w:=w) c.n y.size 0 0 (pb j) 0 (Nat.lt_succ_self _) (by simp [Ctx.nameAt,upd]);exact .c _ _ (by simpa using this)
   .simp only [e,if_false]at H;obtain⟨u,a1,a2⟩:=D.s1 j x J g n ((List.mem_cons.1 Z).resolve_left e) H;simp_all
  s2:=λx J g n=>let⟨u,a1,a2⟩:=D.s2 x J g n;⟨u,a1,mono a2⟩
  t1:=λj x g n=>by
   by_cases e:j=i
   .grind [bE,Cy]
   .rw [if_neg e,yg (λd hd q=>lU a0 ((bE Q).trans hd) g (Ne.symm e) q)];exact D.t1 j x g ((List.mem_cons.1 n).resolve_left e)
  t2:=λx g=>by
   rw [yg (λd hd q=>g i (by rw [bE Q,hd,q]) (by simp))];exact D.t2 x (λj I p=>g j I (List.mem_cons_of_mem _ p))
  pend:=λj g n=>by
   have e:j≠i:=λe=>n (e▸T)
   obtain⟨o',t,p1,W,U,p4⟩:=D.pend j ((List.mem_cons.1 g).resolve_left e) n;refine⟨o',t,p1,by rw [V];exact W,λx J hv=>Src.mono C.new _ (U x J hv),?_⟩
   grind [aaL]
  rW:=λj g n=>by
   have e:j≠i:=λe=>n (e▸List.mem_cons_self)
   obtain⟨o',ty,y',d,vs,Et,p1,W,U,p4,p5,p6,p7,p8,p9,a5⟩:=D.rW j g (λp=>n (List.mem_cons_of_mem _ p));refine⟨o',ty,y',d,vs,Et,p1,W,U,p4,p5,p6,p7,?_,p9,a5⟩;rw [R];rintro⟨l,F,z,X,P⟩;by_cases q:c.n=l
   .subst q;have:(c.name (some (pb i))).μ c.n=some (pb i):=by simp [iO,upd]
    rw [this]at P;exact e (D.dist j i g (λp=>n (List.mem_cons_of_mem _ p)) T C.new (Option.some.inj P).symm)
   .rw [aC _ _ q]at z;exact p8 ⟨l,F,z,X,by rw [<-A.μ l (D.heap.obj l F z).1];exact P⟩
  dist:=λj k g n Z H=>D.dist j k g (λp=>n (List.mem_cons_of_mem _ p)) Z (λp=>H (List.mem_cons_of_mem _ p))
  heap:=by rw [R];exact H'
  glob:=D.glob
  grow:=by rw [R];exact D.grow.reg D.heap a3
  cn:=by
   rw [pn,pk];show c.n+1=nm s.n (s.k+1);rw [D.cn];simp [nm,Nat.add_assoc]
  defers:=D.defers
  nQ:=by rw [V];exact D.nQ
  sn:=by rw [pn];exact D.sn
  sm:=by rw [V];exact D.sm
  ms:=D.ms
  mp:=λm hm a8=>by
   obtain⟨b,M⟩:=D.mp m hm a8;obtain⟨es,a7,e1,e2⟩:=M.obj;refine⟨b,⟨M.slot,⟨es,a7,e1,e2⟩,?_,M.nk,M.ge,M.mv⟩⟩;rw [R];rintro⟨l,F,z,X,P⟩;by_cases q:c.n=l
   .subst q;have:(c.name (some (pb i))).μ c.n=some (pb i):=by simp [iO,upd]
    simp_all
   .rw [aC _ _ q]at z;exact M.no ⟨l,F,z,X,by rw [<-A.μ l (D.heap.obj l F z).1];exact P⟩}⟩
theorem YV{E:Tab}{b:List Oper}{h:Heap}{c:List Held}{j:Nat}:∀ {cs:List Nat},QS E b h c cs->j∈cs->∀ {o:Oper} {t:Slots} {v:Option PV},qJ c j=some (o,t,v)->jd E b o t h (λd=>d=v)
 | [],_,a,_,_,_,_=>by cases a
 | x::cs,hr,a,o,t,v,hf=>by
  rcases List.mem_cons.1 a with rfl | a
  .have:=hr.1;simp_all
  .exact YV hr.2 a hf
theorem DI.step{i:Nat}{rs cs:List Nat}{r:List fM}(D:DI E G ops K s0 c0 w0 h0 pre lm ((i,rs,cs)::r) s hs val pb L c w a)
  (z:bY ops.toList=true) (hk:bB ops.toList i=3) {o:Oper} (y:ops.toList[i]? =some o) (hd:∀e∈o.after.toList,Region.binds .any e=true->Lst L e.on) (hm:dOK s.m o.dst)
  {u:Value} {v:PV} {J:Ctx} {R:World} {h':Heap} {k':Nat} (g:Grow c w s.h J R h') (H:bL J R h') (hn:J.n=nm s.n k') (F:bK J R u v)
  (a5:∀j n t,j∈pre->¬Lst L j->ops.toList[j]? =some n->isLoad n.op=true->qJ hs j=some (n,t,val j)->jd E ops.toList n t s.h (λp=>p=val j)->jd E ops.toList n t h' (λp=>p=val j))
  (M:fD E G ops.toList r hs K (St.put {s with h:=h',k:=k'} o.dst (some v))):
  DI E G ops K s0 c0 w0 h0 (i::pre) (if bB ops.toList i=3 then some i else lm) r (St.put {s with h:=h',k:=k'} o.dst (some v)) hs (λj=>if j=i then some v else val j) pb (L.setIfInBounds i true) J R (a.put o.dst u):=by
 have C:=lV D.chk;have T:¬Lst L i:=λP=>(D.only i P).elim C.new (λh=>by omega)
 have l:i<L.size:=by rw [D.size];simpa using C.lt
 obtain⟨N,pn,pk,Y⟩:= @QT _ {s with h:=h',k:=k'} o.dst (some v);have I:∀j r u,gslot ops.toList j=some r->j≠i->(a.put o.dst u).tmps[r]? =a.tmps[r]? :=λj r u m X=>pE (λd hd e=>lU z ((bE y).trans hd) m (Ne.symm X) e)
 exact {
  run:=M
  chk:=C.rest
  cov:=λj m=>by
   rcases D.cov j m with h | h
   all_goals grind
  done:=λj b f=>(aZ l).2 (by
   rcases List.mem_cons.1 b with rfl | b
   .exact .inl rfl
   .exact .inr (D.done j b f))
  only:=λj m=>by
   rcases(aZ l).1 m with rfl | m
   .simp_all
   .exact(D.only j m).imp (List.mem_cons_of_mem _) id
  closed:=D.closed.set y l hd
  size:=by simp [D.size]
  s1:=λj x p b f Z B=>by
   by_cases e:j=i
   .subst e;simp only [if_true,Option.some.injEq]at B;subst B;rw [bE y]at b;refine⟨u,?_,F⟩;rw [b]at hm ⊢;exact wC (by rw [D.nQ];exact hm)
   .simp only [e,if_false]at B;obtain⟨U,a1,a2⟩:=D.s1 j x p b (((aZ l).1 f).resolve_left e) ((List.mem_cons.1 Z).resolve_left e) B;exact⟨U,by grind,a2.grow D.heap g⟩
  s2:=λx p b f=>by
   obtain⟨U,a1,a2⟩:=D.s2 x p (λj m P=>b j m ((aZ l).2 (.inr P))) f;exact⟨U,by rw [pE (λd hd e=>b i (by rw [bE y,hd,e]) ((aZ l).2 (.inl rfl)))];exact a1,a2.grow D.heap g⟩
  t1:=λj x b f=>by
   by_cases e:j=i
   .grind [bE,Cy]
   .rw [if_neg e,yg (λd hd O=>lU z ((bE y).trans hd) b (Ne.symm e) O)];exact D.t1 j x b ((List.mem_cons.1 f).resolve_left e)
  t2:=λx b=>by
   rw [yg (λd hd O=>b i (by rw [bE y,hd,O]) (by simp))];exact D.t2 x (λj m A=>b j m (List.mem_cons_of_mem _ A))
  pend:=λj b f=>by
   have e:j≠i:=λe=>f ((aZ l).2 (.inl e))
   have a0:¬Lst L j:=λP=>f ((aZ l).2 (.inr P))
   have V:=(List.mem_cons.1 b).resolve_left e;obtain⟨n,t,Q,p2,p3,S⟩:=D.pend j V a0;refine⟨n,t,Q,by rw [Y];exact p2,λx p hv=>Src.mono C.new _ (p3 x p hv),?_⟩;simp only [e,if_false];rw [N];rcases S with⟨q1,W,q3⟩ | q
   .refine .inl ⟨q1,W,?_⟩;by_cases a4:isLoad n.op=true
    .simp_all
    .show jd E ops.toList n t h' _;rw [<-QL (by simpa using a4) t s.h h'];exact q3
   .exact .inr q
  rW:=λj b f=>by
   have e:j≠i:=λe=>f (e▸List.mem_cons_self)
   obtain⟨n,ty,y',d,vs,Et,Q,p2,p3,S,p5,p6,p7,p8,p9,a3⟩:=D.rW j (((aZ l).1 b).resolve_left e) (λA=>f (List.mem_cons_of_mem _ A));obtain⟨q1,W,q3⟩:=x9 g p6 p8 p9;exact⟨n,ty,y',d,vs,Et,Q,p2,p3,S,by rw [I j d u ((bE Q).trans S) e];exact p5,q1,p7,by rw [N];exact W,q3,a3⟩
  dist:=λj k b f Z B=>by
   have e:j≠i:=λe=>f (e▸List.mem_cons_self)
   have O:k≠i:=λe=>B (e▸List.mem_cons_self)
   exact D.dist j k (((aZ l).1 b).resolve_left e) (λA=>f (List.mem_cons_of_mem _ A)) (((aZ l).1 Z).resolve_left O) (λA=>B (List.mem_cons_of_mem _ A))
  heap:=by rw [N];exact H
  glob:=D.glob.grow D.heap g
  grow:=by rw [N];exact D.grow.trans g
  cn:=by simp_all
  defers:=by rw [put_defers];exact D.defers
  nQ:=by rw [FN,Y];exact D.nQ
  sn:=by rw [pn];exact D.sn
  sm:=by rw [Y];exact D.sm
  ms:=D.ms
  mp:=by rw [N];exact D.mp.keep D.ms z D.closed l y T (FQ (by grind [AP])) g}
theorem DI.mut(hE:aI E)(O:qY E G){Q:Exit->Act->World->Prop}{i:Nat}{I cs:List Nat}{r:List fM}(D:DI E G ops K s0 c0 w0 h0 pre lm ((i,I,cs)::r) s hs val pb L c w a)
  (B:bY ops.toList=true) (hk:bB ops.toList i=3) {o:Oper} (F:ops.toList[i]? =some o) (hd:∀e∈o.after.toList,Region.binds .any e=true->Lst L e.on) {next:Act->World->Prop} (hm:dOK s.m o.dst)
  (b:aaF E G o (cut s.t I) s λv h k=>QS E ops.toList h hs cs/\fD E G ops.toList r hs K (St.put {s with h:=h,k:=k} o.dst (some v)))
  (d:∀q N f x m u,DI E G ops K s0 c0 w0 h0 (i::pre) q r N hs f pb (L.setIfInBounds i true) x m (a.put o.dst u)->next (a.put o.dst u) m):o.wp E.P a w next Q:=by
 have C:=lV D.chk;have n:¬Lst L i:=λS=>(D.only i S).elim C.new (λh=>by omega)
 have A:=D.src F n hd (D.rd C.new C.rd) s.h D.heap;refine QM hE O A D.cn o ?_ b;rintro u v x m V U g H hn l ⟨z,b⟩;refine d _ _ _ x m u (D.step B hk F hd hm g H hn l (λj W t p y T R J X=> ?_) b);rcases C.three hk j p (by grind [loadAt])with hx | hx
 .exact absurd (nP D.closed (lC hx) (λM P=>by simp_all)) y
 .exact YV z hx J
theorem YW{b:List Oper}{anc:Nat->Nat->Bool}{q:Nat}:∀ {c:List fM} {pre:List Nat} {d:Option Nat},uJ b (lN (masks b)) pre d c=true->q∈c.map (·.1)->q∉pre
 | [],_,_,_,a=>by cases a
 | (i,rs,cs)::r,pre,d,h,a=>by
  have C:=lV h;simp only [List.map_cons,List.mem_cons]at a;rcases a with rfl | a
  .exact C.new
  .exact λe=>YW (anc:=anc) C.rest a (List.mem_cons_of_mem _ e)
theorem EC{a:List Oper}{i:Nat}(hk:bB a i≠2):∀ {b:List fM} {pre:List Nat} {d:Option Nat},uJ a (lN (masks a)) pre d b=true->i∈b.map (·.1)->
  (∃q,q∈b.map (·.1)/\bB a q=3/\lN (masks a) i q=true)\/∀q,d=some q->lN (masks a) i q=true
 | [],_,_,_,c=>by cases c
 | (x,rs,cs)::r,pre,d,h,c=>by
  have C:=lV h;simp only [List.map_cons,List.mem_cons]at c;rcases c with rfl | c
  .exact .inr (C.after.resolve_left hk)
  .rcases EC hk C.rest c with⟨q,h1,h2,h3⟩ | h1
   all_goals grind
theorem Ku{ops:List Oper}{i:Nat}(hk:bB ops i<=1):∀ {a:List fM} {pre:List Nat} {g:Option Nat},uJ ops (lN (masks ops)) pre g a=true->i∈a.map (·.1)->(∀x c cs r,a=(x,c,cs)::r->bB ops x=2\/bB ops x=3)->
  ∃q,q∈a.map (·.1)/\bB ops q=3/\lN (masks ops) i q=true
 | [],_,_,_,b,_=>by cases b
 | (x,c,cs)::r,pre,g,h,b,hh=>by
  have C:=lV h;simp only [List.map_cons,List.mem_cons]at b ⊢;have d:=hh x c cs r rfl;have f:i≠x:=λe=>by subst e;omega
  have b:=b.resolve_left f;rcases d with d | d
  .have hn:=(C.two d).1;have m:∀y c cs j,r=(y,c,cs)::j->bB ops y=2\/bB ops y=3:=λy c cs j e=>by grind [DR]
   obtain⟨q,k,n,l⟩:=Ku hk C.rest b m
   grind
  .rcases EC ah C.rest b with⟨q,k,n,l⟩ | k
   all_goals grind
theorem OA{a:List Oper}{i x:Nat}(hk:bB a i=3):∀ {r:List fM} {pre:List Nat} {d:Option Nat},uJ a (lN (masks a)) pre d r=true->i∈r.map (·.1)->DR a (lN (masks a)) x r=true->
  lN (masks a) i x=true\/∃q,q∈r.map (·.1)/\bB a q=3/\lN (masks a) i q=true
 | [],_,_,_,b,_=>by cases b
 | (y,rs,cs)::r,pre,d,h,b,hn=>by
  have C:=lV h;simp only [List.map_cons,List.mem_cons]at b ⊢;unfold DR at hn;split at hn
  .rename_i hy;have b:=b.resolve_left (λe=>by subst e;omega);rcases OA hk C.rest b hn with c | ⟨q,c,f,g⟩
   all_goals grind
  .simp only [Bool.and_eq_true,beq_iff_eq]at hn;rcases b with rfl | b
   .exact .inl hn.2
   .rcases EC ah C.rest b with⟨q,c,f,g⟩ | c
    all_goals grind
end
end Go.AE
namespace Go.AE
open Go
variable [aB]
theorem YX{a:List Oper}{j:Nat}{k:Int}{r:Nat}(h:pz a j k r):(k,r)∈nu a:=by
 obtain⟨o,ty,x,c,b⟩:=h;unfold nu;rw [List.mem_filterMap];exact⟨o,List.mem_of_getElem? c,by unfold DN;rw [b]⟩
theorem abI{o:Oper}{k:Int}{r:Nat}(h:DN o=some (k,r)):∃ty x,o.op= .insert ty x (.const (.int .i64 k)) (.tmp r):=by grind [DN]
theorem aiv{a:List Oper}{k:Int}{r:Nat}(h:(k,r)∈nu a):∃j,pz a j k r:=by
 unfold nu at h;rw [List.mem_filterMap]at h;obtain⟨o,c,b⟩:=h;obtain⟨j,d⟩:=List.mem_iff_getElem?.1 c;obtain⟨ty,x,e⟩:=abI b;exact⟨j,o,ty,x,d,e⟩
theorem FR:∀ {c:List Oper} {i j:Nat} {k:Int} {r f:Nat},((nu c).map Prod.fst).Nodup->pz c i k r->pz c j k f->i=j/\r=f
 | [],i,_,_,_,_,_,h,_=>by obtain⟨o,ty,x,p,_⟩:=h;simp at p
 | o::c,i,j,k,r,f,hn,h,h'=>by
  have l:∀ {j:Nat} {r:Nat},pz (o::c) (j+1) k r->pz c j k r:=λ⟨m,ty,x,a,b⟩=>⟨m,ty,x,by simpa using a,b⟩
  have s:∀ {r:Nat},pz (o::c) 0 k r->DN o=some (k,r):=λ⟨m,ty,x,a,b⟩=>by grind [DN]
  have d:((nu c).map Prod.fst).Nodup:=by grind [nu,DN,List.filterMap_cons_none,List.filterMap_cons_some,List.nodup_cons]
  have g:∀ {j:Nat} {r f:Nat},DN o=some (k,r)->pz c j k f->False:=λe n=>by
   unfold nu at hn;rw [List.filterMap_cons_some e,List.map_cons]at hn;exact(List.nodup_cons.1 hn).1 (List.mem_map.2 ⟨_,YX n,rfl⟩)
  cases i with
  | zero=>
   cases j with
   | zero=>grind
   | succ j=>grind
  | succ i=>
   cases j with
   | zero=>grind
   | succ j=>
    obtain⟨q,t⟩:=FR d (l h) (l h');omega
theorem FT{t:Slots}{n:Int}:∀ {l:List (Int×Nat)} {K:Bool->Prop},FH t n l K->(K false/\∀r,(n,r)∉l)\/∃r f b,(n,r)∈l/\aY t r=some (.c (.d f (.bool b)))/\K b
 | [],K,h=> .inl ⟨h,λr c=>by cases c⟩
 | (k',r)::rest,K,h=>by
  obtain⟨f,b,k,a⟩:=h;by_cases e:n=k'
  .grind
  .rw [if_neg e]at a;rcases FT a with⟨d,g⟩ | ⟨j,o,m,d,g,i⟩
   all_goals grind
section
variable {E:Tab} {G:o9} {ops:Array Oper} {K:St->Prop} {s0:St} {c0:Ctx} {w0:World} {h0:Heap} {pre:List Nat} {lm:Option Nat} {suf:List fM} {s:St} {hs:List Held}
 {val:Nat->Option PV} {pb:Nat->Nat} {L:Array Bool} {c:Ctx} {w:World} {a:Act}
theorem DI.one(D:DI E G ops K s0 c0 w0 h0 pre lm suf s hs val pb L c w a)(b:bY ops.toList=true){i m:Nat}(d:qZ ops.toList i=true)(hm:qZ ops.toList m=true):m=i:=by
 by_cases e:m=i
 .exact e
 .exact absurd rfl (lU b (D.ms.gD hm) (D.ms.gD d) e)
theorem AQ{a:Act}{r:Nat}{u:Value}(h:a.tmps[r]? =some u):a.eval (.tmp r)=u:=by
 simp [Act.eval,h]
theorem DI.mkM(D:DI E G ops K s0 c0 w0 h0 pre lm suf s hs val pb L c w a)(g:bY ops.toList=true){i:Nat}{o:Oper}(F:ops.toList[i]? =some o)(N:i∈pre)(t:¬Lst L i)(hd:∀e∈o.after.toList,Region.binds .any e=true->Lst L e.on)
  (hm:dOK s.m o.dst) {ty:TypeId} {r:Option Operand} (p:o.op= .makeMap ty r) (Q:val i=none):∃u w',(execOp a.eval o).run E.P w= .ok (.value u) w'/\DI E G ops K s0 c0 w0 h0 pre lm suf s hs val pb (L.setIfInBounds i true) c w' (a.put o.dst u):=by
 have S:=D.ms;obtain⟨rfl,l⟩:=S.mkm i o ty r F p;have I:i<L.size:=by rw [D.size];grind
 have n:qZ ops.toList i=true:=by grind [qZ]
 have C:=side (w':=w.alloc (.map #[] 0)) D.heap (K:=c.K) (Nat.le_of_lt (lt_of_some (jN _ _))) (λb y=>alloc_old y) (qI _ _) (λ_ _ h=>h) (λ_ _ h=> .inl h)
  (λf b y=>Nat.lt_of_lt_of_le (D.heap.low f b y) (Nat.le_of_lt (lt_of_some (jN _ _)))) D.heap.sub rfl rfl rfl
 have no:∀j,Lst (L.setIfInBounds i true) j->j≠i->(∃m,qZ ops.toList m=true/\Reach ops.toList j m)->False:=λj H x ⟨m,P,J⟩=>by
  have:=rV D.closed J (((aZ I).1 H).resolve_left x);rw [D.one g n P]at this;exact t this
 refine⟨.map (some w.heap.size),w.alloc (.map #[] 0),by simp [execOp,p,run_makeMap],D.Lv g F N hd hm C.2 C.1 rfl (λv h=>by simp_all) λm z H=> ?_⟩;have:=D.one g n z;subst this;refine⟨w.heap.size,⟨?_,⟨#[],0,jN _ _,λe M=>by simp at M,λj k r q d=> ?_⟩,λB=>absurd (D.heap.lt B) (Nat.lt_irrefl _),λf O=>absurd (D.heap.low f _ O) (Nat.lt_irrefl _),D.grow.size,λj q d=> ?_⟩⟩
 .rw [l]at hm ⊢;exact wC (by rw [D.nQ];exact hm)
 .exfalso;refine no j d (λe=> ?_) ?_
  .subst e;have:=AO q
   grind [wB]
  .obtain⟨o',ty',x',q1,q2⟩:=q;obtain⟨_,_,_,_,_,_,_,A,_⟩:=S.ins j o' ty' x' _ _ q1 q2;exact A
 .exfalso;refine no j d (λe=> ?_) ?_
  .grind [Cw]
  .obtain⟨o',x',q1,q2,A⟩:=YT q;exact(S.mv j o' x' q1 q2 A).2.2
theorem DI.mvM(D:DI E G ops K s0 c0 w0 h0 pre lm suf s hs val pb L c w a)(t:bY ops.toList=true){i:Nat}{o:Oper}(p:ops.toList[i]? =some o)(Z:i∈pre)(l:¬Lst L i)(hd:∀e∈o.after.toList,Region.binds .any e=true->Lst L e.on)
  (hm:dOK s.m o.dst) {x:Operand} (y:o.op= .move x) (hx:nK x=true) (hv:val i=none):∃u Q,(execOp a.eval o).run E.P w= .ok (.value u) Q/\DI E G ops K s0 c0 w0 h0 pre lm suf s hs val pb (L.setIfInBounds i true) c Q (a.put o.dst u):=by
 have S:=D.ms;obtain⟨rfl,n,m,f,B⟩:=S.mv i o x p y hx;have P:i<L.size:=by rw [D.size];grind
 have U:Cw ops.toList i=true:=by grind [Cw]
 have O:=nP D.closed B (λo' a0=>by simp_all);obtain⟨b,M⟩:=D.mp m f O;have F:∀j r u,gslot ops.toList j=some r->j≠i->(a.put o.dst u).tmps[r]? =a.tmps[r]? :=λj r u g C=>pE (λd hd e=>lU t ((bE p).trans hd) g (Ne.symm C) e)
 have N:∀ {m},qZ ops.toList m=true->m≠i:=λh e=>by grind [qZ]
 have J:∀ {j k r},pz ops.toList j k r->j≠i:=λh e=>by
  subst e;have:=AO h;grind [wB]
 refine⟨.map (some b),w,by simp [execOp,y,AQ M.slot],D.Lv t p Z hd hm (.refl _ _ _) D.heap rfl (λv h=>by simp_all) λm' Y hl=> ?_⟩;obtain⟨R,H,V,T,X⟩:=M.obj;refine⟨b,⟨by rw [F m _ _ (S.gD f) (N f)];exact M.slot,⟨R,H,V,λe W=> ?_,λj k r g q=> ?_⟩,M.no,M.nk,M.ge,λj g q=> ?_⟩⟩
 .obtain⟨j,k,r,A,z,I,q4⟩:=T e W;exact⟨j,k,r,A,(aZ P).2 (.inr z),I,by rw [pE (λd hd e=>l (rV D.closed (S.reads A ((bE p).trans (hd.trans (congrArg some e)))) z))];exact q4⟩
 .have hl2:=((aZ P).1 q).resolve_left (J g);obtain⟨e,A,z,I⟩:=X j k r g hl2;exact⟨e,A,z,by rw [pE (λd hd e=>l (rV D.closed (S.reads g ((bE p).trans (hd.trans (congrArg some e)))) hl2))];exact I⟩
 .rw [n]at hm ⊢;exact wC (by rw [D.nQ];exact hm)
theorem DI.lkM(D:DI E G ops K s0 c0 w0 h0 pre lm suf s hs val pb L c w a)(P:bY ops.toList=true){i:Nat}{o:Oper}(Z:ops.toList[i]? =some o)(hp:i∈pre)(C:¬Lst L i)(hd:∀e∈o.after.toList,Region.binds .any e=true->Lst L e.on)
  (hm:dOK s.m o.dst) {t:Slots} (A:rO E c w t s.h a) {ty:TypeId} {x:Operand} {q:Nat} {ok:Bool} (g:o.op= .lookup ty x (.tmp q) ok) (hv:zM E ops.toList o.op t (λv=>val i=v)):∃u w',(execOp a.eval o).run E.P w= .ok (.value u) w'/\DI E G ops K s0 c0 w0 h0 pre lm suf s hs val pb (L.setIfInBounds i true) c w' (a.put o.dst u):=by
 have S:=D.ms;obtain⟨rfl,rfl,_,O,⟨m,T,F⟩,⟨mv,Q,I⟩,y⟩:=S.lk i o ty x _ ok Z g;have X:∀ {j},Reach ops.toList i j->Lst L j:=λh=>nP D.closed h (λo' a5=>by simp_all)
 obtain⟨b,M⟩:=D.mp m T (X F);have hE:=M.mv mv Q (X I);rw [g]at hv;obtain⟨f,n,hq,hg⟩:=hv;obtain⟨uq,a4,B⟩:=A.slot q _ hq;have:=iN B;subst this;obtain⟨es,a3,e1,e2,e3⟩:=M.obj;obtain⟨u,a0,p⟩:=QO O e1 (k:=n) (λe N=>by grind);have hb:∃l,u= .bool l/\val i=some (.c (.d true (.bool l))):=by
  rcases FT hg with⟨Y,R⟩ | ⟨r,f',l,Y,R,g3⟩
  .refine⟨false,?_,Y⟩;rcases p with⟨p,_⟩ | ⟨e,N,hk,_⟩
   .exact p
   .exfalso;obtain⟨j,k,r,V,_,d,_⟩:=e2 e N;rw [hk]at d;injection d with _ d;subst d;exact R r (YX V)
  .refine⟨l,?_,g3⟩;obtain⟨j,H⟩:=aiv Y;obtain⟨e,N,hk,hr⟩:=e3 j n r H (X (y j (AO H)));obtain⟨ur,a2,W⟩:=A.slot r _ R;have:=lT W;subst this;rcases p with⟨_,p⟩ | ⟨e',J,U,a1⟩
   .simp_all
   .obtain⟨j',k',r',V,_,d,q4⟩:=e2 e' J;rw [U]at d;injection d with _ d;subst d;obtain⟨_,q5⟩:=FR S.nd V H;simp_all
 obtain⟨l,rfl,z⟩:=hb;refine⟨.bool l,w,by simp_all [execOp,AQ],D.listed P Z hp C (by rw [g];rfl) hd hm (.refl _ _ _) D.heap rfl λv h=> ?_⟩;rw [z]at h;cases h;exact .c _ _ (.d _ _ _ (.bool _))
theorem DI.at5(D:DI E G ops K s0 c0 w0 h0 pre lm suf s hs val pb L c w a)(a5:bY ops.toList=true){i:Nat}{o:Oper}(Z:ops.toList[i]? =some o)(hp:i∈pre)(b1:¬Lst L i)(hd:∀e∈o.after.toList,Region.binds .any e=true->Lst L e.on)
  (hm:dOK s.m o.dst) {t:Slots} (A:rO E c w t s.h a) {ty:TypeId} {x k v:Operand} (I:o.op= .insert ty x k v) (hv:zM E ops.toList o.op t (λv=>val i=v)):∃w',(execOp a.eval o).run E.P w= .ok .skip w'/\DI E G ops K s0 c0 w0 h0 pre lm suf s hs val pb (L.setIfInBounds i true) c w' a:=by
 have S:=D.ms;obtain⟨B,n,r,rfl,rfl,rfl,a0,⟨m,a7,U⟩,_⟩:=S.ins i o ty x k v Z I;have hi:i<L.size:=by rw [D.size];grind
 have a3:=nP D.closed U (λo' b4=>by simp_all);obtain⟨b,M⟩:=D.mp m a7 a3;rw [I]at hv;obtain⟨⟨p,a4⟩,hv⟩:=hv;obtain⟨ur,a6,_⟩:=A.slot r _ a4;have own:pz ops.toList i n r:=⟨o,ty,_,Z,I⟩;obtain⟨es,z,e1,e2,e3⟩:=M.obj;have Q:=QN a0 e1 (k:=n) (v:=ur) (λe he=>by grind) (λe he hk=>by
  obtain⟨j,k',r',q1,q2,R,_⟩:=e2 e he;rw [hk]at R;injection R with _ R;subst R;obtain⟨q4,_⟩:=FR S.nd q1 own;simp_all)
 generalize hw:({w with heap:=w.heap.setIfInBounds b (.map (es.push {key:= .int .i64 n,val:=ur,born:=z}) (z+1))}:World)=w' at Q;refine⟨w',?_,?_⟩
 .have h1:=AQ M.slot;have h2:=AQ a6;have T:a.eval (.const (.int .i64 n))= .int .i64 n:=rfl;simp_all [execOp]
 have a9:=lt_of_some e1;have y:∀q,q≠b->w'.heap[q]? =w.heap[q]? :=λq O=>by grind
 have J:w'.heap[b]? =some (.map (es.push {key:= .int .i64 n,val:=ur,born:=z}) (z+1)):=by grind
 have N:w'.heap.size=w.heap.size:=by subst hw;simp
 have X:∀ {q:Nat} {vs:Array Value} {Et:TypeId} {W:Nat×Nat},w.heap[q]? =some (.cells vs Et W)->q≠b:=λh e=>by simp_all
 have hK:∀f q,c.K f q->w'.heap[q]? =w.heap[q]? :=λf q h=>y q (λe=>by subst e;exact M.nk f h)
 have hO:∀q,fP c s.h q->w'.heap[q]? =w.heap[q]? :=λq h=>y q (λe=>by subst e;exact M.no h)
 have F:World.jW w w':=Fp λq c' E' W h=>⟨c',W,by grind,rfl⟩
 have C:w'.os=w.os/\w'.tape=w.tape/\w'.output=w.output:=by grind
 have DD:=D.YU (u:=undef) a5 Z hp hd hm (c':=c) (w':=w') (λh=>h.mono (.refl c) hK F) (λh1 h2 T=>⟨by grind,h2,T⟩)
  (λg d hg=>by
   obtain⟨h1,u,h2,T⟩:=D.glob g d hg;exact⟨h1,u,by grind [qC],T.mono (λ_ h=>h) (hK false)⟩)
  ⟨D.grow.le,by rw [N];exact D.grow.size,D.grow.stays.trans F,λq H hn=>by rw [y q (λe=>by have:=M.ge;omega)];exact D.grow.kept q H hn,D.grow.yT,D.grow.qV,C.1.trans D.grow.os,C.2.1.trans D.grow.tape,C.2.2.trans D.grow.output⟩
  ⟨λl ob hl=>by
   obtain⟨a1,a2⟩:=D.heap.obj l ob hl;exact⟨a1,a2.mono (.refl c) hK F a1 (λq Y a8=>hO q ⟨l,ob,hl,Y,a8⟩)⟩,D.heap.inj,D.heap.own,λf q H=>by rw [N];exact D.heap.low f q H,D.heap.sub⟩
  rfl (λv h=>by simp_all) (λm' b0 b2=> ?_)
 .rw [B]at DD;exact DD
 .have hput:a.put o.dst undef=a:=by rw [B];rfl
  rw [hput];refine⟨b,⟨M.slot,⟨_,_,J,λe he=> ?_,λj k' r' V P=> ?_⟩,M.no,M.nk,M.ge,λj V P=> ?_⟩⟩
  .grind [Array.toList_push,List.mem_singleton,aZ]
  .by_cases e:j=i
   .subst e;obtain⟨o',b3,x',q1,q2⟩:=V;simp_all
   grind [aZ,Array.toList_push]
  .have O:j≠i:=λe=>by grind [Cw]
   exact M.mv j V (((aZ hi).1 P).resolve_left O)
end
end Go.AE
namespace Go.AE
open Go
variable [aB]
section
variable {E:Tab} {G:o9} {ops:Array Oper} {K:St->Prop} {s0:St} {c0:Ctx} {w0:World} {h0:Heap} {pre:List Nat} {lm:Option Nat} {suf:List fM} {s:St} {hs:List Held}
 {val:Nat->Option PV} {pb:Nat->Nat} {L:Array Bool} {c:Ctx} {w:World} {a:Act}
def FU(ops:List Oper)(a:List fM):Prop:=∀x b cs r,a=(x,b,cs)::r->bB ops x=2\/bB ops x=3
theorem aiw(a:Op):kindOf a<=3:=by unfold kindOf;grind
theorem DI.aqM(D:DI E G ops K s0 c0 w0 h0 pre lm suf s hs val pb L c w a)(g:bY ops.toList=true):
  ∃d f aaM m j b,DI E G ops K s0 c0 w0 h0 d f aaM m j b pb L c w a/\FU ops.toList aaM:=by
 obtain⟨at6,q,at7,t,r,aua,k,i⟩:=DI.adv g suf D;refine⟨_,_,_,_,_,_,k,λx n cs o e=> ?_⟩;have:=i x n cs o e;subst e;have l:=lV k.chk;have h:ops.toList[x]? =some (ops.toList[x]'l.lt):=List.getElem?_eq_getElem l.lt;have p:=AP h
 grind [aiw]
theorem aaN{a:List Oper}{x:Nat}{r:List fM}(hn:DR a (lN (masks a)) x r=true):FU a r:=λy c cs b e=>by grind [DR]
theorem DI.no(D:DI E G ops K s0 c0 w0 h0 pre lm suf s hs val pb L c w a){i:Nat}{o:Oper}(l:ops.toList[i]? =some o)(hd:∀e∈o.after.toList,Region.binds .any e=true->Lst L e.on)
  {q:Nat} (b:q∈suf.map (·.1)) (k:bB ops.toList q=3) (d:lN (masks ops.toList) i q=true):False:=by
 have f:=nP D.closed (lC d) (λj g=>by simp_all);rcases D.only q f with h | h
 .exact YW (anc:=λ_ _=>true) D.chk b h
 .omega
theorem DI.toM(j:bY ops.toList=true){i:Nat}{o:Oper}(h:ops.toList[i]? =some o)(hk:bB ops.toList i=3)(hd:∀e∈o.after.toList,Region.binds .any e=true->Lst L e.on):
  ∀(f:List fM) {pre:List Nat} {u:Option Nat} {s:St} {g:Nat->Option PV} {c:Ctx},DI E G ops K s0 c0 w0 h0 pre u f s hs g pb L c w a->FU ops.toList f->i∈f.map (·.1)->
  ∃m p n cs r y b z,DI E G ops K s0 c0 w0 h0 m p ((i,n,cs)::r) y hs b pb L z w a
 | [],_,_,_,_,_,_,_,hq=>by cases hq
 | (x,n,cs)::r,pre,u,s,g,c,D,hh,hq=>by
  have C:=lV D.chk;by_cases e:i=x
  .subst e;exact⟨pre,u,n,cs,r,s,g,c,D⟩
  .have hq':i∈r.map (·.1):=by
    simp only [List.map_cons,List.mem_cons]at hq;exact hq.resolve_left e
   rcases hh x n cs r rfl with l | l
   .have hn:=(C.two l).1;rcases OA hk C.rest hq' hn with d | ⟨q,d,v,t⟩
    .have hl:=nP D.closed (lC d) (λB k=>by rw [h]at k;cases k;exact hd);obtain⟨y,b,z,A⟩:=D.reg j l hl;exact DI.toM j h hk hd r A (aaN hn) hq'
    .exact(D.no h hd (by simp only [List.map_cons,List.mem_cons];exact .inr d) v t).elim
   .rcases EC ah C.rest hq' with⟨q,d,v,t⟩ | d
    .exact(D.no h hd (by simp only [List.map_cons,List.mem_cons];exact .inr d) v t).elim
    .rw [if_pos l]at d;exact(D.no h hd (by simp) l (d x rfl)).elim
theorem DI.fin(g:bY ops.toList=true)(b:∀i,i<ops.size->Lst L i):∀(k:List fM) {pre:List Nat} {l:Option Nat} {s:St} {f:Nat->Option PV} {c:Ctx},DI E G ops K s0 c0 w0 h0 pre l k s hs f pb L c w a->
  ∃m h,Grow c0 w0 h0 m w h.h/\nO E h m w a/\K h
 | [],pre,l,s,f,c,D=>by
  refine⟨c,s,D.grow,⟨⟨λr v q=> ?_,D.heap,D.glob⟩,D.cn,D.defers,D.nQ⟩,D.run⟩;by_cases e:∃j,gslot ops.toList j=some r
  .obtain⟨j,d⟩:=e;have n:j<ops.size:=by grind [Nat.lt_or_ge,gslot,List.getElem?_eq_none]
   have p:j∈pre:=(D.cov j n).resolve_right (by simp);exact D.s1 j r v d (b j n) p (by rw [<-D.t1 j r d p];exact q)
  .have hno:∀j,gslot ops.toList j≠some r:=λj d=>e ⟨j,d⟩
   exact D.s2 r v (λj d=>absurd d (hno j)) (by rw [<-D.t2 r (λj d=>absurd d (hno j))];exact q)
 | (x,rs,cs)::r,pre,l,s,f,c,D=>by
  have C:=lV D.chk;have t:=b x (by simpa using C.lt);have hk:=(D.only x t).resolve_left C.new;obtain⟨h,o,m,u⟩:=D.reg g hk t;exact DI.fin g b r u
def cnt(n:Nat)(L:Array Bool):Nat:=((List.range n).filter λi=> !L.getD i false).length
theorem filter_lt{p q:Nat->Bool}(d:∀x,q x=true->p x=true){i:Nat}(f:p i=true)(e:q i=false):∀ {l:List Nat},i∈l->(l.filter q).length< (l.filter p).length:=by
 have c:∀l:List Nat,(l.filter q).length<=(l.filter p).length:=by
  intro l
  induction l with
  | nil=>simp
  | cons x l b=>grind
 intro l a
 induction l with
 | nil=>cases a
 | cons x l b=>grind
theorem YZ{n:Nat}{L:Array Bool}{i:Nat}(b:i<n)(d:L.size=n)(hn:¬Lst L i):cnt n (L.setIfInBounds i true)<cnt n L:=by
 have a:∀j,Lst (L.setIfInBounds i true) j↔j=i\/Lst L j:=λj=>aZ ah
 refine filter_lt (i:=i) (λx c=> ?_) ?_ ?_ (List.mem_range.2 b)
 .simp only [Bool.not_eq_true']at c ⊢;cases hl:L.getD x false with
  | false=>rfl
  | true=>
   have:Lst (L.setIfInBounds i true) x:=(a x).2 (.inr hl)
   grind [Lst]
 all_goals grind [Bool.not_eq_true',absurd,Lst]
theorem QU(a:ais ops.toList=true)(p:L.size=ops.size)(m:Region.ready .any ops L=[]):∀n i,i<n->i<ops.size->Lst L i:=by
 intro n
 induction n with
 | zero=>intro i h;omega
 | succ n f=>
  intro i j b;by_cases l:Lst L i
  .exact l
  .exfalso;have d:i∈Region.ready .any ops L:=by
    rw [mem_ready];refine⟨?_,ops[i],Array.getElem?_eq_getElem b,λe k o=> ?_⟩
    .grind [Lst,Array.getD_eq_getD_getElem?,Array.getElem?_eq_getElem]
    .unfold ais at a;rw [List.all_eq_true]at a;have c:=a i (List.mem_range.2 (by simpa using b));have g:ops.toList[i]? =some ops[i]:=by simp [b]
     rw [g]at c;simp only [List.all_eq_true,Bool.or_eq_true,Bool.not_eq_true',decide_eq_true_eq]at c;rcases c e (by simpa using k)with h | h
     .simp_all
     .exact f e.on ah ah
   simp_all
theorem aix(hE:aI E)(hG:qY E G)(n:bY ops.toList=true)(a8:ais ops.toList=true)(b2:∀(i:Nat) (o:Oper) (ty:TypeId) (d:Nat),ops.toList[i]? =some o->o.op= .alloc ty->o.dst=some d->d<s0.m/\∃y,E.ty ty=some y){Q:Exit->St->Prop}(hK:K=Q .normal):∀(z:Nat) (L:Array Bool) (a:Act) (w:World),
  cnt ops.size L<=z->(∃pre R m s T J U c,DI E G ops K s0 c0 w0 h0 pre R m s T J U L c w a/\FU ops.toList m)->wpAny E.P .any ops (zf E c0 w0 h0 Q) z L a w:=by
 have fin:∀(L:Array Bool) (a:Act) (w:World),(∃pre R m s T J U c,DI E G ops K s0 c0 w0 h0 pre R m s T J U L c w a/\FU ops.toList m)->(∀i,i<ops.size->Lst L i)->zf E c0 w0 h0 Q .normal a w:=by
  rintro L a w ⟨pre,R,m,s,T,J,U,c,D,_⟩ S;obtain⟨c',s',h1,h2,h3⟩:=D.fin n S m;exact⟨c',s',h1,h2,by simp_all⟩
 intro z
 induction z with
 | zero=>
  intro L a w hc hD;have S:∀i,i<ops.size->Lst L i:=λi hi=>by
   by_cases hl:Lst L i
   .exact hl
   .obtain⟨pre,R,m,s,T,J,U,c,D,_⟩:=hD;have:=YZ hi D.size hl;omega
  refine⟨?_,fin L a w hD S⟩;cases X:Region.ready .any ops L with
  | nil=>rfl
  | cons i r=>
   exfalso;have hi:i∈Region.ready .any ops L:=by rw [X];simp
   grind [mem_ready,Array.getElem?_eq_some_iff,Lst,Array.getD_eq_getD_getElem?,Array.getElem?_eq_getElem]
 | succ z ih=>
  intro L a w hc hD;refine⟨λX=> ?_,λi hi=> ?_⟩
  .obtain⟨pre,R,m,s,T,J,U,c,D,hh⟩:=hD;exact fin L a w ⟨pre,R,m,s,T,J,U,c,D,hh⟩ (λi hi=>QU a8 D.size X (i+1) i (Nat.lt_succ_self _) hi)
  .obtain⟨pre,R,m,s,T,J,U,c,D,hh⟩:=hD;obtain⟨h1,o,h2,b1⟩:=mem_ready.1 hi;have W:=(Array.getElem?_eq_some_iff.1 h2).1;have p:¬Lst L i:=by grind [Lst,Array.getD_eq_getD_getElem?,Array.getElem?_eq_getElem]
   have I:ops.toList[i]? =some o:=by simpa using h2
   have hd:∀e∈o.after.toList,Region.binds .any e=true->Lst L e.on:=λe he hb=>b1 e (by simpa using he) hb
   have a1:cnt ops.size (L.setIfInBounds i true)<=z:=by have:=YZ W D.size p;omega
   have b7:=AP I;unfold wpOp;simp only [h2];rcases Nat.lt_or_ge 1 (bB ops.toList i)with hk | hk
   .by_cases hk2:bB ops.toList i=2
    ·
     have N:i∉pre:=λN=>p (D.done i N hk)
     have M:i∈m.map (·.1):=(D.cov i W).resolve_left N;obtain⟨d,a3,hg⟩:∃d,o.dst=some d/\o.guard=none:=by
      have:∀(m:List fM) (pre:List Nat) (R:Option Nat),uJ ops.toList (lN (masks ops.toList)) pre R m=true->i∈m.map (·.1)->∃d,o.dst=some d/\o.guard=none:=by
       intro m
       induction m with
       | nil=>simp_all
       | cons x r a9=>
        obtain⟨x,rs,cs⟩:=x;intro pre R b0 M;have C:=lV b0;simp only [List.map_cons,List.mem_cons]at M;rcases M with rfl | M
        .have q1:=(C.two hk2).2;have q2:=C.guard ah ah;simp_all [bE,Option.isSome_iff_exists,AL]
        .exact a9 _ _ C.rest M
      exact this m pre R D.chk M
     have F:Region.wanted o (yielded ops a.tmps)=true:=by simp [Region.wanted,hg]
     rw [if_pos F];obtain⟨ty,B⟩:∃ty,o.op= .alloc ty:=by
      have b3:kindOf o.op=2:=by omega
      unfold kindOf at b3
      grind
     obtain⟨hm,y,hy⟩:=b2 i o ty d I B a3;obtain⟨Z,vs,Et,l,g,H,hb,hz⟩:=Jr hE D.heap o B hy a.eval;refine .inl ?_;unfold Oper.wp;rw [l,Oper.upon_value];exact ih _ _ _ a1 ⟨_,_,_,_,_,_,_,_,D.made n I N p hd a3 (by rw [D.sm];exact hm) B hy g H hb hz,hh⟩
    ·
     have a2:bB ops.toList i=3:=by
      have:kindOf o.op<=3:=by unfold kindOf;grind
      omega
     have N:i∉pre:=λN=>p (D.done i N hk)
     have M:i∈m.map (·.1):=(D.cov i W).resolve_left N;obtain⟨a7,b5,rs,cs,r,s',b4,c',V⟩:=D.toM n I a2 hd m hh M;have C:=lV V.chk;have l:=V.run;unfold fD at l;rw [I]at l;obtain⟨hm,l⟩:=l;have h3:kindOf o.op=3:=by omega
     rw [h3]at l;simp only at l;have next:∀a6 s2 aqN c2 w2 u,DI E G ops K s0 c0 w0 h0 (i::a7) a6 r s2 T aqN U (L.setIfInBounds i true) c2 w2 (a.put o.dst u)->wpAny E.P .any ops (zf E c0 w0 h0 Q) z (L.setIfInBounds i true) (a.put o.dst u) w2:=by
      intro a6 s2 aqN c2 w2 u D2;obtain⟨at6,b9,at7,s3,c1,aua,D3,b8⟩:=D2.aqM n
      grind
     cases hgd:o.guard with
     | none=>
      rw [hgd]at l;simp only at l;have F:Region.wanted o (yielded ops a.tmps)=true:=by simp [Region.wanted,hgd]
      rw [if_pos F];exact .inl (V.mut hE hG n a2 I hd hm l next)
     | some g=>
      obtain⟨j,a4⟩:=g;rw [hgd]at l;simp only at l;cases hdj:gslot ops.toList j with
      | none=>rw [hdj]at l;exact l.elim
      | some d=>
      rw [hdj]at l;simp only [DL]at l;have aub:¬Lst L i:=p;have A:=V.src I aub hd (V.rd C.new C.rd) s'.h V.heap;have skip:fD E G ops.toList r T K (s'.put o.dst (some qz))->wpAny E.P .any ops (zf E c0 w0 h0 Q) z (L.setIfInBounds i true) (a.put o.dst undef) w:=λX=>
       next _ _ _ c' w undef (V.step n a2 I hd hm (h':=s'.h) (k':=s'.k) (.refl _ _ _) V.heap V.cn (Ol _ _) (λ_ _ _ _ _ _ _ _ q=>q) X)
      rcases pq l with⟨f,b,hv,hT,hF⟩ | ⟨hv,hF⟩
      .obtain⟨u,hu,X⟩:=A.slot d _ hv;have:=lT X;subst this;have hw:Region.wanted o (yielded ops a.tmps)=(b==a4):=by grind [Region.wanted,zP]
       by_cases e:b=a4
       .rw [if_pos (by simp_all)];exact .inl (V.mut hE hG n a2 I hd hm (hT e) next)
       simp_all
      .obtain⟨u,hu,X⟩:=A.slot d _ hv;have hw:Region.wanted o (yielded ops a.tmps)=false:=by
        have hj:(ops[j]?).bind (·.dst)=some d:=by simpa [gslot]using hdj
        have b6:∀b,u≠ .bool b:=by
         intro b e;subst e;cases X
        grind [Region.wanted,yielded]
       simp_all
   ·
    have N:i∈pre:=by
     rcases D.cov i W with h | h
     .exact h
     .obtain⟨q,q1,q2,P⟩:=Ku hk D.chk h hh;exact(D.no I hd q1 q2 P).elim
    obtain⟨o',t,p1,p2,p3,p4⟩:=D.pend i N p;rw [I]at p1;cases p1;have A:=D.src I p hd p3 s.h D.heap;rcases p4 with⟨q1,q2,P⟩ | ⟨q1,q2,P⟩
    .have a0:DT o.op=false:=FQ (by rw [q1];decide);rcases Ow hE A (ops:=ops) P with⟨hw,u,v,l,a5,hv⟩ | ⟨hw,hv⟩
     .rw [if_pos hw];refine .inl ?_;unfold Oper.wp;rw [l,Oper.upon_value];exact ih _ _ _ a1 ⟨_,_,_,_,_,_,_,_,D.listed n I N p a0 hd p2 (.refl _ _ _) D.heap rfl (λv' Y=>by simp_all),hh⟩
     .rw [if_neg (by rw [hw];simp)];exact ih _ _ _ a1 ⟨_,_,_,_,_,_,_,_,D.listed n I N p a0 hd p2 (.refl _ _ _) D.heap rfl (λv' Y=>by rw [<-hv]at Y;cases Y;exact Ol _ _),hh⟩
    .have F:Region.wanted o (yielded ops a.tmps)=true:=by simp [Region.wanted,q2]
     rw [if_pos F];refine .inl ?_;unfold Oper.wp;have abJ:(∃u Z,(execOp a.eval o).run E.P w= .ok (.value u) Z/\∃c',DI E G ops K s0 c0 w0 h0 pre R m s T J U (L.setIfInBounds i true) c' Z (a.put o.dst u))->Oper.upon E.P o a (wpAny E.P .any ops (zf E c0 w0 h0 Q) z (L.setIfInBounds i true)) (zf E c0 w0 h0 Q) ((execOp a.eval o).run E.P w):=by grind [Oper.upon_value]
     by_cases O:FK o.op=true
     .rw [AJ O]at P;obtain⟨u,c',Z,v,l,g,H,hn,a5,hv⟩:=aaE hE A o P;have a0:DT o.op=false:=by
       cases ho':o.op<;>rw [ho']at O<;>first | rfl | cases O
      exact abJ ⟨u,Z,l,c',D.listed n I N p a0 hd p2 g H hn (λv' Y=>by simp_all)⟩
     .cases B:o.op
      case makeMap ty r=>
       rw [B]at P;obtain⟨u,Z,l,DD⟩:=D.mkM n I N p hd p2 B P
       grind
      case insert ty x k v=>
       obtain⟨Z,l,DD⟩:=D.at5 n I N p hd p2 A B P;rw [l,Oper.upon_skip,(D.ms.ins i o ty x k v I B).1];exact ih _ _ _ a1 ⟨_,_,_,_,_,_,_,_,DD,hh⟩
      case move x=>
       rw [B]at P;obtain⟨u,Z,l,DD⟩:=D.mvM n I N p hd p2 B P.1 P.2
       grind
      case lookup ty x q ok=>
       cases q with
       | tmp q=>
        obtain⟨u,Z,l,DD⟩:=D.lkM n I N p hd p2 A B P
        grind
       | _=>rw [B]at O;exact absurd rfl O
      all_goals (rw [B]at O;exact absurd rfl O)
end
def FV(E:Tab)(m:Nat):List Oper->Prop
 | []=>True
 | o::r=>(match o.op with | .alloc ty=>dOK m o.dst/\aD (E.ty ty) λ_=>True | _=>True)/\FV E m r
theorem DU{E:Tab}{m:Nat}:∀ {l:List Oper},FV E m l->∀(i:Nat) (o:Oper) (ty:TypeId) (d:Nat),l[i]? =some o->o.op= .alloc ty->o.dst=some d->d<m/\∃y,E.ty ty=some y
 | [],_,i,o,ty,d,h,_,_=>by simp at h
 | x::r,hl,i,o,ty,d,h,ho,hd=>by
  cases i with
  | zero=>
   simp at h;subst h;have:=hl.1;rw [ho]at this;simp only at this;rw [hd]at this;obtain⟨y,a,_⟩:=aJ this.2;exact⟨this.1,y,a⟩
  | succ i=>exact DU hl.2 i o ty d (by simpa using h) ho hd
def AU(E:Tab)(m:Nat):List Oper->Bool
 | []=>true
 | o::r=>(match o.op with | .alloc ty=>(match o.dst with | some d=>decide (d<m) | none=>true)&& (E.ty ty).isSome | _=>true)&&AU E m r
theorem FW{E:Tab}{m:Nat}:∀ {l:List Oper},AU E m l=true->FV E m l
 | [],_=>trivial
 | o::r,h=>by
  unfold AU at h;simp only [Bool.and_eq_true]at h;refine⟨?_,FW h.2⟩;have a:=h.1;split
  .rename_i ty ho;rw [ho]at a;simp only [Bool.and_eq_true]at a;refine⟨?_,?_⟩
   .grind [dOK]
   .cases hy:E.ty ty with
    | none=>simp_all
    | some y=>exact trivial
  .exact trivial
def Static(E:Tab)(b:Nat->List fM)(id:Nat)(a:Array Oper)(m:Nat):Prop:=(Lr a.toList (b id)&&AU E m a.toList&&Lu E.P a.toList)=true
def drA(E:Tab)(G:o9)(b:Nat->List fM):ajT:=λid a K s=>
 Static E b id a s.m/\fD E G a.toList (b id) [] K s
theorem alf{E:Tab}(hE:aI E){G:o9}(B:qY E G)(hm:E.P.follows .mixedOrders=true)(l:Nat->List fM):alb E (drA E G l):=by
 rintro id d Q s I K H c w a A g ⟨hc,k⟩;unfold Static Lr at hc;simp only [Bool.and_eq_true]at hc;obtain⟨⟨⟨⟨⟨n,f⟩,avC⟩,p⟩,e⟩,q⟩:=hc
 replace e:=FW e
 refine wp_region_any hm ?_;have b:∀i,¬Lst (Array.replicate d.size false) i:=λi h=>by
  unfold Lst at h;simp only [Array.getD_eq_getD_getElem?,Array.getElem?_replicate]at h
  grind
 have gd:=Grow.drawn c w s.h (w.drawn+1)
 have D:DI E G d (Q .normal) s I K H [] none (l id) s [] (λ_=>none) (λ_=>0) (Array.replicate d.size false) c {w with drawn:=w.drawn+1} a:={
  run:=k
  chk:=p
  cov:=λi N=>by simp_all
  done:=λi h=>by cases h
  only:=λi h=>absurd h (b i)
  closed:=λi o h=>absurd h (b i)
  size:=by simp
  s1:=λj r v _ h=>absurd h (b j)
  s2:=λr v _ h=>let⟨u,L,C⟩:=A.abs.slot r v h;⟨u,L,C.grow A.abs.heap gd⟩
  t1:=λj r _ h=>by cases h
  t2:=λr _=>rfl
  pend:=λi h=>by cases h
  rW:=λi h=>absurd h (b i)
  dist:=λi j h=>absurd h (b i)
  heap:=A.abs.heap.drawn _
  glob:=A.abs.glob.grow A.abs.heap gd
  grow:=g.trans gd
  cn:=A.n
  defers:=A.defers
  nQ:=A.size
  sn:=rfl,sm:=rfl
  ms:=aaJ q
  mp:=λm _ M=>absurd M (b m)}
 obtain⟨x,z,aaM,O,J,t,F,y⟩:=D.aqM f;refine aix hE B f n (DU e) rfl _ _ _ _ ?_ ⟨_,_,_,_,_,_,_,_,F,y⟩
 grind [cnt,Nat.le_trans,List.length_filter_le]
end Go.AE
namespace Go.TX
open Go Go.AE List
@[ext] structure Ins where
 op:Int
 d:Int
 a:Int
 k:Int
 deriving DecidableEq,Inhabited
structure Form where
 d:Bool
 a:Bool
 most:Int
 words:List ByteArray
 deriving Inhabited
@[ext] structure aj where
 bH:Int
 atoms:List Int
 deriving DecidableEq,Inhabited
@[ext] structure Atom where
 kind:Int
 k:Int
 x:List aj
 y:List aj
 deriving DecidableEq,Inhabited
@[ext] structure IOp where
 kind:Int
 x:Int
 y:Int
 k:Int
 at_:Int
 deriving DecidableEq,Inhabited
@[ext] structure Blk where
 pc:Int
 len:Int
 ops:List IOp
 fin:Int
 x:Int
 y:Int
 k:Int
 deriving DecidableEq,Inhabited
@[ext] structure aG where
 regs:List Int
 pc:Int
 mem:List Int
 save:Int
 bG:Bool
 waits:Bool
 halt:Int
 ins:List Int
 outs:List Int
 count:Int
 deriving DecidableEq,Inhabited
@[ext] structure Ev where
 kind:Int
 at_:Int
 x:List aj
 y:List aj
 regs:List (List aj)
 deriving DecidableEq,Inhabited
@[ext] structure Sym where
 events:List Ev
 regs:List (List aj)
 fin:Int
 x:List aj
 y:List aj
 k:Int
 deriving DecidableEq,Inhabited
@[ext] structure Cac where
 words:List Int
 blk:Blk
 deriving DecidableEq,Inhabited
@[ext] structure Cer where
 base:Blk
 made:Blk
 deriving DecidableEq,Inhabited
@[ext] structure Ask where
 own:Bool
 bytes:List Int
 deriving DecidableEq,Inhabited
@[ext] structure Eng where
 ay:aG
 cache:List Cac
 aX:List Cer
 deriving DecidableEq,Inhabited
inductive Co where
 | i64 | u8 | bool | str | ins | form | mono | poly | atom | tab | iop | blk | ay | ev | sym | cac | cer | ask | eng | ints
 deriving DecidableEq,Inhabited,Repr
inductive Sh where
 | int (k:IntKind) | bool | str | rows (c:Co)
 deriving DecidableEq,Inhabited
abbrev Sh.i:Sh:= .int .i64
def mJ:List Sh:=[.i,.i,.rows .iop,.i,.i,.i,.i]
def pF:List Sh:=[.rows .i64,.i,.rows .i64,.i,.bool,.bool,.i,.rows .i64,.rows .i64,.i]
abbrev Co.fields : Co -> List Sh
 | .i64=> [.i] | .u8=> [.int .u8] | .bool=> [.bool] | .str=> [.str]
 | .ins=> [.i,.i,.i,.i]
 | .form=> [.bool,.bool,.i,.rows .str]
 | .mono=> [.i,.rows .i64]
 | .poly=> [.rows .mono]
 | .atom=> [.i,.i,.rows .mono,.rows .mono]
 | .tab=> [.rows .atom]
 | .iop=> [.i,.i,.i,.i,.i]
 | .blk=>mJ
 | .ay=>pF
 | .ev=> [.i,.i,.rows .mono,.rows .mono,.rows .poly]
 | .sym=> [.rows .ev,.rows .poly,.i,.rows .mono,.rows .mono,.i]
 | .cac=> .rows .i64::mJ
 | .cer=>mJ++mJ
 | .ask=> [.bool,.rows .u8]
 | .eng=>pF++ [.rows .cac,.rows .cer]
 | .ints=> [.rows .i64]
abbrev Co.den : Co -> Type
 | .i64=>Int | .u8=>Int | .bool=>Bool | .str=>ByteArray
 | .ins=>Ins | .form=>Form | .mono=>aj | .poly=>List aj | .atom=>Atom | .tab=>List Atom | .iop=>IOp
 | .blk=>Blk | .ay=>aG | .ev=>Ev | .sym=>Sym | .cac=>Cac | .cer=>Cer | .ask=>Ask | .eng=>Eng | .ints=>List Int
instance (c:Co):Inhabited c.den:=match c with
 | .i64=>inferInstanceAs (Inhabited Int) | .u8=>inferInstanceAs (Inhabited Int) | .bool=>inferInstanceAs (Inhabited Bool) | .str=>inferInstanceAs (Inhabited ByteArray)
 | .ins=>inferInstanceAs (Inhabited Ins) | .form=>inferInstanceAs (Inhabited Form) | .mono=>inferInstanceAs (Inhabited aj) | .poly=>inferInstanceAs (Inhabited (List aj))
 | .atom=>inferInstanceAs (Inhabited Atom) | .tab=>inferInstanceAs (Inhabited (List Atom)) | .iop=>inferInstanceAs (Inhabited IOp) | .blk=>inferInstanceAs (Inhabited Blk)
 | .ay=>inferInstanceAs (Inhabited aG) | .ev=>inferInstanceAs (Inhabited Ev) | .sym=>inferInstanceAs (Inhabited Sym) | .cac=>inferInstanceAs (Inhabited Cac)
 | .cer=>inferInstanceAs (Inhabited Cer) | .ask=>inferInstanceAs (Inhabited Ask) | .eng=>inferInstanceAs (Inhabited Eng)
 | .ints=>inferInstanceAs (Inhabited (List Int))
inductive LTy where
 | i | b | s | l (c:Co) | x (c:Co)
 deriving DecidableEq,Inhabited
abbrev Sh.lty : Sh -> LTy
 | .int _=> .i | .bool=> .b | .str=> .s | .rows c=> .l c
def Co.flat(c:Co):Bool:=c.fields.all λs=>match s with | .rows _=>false | _=>true
abbrev Co.rX(c : Co) : List LTy := c.fields.map Sh.lty
structure Car where
 I:Type
 B:Type
 S:Type
 L:Co->Type
 X:Co->Type
abbrev LT(A : Car) : LTy -> Type
 | .i=>A.I | .b=>A.B | .s=>A.S | .l c=>A.L c | .x c=>A.X c
abbrev Tup(A : Car) : List LTy -> Type
 | []=>Unit
 | t::r=>LT A t×Tup A r
inductive LV (A:Car) where
 | i (x:A.I) | b (x:A.B) | s (x:A.S) | l (c:Co) (x:A.L c) | x (c:Co) (v:A.X c)
def aqO(A:Car):(t:LTy)->LT A t->LV A
 | .i,x=> .i x | .b,x=> .b x | .s,x=> .s x | .l c,x=> .l c x | .x c,x=> .x c x
def unpack(A:Car):(a:List LTy)->Tup A a->List (LV A)
 | [],_=> []
 | t::r,x=>aqO A t x.1::unpack A r x.2
def alg(A:Car):(t:LTy)->LV A->Option (LT A t)
 | .i,.i x=>some x | .b,.b x=>some x | .s,.s x=>some x
 | .l c,.l c' x=>if h:c'=c then some (h▸x)else none
 | .x c,.x c' x=>if h:c'=c then some (h▸x)else none
 | _,_=>none
def pack(A:Car):(c:List LTy)->List (LV A)->Option (Tup A c)
 | [],[]=>some ()
 | t::r,v::vs=>match alg A t v with
  | some a=>match pack A r vs with | some b=>some (a,b) | none=>none
  | none=>none
 | _,_=>none
structure Alg extends aA:Car where
 M:Type->Type
 lit:Int->I
 bl:Bool->B
 st:ByteArray->S
 arith:BinOp->IntKind->I->I->I
 cmp:BinOp->I->I->B
 addN:I->I->I
 OB:I->I->I
 neg:IntKind->I->I
 conv:IntKind->I->I
 QV:I->I->I
 kC:I->I->I
 zS:B->B
 OC:B->B->B
 orB:B->B->B
 eqB:B->B->B
 eqS:S->S->B
 QW:L .u8->S
 QX:B->I->I->I
 Lx:B->B->B->B
 QY:B->(c:Co)->L c->L c->L c
 aaO:B->(c:Co)->X c->X c->X c
 len:(c:Co)->L c->I
 FX:(c:Co)->L c
 get:(c:Co)->L c->I->X c
 set:(c:Co)->L c->I->X c->L c
 app:(c:Co)->L c->L c->L c
 sub:(c:Co)->L c->I->I->L c
 rep:(c:Co)->I->X c->L c
 lst:(c:Co)->List (X c)->L c
 glob:Nat->(c:Co)->L c
 fI:(c:Co)->Nat->X c->I
 fB:(c:Co)->Nat->X c->B
 fS:(c:Co)->Nat->X c->S
 fL:(c:Co)->Nat->(c':Co)->X c->L c'
 mkX:(c:Co)->Tup aA c.rX->X c
 eqX:(c:Co)->X c->X c->B
 ret:(ts:List LTy)->Tup aA ts->M (Tup aA ts)
 vE: {ρ:Type}->(ts:List LTy)->Tup aA ts->(Tup aA ts->M ρ)->M ρ
 fail: {ρ:Type}->M ρ
 chk: {ρ:Type}->B->M ρ->M ρ
 cond: {ρ:Type}->B->M ρ->M ρ->M ρ
 bind: {ρ:Type}->(ts:List LTy)->M (Tup aA ts)->(Tup aA ts->M ρ)->M ρ
 wD: {ρ:Type}->(ts:List LTy)->M (Sum (Tup aA ts) ρ)->(Tup aA ts->M ρ)->M ρ
 inl: {ρ:Type}->(ts:List LTy)->Tup aA ts->M (Sum (Tup aA ts) ρ)
 inr: {ρ:Type}->(ts:List LTy)->M ρ->M (Sum (Tup aA ts) ρ)
 iter: {ρ:Type}->(ts:List LTy)->(Tup aA ts->M (Sum (Tup aA ts) ρ))->Tup aA ts->M ρ
inductive Leaf (A:Car) where
 | int (k:IntKind) (x:A.I) | bool (x:A.B) | str (x:A.S) | rows (c:Co) (xs:A.L c)
inductive TC (A:Car) where
 | d (f:Bool) (x:Leaf A)
 | nil
 | clip (f:Bool) (c:Co) (xs:A.L c)
 | own (l:Nat)
 | os (l:Nat) (lo n:A.I)
 | pb (l sz j:Nat)
 | pr (l:Nat) (i:A.I) (j:Nat)
 | rp (f:Bool) (c:Co) (xs:A.L c) (i:A.I) (j:Nat)
 | gp (g:Nat) (c:Co)
 | fn (g:FuncId) (caps:List (Nat×Nat))
 | np
inductive TV (A:Car) where
 | c (x:TC A)
 | agg (cs:List (TC A))
 | sv (f:Bool) (c:Co) (x:A.X c)
 | tup (vs:List (TV A))
inductive dZ (A:Car) where
 | box (v:TV A)
 | rows (f:Bool) (c:Co) (xs:A.L c)
 | gone (c:Co) (n:A.I)
structure XT where
 ty:TypeId->Option TY
 co:TypeId->Option Co
 glob:Nat->Option Co
 ieq:TypeId->Option Co
section
variable (A:Alg)
def alh(c:Co)(j:Nat)(x:A.X c):Sh->Leaf A.aA
 | .int k=> .int k (A.fI c j x)
 | .bool=> .bool (A.fB c j x)
 | .str=> .str (A.fS c j x)
 | .rows a=> .rows a (A.fL c j a x)
def gq(c:Co)(x:A.X c):Nat->List Sh->List (Leaf A.aA)
 | _,[]=> []
 | j,s::r=>alh A c j x s::gq c x (j+1) r
def ru(f:Bool)(c:Co)(x:A.X c):List (TC A.aA):=(gq A c x 0 c.fields).map (.d f)
def bZ:TV A.aA->List (TC A.aA)
 | .c x=> [x]
 | .agg cs=>cs
 | .sv f c x=>ru A f c x
 | .tup _=> []
def Leaf.lv{A:Car}:Leaf A->LV A
 | .int _ x=> .i x | .bool x=> .b x | .str x=> .s x | .rows c a=> .l c a
def Leaf.flag{A:Car}(f:Bool):Leaf A->Bool
 | .rows _ _=>f | _=>true
def jZ{A:Car}:Leaf A->Sh
 | .int k _=> .int k | .bool _=> .bool | .str _=> .str | .rows c _=> .rows c
def fQ(h:List (dZ A.aA))(s:Sh)(x:TC A.aA):Option (Bool×LV A.aA×List Nat):=
 match x with
 | .d f y=>if jZ y=s then some (y.flag f,y.lv,[])else none
 | .nil=>match s with | .rows c=>some (true,.l c (A.FX c),[]) | _=>none
 | .clip f c a=>if Sh.rows c=s then some (f,.l c a,[])else none
 | .own l=>match h[l]? with | some (.rows f c a)=>if Sh.rows c=s then some (f,.l c a,[l])else none | _=>none
 | _=>none
def aM(h:List (dZ A.aA)):List Sh->List (TC A.aA)->Option (Bool×List (LV A.aA)×List Nat)
 | [],[]=>some (true,[],[])
 | s::r,x::xs=>match fQ A h s x with
  | some (f,y,l)=>match aM h r xs with | some (g,ys,ls)=>if l.all λi=> !ls.contains i then some (f&&g,y::ys,l++ls)else none | none=>none
  | none=>none
 | _,_=>none
def toX(h:List (dZ A.aA))(c:Co)(v:TV A.aA):Option (Bool×A.X c×List Nat):=
 match v with
 | .sv f a x=>if e:a=c then some (f || c.flat,e▸x,[])else none
 | .tup _=>none
 | v=>match aM A h c.fields (bZ A v)with
  | some (f,ys,ls)=>match pack A.aA c.rX ys with | some t=>some (f,A.mkX c t,ls) | none=>none
  | none=>none
def bJ:TV A.aA->Bool | .agg _ | .sv .. =>true | _=>false
def lD(y:TY)(j:Nat)(a:TV A.aA)(cs:List (TC A.aA)):Option (TV A.aA):=
 if y.desc.agg then
  (if(j==0)&& (y.size==cs.length)&&bJ A a then some a else if Nat.ble (j+y.size) cs.length then some (.agg ((cs.drop j).take y.size))else none)
 else match cs[j]? with
  | some x=>(match y.desc with
   | .int k=>(match x with | .d _ (.int k' _)=>if k=k' then some (.c x)else none | _=>none)
   | _=>some (.c x))
  | none=>none
abbrev PR:=Option (List A.B×TV A.aA)
def okV(v:TV A.aA):PR A:=some ([],v)
def okI(k:IntKind)(x:A.I):PR A:=some ([],.c (.d true (.int k x)))
def okB(x:A.B):PR A:=some ([],.c (.d true (.bool x)))
def OD(v:Option (TV A.aA)):PR A:=match v with | some v=>some ([],v) | none=>none
def evX(X:XT)(e:Nat->Option (TV A.aA)):Operand->Option (TV A.aA)
 | .tmp i=>e i
 | .const v=>match v with
  | .int k n=>some (.c (.d true (.int k (A.lit n))))
  | .bool b=>some (.c (.d true (.bool (A.bl b))))
  | .string s=>some (.c (.d true (.str (A.st s))))
  | .slice none 0 0=>some (.c .nil)
  | .pointer none=>some (.c .np)
  | _=>none
 | .global g=>match X.glob g with | some c=>some (.c (.gp g c)) | none=>none
 | .func f=>some (.c (.fn f []))
def OE(X:XT)(h:List (dZ A.aA))(ty:TypeId)(p:TV A.aA):PR A:=
 match X.ty ty with
 | none=>none
 | some y=>match p with
  | .c (.pb l sz j)=>match h[l]? with
   | some (.box v)=>if(bZ A v).length==sz then OD A (lD A y j v (bZ A v))else none
   | _=>none
  | .c (.pr l i j)=>match h[l]? with
   | some (.rows f c xs)=>match lD A y j (.sv f c (A.get c xs i)) (ru A f c (A.get c xs i))with
    | some v=>some ([A.cmp .leq (A.lit 0) i,A.cmp .lss i (A.len c xs)],v)
    | none=>none
   | _=>none
  | .c (.rp f c xs i j)=>OD A (lD A y j (.sv f c (A.get c xs i)) (ru A f c (A.get c xs i)))
  | .c (.gp g c)=>match y.desc with | .slice _=>some ([],.c (.d false (.rows c (A.glob g c)))) | _=>none
  | _=>none
def LA:BinOp->Bool
 | .add | .sub | .mul | .quo | .rem | .and | .or | .xor | .shl | .shr=>true
 | _=>false
def abK:BinOp->Bool
 | .eql | .neq | .lss | .leq | .gtr | .geq=>true
 | _=>false
def ali(X:XT)(d:BinOp)(ty:TypeId)(a b:TV A.aA):PR A:=
  match a,b with
  | .c (.d _ (.int k x)),.c (.d _ (.int k' y))=>
    if k=k'\/YL d=true then
      (match d with
       | .quo | .rem=>some ([A.cmp .neq y (A.lit 0)],.c (.d true (.int k (A.arith d k x y))))
       | .shl | .shr=>some ([A.cmp .leq (A.lit 0) y],.c (.d true (.int k (A.arith d k x y))))
       | d=>if LA d then okI A k (A.arith d k x y)else if abK d then okB A (A.cmp d x y)else none)
    else none
  | .c (.d _ (.bool x)),.c (.d _ (.bool y))=>match X.ty ty with
    | some z=>match z.desc with
      | .bool=>(match d with | .eql=>okB A (A.eqB x y) | .neq=>okB A (A.zS (A.eqB x y)) | _=>none)
      | _=>none
    | none=>none
  | .c (.d _ (.str x)),.c (.d _ (.str y))=>match X.ty ty with
    | some z=>match z.desc with
      | .str=>(match d with | .eql=>okB A (A.eqS x y) | .neq=>okB A (A.zS (A.eqS x y)) | _=>none)
      | _=>none
    | none=>none
  | .c (.os _ _ m),.c .nil=>match X.ty ty with
    | some z=>match z.desc with
      | .slice _=>(match d with
        | .eql=>some ([A.cmp .neq m (A.lit 0)],.c (.d true (.bool (A.bl false))))
        | .neq=>some ([A.cmp .neq m (A.lit 0)],.c (.d true (.bool (A.bl true))))
        | _=>none)
      | _=>none
    | none=>none
  | .c (.d _ (.rows c xs)),.c .nil=>match X.ty ty with
    | some z=>match z.desc with
      | .slice _=>(match d with
        | .eql=>some ([A.cmp .neq (A.len c xs) (A.lit 0)],.c (.d true (.bool (A.bl false))))
        | .neq=>some ([A.cmp .neq (A.len c xs) (A.lit 0)],.c (.d true (.bool (A.bl true))))
        | _=>none)
      | _=>none
    | none=>none
  | v,w=>match X.ieq ty with
    | some c=>match toX A [] c v,toX A [] c w with
      | some (_,x,_),some (_,y,_)=>(match d with | .eql=>okB A (A.eqX c x y) | .neq=>okB A (A.zS (A.eqX c x y)) | _=>none)
      | _,_=>none
    | none=>none
def alj(h:List (dZ A.aA))(v:TV A.aA):TV A.aA:=match v with
 | .c (.own l)=>(match h[l]? with | some (.rows _ c xs)=> .c (.os l (A.lit 0) (A.len c xs)) | _=>v)
 | _=>v
def unX(c:UnOp)(a:TV A.aA):PR A:=
 match c,a with
 | .not,.c (.d _ (.bool b))=>okB A (A.zS b)
 | .neg,.c (.d _ (.int k n))=>okI A k (A.neg k n)
 | _,_=>none
def abL(X:XT)(src b:TypeId)(a:TV A.aA):PR A:=
 match X.ty src,X.ty b with
 | some z,some y=>match y.desc,a with
  | .int k,.c (.d _ (.int _ n))=>okI A k (A.conv k n)
  | .str,.c (.d _ (.rows .u8 xs))=>(match z.desc with
   | .slice e=>(match X.ty e with
    | some t=>(match t.desc with | .int .u8=>some ([],.c (.d true (.str (A.QW xs)))) | _=>none)
    | none=>none)
   | _=>none)
  | _,_=>none
 | _,_=>none
def zT(X:XT)(s:TypeId)(a:TV A.aA)(f:Nat):PR A:=
 match X.ty s with
 | some y=>match y.desc with
  | .struct b=>match b[f]? with
   | some (off,ft)=>match X.ty ft with
    | some z=>if z.size==0 then none else(match a with
     | .c (.pb l sz j)=>okV A (.c (.pb l sz (j+off)))
     | .c (.pr l i j)=>okV A (.c (.pr l i (j+off)))
     | .c (.rp g c xs i j)=>okV A (.c (.rp g c xs i (j+off)))
     | _=>none)
    | none=>none
   | none=>none
  | _=>none
 | none=>none
def QZ(X:XT)(s:TypeId)(a:TV A.aA)(f:Nat):PR A:=
 match X.ty s with
 | some y=>match y.desc with
  | .struct b=>match b[f]? with
   | some (off,ft)=>match X.ty ft with
    | some z=>if bJ A a&&Nat.ble (off+z.size) (bZ A a).length then
      (if z.desc.agg then okV A (.agg (((bZ A a).drop off).take z.size))else match (bZ A a)[off]? with | some x=>okV A (.c x) | none=>none)
     else none
    | none=>none
   | none=>none
  | _=>none
 | none=>none
def lW(X:XT)(e:TypeId)(c:Co):Bool:=match X.ty e with | some z=>z.size==c.fields.length | none=>false
def zU(X:XT)(h:List (dZ A.aA))(t:TypeId)(a b:TV A.aA):PR A:=
 match X.ty t with
 | some y=>match y.desc,b with
  | .slice e,.c (.d _ (.int _ i))=>match a with
   | .c (.d f (.rows c xs))=>if lW X e c then some ([A.cmp .leq (A.lit 0) i,A.cmp .lss i (A.len c xs)],.c (.rp f c xs i 0))else none
   | .c (.clip f c xs)=>if lW X e c then some ([A.cmp .leq (A.lit 0) i,A.cmp .lss i (A.len c xs)],.c (.rp f c xs i 0))else none
   | .c (.own l)=>match h[l]? with
    | some (.rows _ c xs)=>if lW X e c then some ([A.cmp .leq (A.lit 0) i,A.cmp .lss i (A.len c xs)],.c (.pr l i 0))else none
    | _=>none
   | .c (.os l lo n)=>match h[l]? with
    | some (.rows _ c _)=>if lW X e c then some ([A.cmp .leq (A.lit 0) i,A.cmp .lss i n,A.cmp .leq (A.lit 0) lo],.c (.pr l (A.addN lo i) 0))else none
    | _=>none
   | _=>none
  | _,_=>none
 | none=>none
def alk(h:List (dZ A.aA))(a:TV A.aA):PR A:=
 match a with
 | .c (.d _ (.rows c xs))=>okI A .i64 (A.len c xs)
 | .c (.clip _ c xs)=>okI A .i64 (A.len c xs)
 | .c (.own l)=>match h[l]? with | some (.rows _ c xs)=>okI A .i64 (A.len c xs) | _=>none
 | .c (.os _ _ n)=>okI A .i64 n
 | .c .nil=>okI A .i64 (A.lit 0)
 | _=>none
def alm(a:TV A.aA):PR A:=
 match a with
 | .c (.pb l s j)=>okV A (.c (.pb l s j))
 | .c (.pr l i j)=>okV A (.c (.pr l i j))
 | .c (.rp f c xs i j)=>okV A (.c (.rp f c xs i j))
 | _=>none
def LB(X:XT)(e:Nat->Option (TV A.aA))(o:Option Operand)(a:A.I):Option A.I:=
 match o with
 | none=>some a
 | some x=>match evX A X e x with | some (.c (.d _ (.int _ n)))=>some n | _=>none
def Q0(X:XT)(e:Nat->Option (TV A.aA))(h:List (dZ A.aA))(ty:TypeId)(a:TV A.aA)(lo b d:Option Operand):PR A:=
 match X.ty ty with
 | some y=>match y.desc with
  | .slice g=>match LB A X e lo (A.lit 0)with
   | some l=>match a with
    | .c (.d f (.rows c xs))=>if lW X g c then
      match LB A X e b (A.len c xs)with
      | some r=>match d with
       | none=>some ([A.cmp .leq (A.lit 0) l,A.cmp .leq l r,A.cmp .leq r (A.len c xs)],.c (.d f (.rows c (A.sub c xs l r))))
       | some _=>match LB A X e d (A.lit 0)with
        | some m=>if b.isSome then some ([A.cmp .leq (A.lit 0) l,A.cmp .leq l r,A.cmp .leq r (A.len c xs),A.cmp .eql m r],.c (.clip f c (A.sub c xs l r)))else none
        | none=>none
      | none=>none
     else none
    | .c (.own w)=>match h[w]?,d with
     | some (.rows _ c xs),none=>if lW X g c then
       match LB A X e b (A.len c xs)with
       | some r=>some ([A.cmp .leq (A.lit 0) l,A.cmp .leq l r,A.cmp .leq r (A.len c xs)],.c (.os w l (A.OB r l)))
       | none=>none
      else none
     | _,_=>none
    | .c (.os w l0 n)=>match h[w]?,d with
     | some (.rows _ c _),none=>if lW X g c then
       match LB A X e b n with
       | some r=>some ([A.cmp .leq (A.lit 0) l,A.cmp .leq l r,A.cmp .leq r n,A.cmp .leq (A.lit 0) l0],.c (.os w (A.addN l0 l) (A.OB r l)))
       | none=>none
      else none
     | _,_=>none
    | .c .nil=>match d,LB A X e b (A.lit 0)with
     | none,some r=>if(X.ty g).isSome then some ([A.cmp .eql l (A.lit 0),A.cmp .eql r (A.lit 0)],.c .nil)else none
     | _,_=>none
    | _=>none
   | none=>none
  | _=>none
 | none=>none
def OG(X:XT)(e:Nat->Option (TV A.aA))(a:List (Nat×TypeId)):List (Nat×Operand)->List (TC A.aA)->Option (List (TC A.aA))
 | [],cs=>some cs
 | (i,x)::rest,cs=>match a[i]? with
  | some (off,ft)=>match X.ty ft,evX A X e x with
   | some z,some v=>if((bZ A v).length==z.size)&& !(z.size==0)&&Nat.ble (off+z.size) cs.length then
    OG X e a rest (cs.take off++bZ A v++cs.drop (off+(bZ A v).length))else none
   | _,_=>none
  | none=>none
def Za:Cell->Option (TC A.aA)
 | .d true (.int k n)=>some (.d true (.int k (A.lit n)))
 | .d true (.bool b)=>some (.d true (.bool (A.bl b)))
 | .d true (.str s)=>some (.d true (.str (A.st s)))
 | .nil=>some .nil
 | .np=>some .np
 | _=>none
def kN:List Cell->Option (List (TC A.aA))
 | []=>some []
 | x::r=>match Za A x,kN r with | some y,some ys=>some (y::ys) | _,_=>none
def Q6(X:XT)(e:Nat->Option (TV A.aA))(ty:TypeId)(a:List (Nat×Operand)):PR A:=
 match X.ty ty with
 | some y=>match y.desc with
  | .struct b=>if b.all λc=>(X.ty c.2).isSome then
    match kN A y.zero with
    | some z=>match OG A X e b a z with | some cs=>okV A (.agg cs) | none=>none
    | none=>none
   else none
  | _=>none
 | none=>none
def OH(X:XT)(e:Nat->Option (TV A.aA)):List Operand->Option (List (Nat×Nat))
 | []=>some []
 | x::r=>match evX A X e x with
  | some (.c (.pb l sz 0))=>match OH X e r with | some a=>some ((l,sz)::a) | none=>none
  | _=>none
def abM(b:A.B):TC A.aA->TC A.aA->Option (TC A.aA)
 | .d f (.int k x),.d g (.int k' y)=>if k=k' then some (.d (f&&g) (.int k (A.QX b x y)))else none
 | .d f (.bool x),.d g (.bool y)=>some (.d (f&&g) (.bool (A.Lx b x y)))
 | .d f (.rows c xs),.d g (.rows c' ys)=>if e:c'=c then some (.d (f&&g) (.rows c (A.QY b c xs (e▸ys))))else none
 | _,_=>none
def Q7(b:A.B):TV A.aA->TV A.aA->Option (TV A.aA)
 | .c x,.c y=>match abM A b x y with | some z=>some (.c z) | none=>none
 | _,_=>none
def FY(X:XT)(e:Nat->Option (TV A.aA))(h:List (dZ A.aA))(c:Call):PR A:=
 match c.callee with
 | .builtin .len=>match c.args.toList,c.argTypes.toList with
  | [x],[ty]=>match X.ty ty,evX A X e x with
   | some y,some v=>(match y.desc with | .slice _=>alk A h v | _=>none)
   | _,_=>none
  | _,_=>none
 | .builtin .cap=>match c.args.toList,c.argTypes.toList with
  | [x],[ty]=>match X.ty ty,evX A X e x with
   | some y,some (.c .nil)=>(match y.desc with | .slice _=>okI A .i64 (A.lit 0) | _=>none)
   | _,_=>none
  | _,_=>none
 | .builtin .min=>match c.args.toList with
  | [x,y]=>match evX A X e x,evX A X e y with
   | some (.c (.d _ (.int k m))),some (.c (.d _ (.int _ n)))=>okI A k (A.QV m n)
   | _,_=>none
  | _=>none
 | .builtin .max=>match c.args.toList with
  | [x,y]=>match evX A X e x,evX A X e y with
   | some (.c (.d _ (.int k m))),some (.c (.d _ (.int _ n)))=>okI A k (A.kC m n)
   | _,_=>none
  | _=>none
 | _=>none
def AV(v:Option (TV A.aA))(K:TV A.aA->PR A):PR A:=match v with | some v=>K v | none=>none
def Zb(X:XT)(e:Nat->Option (TV A.aA))(h:List (dZ A.aA))(k:Op):PR A:=
 match k with
 | .move x | .assign x=>AV A (evX A X e x) λv=>okV A v
 | .load ty p=>AV A (evX A X e p) λv=>OE A X h ty v
 | .nilCheck x=>AV A (evX A X e x) λv=>alm A v
 | .binOp k ty x y _=>AV A (evX A X e x) λa=>AV A (evX A X e y) λb=>ali A X k ty (alj A h a) b
 | .unOp k _ x=>AV A (evX A X e x) λa=>unX A k a
 | .convert s d x=>AV A (evX A X e x) λa=>abL A X s d a
 | .fieldAddr s x f=>AV A (evX A X e x) λa=>zT A X s a f
 | .field s x f=>AV A (evX A X e x) λa=>QZ A X s a f
 | .indexAddr ty x i=>AV A (evX A X e x) λa=>AV A (evX A X e i) λb=>zU A X h ty a b
 | .slice ty x o m q=>AV A (evX A X e x) λa=>Q0 A X e h ty a o m q
 | .extract x i=>AV A (evX A X e x) λa=>match a with | .tup n=>OD A n[i]? | _=>none
 | .build ty j=>Q6 A X e ty j.toList
 | .makeFunc r first l=>match r with
  | .func g=>if first.toList.isEmpty then(match OH A X e l.toList with | some cs=>okV A (.c (.fn g cs)) | none=>none)else none
  | _=>none
 | .call c=>FY A X e h c
 | _=>none
structure HR where
 chk:List A.B
 v:TV A.aA
 h:List (dZ A.aA)
 touched:List Nat
def bA(h:List (dZ A.aA)):List Nat->List (dZ A.aA)
 | []=>h
 | l::r=>bA (match h[l]? with | some (.rows _ c xs)=>h.set l (.gone c (A.len c xs)) | _=>h) r
def kC:Int:=1073741824
def zdB(l:List Cell):Bool:=l.all λx=>match x with | .d _ _=>true | .nil=>true | _=>false
def aln(h:List (dZ A.aA))(c:Co)(a:Option (A.X c))(v:TV A.aA):Option (Bool×A.L c):=
 match v with
 | .c (.d _ (.int _ n))=>match a with | some x=>some (true,A.rep c n x) | none=>none
 | .c .nil=>some (true,A.FX c)
 | .c (.d f (.rows c' xs))=>if e:c'=c then some (f,e▸xs)else none
 | .c (.clip f c' xs)=>if e:c'=c then some (f,e▸xs)else none
 | .c (.own l)=>match h[l]? with | some (.rows f c' xs)=>if e:c'=c then some (f,e▸xs)else none | _=>none
 | .c (.os l lo n)=>match h[l]? with | some (.rows f c' xs)=>if e:c'=c then some (f,e▸A.sub c' xs lo (A.addN lo n))else none | _=>none
 | _=>none
def lY(h:List (dZ A.aA))(v:TV A.aA):List A.B:=
 match v with
 | .c (.os l lo n)=>match h[l]? with
  | some (.rows _ c' xs)=> [A.cmp .leq (A.lit 0) lo,A.cmp .leq (A.lit 0) n,A.cmp .leq (A.addN lo n) (A.len c' xs)]
  | _=> []
 | .c (.d _ (.int _ n))=> [A.cmp .leq (A.lit 0) n,A.cmp .leq n (A.lit kC)]
 | _=> []
def FZ(X:XT)(a:TypeId)(v:TV A.aA):Bool:=
 match X.ty a with
 | some y2=>(match y2.desc,v with | .slice _,.c (.d _ (.int ..))=>false | .slice _,.c _=>true | .int _,.c (.d _ (.int ..))=>true | _,_=>false)
 | none=>false
def Zc(z:TY)(c:Co):Option (A.X c):=
 match kN A z.zero with
 | some a=>(match toX A [] c (.agg a)with | some (_,x,_)=>some x | none=>none)
 | none=>none
def LC(X:XT)(h:List (dZ A.aA))(ty d:TypeId)(a b:TV A.aA):Option (HR A):=
 match X.ty ty with
 | some y=>match y.desc with
  | .slice e=>match X.ty e,X.co e with
   | some z,some c=>if lW X e c&& !(z.size==0)&&Nat.ble z.bytes 1024&&FZ A X d b&&zdB z.zero then
     match (aln A h c (Zc A z c) b).map λp=>(p.1 || c.flat,p.2)with
     | some (f2,ds)=>match a with
      | .c .nil=>some ⟨lY A h b++ [A.cmp .leq (A.len c ds) (A.lit kC)],.c (.own h.length),h++ [.rows f2 c ds],[]⟩
      | .c (.own l)=>match h[l]? with
       | some (.rows f1 c1 xs)=>if q:c1=c then
         some ⟨lY A h b++ [A.cmp .leq (A.addN (A.len c1 xs) (A.len c ds)) (A.lit kC)],.c (.own h.length),
          h.set l (.gone c1 (A.len c1 xs))++ [.rows (f1&&f2) c (A.app c (q▸xs) ds)],[l]⟩
        else none
       | _=>none
      | .c (.os l lo n)=>match h[l]? with
       | some (.rows f1 c1 xs)=>if q:c1=c then
         some ⟨lY A h b++ [A.cmp .eql lo (A.lit 0),A.cmp .leq (A.lit 0) n,A.cmp .leq n (A.len c1 xs),A.cmp .leq (A.addN n (A.len c ds)) (A.lit kC)],.c (.own h.length),
          h.set l (.gone c1 (A.len c1 xs))++ [.rows (f1&&f2) c (A.app c (A.sub c (q▸xs) (A.lit 0) n) ds)],[l]⟩
        else none
       | _=>none
      | .c (.clip f1 c1 xs)=>if q:c1=c then
        some ⟨lY A h b++ [A.orB (A.cmp .lss (A.lit 0) (A.len c ds)) (A.cmp .eql (A.len c1 xs) (A.lit 0)),A.cmp .leq (A.addN (A.len c1 xs) (A.len c ds)) (A.lit kC)],.c (.own h.length),
         h++ [.rows (f1&&f2) c (A.app c (q▸xs) ds)],[]⟩
       else none
      | _=>none
     | none=>none
    else none
   | _,_=>none
  | _=>none
 | none=>none
def sZ(X:XT)(e:Nat->Option (TV A.aA))(c:Co):List (dZ A.aA)->List (Nat×Operand)->Option (Bool×List (A.X c)×List (dZ A.aA)×List Nat)
 | h,[]=>some (true,[],h,[])
 | h,(_,x)::r=>match evX A X e x with
  | some v=>match toX A h c v with
   | some (f,y,ls)=>match sZ X e c (bA A h ls) r with
    | some (g,ys,h',ls')=>some (f&&g,y::ys,h',ls++ls')
    | none=>none
   | none=>none
  | none=>none
def OI(c:Co)(cs:List (LV A.aA))(j:Nat)(a:List (LV A.aA)):Option (A.X c):=
 match pack A.aA c.rX (cs.take j++a++cs.drop (j+a.length))with | some t=>some (A.mkX c t) | none=>none
def wE(X:XT)(h:List (dZ A.aA))(ty:TypeId)(p v:TV A.aA):Option (HR A):=
 match X.ty ty with
 | some y=>if(y.size==0) || !((bZ A v).length==y.size)then none else match p with
  | .c (.pb l sz j)=>match h[l]? with
   | some (.box w)=>
    if(j==0)&& ((bZ A v).length==(bZ A w).length)&& ((bZ A w).length==sz)&& (bJ A v==bJ A w)then some ⟨[],.tup [],h.set l (.box v),[l]⟩
    else if Nat.ble (j+(bZ A v).length) (bZ A w).length&& ((bZ A w).length==sz)then
     some ⟨[],.tup [],h.set l (.box (.agg ((bZ A w).take j++bZ A v++(bZ A w).drop (j+(bZ A v).length)))),[l]⟩
    else none
   | _=>none
  | .c (.pr l i j)=>match h[l]? with
   | some (.rows f c xs)=>
    if(j==0)&& (y.size==c.fields.length)then
     match toX A h c v with
     | some (g,x,ls)=>if ls.contains l then none else
      some ⟨[A.cmp .leq (A.lit 0) i,A.cmp .lss i (A.len c xs)],.tup [],(bA A h ls).set l (.rows (f&&g) c (A.set c xs i x)),l::ls⟩
     | none=>none
    else match aM A h ((c.fields.drop j).take y.size) (bZ A v)with
     | some (g,ys,ls)=>if ls.contains l || !Nat.ble (j+y.size) c.fields.length then none else
      match OI A c ((gq A c (A.get c xs i) 0 c.fields).map Leaf.lv) j ys with
      | some z=>some ⟨[A.cmp .leq (A.lit 0) i,A.cmp .lss i (A.len c xs)],.tup [],(bA A h ls).set l (.rows (f&&g) c (A.set c xs i z)),l::ls⟩
      | none=>none
     | none=>none
   | _=>none
  | _=>none
 | none=>none
def Q8(X:XT)(h:List (dZ A.aA))(ty:TypeId)(v:TV A.aA):Option (HR A):=
 match X.ty ty with
 | some y=>match y.desc with
  | .slice e=>match X.ty e,X.co e with
   | some z,some c=>match kN A z.zero with
    | some a=>match toX A [] c (.agg a)with
     | some (_,x,_)=>if lW X e c&& !(z.size==0)then
      match v with
      | .c .nil=>some ⟨[],.tup [],h,[]⟩
      | .c (.own l)=>match h[l]? with
       | some (.rows f c1 xs)=>if c1=c then some ⟨[],.tup [],h.set l (.rows f c (A.rep c (A.len c1 xs) x)),[l]⟩else none
       | _=>none
      | .c (.os l lo n)=>match h[l]? with
       | some (.rows f c1 xs)=>if q:c1=c then
         some ⟨lY A h v,.tup [],h.set l (.rows f c (A.app c (A.app c (A.sub c (q▸xs) (A.lit 0) lo) (A.rep c n x)) (A.sub c (q▸xs) (A.addN lo n) (A.len c1 xs)))),[l]⟩
        else none
       | _=>none
      | _=>none
      else none
     | none=>none
    | none=>none
   | _,_=>none
  | _=>none
 | none=>none
def F3(X:XT)(e:Nat->Option (TV A.aA))(h:List (dZ A.aA))(k:Op):Option (HR A):=
 match k with
 | .alloc ty=>match X.ty ty with
  | some y=>match kN A y.zero with
   | some [x]=>if y.desc.agg then some ⟨[],.c (.pb h.length y.size 0),h++ [.box (.agg [x])],[]⟩else some ⟨[],.c (.pb h.length y.size 0),h++ [.box (.c x)],[]⟩
   | some (x::r)=>some ⟨[],.c (.pb h.length y.size 0),h++ [.box (.agg (x::r))],[]⟩
   | _=>none
  | none=>none
 | .box _ x=>match evX A X e x with
  | some v=>if(bZ A v).length==0 then none else some ⟨[],.c (.pb h.length (bZ A v).length 0),h++ [.box v],[]⟩
  | none=>none
 | .buildSlice ty len d=>match X.ty ty with
  | some y=>match y.desc with
   | .slice g=>match X.ty g,X.co g with
    | some z,some c=>if lW X g c&& !(z.size==0)&& (d.toList.map (·.1)==range len)&&Nat.ble (len*z.size) 16777216 then
      match sZ A X e c h d.toList with
      | some (f,xs,h',ls)=>some ⟨[],.c (.own h'.length),h'++ [.rows f c (A.lst c xs)],ls⟩
      | none=>none
     else none
    | _,_=>none
   | _=>none
  | none=>none
 | .makeSlice ty l j=>match X.ty ty with
  | some y=>match y.desc with
   | .slice g=>match X.ty g,X.co g with
    | some z,some c=>match kN A z.zero,evX A X e l,evX A X e j with
     | some zs,some (.c (.d _ (.int _ m))),some (.c (.d _ (.int _ m')))=>match toX A [] c (.agg zs)with
      | some (_,x,_)=>if lW X g c&& !(z.size==0)&&Nat.ble z.bytes 1024 then
        some ⟨[A.cmp .eql m' m,A.cmp .leq (A.lit 0) m,A.cmp .leq m (A.lit kC)],.c (.own h.length),h++ [.rows true c (A.rep c m x)],[]⟩
       else none
      | none=>none
     | _,_,_=>none
    | _,_=>none
   | _=>none
  | none=>none
 | .store ty p x=>match evX A X e p,evX A X e x with
  | some pv,some v=>wE A X h ty pv v
  | _,_=>none
 | .call c=>match c.callee,c.args.toList,c.argTypes.toList with
  | .builtin .append,[a,b],[ty,t2]=>match evX A X e a,evX A X e b with
   | some i,some bv=>LC A X h ty t2 i bv
   | _,_=>none
  | .builtin .clear,[a],[ty]=>match evX A X e a with
   | some i=>Q8 A X h ty i
   | none=>none
  | _,_,_=>none
 | _=>none
end
end Go.TX
