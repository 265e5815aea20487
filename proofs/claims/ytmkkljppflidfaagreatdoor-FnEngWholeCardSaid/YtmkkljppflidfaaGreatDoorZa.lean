/- Part 1 of a proof: what the last part needs. No condition. -/
import Derived.WalkKit
import Derived.WalkSpells
import Derived.Laws.BytesArg
import Derived.Deep.LoopGhost
import Derived.Orders
import Derived.MapKept
set_option maxHeartbeats 1000000
set_option linter.all false
set_option linter.unusedSectionVars false
set_option linter.unusedVariables false
set_option linter.unusedSimpArgs false
def ah{p : Prop}(h : p := by omega) : p := h
namespace Go.AE
open Go
variable{v:Value}{w:World}{cells:Array Value}
inductive D where
 | int (k:IntKind) (n:Int)
 | bool (b:Bool)
 | str (s:ByteArray)
 | rows (sz:Nat) (es:List (List D))
 deriving Inhabited
def gd(es:List (List D))(i j:Nat):D:=(es.getD i []).getD j default
def D.nO:D->Bool | .rows _ _=>false | _=>true
inductive dh (K:Nat->Prop) (w:World):Value->D->Prop
 | int (k:IntKind) (n:Int):dh K w (.int k n) (.int k n)
 | bool (b:Bool):dh K w (.bool b) (.bool b)
 | str (s:ByteArray):dh K w (.string s) (.str s)
 | none (a:Option Addr) (cap sz:Nat):dh K w (.slice a 0 cap) (.rows sz [])
 | rows (b off cap sz n:Nat) (es:List (List D)) (u:Nat->Nat->Value):K b->n=es.length->n<=cap->
  (∀i j,i<es.length->j<sz->w.cell? ⟨b,off+i*sz+j,none⟩=some (u i j))->
  (∀i,i<es.length->(es.getD i []).length=sz)->
  (∀i j,i<es.length->j<sz->dh K w (u i j) (gd es i j))->
  dh K w (.slice (some ⟨b,off,none⟩) n cap) (.rows sz es)
theorem pF{w w':World}{b:Nat}(h:w'.heap[b]? =w.heap[b]?)(o:Nat):w'.cell? ⟨b,o,none⟩=w.cell? ⟨b,o,none⟩:=by grind [World.cell?]
def dh.mono{K K':Nat->Prop}{w w':World}(hK:∀b,K b->K' b)(p:∀b,K b->w'.heap[b]? =w.heap[b]?){x:D}
  (h:dh K w v x):dh K' w' v x:=by
 induction h with
 | int k n=>exact .int k n
 | bool b=>exact .bool b
 | str s=>exact .str s
 | none a c e=>exact .none a c e
 | rows b f c e n m u g hn d hc l _ o=>
  exact .rows b f c e n m u (hK b g) hn d (λi j q r=>by grind [pF]) l o
def dh.nO{K:Nat->Prop}(c:Nat->Prop){x:D}(a:x.nO=true)(h:dh K w v x):dh c w v x:=by
 cases h with
 | int k n=>exact .int k n
 | bool b=>exact .bool b
 | str s=>exact .str s
 | none=>simp [D.nO]at a
 | rows=>simp [D.nO]at a
def dh.mono'{K a:Nat->Prop}(hK:∀b,K b->a b){x:D}(h:dh K w v x):dh a w v x:=
 h.mono hK (λ_ _=>rfl)
structure Ctx where
 K:Bool->Nat->Prop
 ν:Nat->Option (Nat×Nat)
 n:Nat
def Ctx.μ(c:Ctx)(l:Nat):Option Nat:=(c.ν l).map (·.1)
def j6{c:Ctx}{l b o:Nat}(h:c.ν l=some (b,o)):c.μ l=some b:=by simp [Ctx.μ,h]
def al5{c:Ctx}{l:Nat}(h:c.ν l=none):c.μ l=none:=by simp [Ctx.μ,h]
def al6{c:Ctx}{l b:Nat}(h:c.μ l=some b):∃o,c.ν l=some (b,o):=by
 unfold Ctx.μ at h;cases e:c.ν l with
 | none=>rw [e]at h;cases h
 | some p=>rw [e]at h;cases h;exact⟨p.2,rfl⟩
inductive Cell where
 | d (f:Bool) (x:D)
 | nil
 | clip (f:Bool) (sz:Nat) (es:List (List D))
 | os (l sz lo n:Nat)
 | ptr (l sz i j:Nat)
 | rp (f:Bool) (sz:Nat) (es:List (List D)) (i j:Nat)
 | fn (g:FuncId) (cap:List Cell)
 | np
 deriving Inhabited
def World.room(w:World)(b m:Nat):Prop:=∃c E a,w.heap[b]? =some (.cells c E a)/\m<=c.size
inductive bM (c:Ctx) (w:World):Value->Cell->Prop
 | d (f:Bool) (v:Value) (x:D):dh (c.K f) w v x->bM c w v (.d f x)
 | nil:bM c w (.slice none 0 0) .nil
 | clip (f:Bool) (a:Option Addr) (n sz:Nat) (es:List (List D)):dh (c.K f) w (.slice a n n) (.rows sz es)->bM c w (.slice a n n) (.clip f sz es)
 | os0 (a:Option Addr) (l sz:Nat):l<c.n->c.μ l=none->bM c w (.slice a 0 0) (.os l sz 0 0)
 | osE (a:Option Addr) (l sz lo b:Nat):l<c.n->c.μ l=some b->bM c w (.slice a 0 0) (.os l sz lo 0)
 | os (l sz lo n cap b o:Nat):l<c.n->c.ν l=some (b,o)->n<=cap->World.room w b (o+(lo+cap)*sz)->bM c w (.slice (some ⟨b,o+lo*sz,none⟩) n cap) (.os l sz lo n)
 | ptr (l sz i j b o:Nat):l<c.n->c.ν l=some (b,o)->bM c w (.pointer (some ⟨b,o+(i*sz+j),none⟩)) (.ptr l sz i j)
 | rp (f:Bool) (b off sz:Nat) (es:List (List D)) (i j:Nat) (u:Nat->Nat->Value):c.K f b->
  (∀i j,i<es.length->j<sz->w.cell? ⟨b,off+i*sz+j,none⟩=some (u i j))->
  (∀i,i<es.length->(es.getD i []).length=sz)->
  (∀i j,i<es.length->j<sz->dh (c.K f) w (u i j) (gd es i j))->
  i<es.length->bM c w (.pointer (some ⟨b,off+i*sz+j,none⟩)) (.rp f sz es i j)
 | fn (g:FuncId) (vs:List Value) (cap:List Cell):vs.length=cap.length->(∀i,i<cap.length->bM c w (vs.getD i undef) (cap.getD i default))->
  bM c w (.func (.func g) #[] vs.toArray) (.fn g cap)
 | np:bM c w (.pointer none) .np
structure CLe(c c':Ctx):Prop where
 K:∀f b,c.K f b->c'.K f b
 n:c.n<=c'.n
 ν:∀l,l<c.n->c'.ν l=c.ν l
def CLe.μ{c a:Ctx}(h:CLe c a)(l:Nat)(b:l<c.n):a.μ l=c.μ l:=by simp [Ctx.μ,h.ν l b]
def CLe.refl(c:Ctx):CLe c c:=⟨λ_ _ h=>h,Nat.le_refl _,λ_ _=>rfl⟩
def CLe.trans{a b c:Ctx}(h:CLe a b)(k:CLe b c):CLe a c:=
 ⟨λf x e=>k.K f x (h.K f x e),Nat.le_trans h.n k.n,λl d=>(k.ν l (Nat.lt_of_lt_of_le d h.n)).trans (h.ν l d)⟩
def World.jD(w w':World):Prop:=∀b m,World.room w b m->World.room w' b m
def bM.mono{c c':Ctx}{w w':World}(hc:CLe c c')(p:∀f b,c.K f b->w'.heap[b]? =w.heap[b]?)(E:World.jD w w'){x:Cell}
  (h:bM c w v x):bM c' w' v x:=by
 induction h with
 | d f v x h=>exact .d f v x (h.mono (hc.K f) (p f))
 | nil=>exact .nil
 | clip f a n k r h=>exact .clip f a n k r (h.mono (hc.K f) (p f))
 | os0 a l k e hm=>exact .os0 a l k (Nat.lt_of_lt_of_le e hc.n) ((hc.μ l e).trans hm)
 | osE a l k s b e hm=>exact .osE a l k s b (Nat.lt_of_lt_of_le e hc.n) ((hc.μ l e).trans hm)
 | os l k s n m b o e hm hn C=>exact .os l k s n m b o (Nat.lt_of_lt_of_le e hc.n) ((hc.ν l e).trans hm) hn (E b _ C)
 | ptr l k i j b o e hm=>exact .ptr l k i j b o (Nat.lt_of_lt_of_le e hc.n) ((hc.ν l e).trans hm)
 | rp f b q k r i j u A G z D B=>
  exact .rp f b q k r i j u (hc.K f b A) (λi j t y=>by grind [pF]) z
   (λi j t y=>(D i j t y).mono (hc.K f) (p f)) B
 | fn g F m e _ H=>grind [fn]
 | np=>exact .np
inductive F2 {α β:Type} (R:α->β->Prop):List α->List β->Prop
 | nil:F2 R [] []
 | cons {a:α} {b:β} {l:List α} {m:List β}:R a b->F2 R l m->F2 R (a::l) (b::m)
inductive PV where
 | c (x:Cell)
 | agg (cs:List Cell)
 | tup (vs:List PV)
 deriving Inhabited
inductive bG (c:Ctx) (w:World):Value->PV->Prop
 | c (v:Value) (x:Cell):bM c w v x->bG c w v (.c x)
 | agg (vs:List Value) (cs:List Cell):F2 (bM c w) vs cs->bG c w (.agg vs.toArray) (.agg cs)
 | tup (vs:List Value) (ps:List PV):vs.length=ps.length->(∀i,i<ps.length->bG c w (vs.getD i undef) (ps.getD i default))->bG c w (.tuple vs.toArray) (.tup ps)
def F2.mono{α β:Type}{R S:α->β->Prop}(h:∀a b,R a b->S a b){l:List α}{m:List β}(c:F2 R l m):F2 S l m:=by
 induction c with
 | nil=>exact .nil
 | cons e _ d=>grind [cons]
def F2.length{α β:Type}{R:α->β->Prop}{l:List α}{m:List β}(b:F2 R l m):l.length=m.length:=by
 induction b with
 | nil=>rfl
 | cons _ _ a=>simp [a]
def F2.get{α β:Type}{R:α->β->Prop}{l:List α}{m:List β}(c:F2 R l m){i:Nat}{b:β}(h:m[i]? =some b):∃a,l[i]? =some a/\R a b:=by
 induction c generalizing i with
 | nil=>simp at h
 | @cons a f l m e _ d=>grind
def F2.append{α β:Type}{R:α->β->Prop}{l c:List α}{m b:List β}(e:F2 R l m)(a:F2 R c b):F2 R (l++c) (m++b):=by
 induction e with
 | nil=>exact a
 | cons f _ d=>exact .cons f d
def F2.take{α β:Type}{R:α->β->Prop}{l:List α}{m:List β}(b:F2 R l m)(n:Nat):F2 R (l.take n) (m.take n):=by
 induction b generalizing n with
 | nil=>simp;exact .nil
 | cons c _ a=>cases n with
  | zero=>exact .nil
  | succ n=>exact .cons c (a n)
def F2.drop{α β:Type}{R:α->β->Prop}{l:List α}{m:List β}(b:F2 R l m)(n:Nat):F2 R (l.drop n) (m.drop n):=by
 induction b generalizing n with
 | nil=>simp;exact .nil
 | cons d c a=>cases n with
  | zero=>exact .cons d c
  | succ n=>exact a n
def F2.DF{α β:Type}{R:α->β->Prop}:∀ {l:List α} {m:List β},l.length=m.length->(∀(i:Nat) (a:α) (b:β),l[i]? =some a->m[i]? =some b->R a b)->F2 R l m
 | [],[],_,_=> .nil
 | a::l,b::m,h,k=> .cons (k 0 a b rfl rfl) (F2.DF (by simpa using h) λi x y d c=>k (i+1) x y (by simpa using d) (by simpa using c))
def bG.mono{c c':Ctx}{w w':World}(hc:CLe c c')(d:∀f b,c.K f b->w'.heap[b]? =w.heap[b]?)(e:World.jD w w'){x:PV}
  (h:bG c w v x):bG c' w' v x:=by
 induction h with
 | c v x h=>exact .c v x (h.mono hc d e)
 | agg a cs h=>exact .agg a cs (F2.mono (λ_ _ h=>h.mono hc d e) h)
 | tup a g i _ j=>exact .tup a g i j
inductive eD where
 | box (cs:List Cell)
 | rows (f:Bool) (sz:Nat) (es:List (List D))
 | gone
 deriving Inhabited
abbrev Heap:=List (Nat×eD)
def look:Heap->Nat->Option eD
 | [],_=>none
 | (m,o)::t,l=>if m=l then some o else look t l
def bQ(K:Nat->Prop)(w:World)(cells:Array Value)(sz:Nat)(es:List (List D)):Prop:=
 ∀i,i<es.length->(es.getD i []).length=sz/\∀j,j<sz->∃v,cells[i*sz+j]? =some v/\dh K w v (gd es i j)
def from_(cells:Array Value)(o:Nat):Array Value:=(cells.toList.drop o).toArray
def zH{o i:Nat}:(from_ cells o)[i]? =cells[o+i]? :=by simp [from_]
@[simp] theorem VA:from_ cells 0=cells:=by simp [from_]
def jr(c:Ctx)(w:World)(l:Nat):eD->Prop
 | .box cs=>∃b vs E,c.ν l=some (b,0)/\w.heap[b]? =some (.cells vs.toArray E (0,0))/\F2 (bM c w) vs cs
 | .rows f sz es=>match c.ν l with
  | none=>es=[]
  | some (b,o)=>∃cells E,w.heap[b]? =some (.cells cells E (0,0))/\bQ (c.K f) w (from_ cells o) sz es
 | .gone=>True
def eD.live:eD->Prop
 | .gone=>False
 | _=>True
def eH(c:Ctx)(h:Heap)(b:Nat):Prop:=∃l o,look h l=some o/\o.live/\c.μ l=some b
structure bH(c:Ctx)(w:World)(h:Heap):Prop where
 obj:∀l o,look h l=some o->l<c.n/\jr c w l o
 inj:∀l o l' o' b,look h l=some o->o.live->look h l'=some o'->o'.live->c.μ l=some b->c.μ l'=some b->l=l'
 own:∀f b,eH c h b->¬c.K f b
 low:∀f b,c.K f b->b<w.heap.size
 sub:∀b,c.K true b->c.K false b
structure Grow(c:Ctx)(w:World)(h:Heap)(c':Ctx)(w':World)(h':Heap):Prop where
 le:CLe c c'
 size:w.heap.size<=w'.heap.size
 stays:World.jD w w'
 kept:∀b,b<w.heap.size->¬eH c h b->w'.heap[b]? =w.heap[b]?
 xK:∀f b,c'.K f b->c.K f b\/w.heap.size<=b\/eH c h b
 qx:∀b,eH c' h' b->eH c h b\/w.heap.size<=b
 os:w'.os=w.os
 tape:w'.tape=w.tape
 output:w'.output=w.output
def World.jD.refl(w:World):World.jD w w:=λ_ _ h=>h
def World.jD.trans{a b c:World}(h:World.jD a b)(k:World.jD b c):World.jD a c:=λx m d=>k x m (h x m d)
def Grow.refl(c:Ctx)(w:World)(h:Heap):Grow c w h c w h:=
 ⟨.refl c,Nat.le_refl _,.refl w,λ_ _ _=>rfl,λ_ _ h=> .inl h,λ_ h=> .inl h,rfl,rfl,rfl⟩
def Grow.trans{c c' e:Ctx}{w w' i:World}{h h' j:Heap}(g:Grow c w h c' w' h')(k:Grow c' w' h' e i j):Grow c w h e i j where
 le:=g.le.trans k.le
 size:=Nat.le_trans g.size k.size
 stays:=g.stays.trans k.stays
 kept:=λb d hn=>by
  rw [k.kept b (Nat.lt_of_lt_of_le d g.size) (λm=>(g.qx b m).elim hn (λl=>by omega)),g.kept b d hn]
 xK:=λf b d=>by
  rcases k.xK f b d with a | a | a
  .exact g.xK f b a
  .exact .inr (.inl (Nat.le_trans g.size a))
  .rcases g.qx b a with h2 | h2
   all_goals simp_all
 qx:=λb d=>by
  rcases k.qx b d with a | a
  .exact g.qx b a
  .exact .inr (Nat.le_trans g.size a)
 os:=k.os.trans g.os
 tape:=k.tape.trans g.tape
 output:=k.output.trans g.output
def Grow.ro{c j:Ctx}{w a:World}{h e:Heap}(g:Grow c w h j a e)(r:bH c w h)(f:Bool)(b:Nat)(d:c.K f b):a.heap[b]? =w.heap[b]? :=
 g.kept b (r.low f b d) (λi=>r.own f b i d)
def bM.grow{c c':Ctx}{w w':World}{h a:Heap}(r:bH c w h)(g:Grow c w h c' w' a){x:Cell}(b:bM c w v x):bM c' w' v x:=
 b.mono g.le (g.ro r) g.stays
def bG.grow{c c':Ctx}{w w':World}{h a:Heap}(r:bH c w h)(g:Grow c w h c' w' a){x:PV}(b:bG c w v x):bG c' w' v x:=
 b.mono g.le (g.ro r) g.stays
end Go.AE
namespace Go.AE
open Go
inductive lN where
 | scalar
 | str
 | bool
 | int (k:IntKind)
 | slice (e:TypeId)
 | struct (fs:List (Nat×TypeId))
 deriving Inhabited
structure TY where
 desc:lN
 size:Nat
 bytes:Nat
 zero:List Cell
 deriving Inhabited
def lN.agg:lN->Bool | .struct _=>true | _=>false
structure Tab where
 P:Program
 ty:TypeId->Option TY
 glob:Nat->Option D
 ieq:TypeId->Option Nat
def Jj(P:Program)(t:TypeId):lN->Prop
 | .scalar=>∃d,P.underlying t=some d/\(∀a,d≠ .struct a)/\(∀n e,d≠ .array n e)
 | .str=>P.underlying t=some .string
 | .bool=>P.underlying t=some .bool
 | .int k=>P.underlying t=some (.int k)
 | .slice e=>P.underlying t=some (.slice e)
 | .struct a=>∃F:Array Field,P.underlying t=some (.struct F)/\F.toList.map (λf=>(f.offset,f.type))=a
structure WT(P:Program)(t:TypeId)(y:TY):Prop where
 info:∃i,P.info? t=some i/\i.size=y.size/\i.bytes=y.bytes/\∃z,i.zero=some z/\∀c w,F2 (bM c w) z.cells.toList y.zero
 desc:Jj P t y.desc
 len:y.zero.length=y.size
structure aH(E:Tab):Prop where
 ty:∀t y,E.ty t=some y->WT E.P t y
 ieq:∀t n,E.ieq t=some n->∀(xs ys:List Int),xs.length=n->ys.length=n->∀w,
  (Op.equal t (.agg (xs.map (Value.int .i64)).toArray) (.agg (ys.map (Value.int .i64)).toArray)).run E.P w= .ok (xs==ys) w/\
  (eqGuard .eql t (.tmp 0) (.tmp 0) (.agg (xs.map (Value.int .i64)).toArray) (.agg (ys.map (Value.int .i64)).toArray)).run E.P w= .ok () w
def oD(E:Tab)(c:Ctx)(w:World):Prop:=∀g d,E.glob g=some d->c.K false g/\∃u,w.cell? ⟨g,0,none⟩=some u/\dh (c.K false) w u d
abbrev Slots:=List (Nat×Option PV)
def aW:Slots->Nat->Option PV
 | [],_=>none
 | (m,o)::t,l=>if m=l then o else aW t l
def ci(k:IntKind)(n:Int):PV:= .c (.d true (.int k n))
def cb(b:Bool):PV:= .c (.d true (.bool b))
def ic(k:IntKind)(n:Int):List D:=[.int k n]
def Nw:Value->Option PV
 | .int k n=>some (ci k n)
 | .bool b=>some (cb b)
 | .string s=>some (.c (.d true (.str s)))
 | .slice none 0 0=>some (.c .nil)
 | .pointer none=>some (.c .np)
 | _=>none
def ev(E:Tab)(t:Slots):Operand->Option PV
 | .tmp i=>aW t i
 | .const v=>Nw v
 | .global g=>(E.glob g).map λd=> .c (.rp false 1 [[d]] 0 0)
 | .func f=>some (.c (.fn f []))
def aT(o:Option PV)(K:PV->Prop):Prop:=match o with | some v=>K v | none=>False
def K8(b:Bool)(x y:Prop):Prop:=(b=true->x)/\(b=false->y)
def aF(o:Option TY)(K:TY->Prop):Prop:=match o with | some v=>K v | none=>False
def pG(o:Option eD)(K:eD->Prop):Prop:=match o with | some v=>K v | none=>False
def Cm(o:Option Cell)(K:Cell->Prop):Prop:=match o with | some v=>K v | none=>False
def Hy:PV->(Bool->Prop)->Prop
 | .c (.d _ (.bool b)),K=>K b
 | _,_=>False
def rV:PV->(IntKind->Int->Prop)->Prop
 | .c (.d _ (.int k n)),K=>K k n
 | _,_=>False
def uP(f:Bool)(y:TY)(row:List D)(j:Nat)(K:PV->Prop):Prop:=
 match y.desc with
 | .struct _=>j+y.size<=row.length/\K (.agg (((row.drop j).take y.size).map (.d f)))
 | .int k=>(∃n,row[j]? =some (.int k n))/\∀n,row[j]? =some (.int k n)->K (ci k n)
 | _=>j<row.length/\∀x,row[j]? =some x->K (.c (.d f x))
def WU(f:Bool)(a:List (List D))(i j:Nat)(y:TY)(K:PV->Prop):Prop:=
 i<a.length/\∀row,a[i]? =some row->uP f y row j K
def Jk(cs:List Cell)(j:Nat)(y:TY)(K:PV->Prop):Prop:=
 if y.desc.agg then j+y.size<=cs.length/\K (.agg ((cs.drop j).take y.size))else Cm cs[j]? λx=>K (.c x)
def ad5(o:eD)(sz i j:Nat)(y:TY)(K:PV->Prop):Prop:=
 match o with
 | .box cs=>i=0/\Jk cs j y K
 | .rows f a b=>sz=a/\WU f b i j y K
 | .gone=>False
def lQ(E:Tab)(h:Heap)(ty:TypeId)(p:PV)(K:PV->Prop):Prop:=
 aF (E.ty ty) λy=>
  match p with
  | .c (.ptr l sz i j)=>pG (look h l) λo=>ad5 o sz i j y K
  | .c (.rp f _ es i j)=>WU f es i j y K
  | _=>False
def Ny:PV->(PV->Prop)->Prop
 | .c (.ptr l s i j),K=>K (.c (.ptr l s i j))
 | .c (.rp f s es i j),K=>K (.c (.rp f s es i j))
 | _,_=>False
def dR(c:BinOp)(k:IntKind)(x y:Int):Int:=
 let a:=BitVec.ofInt k.bits x
 let b:=BitVec.ofInt k.bits y
 k.wrap (match c with | .and=>(a&&&b).toNat | .or=>(a ||| b).toNat | .xor=>(a^^^b).toNat | _=>(a&&& ~~~b).toNat:Nat)
def AX(a:BinOp)(k:IntKind)(x y:Int)(K:PV->Prop):Prop:=
 match a with
 | .add=>K (ci k (k.wrap (x+y)))
 | .sub=>K (ci k (k.wrap (x-y)))
 | .mul=>K (ci k (k.wrap (x*y)))
 | .quo=>y≠0/\K (ci k (k.wrap (x.tdiv y)))
 | .rem=>y≠0/\K (ci k (x.tmod y))
 | .and=>K (ci k (dR .and k x y))
 | .or=>K (ci k (dR .or k x y))
 | .xor=>K (ci k (dR .xor k x y))
 | .shl=>0<=y/\K (ci k (k.wrap (x*2^ (min y.toNat k.bits))))
 | .shr=>0<=y/\K (ci k (x.fdiv (2^ (min y.toNat k.bits))))
 | .eql=>K (cb (decide (x=y)))
 | .neq=>K (cb (!decide (x=y)))
 | .lss=>K (cb (decide (x<y)))
 | .leq=>K (cb (decide (x<=y)))
 | .gtr=>K (cb (decide (y<x)))
 | .geq=>K (cb (decide (y<=x)))
 | _=>False
def Nz:Cell->Option Int
 | .d _ (.int .i64 n)=>some n
 | _=>none
def iy:List Cell->Option (List Int)
 | []=>some []
 | x::r=>match Nz x,iy r with | some n,some l=>some (n::l) | _,_=>none
def uQ(o:Option (List Int))(K:List Int->Prop):Prop:=match o with | some v=>K v | none=>False
def Tm:BinOp->Bool
 | .shl | .shr=>true
 | _=>false
def AY(E:Tab)(c:BinOp)(ty:TypeId)(a b:PV)(K:PV->Prop):Prop:=
 match a,b with
 | .c (.d _ (.int k x)),.c (.d _ (.int k' y))=>(k=k'\/Tm c=true)/\AX c k x y K
 | .c (.d _ (.bool x)),.c (.d _ (.bool y))=>aF (E.ty ty) λz=>z.desc= .bool/\(match c with | .eql=>K (cb (x==y)) | .neq=>K (cb (!(x==y))) | _=>False)
 | .c (.d _ (.str x)),.c (.d _ (.str y))=>aF (E.ty ty) λz=>z.desc= .str/\(match c with | .eql=>K (cb (x.toList==y.toList)) | .neq=>K (cb (!(x.toList==y.toList))) | _=>False)
 | .agg xs,.agg ys=>uQ (iy xs) λx=>uQ (iy ys) λy=>
  E.ieq ty=some x.length/\x.length=y.length/\(match c with | .eql=>K (cb (x==y)) | .neq=>K (cb (!(x==y))) | _=>False)
 | .c (.os _ _ _ n),.c .nil=>n≠0/\aF (E.ty ty) λz=>(∃e,z.desc= .slice e)/\(match c with | .eql=>K (cb false) | .neq=>K (cb true) | _=>False)
 | .c (.d _ (.rows _ es)),.c .nil=>es≠ []/\aF (E.ty ty) λz=>(∃e,z.desc= .slice e)/\(match c with | .eql=>K (cb false) | .neq=>K (cb true) | _=>False)
 | _,_=>False
def unA(c:UnOp)(a:PV)(K:PV->Prop):Prop:=
 match c,a with
 | .not,.c (.d _ (.bool b))=>K (cb (!b))
 | .neg,.c (.d _ (.int k n))=>K (ci k (k.wrap (0-n)))
 | _,_=>False
def ahI:List D->Option Int
 | [.int .u8 n]=>some n
 | _=>none
def K9:List (List D)->Option (List Int)
 | []=>some []
 | x::r=>match ahI x,K9 r with | some n,some l=>some (n::l) | _,_=>none
def DJ(E:Tab)(src b:TypeId)(a:PV)(K:PV->Prop):Prop:=
 aF (E.ty b) λy=>match y.desc,a with
  | .int k,.c (.d _ (.int _ n))=>aF (E.ty src) λ_=>K (ci k (k.wrap n))
  | .str,.c (.d _ (.rows _ es))=>aF (E.ty src) λz=>(match z.desc with
   | .slice e=>aF (E.ty e) λt=>t.desc= .int .u8/\uQ (K9 es) λc=>K (.c (.d true (.str (strOfNums c))))
   | _=>False)
  | _,_=>False
def jc(E:Tab)(s:TypeId)(a:PV)(f:Nat)(K:PV->Prop):Prop:=
 aF (E.ty s) λy=>match y.desc with
  | .struct b=>match b[f]? with
   | some (off,ft)=>aF (E.ty ft) λz=>z.size≠0/\(match a with
    | .c (.ptr l sz i j)=>K (.c (.ptr l sz i (j+off)))
    | .c (.rp r sz es i j)=>K (.c (.rp r sz es i (j+off)))
    | _=>False)
   | none=>False
  | _=>False
def uR(E:Tab)(s:TypeId)(a:PV)(f:Nat)(K:PV->Prop):Prop:=
 aF (E.ty s) λy=>match y.desc with
  | .struct b=>match b[f]? with
   | some (off,ft)=>aF (E.ty ft) λz=>match a with
    | .agg cs=>off+z.size<=cs.length/\(if z.desc.agg then K (.agg ((cs.drop off).take z.size))else Cm cs[off]? λx=>K (.c x))
    | _=>False
   | none=>False
  | _=>False
def jV(E:Tab)(t:TypeId)(a b:PV)(K:PV->Prop):Prop:=
 aF (E.ty t) λy=>match y.desc with
  | .slice e=>aF (E.ty e) λz=>rV b λ_ i=>
   match a with
   | .c (.d f (.rows sz es))=>(es≠ []->sz=z.size)/\0<=i/\i<es.length/\K (.c (.rp f sz es i.toNat 0))
   | .c (.clip f sz es)=>(es≠ []->sz=z.size)/\0<=i/\i<es.length/\K (.c (.rp f sz es i.toNat 0))
   | .c (.os l sz lo n)=>sz=z.size/\0<=i/\i<n/\K (.c (.ptr l sz (lo+i.toNat) 0))
   | _=>False
  | _=>False
def La:PV->(PV->Prop)->Prop
 | .c (.d _ (.rows _ es)),K=>K (ci .i64 es.length)
 | .c (.clip _ _ es),K=>K (ci .i64 es.length)
 | .c (.os _ _ _ n),K=>K (ci .i64 n)
 | .c .nil,K=>K (ci .i64 0)
 | _,_=>False
def qN(a:PV)(i:Nat)(K:PV->Prop):Prop:=
 match a with
 | .tup b=>aT b[i]? K
 | _=>False
def aP:PV->List Cell
 | .c x=> [x]
 | .agg cs=>cs
 | .tup _=> []
def zI(E:Tab)(t:Slots)(o:Option Operand)(a:Int)(K:Int->Prop):Prop:=
 match o with
 | none=>K a
 | some x=>aT (ev E t x) λv=>rV v λ_ n=>K n
def uS(E:Tab)(t:Slots)(ty:TypeId)(a:PV)(lo d c:Option Operand)(K:PV->Prop):Prop:=
  aF (E.ty ty) λy=>match y.desc with
    | .slice e=>aF (E.ty e) λz=>zI E t lo 0 λl=>
      match a with
      | .c (.d f (.rows sz es))=>(es≠ []->sz=z.size)/\(zI E t d es.length λh=>0<=l/\l<=h/\h<=es.length/\
          (match c with
           | none=>K (.c (.d f (.rows sz ((es.take h.toNat).drop l.toNat))))
           | some _=>zI E t c 0 λm=>d.isSome=true/\m=h/\K (.c (.clip f sz ((es.take h.toNat).drop l.toNat)))))
      | .c (.os b sz lo0 n)=>sz=z.size/\c=none/\(zI E t d n λh=>0<=l/\l<=h/\h<=n/\K (.c (.os b sz (lo0+l.toNat) (h.toNat-l.toNat))))
      | .c .nil=>c=none/\(zI E t d 0 λh=>l=0/\h=0/\K (.c .nil))
      | _=>False
    | _=>False
def splice(cs new:List Cell)(a:Nat):List Cell:=cs.take a++new++cs.drop (a+new.length)
def tQ(E:Tab)(t:Slots)(a:Nat->Option (Nat×Nat)):List (Nat×Operand)->List Cell->(List Cell->Prop)->Prop
 | [],cs,K=>K cs
 | (i,x)::rest,cs,K=>match a i with
  | none=>False
  | some (off,size)=>aT (ev E t x) λv=>(aP v).length=size/\size≠0/\off+size<=cs.length/\tQ E t a rest (splice cs (aP v) off) K
def pI(E:Tab)(a:List (Nat×TypeId))(i:Nat):Option (Nat×Nat):=
 match a[i]? with
 | some (off,ft)=>match E.ty ft with | some z=>some (off,z.size) | none=>none
 | none=>none
def AZ(E:Tab)(t:Slots)(ty:TypeId)(a:List (Nat×Operand))(K:PV->Prop):Prop:=
 aF (E.ty ty) λy=>match y.desc with
  | .struct b=>(∀c∈b,(E.ty c.2).isSome=true)/\tQ E t (pI E b) a y.zero λcs=>K (.agg cs)
  | _=>False
def tT(E:Tab)(t:Slots):List Operand->(List Cell->Prop)->Prop
 | [],K=>K []
 | x::r,K=>aT (ev E t x) λv=>match v with
  | .c y=>tT E t r λa=>K (y::a)
  | _=>False
def WW:PV->(PV->Prop)->Prop
 | .c .nil,K=>K (ci .i64 0)
 | _,_=>False
def tV(E:Tab)(t:Slots)(c:Call)(K:PV->Prop):Prop:=
 match c.callee with
 | .builtin .len=>match c.args.toList,c.argTypes.toList with
  | [x],[ty]=>aF (E.ty ty) λy=>(match y.desc with | .slice _=>True | _=>False)/\aT (ev E t x) λv=>La v K
  | _,_=>False
 | .builtin .cap=>match c.args.toList,c.argTypes.toList with
  | [x],[ty]=>aF (E.ty ty) λy=>(match y.desc with | .slice _=>True | _=>False)/\aT (ev E t x) λv=>WW v K
  | _,_=>False
 | .builtin .min=>match c.args.toList with
  | [x,y]=>aT (ev E t x) λa=>aT (ev E t y) λb=>rV a λk m=>rV b λ_ n=>K (ci k (if n<m then n else m))
  | _=>False
 | .builtin .max=>match c.args.toList with
  | [x,y]=>aT (ev E t x) λa=>aT (ev E t y) λb=>rV a λk m=>rV b λ_ n=>K (ci k (if m<n then n else m))
  | _=>False
 | _=>False
def gK(E:Tab)(j:Op)(t:Slots)(h:Heap)(K:PV->Prop):Prop:=
 match j with
 | .move x | .assign x=>aT (ev E t x) K
 | .pick c a b=>aT (ev E t c) λv=>Hy v λq=>K8 q (aT (ev E t a) K) (aT (ev E t b) K)
 | .load ty p=>aT (ev E t p) λv=>lQ E h ty v K
 | .nilCheck x=>aT (ev E t x) λv=>Ny v K
 | .binOp j ty x y _=>aT (ev E t x) λa=>aT (ev E t y) λb=>AY E j ty a b K
 | .unOp j _ x=>aT (ev E t x) λa=>unA j a K
 | .convert s d x=>aT (ev E t x) λa=>DJ E s d a K
 | .fieldAddr s x f=>aT (ev E t x) λa=>jc E s a f K
 | .field s x f=>aT (ev E t x) λa=>uR E s a f K
 | .indexAddr ty x i=>aT (ev E t x) λa=>aT (ev E t i) λb=>jV E ty a b K
 | .slice ty x o n l=>aT (ev E t x) λa=>uS E t ty a o n l K
 | .extract x i=>aT (ev E t x) λa=>qN a i K
 | .build ty e=>AZ E t ty e.toList K
 | .makeFunc m first k=>match m with
  | .func g=>first= #[]/\tT E t k.toList λcs=>K (.c (.fn g cs))
  | _=>False
 | .call c=>tV E t c K
 | _=>False
variable{K:PV->Prop}{c:Ctx}{w:World}{v:PV}{E:Tab}{t:TypeId}{h:Heap}{x:Operand}{u:Value}{f:Bool}{k:IntKind}{y:TY}
structure qO(E:Tab)(c:Ctx)(w:World)(t:Slots)(h:Heap)(a:Act):Prop where
 slot:∀i v,aW t i=some v->∃u,a.tmps[i]? =some u/\bG c w u v
 heap:bH c w h
 glob:oD E c w
def jW{o:Option PV}(h:aT o K):∃v,o=some v/\K v:=by
 cases o with
 | none=>exact h.elim
 | some v=>exact⟨v,rfl,h⟩
def aI{o:Option TY}{K:TY->Prop}(h:aF o K):∃v,o=some v/\K v:=by
 cases o with
 | none=>exact h.elim
 | some v=>exact⟨v,rfl,h⟩
def lV{o:Option eD}{K:eD->Prop}(h:pG o K):∃v,o=some v/\K v:=by
 cases o with
 | none=>exact h.elim
 | some v=>exact⟨v,rfl,h⟩
def DK{o:Option Cell}{K:Cell->Prop}(h:Cm o K):∃v,o=some v/\K v:=by
 cases o with
 | none=>exact h.elim
 | some v=>exact⟨v,rfl,h⟩
def bM.ofInt(k:IntKind)(n:Int)(f:Bool):bM c w (.int k n) (.d f (.int k n)):= .d f _ _ (.int k n)
def bG.ofInt(k:IntKind)(n:Int):bG c w (.int k n) (ci k n):= .c _ _ (.ofInt k n true)
def bG.ofBool(b:Bool):bG c w (.bool b) (cb b):= .c _ _ (.d true _ _ (.bool b))
def Jl{v:Value}{p:PV}(h:Nw v=some p):bG c w v p:=by
 unfold Nw at h;split at h<;>first | (cases h) | skip
 .exact .ofInt _ _
 .exact .ofBool _
 .exact .c _ _ (.d true _ _ (.str _))
 .exact .c _ _ .nil
 .exact .c _ _ .np
def Lb{t:Slots}{a:Act}(A:qO E c w t h a)(e:ev E t x=some v):
  bG c w (a.eval x) v:=by
 cases x with
 | tmp i=>
  obtain⟨u,n,m⟩:=A.slot i v e;have:a.eval (.tmp i)=u:=by simp [Act.eval,Array.getD_eq_getD_getElem?,n]
  rw [this];exact m
 | const o=>exact Jl e
 | global g=>
  simp only [ev,Option.map_eq_some_iff]at e;obtain⟨d,hd,rfl⟩:=e;obtain⟨hk,u,n,m⟩:=A.glob g d hd;refine .c _ _ ?_;have:=bM.rp (c:=c) (w:=w) false g 0 1 [[d]] 0 0 (λ_ _=>u) hk ?_ ?_ ?_ (by simp)
  .simpa [Act.eval]using this
  .intro i j b hj;have k:i=0:=by simpa using b
   have l:j=0:=by omega
   subst k;subst l;simpa using n
  .intro i b;have k:i=0:=by simpa using b
   subst k;rfl
  .intro i j b hj;have k:i=0:=by simpa using b
   have l:j=0:=by omega
   subst k;subst l;exact m
 | func f=>
  simp only [ev,Option.some.injEq]at e;subst e;refine .c _ _ ?_;exact bM.fn f [] [] rfl (λi b=>by simp at b)
def Gives(P:Program)(c:Ctx)(w:World)(s:Sem Value)(K:PV->Prop):Prop:=∃u pv,s.run P w= .ok u w/\bG c w u pv/\K pv
def dF{t:Slots}{a:Act}(A:qO E c w t h a)(d:aT (ev E t x) K):
  ∃v,bG c w (a.eval x) v/\K v:=by
 obtain⟨v,b,hk⟩:=jW d;exact⟨v,Lb A b,hk⟩
def DL{K:Bool->Prop}(h:Hy v K):∃f b,v= .c (.d f (.bool b))/\K b:=by
 unfold Hy at h;split at h
 .exact⟨_,_,rfl,h⟩
 .exact h.elim
def kg{K:IntKind->Int->Prop}(h:rV v K):∃f k n,v= .c (.d f (.int k n))/\K k n:=by
 unfold rV at h;split at h
 .exact⟨_,_,_,rfl,h⟩
 .exact h.elim
def jJ{b:Bool}(h:bG c w u (.c (.d f (.bool b)))):u= .bool b:=by
 cases h with | c _ _ h=>cases h with | d _ _ _ h=>cases h;rfl
def iA{n:Int}(h:bG c w u (.c (.d f (.int k n)))):u= .int k n:=by
 cases h with | c _ _ h=>cases h with | d _ _ _ h=>cases h;rfl
theorem WX{n:Int}(h:bM c w u (.d f (.int k n))):u= .int k n:=by
 cases h with | d _ _ _ h=>cases h;rfl
theorem addr_add(b o n:Nat):(⟨b,o,none⟩:Addr).add n=⟨b,o+n,none⟩:=by
 unfold Addr.add;split
 .rename_i h;subst h;rfl
 .rfl
def A8(hE:aH E)(c:E.ty t=some y)(w:World):(isAgg t).run E.P w= .ok y.desc.agg w:=by
 have hd:=(hE.ty t y c).desc;unfold Jj at hd;split at hd
 .rename_i he;obtain⟨d,a,e,b⟩:=hd;simp only [isAgg,Sem.run_bind,run_underlying a,Result.andThen_ok,he,lN.agg];cases d<;>first | rfl | exact absurd rfl (e _) | exact absurd rfl (b _ _)
 .rename_i he;simp [isAgg,run_underlying hd,he,lN.agg]
 .rename_i he;simp [isAgg,run_underlying hd,he,lN.agg]
 .rename_i he;simp [isAgg,run_underlying hd,he,lN.agg]
 .rename_i he;simp [isAgg,run_underlying hd,he,lN.agg]
 .rename_i he;obtain⟨F,a,_⟩:=hd;simp [isAgg,run_underlying a,he,lN.agg]
def run_sizeOf(hE:aH E)(a:E.ty t=some y)(w:World):(sizeOf t).run E.P w= .ok y.size w:=by
 obtain⟨i,b,c,_⟩:=(hE.ty t y a).info;simp [sizeOf,typeInfo,b,c]
def pJ(hE:aH E)(e:E.ty t=some y){b o:Nat}(a:List Value)
  (f:∀j v,a[j]? =some v->w.cell? ⟨b,o+j,none⟩=some v) (c:a.length=if y.desc.agg then y.size else 1):
  (loadVar t ⟨b,o,none⟩).run E.P w= .ok (if y.desc.agg then .agg a.toArray else a.getD 0 undef) w:=by
 simp only [loadVar,Sem.run_bind,A8 hE e,Result.andThen_ok];by_cases d:y.desc.agg=true
 .simp only [d,if_true]at c ⊢;simp only [Sem.run_bind,run_sizeOf hE e,Result.andThen_ok];have:=run_loadCells_list (P:=E.P) (w:=w) ⟨b,o,none⟩ a (λj v g=>by rw [addr_add];exact f j v g);rw [c]at this;simp [this]
 .have ha':y.desc.agg=false:=by simpa using d
  simp only [ha']at c ⊢;cases a with
  | nil=>simp at c
  | cons v r=>
   have:=f 0 v rfl;simp at this;simp [this]
theorem pK{α:Type}{l:List α}{i:Nat}{x d:α}(h:l[i]? =some x):l.getD i d=x:=by
 simp [List.getD,h]
def Lc(hE:aH E)(G:E.ty t=some y){b o s j:Nat}{row:List D}
  (L:row.length=s) (u:Nat->Value) (hc:∀j,j<s->w.cell? ⟨b,o+j,none⟩=some (u j)) (H:∀j,j<s->dh (c.K f) w (u j) (row.getD j default))
  (h:uP f y row j K):Gives E.P c w (loadVar t ⟨b,o+j,none⟩) K:=by
 have one:∀x,y.desc.agg=false->row[j]? =some x->∃u,(loadVar t ⟨b,o+j,none⟩).run E.P w= .ok u w/\dh (c.K f) w u x:=by
  intro x p e;have I:j<s:=by rw [<-L];exact(List.getElem?_eq_some_iff.1 e).1
  have d:=pJ hE G (w:=w) (b:=b) (o:=o+j) [u j] (λi v q=>by
   cases i with
   | zero=>simp at q;subst q;exact hc j I
   | succ i=>simp at q) (by simp [p])
  refine⟨u j,by simpa [p]using d,?_⟩;have:=H j I
  rwa [pK e]at this
 unfold uP at h;split at h
 .rename_i fs he;obtain⟨C,hk⟩:=h;have p:y.desc.agg=true:=by rw [he];rfl
  have d:=pJ hE G (w:=w) (b:=b) (o:=o+j) ((List.range y.size).map λi=>u (j+i)) (λi v q=>by
   simp only [List.getElem?_map,Option.map_eq_some_iff]at q;obtain⟨M,l,rfl⟩:=q;obtain⟨a,WY⟩:=List.getElem?_eq_some_iff.1 l;simp at a WY;subst WY;rw [Nat.add_assoc];exact hc (j+i) ah) (by simp [p])
  refine⟨_,_,d,?_,hk⟩;simp only [p,if_true];refine .agg _ _ (F2.DF (by simp;omega) ?_);intro i x z e F;simp only [List.getElem?_map,Option.map_eq_some_iff]at e F;obtain⟨M,l,rfl⟩:=e;obtain⟨a,WY⟩:=List.getElem?_eq_some_iff.1 l;simp at a WY;subst WY;obtain⟨J,r,rfl⟩:=F;have B:row[j+i]? =some J:=by
   rw [List.getElem?_take_of_lt a,List.getElem?_drop]at r;exact r
  have:=H (j+i) ah;rw [pK B]at this;exact .d f _ _ this
 .rename_i k he;obtain⟨⟨n,hn⟩,hk⟩:=h;obtain⟨A,m,g⟩:=one _ (by rw [he];rfl) hn;refine⟨A,_,m,?_,hk n hn⟩;cases g;exact .ofInt k n
 .rename_i hns hni;obtain⟨a,hk⟩:=h;have p:y.desc.agg=false:=by
   unfold lN.agg;split
   .rename_i fs he;exact absurd he (hns fs)
   .rfl
  have e:row[j]? =some row[j]:=List.getElem?_eq_getElem a;obtain⟨A,m,g⟩:=one _ p e;exact⟨A,_,m,.c _ _ (.d f _ _ g),hk _ e⟩
def DN(hE:aH E)(g:E.ty t=some y){b o sz i j:Nat}{a:List (List D)}
  (u:Nat->Nat->Value) (hc:∀i j,i<a.length->j<sz->w.cell? ⟨b,o+i*sz+j,none⟩=some (u i j))
  (k:∀i,i<a.length->(a.getD i []).length=sz) (l:∀i j,i<a.length->j<sz->dh (c.K f) w (u i j) (gd a i j))
  (h:WU f a i j y K):Gives E.P c w (loadVar t ⟨b,o+i*sz+j,none⟩) K:=by
 obtain⟨d,h⟩:=h;have m:a[i]? =some (a.getD i []):=by simp [List.getD,List.getElem?_eq_getElem d]
 exact Lc hE g (k i d) (u i) (λj e=>hc i j d e) (λj e=>l i j d e) (h _ m)
theorem qP{b:Nat}{cs:Array Value}{E:TypeId}{a:Nat×Nat}(h:w.heap[b]? =some (.cells cs E a))(o:Nat):w.cell? ⟨b,o,none⟩=cs[o]? :=by
 simp [World.cell?,h]
def NA(hE:aH E)(n:E.ty t=some y){b j:Nat}{g:List Value}{cs:List Cell}{e:TypeId}{q:Nat×Nat}
  (l:w.heap[b]? =some (.cells g.toArray e q)) (k:F2 (bM c w) g cs) (h:Jk cs j y K):Gives E.P c w (loadVar t ⟨b,j,none⟩) K:=by
 unfold Jk at h;split at h
 .rename_i ha;obtain⟨m,hk⟩:=h;have p:=k.length;have a:=pJ hE n (w:=w) (b:=b) (o:=j) ((g.drop j).take y.size) (λi v d=>by
   rw [qP l];rw [List.getElem?_take]at d;split at d
   .rw [List.getElem?_drop]at d;simpa using d
   .cases d) (by simp [ha];omega)
  simp only [ha,if_true]at a;exact⟨_,_,a,.agg _ _ ((k.drop j).take y.size),hk⟩
 .rename_i ha;obtain⟨x,r,hk⟩:=DK h;obtain⟨v,s,f⟩:=k.get r;have a:=pJ hE n (w:=w) (b:=b) (o:=j) [v] (λi u d=>by
   cases i with
   | zero=>simp at d;subst d;rw [qP l];simpa using s
   | succ i=>simp at d) (by simp [ha])
  simp only [ha]at a;exact⟨_,_,by simpa using a,.c _ _ f,hk⟩
def NC(hE:aH E)(s:E.ty t=some y){l sz i j b m:Nat}{o:eD}
  (hm:c.ν l=some (b,m)) (p:jr c w l o) (h:ad5 o sz i j y K):Gives E.P c w (loadVar t ⟨b,m+(i*sz+j),none⟩) K:=by
 unfold ad5 at h;split at h
 .rename_i cs;obtain⟨rfl,h⟩:=h;obtain⟨x,z,e,k,n,q⟩:=p;rw [hm]at k;cases k;simpa using NA hE s n q h
 .rename_i f sz' es;obtain⟨rfl,h⟩:=h;simp only [jr,hm]at p;obtain⟨cells,e,n,d⟩:=p;have r:∀i j,∃u,i<es.length->j<sz->w.cell? ⟨b,m+i*sz+j,none⟩=some u/\dh (c.K f) w u (gd es i j):=by
   intro i j;by_cases a:i<es.length
   .by_cases g:j<sz
    .obtain⟨v,hv,q⟩:=(d i a).2 j g;exact⟨v,λ_ _=>⟨by rw [qP n,Nat.add_assoc];rwa [zH]at hv,q⟩⟩
    .exact⟨undef,λ_ h=>absurd h g⟩
   .exact⟨undef,λh=>absurd h a⟩
  have:=DN hE s (c:=c) (w:=w) (b:=b) (o:=m) (sz:=sz) (λi j=>Classical.choose (r i j)) (λi j a g=>(Classical.choose_spec (r i j) a g).1)
   (λi a=>(d i a).1) (λi j a g=>(Classical.choose_spec (r i j) a g).2) h
  rwa [Nat.add_assoc]at this
 .exact h.elim
def DR(hE:aH E)(q:bH c w h){p:PV}(d:bG c w u p)
  (a:lQ E h t p K):Gives E.P c w (Instr.loadAt t u) K:=by
 obtain⟨y,e,a⟩:=aI a;split at a
 .rename_i l sz i j;obtain⟨o,m,hk⟩:=lV a;cases d with | c _ _ d=>cases d with | ptr _ _ _ _ b _ r hm=>
  have:=NC hE e hm (q.obj _ _ m).2 hk;simpa [Gives,Instr.loadAt,Instr.sureAddr]using this
 .rename_i f sz es i j;cases d with | c _ _ d=>cases d with | rp _ b n _ _ _ _ u v k g s x=>
  have:=DN hE e u k g s a;simpa [Gives,Instr.loadAt,Instr.sureAddr]using this
 .exact a.elim
end Go.AE
namespace Go.AE
open Go
variable{P:Program}{c:Ctx}{w:World}{u:Value}{p:PV}{K:PV->Prop}{t:TypeId}{E:Tab}{y:TY}{s:TypeId}{i:Nat}
def VB{ρ:Operand->Value}{o:Oper}{x:Operand}(d:o.op= .nilCheck x)(e:ρ x=u)(a:bG c w u p)(h:Ny p K):
  ∃u pv,(execOp ρ o).run P w= .ok (.value u) w/\bG c w u pv/\K pv:=by
 unfold Ny at h;split at h
 .have hu':=a;cases a with | c _ _ a=>cases a with | ptr _ _ _ _ b _ g hm=>
  exact⟨_,_,by simp [execOp,d,e],hu',h⟩
 .have hu':=a;cases a with | c _ _ a=>cases a with | rp _ b f _ _ _ _ u j l i m k=>
  exact⟨_,_,by simp [execOp,d,e],hu',h⟩
 .exact h.elim
def Jm{a:BinOp}{k:IntKind}{x y:Int}(h:AX a k x y K):
  Gives P c w (binOp a t (.int k x) (.int k y)) K:=by
 unfold AX at h;split at h
 .exact⟨_,_,by simp [binOp,Op.intArith],.ofInt _ _,h⟩
 .exact⟨_,_,by simp [binOp,Op.intArith],.ofInt _ _,h⟩
 .exact⟨_,_,by simp [binOp,Op.intArith],.ofInt _ _,h⟩
 .exact⟨_,_,by simp [binOp,Op.intDiv,h.1],.ofInt _ _,h.2⟩
 .exact⟨_,_,by simp [binOp,Op.intDiv,h.1],.ofInt _ _,h.2⟩
 .exact⟨_,_,by simp [binOp,Op.intBits,dR],.ofInt _ _,h⟩
 .exact⟨_,_,by simp [binOp,Op.intBits,dR],.ofInt _ _,h⟩
 .exact⟨_,_,by simp [binOp,Op.intBits,dR],.ofInt _ _,h⟩
 .have:¬y<0:=by omega
  exact⟨_,_,by simp [binOp,Op.shift,this],.ofInt _ _,h.2⟩
 .have:¬y<0:=by omega
  exact⟨_,_,by simp [binOp,Op.shift,this],.ofInt _ _,h.2⟩
 .exact⟨_,_,by simp [binOp,Op.intCmp];rfl,.ofBool _,h⟩
 .exact⟨_,_,by simp [binOp,Op.intCmp];rfl,.ofBool _,h⟩
 .exact⟨_,_,by simp [binOp,Op.intCmp],.ofBool _,h⟩
 .exact⟨_,_,by simp [binOp,Op.intCmp],.ofBool _,h⟩
 .exact⟨_,_,by simp [binOp,Op.intCmp],.ofBool _,h⟩
 .exact⟨_,_,by simp [binOp,Op.intCmp],.ofBool _,h⟩
 .exact h.elim
def yL{o:Option (List Int)}{K:List Int->Prop}(h:uQ o K):∃v,o=some v/\K v:=by
 cases o with
 | none=>exact h.elim
 | some v=>exact⟨v,rfl,h⟩
def xX{cs:List Cell}{b:List Int}(h:iy cs=some b){a:List Value}(e:F2 (bM c w) a cs):a=b.map (Value.int .i64):=by
 induction e generalizing b with
 | nil=>grind [iy]
 | @cons v x a cs f _ d=>
  simp only [iy]at h;split at h
  .rename_i n l hn hl;cases h;have:=d hl;subst this;unfold Nz at hn
   grind [WX]
  .cases h
def run_equal_bool(c:P.underlying t=some .bool)(a b:Bool)(w:World):(Op.equal t (.bool a) (.bool b)).run P w= .ok (a==b) w:=by
 have h:∀d,(Op.equalIn (d+1) t (.bool a) (.bool b)).run P w= .ok (a==b) w:=by
  intro d;simp [Op.equalIn,run_underlying c]
 exact h 9999
def jS{t e:TypeId}(c:P.underlying t=some (.slice e))(a:Addr)(n b:Nat)(w:World):(Op.equal t (.slice (some a) n b) (.slice none 0 0)).run P w= .ok false w:=by
 have h:∀d,(Op.equalIn (d+1) t (.slice (some a) n b) (.slice none 0 0)).run P w= .ok false w:=by
  intro d;simp [Op.equalIn,run_underlying c]
 exact h 9999
def VD(hE:aH E){C:BinOp}{u v:Value}{p q:PV}(g:bG c w u p)(i:bG c w v q)(h:AY E C t p q K)
  (x y:Operand):Gives E.P c w (do eqGuard C t x y u v;binOp C t u v) K:=by
 unfold AY at h;split at h
 .rename_i k m _ k' n;obtain⟨hk,h⟩:=h;rw [iA g,iA i];have D:∀a b,(eqGuard C t x y (.int a b) v).run E.P w= .ok () w:=by simp_all [eqGuard]
  have A:Gives E.P c w (binOp C t (.int k m) (.int k' n)) K:=by
   rcases hk with rfl | T
   .exact Jm h
   .have:∀L:0<=n,¬n<0:=λL=>by omega
    cases C<;>first
     | exact absurd T (by decide)
     | (unfold AX at h;exact⟨_,_,by simp [binOp,Op.shift,this h.1],.ofInt _ _,h.2⟩)
  obtain⟨r,pv,N,J,S⟩:=A;refine⟨r,pv,?_,J,S⟩;have:=D;rw [iA i]at this;simp [this,N]
 .replace h:=aI h;obtain⟨z,B,hd,h⟩:=h
  have e:=(hE.ty t z B).desc;rw [hd]at e;rw [jJ g,jJ i];split at h
  .exact⟨_,_,by simp [eqGuard,binOp,run_equal_bool e],.ofBool _,h⟩
  .exact⟨_,_,by simp [eqGuard,binOp,run_equal_bool e],.ofBool _,h⟩
  .exact h.elim
 .rename_i f s f' s'
  replace h:=aI h;obtain⟨z,B,hd,h⟩:=h
  have e:=(hE.ty t z B).desc;rw [hd]at e;have X:u= .string s:=by cases g with | c _ _ g=>cases g with | d _ _ _ g=>cases g;rfl
  have ev:v= .string s':=by cases i with | c _ _ i=>cases i with | d _ _ _ i=>cases i;rfl
  subst X ev;split at h
  .exact⟨_,_,by simp [eqGuard,binOp,Op.stringOp],.ofBool _,h⟩
  .exact⟨_,_,by simp [eqGuard,binOp,Op.stringOp],.ofBool _,h⟩
  .exact h.elim
 .replace h:=yL h;obtain⟨H,V,h⟩:=h
  replace h:=yL h;obtain⟨I,P,U,O,h⟩:=h
  cases g with | agg Z cs g=>
  cases i with | agg W Q i=>
  rw [xX V g,xX P i];have A:=hE.ieq t _ U H I rfl O.symm w;have D:(eqGuard C t x y (.agg (H.map (Value.int .i64)).toArray) (.agg (I.map (Value.int .i64)).toArray)).run E.P w= .ok () w:=by grind [eqGuard]
  split at h
  .exact⟨_,_,by simp [D,binOp,A.1],.ofBool _,h⟩
  .exact⟨_,_,by simp [D,binOp,A.1],.ofBool _,h⟩
  .exact h.elim
 .rename_i l F Y n0;obtain⟨G,h⟩:=h
  replace h:=aI h;obtain⟨z,B,⟨M,hd⟩,h⟩:=h
  have e:=(hE.ty t z B).desc;rw [hd]at e;have g:∃b o n j,u= .slice (some ⟨b,o,none⟩) n j:=by
   cases g with | c _ _ g=>cases g with
    | os0=>omega
    | osE=>omega
    | os l F Y n j b oo=>simp_all
  obtain⟨b,o,n,j,rfl⟩:=g;have i:v= .slice none 0 0:=by cases i with | c _ _ i=>cases i;rfl
  subst i;split at h
  .exact⟨_,_,by simp [eqGuard,binOp,jS e],.ofBool _,h⟩
  .exact⟨_,_,by simp [eqGuard,binOp,jS e],.ofBool _,h⟩
  .exact h.elim
 .rename_i f F R;obtain⟨G,h⟩:=h
  replace h:=aI h;obtain⟨z,B,⟨M,hd⟩,h⟩:=h
  have e:=(hE.ty t z B).desc;rw [hd]at e;have g:∃b o n j,u= .slice (some ⟨b,o,none⟩) n j:=by
   cases g with | c _ _ g=>cases g with | d _ _ _ g=>cases g with
    | none a j F=>simp_all
    | rows b o j F n R u=>simp_all
  obtain⟨b,o,n,j,rfl⟩:=g;have i:v= .slice none 0 0:=by cases i with | c _ _ i=>cases i;rfl
  subst i;split at h
  .exact⟨_,_,by simp [eqGuard,binOp,jS e],.ofBool _,h⟩
  .exact⟨_,_,by simp [eqGuard,binOp,jS e],.ofBool _,h⟩
  .exact h.elim
 .exact h.elim
def WZ{a:UnOp}(b:bG c w u p)(h:unA a p K):Gives P c w (Op.unary a u) K:=by
 unfold unA at h;split at h
 .rw [jJ b];exact⟨_,_,by simp [Op.unary],.ofBool _,h⟩
 .rw [iA b];exact⟨_,_,by simp [Op.unary,Op.intArith],.ofInt _ _,h⟩
 .exact h.elim
def xL(hE:aH E)(a:E.ty t=some y):∃d,E.P.underlying t=some d:=by
 have hd:=(hE.ty t y a).desc;unfold Jj at hd
 grind
def Ld:∀ {b:List (List D)} {a:List Int},K9 b=some a->a.length=b.length/\∀i,i<b.length->b.getD i []=[.int .u8 (a.getD i 0)]
 | [],a,h=>by grind [K9,Option.some.injEq,absurd]
 | x::r,a,h=>by
  unfold K9 at h;split at h
  .rename_i n l hn hl;cases h;obtain⟨d,c⟩:=Ld hl;have e:x=[.int .u8 n]:=by
    unfold ahI at hn
    grind
   grind
  .cases h
def ND{K:Nat->Prop}{l:Nat}{j:List (List D)}{h:List Int}(v:dh K w u (.rows l j))(y:K9 j=some h){src e d:TypeId}
  (m:P.underlying src=some (.slice e)) (o:P.underlying e=some (.int .u8)) (hd:P.underlying d=some .string):(convert src d u).run P w= .ok (.string (strOfNums h)) w:=by
 have zero:∀(p:Option Addr) (c:Nat),(convert src d (.slice p 0 c)).run P w= .ok (.string (strOfNums [])) w:=λp c=>by
  rw [run_convert_bytes_string w src d e _ 0 c m o hd];cases p<;>simp [Conv.bytesToString,loadCells]
  all_goals rfl
 obtain⟨s,q⟩:=Ld y;cases v with
 | none a f=>simp_all
 | rows b g f _ n _ u C hn hc t r z=>
  subst hn;cases j with
  | nil=>simp_all
  | cons A B=>
   have x:l=1:=by
    have a:=r 0 (by simp);simp_all
   subst x;refine run_convert_bytes_arg w src e m o b g _ f h s (λi k=> ?_) d hd;have a:=t i 0 k ah;have c:=z i 0 k ah;rw [Nat.mul_one,Nat.add_zero]at a;rw [a];unfold gd at c;rw [q i k]at c;cases hv:u i 0<;>rw [hv]at c<;>cases c
   rfl
def NG(hE:aH E){s d:TypeId}(a:bG c w u p)(h:DJ E s d p K):Gives E.P c w (convert s d u) K:=by
 replace h:=aI h;obtain⟨y,m,h⟩:=h
 split at h
 .rename_i k f k' n he
  replace h:=aI h;obtain⟨z,i,h⟩:=h
  obtain⟨r,l⟩:=xL hE i;have b:=(hE.ty d y m).desc;rw [he]at b;rw [iA a];refine⟨_,_,?_,.ofInt _ _,h⟩;simp only [convert,Sem.run_bind,run_underlying l,run_underlying b,Result.andThen_ok];simp_all [Conv.intToInt]
 .rename_i f sz es he
  replace h:=aI h;obtain⟨z,i,h⟩:=h
  split at h
  .rename_i e hs
   replace h:=aI h;obtain⟨t,o,g,h⟩:=h
   replace h:=yL h;obtain⟨v,q,h⟩:=h
   have u1:=(hE.ty s z i).desc;rw [hs]at u1;have u2:=(hE.ty e t o).desc;rw [g]at u2;have u3:=(hE.ty d y m).desc;rw [he]at u3;have j:∃K,dh K w u (.rows sz es):=by cases a with | c _ _ a=>cases a with | d _ _ _ a=>exact⟨_,a⟩
   obtain⟨x,j⟩:=j;exact⟨_,_,ND j q u1 u2 u3,.c _ _ (.d _ _ _ (.str _)),h⟩
  .exact h.elim
 .exact h.elim
def uT(hE:aH E){f:Field}{z:TY}(c:E.ty f.type=some z)(a:z.size≠0)(b o:Nat)(w:World):
  (fieldPlace ⟨b,o,none⟩ f).run E.P w= .ok ⟨b,o+f.offset,none⟩ w:=by
 simp [fieldPlace,run_sizeOf hE c,a,addr_add]
def Hz{F:Array Field}{c:List (Nat×TypeId)}(d:F.toList.map (λf=>(f.offset,f.type))=c){i a:Nat}{b:TypeId}(h:c[i]? =some (a,b)):
 ∃f:Field,F[i]? =some f/\f.offset=a/\f.type=b:=by grind
def CS(hE:aH E)(a:bG c w u p)(h:jc E s p i K):
  Gives E.P c w (Instr.fieldAt s u i) K:=by
 replace h:=aI h;obtain⟨y,t,h⟩:=h
 split at h
 .rename_i fs he;split at h
  .rename_i off ft hf
   replace h:=aI h;obtain⟨z,k,d,h⟩:=h
   have hd:=(hE.ty s y t).desc;rw [he]at hd;obtain⟨F,g,r⟩:=hd;obtain⟨f,e,rfl,rfl⟩:=Hz r hf;split at h
   .cases a with | c _ _ a=>cases a with | ptr _ _ _ _ b _ j hm=>
    refine⟨_,_,by simp [Instr.fieldAt,run_underlying g,e,Instr.sureAddr,uT hE k d];rfl,.c _ _ ?_,h⟩;rw [Nat.add_assoc,Nat.add_assoc];exact .ptr _ _ _ _ b _ j hm
   .cases a with | c _ _ a=>cases a with | rp _ b o _ _ _ _ u m q l v n=>
    refine⟨_,_,by simp [Instr.fieldAt,run_underlying g,e,Instr.sureAddr,uT hE k d];rfl,.c _ _ ?_,h⟩;rw [Nat.add_assoc];exact .rp _ b o _ _ _ _ u m q l v n
   .exact h.elim
  .exact h.elim
 .exact h.elim
def Le(hE:aH E)(b:bG c w u p)(h:uR E s p i K):
  Gives E.P c w (Instr.field s u i) K:=by
 replace h:=aI h;obtain⟨y,l,h⟩:=h
 split at h
 .rename_i fs he;split at h
  .rename_i off ft hf
   replace h:=aI h;obtain⟨z,o,h⟩:=h
   have hd:=(hE.ty s y l).desc;rw [he]at hd;obtain⟨F,n,k⟩:=hd;obtain⟨f,j,rfl,rfl⟩:=Hz k hf;split at h
   .cases b with | agg g cs b=>
    obtain⟨d,h⟩:=h;have e:=b.length;split at h
    .rename_i ha;refine⟨.agg ((g.drop f.offset).take z.size).toArray,_,?_,.agg _ _ ((b.drop f.offset).take z.size),h⟩;simp_all [Instr.field,run_underlying,asAgg,part,A8,run_sizeOf]
    .rename_i ha
     replace h:=DK h;obtain⟨x,m,hk⟩:=h
     obtain⟨v,q,a⟩:=b.get m;refine⟨v,_,?_,.c _ _ a,hk⟩;simp_all [Instr.field,run_underlying,asAgg,part,A8]
   .exact h.elim
  .exact h.elim
 .exact h.elim
def DT{f:Bool}{g i:Nat}{e:List (List D)}{a:Option Addr}{n j:Nat}(l:i<e.length)
  (h:dh (c.K f) w (.slice a n j) (.rows g e)):n=e.length/\∃b d,a=some ⟨b,d,none⟩/\bM c w (.pointer (some ⟨b,d+i*g,none⟩)) (.rp f g e i 0):=by
 cases h with
 | none=>simp at l
 | rows b d _ _ _ _ u m hn k hc o p=>
  refine⟨hn,b,d,rfl,?_⟩;have:=bM.rp (c:=c) (w:=w) f b d g e i 0 u m hc o p l;simpa using this
def CU(hE:aH E){u v:Value}{p q:PV}(m:bG c w u p)(P:bG c w v q)(h:jV E t p q K):
  Gives E.P c w (Instr.indexAt t u v) K:=by
 replace h:=aI h;obtain⟨y,O,h⟩:=h
 split at h
 .rename_i e he
  replace h:=aI h;obtain⟨z,M,h⟩:=h
  replace h:=kg h;obtain⟨Q,k,i,rfl,h⟩:=h
  rw [iA P];have B:=(hE.ty t y O).desc;rw [he]at B
  have o:∀(a:Option Addr) (n g:Nat) (b j:Nat) (r:Value),a=some ⟨b,j,none⟩->0<=i->i<n->r= .pointer (some ⟨b,j+i.toNat*z.size,none⟩)->
    (Instr.indexAt t (.slice a n g) (.int k i)).run E.P w= .ok r w:=by
   intro a n g b j r C s x A;subst C;subst A;simp [Instr.indexAt,asIntOf,run_underlying B,s,x,run_sizeOf hE M,addr_add]
  split at h
  .obtain⟨hsz,s,x,h⟩:=h;rename_i f D G;cases m with | c _ _ m=>cases m with | d _ _ _ m=>
   obtain⟨n,g,a,rfl⟩:∃n g a,u= .slice a n g:=by cases m<;>exact⟨_,_,_,rfl⟩
   have I:i.toNat<G.length:=by omega
   obtain⟨hn,b,j,C,A⟩:=DT I m;have H:D=z.size:=hsz (by grind);subst H;exact⟨_,_,o a n g b j _ C s ah rfl,.c _ _ A,h⟩
  .obtain⟨hsz,s,x,h⟩:=h;rename_i f D G;cases m with | c _ _ m=>cases m with | clip _ a n _ _ m=>
   have I:i.toNat<G.length:=by omega
   obtain⟨hn,b,j,C,A⟩:=DT I m;have H:D=z.size:=hsz (by grind);subst H;exact⟨_,_,o a n n b j _ C s ah rfl,.c _ _ A,h⟩
  .obtain⟨hsz,s,x,h⟩:=h;rename_i l D L n;subst hsz;cases m with | c _ _ m=>cases m with
   | os0=>omega
   | osE=>omega
   | os _ _ _ _ g b J N hm hn F=>
    refine⟨_,_,o _ n g b (J+L*z.size) _ rfl s x rfl,.c _ _ ?_,h⟩;have:=bM.ptr (c:=c) (w:=w) l z.size (L+i.toNat) 0 b J N hm
    grind
  .exact h.elim
 .exact h.elim
def VE(hE:aH E)(q:E.ty t=some y)(m:(match y.desc with | .slice _=>True | _=>False))
  (g:bG c w u p) (h:La p K) (j:Array Bool) (ty:TypeId):
  ∃r pv,(builtin .len #[t] ty j #[u]).run E.P w= .ok (.value r) w/\bG c w r pv/\K pv:=by
 have hd:=(hE.ty t y q).desc;split at m
 .rename_i e he;rw [he]at hd;have f:∀a n i,(builtin .len #[t] ty j #[.slice a n i]).run E.P w= .ok (.value (.int .i64 n)) w:=by
   intro a n i;simp [builtin,Builtin.len_,run_underlying hd,goInt]
  unfold La at h;split at h
  .cases g with | c _ _ g=>cases g with | d _ _ _ g=>cases g with
   | none a i=>exact⟨_,_,f _ _ _,.ofInt _ _,h⟩
   | rows b l i _ n _ u o hn=>subst hn;exact⟨_,_,f _ _ _,.ofInt _ _,h⟩
  .cases g with | c _ _ g=>cases g with | clip _ a n _ _ g=>cases g with
   | none a i=>exact⟨_,_,f _ _ _,.ofInt _ _,h⟩
   | rows b l i _ n _ u o hn=>subst hn;exact⟨_,_,f _ _ _,.ofInt _ _,h⟩
  .cases g with | c _ _ g=>cases g with
   | os0=>exact⟨_,_,f _ _ _,.ofInt _ _,h⟩
   | osE=>exact⟨_,_,f _ _ _,.ofInt _ _,h⟩
   | os _ _ _ _ i b _ s hm hn k=>exact⟨_,_,f _ _ _,.ofInt _ _,h⟩
  .cases g with | c _ _ g=>cases g;exact⟨_,_,f _ _ _,.ofInt _ _,h⟩
  .exact h.elim
 .exact m.elim
def VF(hE:aH E)(f:E.ty t=some y)(d:(match y.desc with | .slice _=>True | _=>False))
  (b:bG c w u p) (h:WW p K) (a:Array Bool) (ty:TypeId):
  ∃r pv,(builtin .cap #[t] ty a #[u]).run E.P w= .ok (.value r) w/\bG c w r pv/\K pv:=by
 have hd:=(hE.ty t y f).desc;split at d
 .rename_i e he;rw [he]at hd;unfold WW at h;split at h
  .cases b with | c _ _ b=>
   cases b;refine⟨.int .i64 0,_,?_,.ofInt _ _,h⟩;simp [builtin,Builtin.cap_,run_underlying hd,goInt]
  .exact h.elim
 .exact d.elim
def GI(g:bG c w u p)(h:qN p i K):Gives P c w (Instr.extract u i) K:=by
 unfold qN at h;split at h
 .replace h:=jW h;obtain⟨v,d,hk⟩:=h
  cases g with | tup b _ k f=>
  rename_i e;have j:i<e.length:=(List.getElem?_eq_some_iff.1 d).1;have a:i<b.length:=by omega
  have:=f i j;rw [pK d]at this;refine⟨b.getD i undef,v,?_,this,hk⟩;simp [Instr.extract,List.getElem?_eq_getElem a]
 .exact h.elim
end Go.AE
namespace Go.AE
open Go
variable{w:World}{t:Slots}{K:Nat->Prop}{P:Program}{u:Value}
def qQ{E:Tab}{c:Ctx}{h:Heap}{a:Act}(A:qO E c w t h a){o:Option Operand}{d:Int}{K:Int->Prop}(hk:zI E t o d K):
  ∃n:Int,K n/\((o=none/\n=d)\/∃x k,o=some x/\a.eval x= .int k n):=by
 cases o with
 | none=>exact⟨d,hk,.inl ⟨rfl,rfl⟩⟩
 | some x=>
  obtain⟨v,b,hk⟩:=dF A hk;obtain⟨f,k,n,rfl,hk⟩:=kg hk;exact⟨n,hk,.inr ⟨x,k,rfl,iA b⟩⟩
def run_sliceBound{k:IntKind}{i:Int}{y:Nat}{a:BoundsCode}(c:0<=i)(b:i<=y):
  (Instr.sliceBound (.int k i) y a).run P w= .ok i.toNat w:=by
 simp [Instr.sliceBound,asIntOf,c,b]
def mP{len cap:Nat}{l h:Int}{b a:Option Value}(d:(b=none/\l=0)\/∃k,b=some (.int k l))(e:(a=none/\h=len)\/∃k,a=some (.int k h))
  (f:0<=l) (i:l<=h) (g:h<=len) (j:len<=cap):(Instr.sliceBounds true len cap b a none).run P w= .ok (l.toNat,h.toNat,cap) w:=by
 have c:∀k,(Instr.sliceBound (.int k h) cap .sliceAcap).run P w= .ok h.toNat w:=λk=>run_sliceBound ah ah
 have n:∀k,(Instr.sliceBound (.int k l) h.toNat .sliceB).run P w= .ok l.toNat w:=λk=>run_sliceBound f ah
 rcases d with⟨rfl,rfl⟩ | ⟨k,rfl⟩<;>rcases e with⟨rfl,rfl⟩ | ⟨m,rfl⟩<;>simp [Instr.sliceBounds,c]<;>first | done | simp_all
def Lf{len cap:Nat}{l h:Int}{a:Option Value}{k k':IntKind}(d:(a=none/\l=0)\/∃k,a=some (.int k l))
  (f:0<=l) (i:l<=h) (g:h<=cap):(Instr.sliceBounds true len cap a (some (.int k h)) (some (.int k' h))).run P w= .ok (l.toNat,h.toNat,h.toNat) w:=by
 have b:(Instr.sliceBound (.int k' h) cap .slice3Acap).run P w= .ok h.toNat w:=run_sliceBound ah ah;have c:(Instr.sliceBound (.int k h) h.toNat .slice3B).run P w= .ok h.toNat w:=run_sliceBound ah ah;have e:∀k,(Instr.sliceBound (.int k l) h.toNat .slice3C).run P w= .ok l.toNat w:=λk=>run_sliceBound f ah
 rcases d with⟨rfl,rfl⟩ | ⟨k,rfl⟩<;>simp [Instr.sliceBounds,b,c,e]
theorem DU{a:List (List D)}{l h i:Nat}(b:i<h-l):((a.take h).drop l).getD i []=a.getD (l+i) []:=by grind
def dh.sub{a:Option Addr}{n cap sz l h m:Nat}{es:List (List D)}(r:dh K w (.slice a n cap) (.rows sz es))(t:l<=h)(q:h<=es.length)(hm:h<=m)
  (f:Option Addr) (o:f=if m=l then a else a.map (·.add (l*sz))):dh K w (.slice f (h-l) (m-l)) (.rows sz ((es.take h).drop l)):=by
 by_cases v:l=h
 .simp_all [Nat.sub_self,none]
 .have hlt:l<h:=by omega
  cases r with
  | none=>simp at q;omega
  | rows b e _ _ _ _ u d hn g hc s p=>
   have c:¬m=l:=by omega
   rw [o,if_neg c];simp only [Option.map_some,addr_add];have k:((es.take h).drop l).length=h-l:=by simp;omega
   refine .rows b (e+l*sz) (m-l) sz (h-l) _ (λi j=>u (l+i) j) d (by simp;omega) ah ?_ ?_ ?_
   all_goals grind [Nat.add_mul,DU,gd]
def dh.Xa{e:Nat}{c:List (List D)}(g:dh K w u (.rows e c)):∃a n cap,u= .slice a n cap/\n=c.length/\n<=cap:=by
 cases g with
 | none a cap=>grind
 | rows b f cap _ n _ u h hn d=>grind
def Lg{E:Tab}(hE:aH E){c:Ctx}{h:Heap}{o:Act}(A:qO E c w t h o){ty:TypeId}{p:PV}{R s W:Option Operand}{K:PV->Prop}
  (q:bG c w u p) (hk:uS E t ty p R s W K):Gives E.P c w (Instr.sliceAt ty u (R.map o.eval) (s.map o.eval) (W.map o.eval)) K:=by
 replace hk:=aI hk;obtain⟨y,hy,hk⟩:=hk
 split at hk
 .rename_i e he
  replace hk:=aI hk;obtain⟨z,G,hk⟩:=hk
  have g:=(hE.ty ty y hy).desc;rw [he]at g
  replace hk:=qQ A hk;obtain⟨l,hk,a3⟩:=hk
  have VG:(R.map o.eval=none/\l=0)\/∃k,R.map o.eval=some (.int k l):=by grind
  split at hk
  .rename_i f sz es;obtain⟨Y,hk⟩:=hk
   replace hk:=qQ A hk;obtain⟨j,hk,F⟩:=hk
   obtain⟨I,L,U,hk⟩:=hk;have NH:(s.map o.eval=none/\j=es.length)\/∃k,s.map o.eval=some (.int k j):=by grind
   cases q with | c _ _ q=>cases q with | d _ _ _ q=>
   obtain⟨a,n,cap,rfl,hn,O⟩:=q.Xa
   have v:∀m Q,j.toNat<=m->m<=cap->Q=(if m=l.toNat then a else a.map (·.add (l.toNat*z.size)))->
     dh (c.K f) w (.slice Q (j.toNat-l.toNat) (m-l.toNat)) (.rows sz ((es.take j.toNat).drop l.toNat)):=by
    intro m Q X a2 a1;by_cases N:es=[]
    .subst N;have:((([]:List (List D)).take j.toNat).drop l.toNat)=[]:=by simp
     rw [this];have C:j.toNat-l.toNat=0:=by simp at U;omega
     rw [C];exact .none _ _ _
    .have:=Y N;subst this;exact q.sub ah ah X Q a1
   cases W with
   | none=>
    simp only at hk;refine⟨_,_,?_,.c _ _ (.d f _ _ (v cap _ ah (Nat.le_refl _) rfl)),hk⟩;have i:=mP (P:=E.P) (w:=w) (len:=n) (cap:=cap) VG (by rw [hn];exact NH) I L ah O;simp [Instr.sliceAt,run_underlying g,Instr.slice,i,run_sizeOf hE G]
   | some mo=>
    simp only at hk
    replace hk:=qQ A hk;obtain⟨m,⟨hs,a0,hk⟩,r⟩:=hk
    subst a0;rcases r with⟨h',_⟩ | ⟨x,k,hx,T⟩
    .cases h'
    .cases hx;rcases F with⟨rfl,_⟩ | ⟨x',k',rfl,S⟩
     .simp at hs
     .have i:=Lf (P:=E.P) (w:=w) (len:=n) (cap:=cap) (k:=k') (k':=k) VG I L ah;refine⟨_,_,?_,.c _ _ (.clip f _ _ _ _ (v m.toNat _ (Nat.le_refl _) ah rfl)),hk⟩;simp [Instr.sliceAt,run_underlying g,Instr.slice,T,S,i,run_sizeOf hE G]
  .rename_i b sz lo0 n;obtain⟨rfl,r,hk⟩:=hk;subst r
   replace hk:=qQ A hk;obtain⟨j,hk,F⟩:=hk
   obtain⟨I,L,U,hk⟩:=hk;have NH:(s.map o.eval=none/\j=n)\/∃k,s.map o.eval=some (.int k j):=by grind
   cases q with | c _ _ q=>cases q with
   | os0 a _ _ M hm=>
    have B:l=0:=by omega
    have H:j=0:=by omega
    subst B;subst H;have i:=mP (P:=E.P) (w:=w) (len:=0) (cap:=0) VG NH I L ah (Nat.le_refl _);refine⟨.slice a 0 0,_,?_,.c _ _ (.os0 a b z.size M hm),by simpa using hk⟩;simp at i;simp [Instr.sliceAt,run_underlying g,Instr.slice,i,run_sizeOf hE G]
   | osE a _ _ _ J M hm=>
    have B:l=0:=by omega
    have H:j=0:=by omega
    subst B;subst H;have i:=mP (P:=E.P) (w:=w) (len:=0) (cap:=0) VG NH I L ah (Nat.le_refl _);refine⟨.slice a 0 0,_,?_,.c _ _ (.osE a b z.size lo0 J M hm),by simpa using hk⟩;simp at i;simp [Instr.sliceAt,run_underlying g,Instr.slice,i,run_sizeOf hE G]
   | os _ _ _ _ cap J Z M hm hn V=>
    have i:=mP (P:=E.P) (w:=w) (len:=n) (cap:=cap) VG NH I L U hn;by_cases hc:cap=l.toNat
    .subst hc;have C:j.toNat-l.toNat=0:=by omega
     refine⟨.slice (some ⟨J,Z+lo0*z.size,none⟩) 0 0,_,?_,.c _ _ (.osE _ b z.size (lo0+l.toNat) J M (j6 hm)),by simp_all⟩;simp [Instr.sliceAt,run_underlying g,Instr.slice,i,run_sizeOf hE G,C]
    .refine⟨.slice (some ⟨J,Z+(lo0+l.toNat)*z.size,none⟩) (j.toNat-l.toNat) (cap-l.toNat),_,?_,.c _ _ (.os b z.size _ _ _ J Z M hm ah ?_),hk⟩
     .simp [Instr.sliceAt,run_underlying g,Instr.slice,i,run_sizeOf hE G,hc,addr_add,Nat.add_mul,Nat.add_assoc]
     grind
  .obtain⟨r,hk⟩:=hk;subst r
   replace hk:=qQ A hk;obtain⟨j,hk,F⟩:=hk
   obtain⟨rfl,rfl,hk⟩:=hk;have NH:(s.map o.eval=none/\(0:Int)=(0:Nat))\/∃k,s.map o.eval=some (.int k 0):=by grind
   cases q with | c _ _ q=>cases q with | nil=>
   have i:=mP (P:=E.P) (w:=w) (len:=0) (cap:=0) VG NH ah ah ah (Nat.le_refl _);refine⟨.slice none 0 0,_,?_,.c _ _ .nil,hk⟩;simp at i;simp [Instr.sliceAt,run_underlying g,Instr.slice,i,run_sizeOf hE G]
  .exact hk.elim
 .exact hk.elim
end Go.AE
namespace Go.AE
open Go
variable{c:Ctx}{w:World}{v:Value}{E:Tab}{t:Slots}{h:Heap}{a:Act}{K:PV->Prop}
def bM.cells{x:Cell}(h:bM c w v x):v.cells= #[v]:=by
 cases h with
 | d f _ x h=>cases h<;>rfl
 | nil=>rfl
 | clip=>rfl
 | os0=>rfl
 | osE=>rfl
 | os=>rfl
 | ptr=>rfl
 | rp=>rfl
 | fn=>rfl
 | np=>rfl
def bG.cells{p:PV}(h:bG c w v p)(hn:(aP p).length≠0):F2 (bM c w) v.cells.toList (aP p):=by
 cases h with
 | c _ x h=>rw [h.cells];exact .cons h .nil
 | agg a cs h=>simpa [Value.cells,aP]using h
 | tup=>simp [aP]at hn
def yM(l:List Value):∀(b:List Value) (a k:Nat),a+k+b.length<=l.length->
  (b.zipIdx k).foldl (λ(cs:List Value) (x:Value×Nat)=>cs.set (a+x.2) x.1) l=l.take (a+k)++b++l.drop (a+k+b.length)
 | [],a,k,h=>by simp
 | v::b,a,k,h=>by
  simp only [List.length_cons]at h;rw [List.zipIdx_cons,List.foldl_cons];have c:=yM (l.set (a+k) v) b a (k+1) (by simp;omega)
  grind [List.take_add_one,List.take_set_of_le,List.getElem?_set_self,List.drop_set_of_lt]
def foldl_toList(cells:Array Value)(l:List (Value×Nat))(a:Nat):
  (l.foldl (λ(cs:Array Value) (x:Value×Nat)=>cs.setIfInBounds (a+x.2) x.1) cells).toList=l.foldl (λ(cs:List Value) (x:Value×Nat)=>cs.set (a+x.2) x.1) cells.toList:=by
 induction l generalizing cells with
 | nil=>rfl
 | cons x l b=>simp_all
def DV(A:qO E c w t h a)(b:Nat->Option (Nat×Nat)):
  ∀(d:List (Nat×Operand)) (cs:List Cell) (j:Array Value) (K:List Cell->Prop),F2 (bM c w) j.toList cs->tQ E t b d cs K->
   ∃(g:Array Value) (f:List Cell),Instr.fill b j (d.map λx=>(x.1,a.eval x.2))=some g/\F2 (bM c w) g.toList f/\K f
 | [],cs,j,K,hr,hk=>⟨j,cs,rfl,hr,hk⟩
 | (i,x)::rest,cs,j,K,hr,hk=>by
  unfold tQ at hk;cases hp:b i with
  | none=>simp_all
  | some o=>
   obtain⟨e,size⟩:=o;rw [hp]at hk
   replace hk:=dF A hk;obtain⟨v,r,p,q,y,hk⟩:=hk
   have hc:=r.cells (by rw [p];exact q);have l:=hc.length;have n:=hr.length;have m:(a.eval x).cells.size=size:=by simp_all
   have k:F2 (bM c w) ((a.eval x).cells.zipIdx.foldl (λ(cs:Array Value) (x:Value×Nat)=>cs.setIfInBounds (e+x.2) x.1) j).toList (splice cs (aP v) e):=by
    rw [<-Array.foldl_toList,foldl_toList,Array.toList_zipIdx];rw [yM _ _ e 0 ah];unfold splice;refine((hr.take _).append hc).append ?_;rw [Nat.add_zero,l];exact hr.drop _
   obtain⟨g,f,u,s,z⟩:=DV A b rest _ _ K k hk
   grind [Instr.fill]
def HV(hE:aH E):∀(F:List Field),(∀b∈F.map (λf=>(f.offset,f.type)),(E.ty b.2).isSome=true)->
  ∃a,F.mapM (λf=>(E.P.info? f.type).map λi=>(f.offset,i.size))=some a/\∀i,a[i]? =pI E (F.map (λf=>(f.offset,f.type))) i
 | [],_=>⟨[],rfl,λi=>by simp [pI]⟩
 | f::F,h=>by
  obtain⟨a,e,j⟩:=HV hE F (λb hm=>h b (by simp_all));obtain⟨z,d⟩:=Option.isSome_iff_exists.1 (h (f.offset,f.type) (by simp));obtain⟨c,uU,g,_⟩:=(hE.ty _ z d).info;refine⟨(f.offset,z.size)::a,by simp_all,λi=> ?_⟩
  grind [pI]
def Lh(hE:aH E)(A:qO E c w t h a){ty:TypeId}{b:Array (Nat×Operand)}
  (hk:AZ E t ty b.toList K):Gives E.P c w (Instr.build ty (b.map λ(i,x)=>(i,a.eval x))) K:=by
 replace hk:=aI hk;obtain⟨y,r,hk⟩:=hk
 split at hk
 .rename_i fs he;obtain⟨u,hk⟩:=hk;have g:=hE.ty ty y r;have hd:=g.desc;rw [he]at hd;obtain⟨F,l,o⟩:=hd;obtain⟨n,uU,_,_,z,p,d⟩:=g.info;obtain⟨j,q,k⟩:=HV hE F.toList (by grind);rw [o]at k;obtain⟨e,f,v,m,s⟩:=DV A (pI E fs) b.toList y.zero z.cells _ (d c w) hk;refine⟨.agg e,.agg f,?_,?_,s⟩
  .refine run_build w ty _ e ?_;simp only [Program.built,uU,l,p,q];simp_all
  .have:=bG.agg (c:=c) (w:=w) e.toList f m;simpa using this
 .exact hk.elim
def DW(A:qO E c w t h a):
  ∀(d:List Operand) (K:List Cell->Prop),tT E t d K->∃b,b.length=d.length/\(∀i,i<b.length->bM c w ((d.map a.eval).getD i undef) (b.getD i default))/\K b
 | [],K,hk=>⟨[],rfl,λi f=>by simp at f,hk⟩
 | x::r,K,hk=>by
  unfold tT at hk
  replace hk:=dF A hk;obtain⟨v,e,hk⟩:=hk
  generalize k:a.eval x=u at e;split at hk
  .rename_i y;obtain⟨b,g,j,hk⟩:=DW A r _ hk;cases e with | c _ _ e=>grind
  .exact hk.elim
theorem uV(hE:aH E)(A:qO E c w t h a)(o:Oper)(hk:gK E o.op t h K):
  ∃u pv,(execOp a.eval o).run E.P w= .ok (.value u) w/\bG c w u pv/\K pv:=by
 have j:∀(s:Sem Value) (K:PV->Prop),Gives E.P c w s K->∃u pv,((do pure (Next.value (<-s)):Sem Next)).run E.P w= .ok (.value u) w/\bG c w u pv/\K pv:=by
  rintro s K ⟨u,pv,z,F,M⟩;exact⟨u,pv,by simp [z],F,M⟩
 cases ho:o.op<;>rw [ho]at hk<;>simp only [gK]at hk
 case move x=>
  replace hk:=dF A hk;simp_all [execOp]
 case assign x=>
  replace hk:=dF A hk;simp_all [execOp]
 case pick Y x y=>
  replace hk:=dF A hk;obtain⟨v,D,hk⟩:=hk
  obtain⟨f,b,rfl,hk⟩:=DL hk;have B:=jJ D;cases b with
  | true=>
   obtain⟨J,H,hk⟩:=dF A (hk.1 rfl);exact⟨_,J,by simp [execOp,ho,B,asBool],H,hk⟩
  | false=>
   obtain⟨J,H,hk⟩:=dF A (hk.2 rfl);exact⟨_,J,by simp [execOp,ho,B,asBool],H,hk⟩
 case load ty p=>
  replace hk:=dF A hk;obtain⟨v,D,hk⟩:=hk
  have:=j _ _ (DR hE A.heap D hk)
  grind [execOp]
 case nilCheck x=>
  replace hk:=dF A hk;obtain⟨v,D,hk⟩:=hk
  exact VB ho rfl D hk
 case binOp T ty x y W=>
  replace hk:=dF A hk;obtain⟨u,l,hk⟩:=hk
  replace hk:=dF A hk;obtain⟨v,D,hk⟩:=hk
  have:=j _ _ (VD hE l D hk x y)
  grind [execOp]
 case unOp T ty x=>
  replace hk:=dF A hk;obtain⟨u,l,hk⟩:=hk
  have:=j _ _ (WZ (P:=E.P) l hk)
  grind [execOp]
 case convert s d x=>
  replace hk:=dF A hk;obtain⟨u,l,hk⟩:=hk
  have:=j _ _ (NG hE l hk)
  grind [execOp]
 case fieldAddr s x f=>
  replace hk:=dF A hk;obtain⟨u,l,hk⟩:=hk
  have:=j _ _ (CS hE l hk)
  grind [execOp]
 case field s x f=>
  replace hk:=dF A hk;obtain⟨u,l,hk⟩:=hk
  have:=j _ _ (Le hE l hk)
  grind [execOp]
 case indexAddr ty x i=>
  replace hk:=dF A hk;obtain⟨u,l,hk⟩:=hk
  replace hk:=dF A hk;obtain⟨v,D,hk⟩:=hk
  have:=j _ _ (CU hE l D hk)
  grind [execOp]
 case slice ty x lo hi X=>
  replace hk:=dF A hk;obtain⟨u,l,hk⟩:=hk
  have:=j _ _ (Lg hE A l hk)
  grind [execOp]
 case extract x i=>
  replace hk:=dF A hk;obtain⟨u,l,hk⟩:=hk
  have:=j _ _ (GI (P:=E.P) l hk)
  grind [execOp]
 case build ty O=>
  have:=j _ _ (Lh hE A hk)
  grind [execOp]
 case makeFunc Z first C=>
  split at hk
  .rename_i g;obtain⟨rfl,hk⟩:=hk;obtain⟨V,R,S,hk⟩:=DW A _ _ hk;refine⟨.func (.func g) #[] (C.map a.eval),_,by simp [execOp,ho,Instr.makeFunc],.c _ _ ?_,hk⟩;have:=bM.fn (c:=c) (w:=w) g (C.toList.map a.eval) V (by simp [R]) S;have e:(C.toList.map a.eval).toArray=C.map a.eval:=by grind
   rwa [e]at this
  .exact hk.elim
 case call U=>
  unfold tV at hk;obtain⟨I,G,q⟩:=U;obtain⟨G⟩:=G;obtain⟨q⟩:=q;split at hk
  .rename_i B;simp only at B;subst B;split at hk
   .rename_i x ty z F;simp only at z F;subst z;subst F
    replace hk:=aI hk;obtain⟨y,L,N,hk⟩:=hk
    replace hk:=dF A hk;obtain⟨u,l,hk⟩:=hk
    obtain⟨r,pv,z,F,M⟩:=VE hE L N l hk (#[x].map λ| .const _=>true | _=>false) o.type
    grind [execOp,resolve,invoke]
   .exact hk.elim
  .rename_i B;simp only at B;subst B;split at hk
   .rename_i x ty z F;simp only at z F;subst z;subst F
    replace hk:=aI hk;obtain⟨y,L,N,hk⟩:=hk
    replace hk:=dF A hk;obtain⟨u,l,hk⟩:=hk
    obtain⟨r,pv,z,F,M⟩:=VF hE L N l hk (#[x].map λ| .const _=>true | _=>false) o.type
    grind [execOp,resolve,invoke]
   .exact hk.elim
  .rename_i B;simp only at B;subst B;split at hk
   .rename_i x y z;simp only at z;subst z
    replace hk:=dF A hk;obtain⟨u,l,hk⟩:=hk
    replace hk:=dF A hk;obtain⟨v,D,hk⟩:=hk
    replace hk:=kg hk;obtain⟨_,k,m,rfl,hk⟩:=hk
    replace hk:=kg hk;obtain⟨_,Q,n,rfl,hk⟩:=hk
    refine⟨_,_,?_,.ofInt _ _,hk⟩;simp [execOp,ho,resolve,invoke,builtin,Builtin.min_,iA l,iA D,Builtin.min2]
   .exact hk.elim
  .rename_i B;simp only at B;subst B;split at hk
   .rename_i x y z;simp only at z;subst z
    replace hk:=dF A hk;obtain⟨u,l,hk⟩:=hk
    replace hk:=dF A hk;obtain⟨v,D,hk⟩:=hk
    replace hk:=kg hk;obtain⟨_,k,m,rfl,hk⟩:=hk
    replace hk:=kg hk;obtain⟨_,Q,n,rfl,hk⟩:=hk
    refine⟨_,_,?_,.ofInt _ _,hk⟩;simp [execOp,ho,resolve,invoke,builtin,Builtin.max_,iA l,iA D,Builtin.max2]
   .exact hk.elim
  .exact hk.elim
 all_goals exact hk.elim
end Go.AE
namespace Go.AE
open Go
variable{w:World}{o:eD}{b:Option Nat}{l:Nat}{c:Ctx}{h:Heap}
theorem aK(m:Nat)(o:eD)(h:Heap):look ((m,o)::h) m=some o:=by simp [look]
theorem aB{m l:Nat}(o:eD)(h:Heap)(a:m≠l):look ((m,o)::h) l=look h l:=by simp [look,a]
def upd{α:Type}(μ:Nat->Option α)(l:Nat)(b:Option α):Nat->Option α:=λx=>if x=l then b else μ x
def Ctx.nameAt(c:Ctx)(p:Option (Nat×Nat)):Ctx:={c with ν:=upd c.ν c.n p,n:=c.n+1}
abbrev Ctx.name(c:Ctx)(b:Option Nat):Ctx:=c.nameAt (b.map λx=>(x,0))
def ko(c:Ctx)(p:Option (Nat×Nat)):(c.nameAt p).μ=upd c.μ c.n (p.map (·.1)):=by
 funext x;simp only [Ctx.μ,Ctx.nameAt,upd];split<;>rfl
def iB(c:Ctx)(b:Option Nat):(c.name b).μ=upd c.μ c.n b:=by
 rw [ko];cases b<;>rfl
def Ctx.A9(c:Ctx)(p:Option (Nat×Nat)):CLe c (c.nameAt p):=
 ⟨λ_ _ h=>h,Nat.le_succ _,λl a=>by simp only [Ctx.nameAt,upd];grind⟩
def Ctx.keep(c:Ctx)(f:Bool)(b:Option Nat):Ctx:={c with K:=λg x=>c.K g x\/(some x=b/\(g=true->f=true))}
def Ctx.pO(c:Ctx)(b:Option Nat):CLe c (c.name b):=c.A9 _
def Ctx.Tn(c:Ctx)(f:Bool)(b:Option Nat):CLe c (c.keep f b):=⟨λ_ _ h=> .inl h,Nat.le_refl _,λ_ _=>rfl⟩
def DX{w w':World}(h:∀(b:Nat) (c:Array Value) (E:TypeId) (e:Nat×Nat),w.heap[b]? =some (.cells c E e)->∃c' a,w'.heap[b]? =some (.cells c' E a)/\c'.size=c.size):World.jD w w':=by
 rintro b m ⟨c,E,e,f,hm⟩;obtain⟨c',a,d,g⟩:=h b c E e f;exact⟨c',E,a,d,ah⟩
theorem alloc_old{o:Go.Obj}{b:Nat}(a:b<w.heap.size):(w.alloc o).heap[b]? =w.heap[b]? :=RowKit.Below.heap_alloc w o b a
def jv(w:World)(o:Go.Obj):(w.alloc o).heap[w.heap.size]? =some o:=by
 show(w.heap.push o)[w.heap.size]? =_;simp
def lt_of_some{b:Nat}{o:Go.Obj}(h:w.heap[b]? =some o):b<w.heap.size:=(Array.getElem?_eq_some_iff.1 h).1
def pQ(w:World)(o:Go.Obj):World.jD w (w.alloc o):=
 DX λb c E a h=>⟨c,a,by rw [alloc_old (lt_of_some h)];exact h,rfl⟩
def jr.mono{c c':Ctx}{w w':World}(hc:CLe c c')(g:∀f b,c.K f b->w'.heap[b]? =w.heap[b]?)(q:World.jD w w')(k:l<c.n)
  (e:∀b,o.live->c.μ l=some b->w'.heap[b]? =w.heap[b]?) (h:jr c w l o):jr c' w' l o:=by
 cases o with
 | box cs=>
  obtain⟨b,n,E,hm,d,a⟩:=h;exact⟨b,n,E,(hc.ν l k).trans hm,(e b trivial (j6 hm)).trans d,F2.mono (λ_ _ h=>h.mono hc g q) a⟩
 | rows f t u=>
  simp only [jr]at h ⊢;rw [hc.ν l k];cases hm:c.ν l with
  | none=>simp_all
  | some p=>
   rw [hm]at h;obtain⟨cells,E,d,a⟩:=h;refine⟨cells,E,(e p.1 trivial (j6 hm)).trans d,λi m=>⟨(a i m).1,λj s=> ?_⟩⟩;obtain⟨v,r,hd⟩:=(a i m).2 j s;exact⟨v,r,hd.mono (hc.K f) (g f)⟩
 | gone=>trivial
def jr.lt{l b:Nat}(h:jr c w l o)(d:o.live)(hm:c.μ l=some b):b<w.heap.size:=by
 cases o with
 | box cs=>obtain⟨g,i,E,a,e,_⟩:=h;rw [j6 a]at hm;cases hm;exact lt_of_some e
 | rows f j k=>
  obtain⟨o,d⟩:=al6 hm;simp only [jr,d]at h;obtain⟨cells,E,e,_⟩:=h;exact lt_of_some e
 | gone=>exact d.elim
def bH.new{w p:World}(H:bH c w h)(v:∀x,b=some x->x=w.heap.size)(E:World.jD w p)
  (i:∀x,x<w.heap.size->p.heap[x]? =w.heap[x]?) (z:w.heap.size<=p.heap.size) (D:jr (c.name b) p c.n o):bH (c.name b) p ((c.n,o)::h) where
 obj:=by
  intro l B m;by_cases e:c.n=l
  .subst e;rw [aK]at m;cases m;exact⟨Nat.lt_succ_self _,D⟩
  .rw [aB _ _ e]at m;obtain⟨j,g⟩:=H.obj l B m;refine⟨Nat.lt_succ_of_lt j,g.mono (c.pO b) (λf x r=>i x (H.low f x r)) E j (λx n r=>i x (g.lt n r))⟩
 inj:=by
  intro l A k y x j s g q a d;by_cases e:c.n=l<;>by_cases t:c.n=k
  .omega
  .exfalso;subst e;rw [aB _ _ t]at g;have u:=(H.obj k y g).1;simp only [iB,upd,if_true]at a;have r:=v x a;have:c.μ k=some x:=by simpa [iB,upd,show k≠c.n by omega]using d
   have:=(H.obj k y g).2.lt q this;omega
  .exfalso;subst t;rw [aB _ _ e]at j;have u:=(H.obj l A j).1;simp only [iB,upd,if_true]at d;have r:=v x d;have:c.μ l=some x:=by simpa [iB,upd,show l≠c.n by omega]using a
   have:=(H.obj l A j).2.lt s this;omega
  .rw [aB _ _ e]at j;rw [aB _ _ t]at g;have C:c.μ l=some x:=by simpa [iB,upd,show l≠c.n from λh=>e h.symm]using a
   have F:c.μ k=some x:=by simpa [iB,upd,show k≠c.n from λh=>t h.symm]using d
   exact H.inj l A k y x j s g q C F
 own:=by
  rintro f x ⟨l,B,m,n,hm⟩ hk;by_cases e:c.n=l
  .subst e;simp only [iB,upd,if_true]at hm;have:=v x hm;have:=H.low f x hk;omega
  .rw [aB _ _ e]at m;have C:c.μ l=some x:=by simpa [iB,upd,show l≠c.n from λh=>e h.symm]using hm
   exact H.own f x ⟨l,B,m,n,C⟩ hk
 low:=λf x hk=>Nat.lt_of_lt_of_le (H.low f x hk) z
 sub:=H.sub
def Grow.new{w a:World}(q:∀x,b=some x->x=w.heap.size)(m:World.jD w a)
  (d:∀x,x<w.heap.size->a.heap[x]? =w.heap[x]?) (f:w.heap.size<=a.heap.size) (j:a.os=w.os) (h2:a.tape=w.tape) (k:a.output=w.output):
  Grow c w h (c.name b) a ((c.n,o)::h) where
 le:=c.pO b
 size:=f
 stays:=m
 kept:=λx p _=>d x p
 xK:=λ_ _ hk=> .inl hk
 qx:=by
  rintro x ⟨l,n,i,g,hm⟩;by_cases e:c.n=l
  .simp_all [iB,upd,if_true,Nat.le_refl]
  .rw [aB _ _ e]at i;exact .inl ⟨l,n,i,g,by simpa [iB,upd,show l≠c.n from λh=>e h.symm]using hm⟩
 os:=j
 tape:=h2
 output:=k
def bH.write{w w':World}(H:bH c w h){l b:Nat}{o o':eD}(p:look h l=some o)(g:o.live)(hm:c.μ l=some b)
  (d:∀x,x≠b->w'.heap[x]? =w.heap[x]?) (B:w'.heap.size=w.heap.size) (K:World.jD w w') (J:jr c w' l o'):bH c w' ((l,o')::h) where
 obj:=by
  intro k a hk;by_cases e:l=k
  .subst e;rw [aK]at hk;cases hk;exact⟨(H.obj l o p).1,J⟩
  .rw [aB _ _ e]at hk;obtain⟨m,s⟩:=H.obj k a hk;refine⟨m,s.mono (.refl c) (λf x q=>d x (λv=> ?_)) K m (λx A r=>d x (λv=> ?_))⟩
   .subst v;exact H.own f x ⟨l,o,p,g,hm⟩ q
   .subst v;exact e (H.inj l o k a x p g hk A hm r)
 inj:=by
  intro k a D n x m C s u y z;have j:∀k a,look ((l,o')::h) k=some a->a.live->∃n,look h k=some n/\n.live:=by grind [aB]
  obtain⟨I,G,F⟩:=j k a m C;obtain⟨E,M,L⟩:=j D n s u;exact H.inj k I D E x G F M L y z
 own:=by
  rintro f x ⟨k,a,hk,t,q⟩ i;by_cases e:l=k
  .subst e;exact H.own f x ⟨l,o,p,g,q⟩ i
  .rw [aB _ _ e]at hk;exact H.own f x ⟨k,a,hk,t,q⟩ i
 low:=λf x hk=>by rw [B];exact H.low f x hk
 sub:=H.sub
def Grow.write{w w':World}{l b:Nat}{o o':eD}(g:look h l=some o)(d:o.live)(hm:c.μ l=some b)
  (a:∀x,x≠b->w'.heap[x]? =w.heap[x]?) (n:w'.heap.size=w.heap.size) (r:World.jD w w') (m:w'.os=w.os) (j:w'.tape=w.tape) (q:w'.output=w.output):
  Grow c w h c w' ((l,o')::h) where
 le:= .refl c
 size:=by omega
 stays:=r
 kept:=λx _ hn=>a x (λe=>hn ⟨l,o,g,d,by rw [e];exact hm⟩)
 xK:=λ_ _ hk=> .inl hk
 qx:=by
  rintro x ⟨k,p,hk,f,i⟩;by_cases e:l=k
  .subst e;exact .inl ⟨l,o,g,d,i⟩
  .rw [aB _ _ e]at hk;exact .inl ⟨k,p,hk,f,i⟩
 os:=m
 tape:=j
 output:=q
def bH.give(H:bH c w h)(f:Bool)(s:look h l=some o)(p:o.live):bH (c.keep f (c.μ l)) w ((l,.gone)::h) where
 obj:=by
  intro k j hk;by_cases e:l=k
  .subst e;rw [aK]at hk;cases hk;exact⟨(H.obj l o s).1,trivial⟩
  .rw [aB _ _ e]at hk;obtain⟨d,i⟩:=H.obj k j hk;exact⟨d,i.mono (c.Tn f _) (λ_ _ _=>rfl) (.refl w) d (λ_ _ _=>rfl)⟩
 inj:=by
  intro k j t v x d n i m q r;by_cases e:l=k
  .subst e;rw [aK]at d;cases d;exact n.elim
  .by_cases e':l=t
   .subst e';rw [aK]at i;cases i;exact m.elim
   .rw [aB _ _ e]at d;rw [aB _ _ e']at i;exact H.inj k j t v x d n i m q r
 own:=by
  rintro g x ⟨k,j,hk,b,u⟩ a;by_cases e:l=k
  .subst e;rw [aK]at hk;cases hk;exact b.elim
  .rw [aB _ _ e]at hk;rcases a with a | ⟨a,_⟩
   .exact H.own g x ⟨k,j,hk,b,u⟩ a
   .exact e (H.inj l o k j x s p hk b a.symm u)
 low:=by
  rintro g x (hk | ⟨hk,_⟩)
  .exact H.low g x hk
  .exact(H.obj l o s).2.lt p hk.symm
 sub:=by
  rintro x (hk | ⟨hk,y⟩)
  .exact .inl (H.sub x hk)
  .exact .inr ⟨hk,λh=>by cases h⟩
theorem Grow.give(f:Bool)(d:look h l=some o)(b:o.live):Grow c w h (c.keep f (c.μ l)) w ((l,.gone)::h) where
 le:=c.Tn f _
 size:=Nat.le_refl _
 stays:= .refl w
 kept:=λ_ _ _=>rfl
 xK:=by
  rintro g x (hk | ⟨hk,_⟩)
  .exact .inl hk
  .exact .inr (.inr ⟨l,o,d,b,hk.symm⟩)
 qx:=by
  rintro x ⟨k,i,hk,a,j⟩;by_cases e:l=k
  .subst e;rw [aK]at hk;cases hk;exact a.elim
  .rw [aB _ _ e]at hk;exact .inl ⟨k,i,hk,a,j⟩
 os:=rfl
 tape:=rfl
 output:=rfl
def oD.grow{E:Tab}{c c':Ctx}{w w':World}{h b:Heap}(r:bH c w h)(g:Grow c w h c' w' b)(G:oD E c w):oD E c' w':=by
 intro x d hd;obtain⟨a,u,e,f⟩:=G x d hd;exact⟨g.le.K _ _ a,u,by rw [pF (g.ro r false x a)];exact e,f.mono (g.le.K false) (g.ro r false)⟩
end Go.AE
namespace Go.AE
open Go
def nm(n k:Nat):Nat:=n+k
theorem Xb{n a b:Nat}:nm (nm n a) b=nm n (a+b):=by simp [nm,Nat.add_assoc]
def Cn(h:Heap)(x:Cell)(K:Bool->D->Heap->Prop):Prop:=
 match x with
 | .d f x=>K (f || x.nO) x h
 | .nil=>∃a,K true (.rows a []) h
 | .clip f a b=>K f (.rows a b) h
 | .os l a d n=>pG (look h l) λo=>match o with
  | .rows f c b=>a=c/\d+n<=b.length/\K f (.rows a ((b.drop d).take n)) ((l,.gone)::h)
  | _=>False
 | _=>False
def qy(h:Heap):List Cell->(Bool->List D->Heap->Prop)->Prop
 | [],K=>K true [] h
 | x::r,K=>Cn h x λf d b=>qy b r λg c a=>K (f&&g) (d::c) a
def uW(E:Tab)(t:Slots)(c:Nat):Heap->List (Nat×Operand)->(Bool->List (List D)->Heap->Prop)->Prop
 | h,[],K=>K true [] h
 | h,(_,x)::r,K=>aT (ev E t x) λv=>(aP v).length=c/\qy h (aP v) λf e d=>uW E t c d r λg a b=>K (f&&g) (e::a) b
def lW(k:IntKind):List (List D)->Option (List Int)
 | []=>some []
 | [.int k' n]::r=>if k=k' then(match lW k r with | some l=>some (n::l) | none=>none)else none
 | _=>none
def ir(d:lN)(a:List (List D)):List (List D):=
 match d with
 | .int k=>match lW k a with | some b=>b.map (ic k) | none=>a
 | _=>a
inductive ZD:List Cell->List D->Prop
 | nil:ZD [] []
 | d (f:Bool) (x:D) {r:List Cell} {ds:List D}:ZD r ds->ZD (.d f x::r) (x::ds)
 | nl (sz:Nat) {r:List Cell} {ds:List D}:ZD r ds->ZD (.nil::r) (.rows sz []::ds)
def zJ:Nat:=1073741824
def gN(row a:List D)(j:Nat):List D:=row.take j++a++row.drop (j+a.length)
def Ba(h:Heap)(y:TY)(p v:PV)(K:Heap->Prop):Prop:=
 (aP v).length=y.size/\y.size≠0/\
 match p with
 | .c (.ptr l sz i j)=>pG (look h l) λo=>match o with
  | .box cs=>i=0/\j+(aP v).length<=cs.length/\K ((l,.box (splice cs (aP v) j))::h)
  | .rows f a b=>sz=a/\i<b.length/\qy h (aP v) λg c d=>look d l=some (.rows f a b)/\j+c.length<=sz/\
   ∀row,b[i]? =some row->K ((l,.rows (f&&g) sz (b.set i (if j=0/\c.length=sz then c else gN row c j)))::d)
  | .gone=>False
 | _=>False
def qR(d:lN)(v:PV):Prop:=match d,v with | .int _,.c (.d _ (.int _ _))=>True | .slice _,.c (.d _ (.int _ _))=>False | .slice _,_=>True | _,_=>False
def NI(h:Heap)(c:List D)(v:PV)(K:Bool->Nat->List (List D)->Prop):Prop:=
 match v with
 | .c .nil=>K true 0 []
 | .c (.d f (.rows sz a))=>K f sz a
 | .c (.clip f sz a)=>K f sz a
 | .c (.os l sz lo n)=>pG (look h l) λo=>match o with
  | .rows f b a=>sz=b/\lo+n<=a.length/\K f sz ((a.drop lo).take n)
  | _=>False
 | .c (.d _ (.int _ n))=>0<=n/\n<=zJ/\K true c.length (List.replicate n.toNat c)
 | _=>False
def DY(ds:List (List D)):Bool:=ds.all λr=>r.all D.nO
def uX(h:Heap)(n k:Nat)(z:TY)(a:PV)(f2:Bool)(ds:List (List D))(K:PV->Heap->Nat->Prop):Prop:=
  match a with
  | .c .nil=>ds.length<=zJ/\K (.c (.os (nm n k) z.size 0 ds.length)) ((nm n k,.rows f2 z.size ds)::h) (k+1)
  | .c (.os l sz lo m)=>pG (look h l) λo=>match o with
    | .rows c d b=>lo+m<=b.length/\sz=d/\sz=z.size/\m+ds.length<=zJ/\
        K (.c (.os (nm n k) z.size 0 (m+ds.length))) ((nm n k,.rows (c&&f2) z.size ((b.drop lo).take m++ds))::(l,.gone)::h) (k+1)
    | _=>False
  | .c (.clip c sz b) => (b ≠ [] -> sz = z.size) /\ (ds = [] -> b = []) /\ b.length + ds.length <= zJ /\
        K (.c (.os (nm n k) z.size 0 (b.length+ds.length))) ((nm n k,.rows (c&&f2) z.size (b++ds))::h) (k+1)
  | _=>False
def zK(h:Heap)(n k:Nat)(z:TY)(a b:PV)(K:PV->Heap->Nat->Prop):Prop:=
 ∃e,ZD z.zero e/\z.size≠0/\z.bytes<=1024/\NI h e b λf c d=>(d≠ []->c=z.size)/\uX h n k z a (f || DY d) d K
def uY(h:Heap)(c:List D)(z:TY)(v:PV)(K:Heap->Prop):Prop:=
 match v with
 | .c .nil=>K h
 | .c (.os l sz lo n)=>pG (look h l) λo=>match o with
  | .rows f a b=>sz=a/\sz=z.size/\z.size≠0/\lo+n<=b.length/\K ((l,.rows f sz (b.take lo++List.replicate n c++b.drop (lo+n)))::h)
  | _=>False
 | _=>False
def gP(E:Tab)(u:Op)(t:Slots)(h:Heap)(n k:Nat)(K:PV->Heap->Nat->Prop):Prop:=
 match u with
 | .alloc ty=>aF (E.ty ty) λy=>y.zero≠ []/\K (.c (.ptr (nm n k) y.size 0 0)) ((nm n k,.box y.zero)::h) (k+1)
 | .box _ x=>aT (ev E t x) λv=>(aP v).length≠0/\K (.c (.ptr (nm n k) (aP v).length 0 0)) ((nm n k,.box (aP v))::h) (k+1)
 | .buildSlice ty len d=>aF (E.ty ty) λy=>match y.desc with
  | .slice e=>aF (E.ty e) λz=>z.size≠0/\d.toList.map (·.1)=List.range len/\len*z.size<=16777216/\
    uW E t z.size h d.toList λf r i=>K (.c (.os (nm n k) z.size 0 len)) ((nm n k,.rows f z.size (ir z.desc r))::i) (k+1)
  | _=>False
 | .makeSlice ty l c=>aF (E.ty ty) λy=>match y.desc with
  | .slice e=>aF (E.ty e) λz=>∃g,ZD z.zero g/\aT (ev E t l) λlv=>aT (ev E t c) λq=>rV lv λ_ m=>rV q λ_ s=>
    z.size≠0/\z.bytes<=1024/\s=m/\0<=m/\m<=zJ/\K (.c (.os (nm n k) z.size 0 m.toNat)) ((nm n k,.rows true z.size (List.replicate m.toNat g))::h) (k+1)
  | _=>False
 | .store ty p x=>aF (E.ty ty) λy=>aT (ev E t p) λpv=>aT (ev E t x) λv=>Ba h y pv v λi=>K (.tup []) i k
 | .call c=>match c.callee,c.args.toList,c.argTypes.toList with
  | .builtin .append,[a,b],ty::ty2=>aF (E.ty ty) λy=>match y.desc with
   | .slice e=>aF (E.ty e) λz=>aT (ev E t a) λj=>aT (ev E t b) λo=>
     (match ty2 with | [t2]=>aF (E.ty t2) λy2=>qR y2.desc o | _=>False)/\
     zK h n k z j o K
   | _=>False
  | .builtin .clear,[a],[ty]=>aF (E.ty ty) λy=>match y.desc with
   | .slice e=>aF (E.ty e) λz=>∃g,ZD z.zero g/\aT (ev E t a) λj=>uY h g z j λi=>K (.tup []) i k
   | _=>False
  | _,_,_=>False
 | _=>False
variable{c:Ctx}{w:World}{v:Value}{x:List D}{K:Nat->Prop}{cells:Array Value}{a:List (List D)}{t:TypeId}
def Turns(P:Program)(c:Ctx)(w:World)(h:Heap)(n:Nat)(s:Sem Next)(K:PV->Heap->Nat->Prop):Prop:=
 ∃e u b a d f pv,s.run P w= .ok e a/\(e= .value u\/(e= .skip/\u=undef))/\Grow c w h b a d/\bH b a d/\b.n=nm n f/\bG b a u pv/\K pv d f
theorem dh.flag(d:∀b,c.K true b->c.K false b){x:D}{f g:Bool}(h:dh (c.K f) w v x):dh (c.K (f&&g)) w v x:=by
 refine h.mono' (λb a=> ?_);cases f<;>cases g<;>first | exact a | exact d b a
def dh.Xc(d:∀b,c.K true b->c.K false b){x:D}{f g:Bool}(h:dh (c.K g) w v x):dh (c.K (f&&g)) w v x:=by
 refine h.mono' (λb a=> ?_);cases f<;>cases g<;>first | exact a | exact d b a
def bQ.al7{a:Nat}{b:List (List D)}(h:bQ K w cells a b):
  ∃u:Nat->Nat->Value,∀i j,i<b.length->j<a->cells[i*a+j]? =some (u i j)/\dh K w (u i j) (gd b i j):=by
 have e:∀i j,∃u,i<b.length->j<a->cells[i*a+j]? =some u/\dh K w u (gd b i j):=by
  intro i j;by_cases d:i<b.length
  .by_cases c:j<a
   .obtain⟨v,hv⟩:=(h i d).2 j c;simp_all
   .exact⟨undef,λ_ h=>absurd h c⟩
  .exact⟨undef,λh=>absurd h d⟩
 exact⟨λi j=>Classical.choose (e i j),λi j d c=>Classical.choose_spec (e i j) d c⟩
def Cq{h:Heap}(H:bH c w h){x:Cell}{K:Bool->D->Heap->Prop}(r:bM c w v x)(hk:Cn h x K):
  ∃m t f d,Grow c w h m w t/\bH m w t/\m.n=c.n/\dh (m.K f) w v d/\K f d t:=by
 unfold Cn at hk;split at hk
 .rename_i f x;cases r with | d _ _ _ hd=>
  refine⟨c,h,f || x.nO,x,.refl _ _ _,H,rfl,?_,hk⟩;cases hs:x.nO with
  | true=>exact hd.nO _ hs
  | false=>simpa using hd
 .cases r with | nil=>
  obtain⟨q,hk⟩:=hk;exact⟨c,h,true,_,.refl _ _ _,H,rfl,.none _ _ _,hk⟩
 .rename_i f q es;cases r with | clip _ a n _ _ hd=>
  exact⟨c,h,f,_,.refl _ _ _,H,rfl,hd,hk⟩
 .rename_i l q lo n
  replace hk:=lV hk;obtain⟨o,z,hk⟩:=hk
  split at hk
  .rename_i f sz' es;obtain⟨rfl,A,hk⟩:=hk;have p:=Grow.give (c:=c) (w:=w) (h:=h) f z (by trivial);have I:=H.give f z (by trivial);refine⟨_,_,f,_,p,I,rfl,?_,hk⟩;have k:=(H.obj l _ z).2;cases r with
   | os0 a _ _ B hm=>rw [List.take_zero];exact .none _ _ _
   | osE a _ _ _ b B hm=>rw [List.take_zero];exact .none _ _ _
   | os _ _ _ _ y b J B hm hn s=>
    simp only [jr,hm]at k;obtain⟨cells,E,F,g⟩:=k;obtain⟨u,C⟩:=g.al7;have e:((es.drop lo).take n).length=n:=by simp;omega
    have p:∀i,i<n->((es.drop lo).take n).getD i []=es.getD (lo+i) []:=by grind
    refine .rows b (J+lo*q) y q n _ (λi j=>u (lo+i) j) ?_ e.symm hn ?_ ?_ ?_
    .exact .inr ⟨(j6 hm).symm,λh=>h⟩
    .intro i j hi hj;rw [e]at hi;have G:=(C (lo+i) j ah hj).1;rw [qP F];simpa only [zH,Nat.add_mul,Nat.add_assoc]using G
    .intro i hi;rw [e]at hi;rw [p i hi];exact(g (lo+i) ah).1
    .intro i j hi hj;rw [e]at hi;unfold gd;rw [p i hi];exact((C (lo+i) j ah hj).2).mono' (λx L=> .inl L)
  .exact hk.elim
 .exact hk.elim
def rW:∀(cs:List Cell) {c:Ctx} {h:Heap} (_:bH c w h) {a:List Value} {K:Bool->List D->Heap->Prop} (_:F2 (bM c w) a cs) (_:qy h cs K),
  ∃b i f e,Grow c w h b w i/\bH b w i/\b.n=c.n/\F2 (dh (b.K f) w) a e/\K f e i
 | [],c,h,H,a,K,hv,hk=>by
  cases hv;exact⟨c,h,true,[],.refl _ _ _,H,rfl,.nil,hk⟩
 | x::r,c,h,H,a,K,hv,hk=>by
  cases hv with | @cons v _ a _ q o=>
  obtain⟨A,u,f,d,m,t,y,p,hk⟩:=Cq H q hk;obtain⟨s,j,g,e,l,k,z,n,hk⟩:=rW r t (F2.mono (λ_ _ h=>h.grow H m) o) hk;refine⟨s,j,f&&g,d::e,m.trans l,k,z.trans y,.cons ?_ (F2.mono (λ_ _ h=>h.Xc k.sub) n),hk⟩;exact(p.mono' (l.le.K f)).flag k.sub
def bM.oneCell{x:Cell}(h:bM c w v x):v.oneCell'=true:=by
 cases h with
 | d f _ x h=>cases h<;>rfl
 | _=>rfl
def dh.oneCell{x:D}(h:dh K w v x):v.oneCell'=true:=by cases h<;>rfl
def F2.all{α β:Type}{R:α->β->Prop}{p:α->Prop}(h:∀a b,R a b->p a){l:List α}{m:List β}(c:F2 R l m):∀a∈l,p a:=by
 induction c with
 | nil=>simp_all
 | cons e _ d=>grind
def nP{b:Nat}{old cs:Array Value}{a:Nat×Nat}(d:w.heap[b]? =some (.cells old t a))(g:cs.size=old.size):World.jD w (w.setRow b cs):=
 DX λx c E f h=>by
  by_cases e:x=b
  .subst e;rw [d]at h;cases h;exact⟨cs,a,setRow_heap w x old cs t a d,g⟩
  grind [setRow_other]
def size_setRow(w:World)(b:Nat)(cs:Array Value):(w.setRow b cs).heap.size=w.heap.size:=by simp [World.setRow]
def bQ.mono{K K':Nat->Prop}{w w':World}{sz:Nat}{es:List (List D)}(hK:∀b,K b->K' b)(c:∀b,K b->w'.heap[b]? =w.heap[b]?)
  (h:bQ K w cells sz es):bQ K' w' cells sz es:=λi a=>
 ⟨(h i a).1,λj d=>let⟨v,e,hd⟩:=(h i a).2 j d;⟨v,e,hd.mono hK c⟩⟩
def xY{i:Nat}(h:i<a.length):(a.set i x).getD i []=x:=by simp_all
def getD_set_ne{i j:Nat}(h:i≠j):(a.set i x).getD j []=a.getD j []:=by simp_all
def DZ(l a:List Value)(o q:Nat)(h:o+a.length<=l.length):(l.take o++a++l.drop (o+a.length))[q]? =if o<=q/\q<o+a.length then a[q-o]? else l[q]? :=by grind [List.append_assoc,List.getElem?_append_left,List.getElem?_take_of_lt,List.getElem?_append_right,List.length_take,Nat.min_eq_left]
def Li(row a:List D)(j q:Nat)(h:j+a.length<=row.length):(gN row a j).getD q default=if j<=q/\q<j+a.length then a.getD (q-j) default else row.getD q default:=by grind [gN,List.getD,List.append_assoc,List.getElem?_append_left,List.getElem?_take_of_lt,List.getElem?_append_right,List.length_take,Nat.min_eq_left]
def bQ.store{b i j:Nat}{c:List (List D)}{o:List Value}{a:List D}(h:bQ K w cells b c)(p:i<c.length)(hd:F2 (dh K w) o a)
  (z:j+a.length<=b) (m:i*b+j+o.length<=cells.size):
  bQ K w (cells.toList.take (i*b+j)++o++cells.toList.drop (i*b+j+o.length)).toArray b (c.set i (if j=0/\a.length=b then a else gN (c.getD i []) a j)):=by
 have s:=hd.length;have t:(c.getD i []).length=b:=(h i p).1;intro l k;rw [List.length_set]at k;by_cases e:i=l
 .subst e;rw [xY p];have d:(if j=0/\a.length=b then a else gN (c.getD i []) a j)=gN (c.getD i []) a j:=by grind [gN,List.drop_eq_nil_of_le]
  rw [d];refine⟨by grind [gN,List.length_append,List.length_take,List.length_drop],λq r=> ?_⟩;have f:gd (c.set i (gN (c.getD i []) a j)) i q=(gN (c.getD i []) a j).getD q default:=by
   unfold gd;rw [xY p]
  rw [f,Li _ _ _ _ ah];simp only [List.getElem?_toArray];rw [DZ _ _ _ _ (by simpa using m)];by_cases n:j<=q/\q<j+a.length
  .rw [if_pos ah,if_pos n];have u:a[q-j]? =some (a.getD (q-j) default):=by grind
   obtain⟨v,y,x⟩:=hd.get u
   grind
  .rw [if_neg ah,if_neg n];have:=(h i p).2 q r;simpa [gd]using this
 .rw [getD_set_ne e];refine⟨(h l k).1,λq r=> ?_⟩;have f:gd (c.set i (if j=0/\a.length=b then a else gN (c.getD i []) a j)) l q=gd c l q:=by
   unfold gd;rw [getD_set_ne e]
  rw [f];simp only [List.getElem?_toArray];rw [DZ _ _ _ _ (by simpa using m),if_neg ?_]
  .simpa using(h l k).2 q r
  .intro hh;rcases Nat.lt_or_gt_of_ne e with g | g
   .have:(i+1)*b<=l*b:=Nat.mul_le_mul_right _ g
    grind
   .have:(l+1)*b<=i*b:=Nat.mul_le_mul_right _ g
    grind
def uZ{o k:Nat}{vs:List Value}(h:o+k<=cells.size):
  from_ (cells.toList.take (o+k)++vs++cells.toList.drop (o+k+vs.length)).toArray o=((from_ cells o).toList.take k++vs++(from_ cells o).toList.drop (k+vs.length)).toArray:=by
 have b:o<=(cells.toList.take (o+k)).length:=by simp;omega
 have a:(cells.toList.take (o+k)).drop o=(cells.toList.drop o).take k:=by rw [List.drop_take];congr 1;omega
 unfold from_;simp only [List.append_assoc];rw [List.drop_append_of_le_length b,a,List.drop_drop,Nat.add_assoc]
def lY{o:Nat}:(from_ cells o).size=cells.size-o:=by simp [from_]
def Lj{E:Tab}(hE:aH E){h:Heap}{n k:Nat}(H:bH c w h)(hn:c.n=nm n k){y:TY}(hy:E.ty t=some y){u v:Value}{p q:PV}{K:PV->Heap->Nat->Prop}
  (X:bG c w u p) (hv:bG c w v q) (hk:Ba h y p q λR=>K (.tup []) R k):Turns E.P c w h n (do Instr.storeAt t u v;pure .skip) K:=by
 obtain⟨a3,a1,hk⟩:=hk;have d:=hv.cells ah;have a5:=d.length;have U:∀x∈v.cells.toList,x.oneCell'=true:=d.all (λ_ _ h=>h.oneCell);have O:∀(c:Ctx) (w:World),bG c w undef (.tup []):=λc w=> .tup [] [] rfl (λi Q=>by simp at Q)
 have run:∀(b o:Nat) (A:Array Value) (e:TypeId),w.heap[b]? =some (.cells A e (0,0))->o+v.cells.toList.length<=A.size->u= .pointer (some ⟨b,o,none⟩)->
   ((do Instr.storeAt t u v;pure .skip):Sem Next).run E.P w= .ok .skip (w.setRow b (A.toList.take o++v.cells.toList++A.toList.drop (o+v.cells.toList.length)).toArray):=by
  intro b o A e F hl he;have:=run_storeCells_at E.P b o e v.cells.toList 0 A w F (by simpa using hl) U;simp_all [Instr.storeAt,Instr.sureAddr,storeVar,run_sizeOf]
 split at hk
 .rename_i l sz i j
  replace hk:=lV hk;obtain⟨o,M,hk⟩:=hk
  cases X with | c _ _ X=>cases X with | ptr _ _ _ _ b I hl hm=>
  split at hk
  .rename_i cs;obtain⟨rfl,a0,hk⟩:=hk;obtain⟨b',G,e,m,F,W⟩:=(H.obj l _ M).2;rw [hm]at m;cases m;have a2:=W.length;have s:(G.take j++v.cells.toList++G.drop (j+v.cells.toList.length)).toArray.size=G.toArray.size:=by grind
   have D:=run b j G.toArray e F (by simp_all) (by simp);simp only []at D;have C:=nP F s;have B:∀f x,c.K f x->(w.setRow b (G.take j++v.cells.toList++G.drop (j+v.cells.toList.length)).toArray).heap[x]? =w.heap[x]? :=
    λf x r=>setRow_other _ _ _ _ (λS=>H.own f b ⟨l,_,M,trivial,j6 hm⟩ (S▸r))
   have z:∀a x,bM c w a x->bM c (w.setRow b (G.take j++v.cells.toList++G.drop (j+v.cells.toList.length)).toArray) a x:=λa x r=>r.mono (.refl c) B C
   refine⟨.skip,undef,c,_,_,k,.tup [],D,.inr ⟨rfl,rfl⟩,Grow.write M trivial (j6 hm) (λx r=>setRow_other _ _ _ _ r) (size_setRow _ _ _) C rfl rfl rfl,
    H.write M trivial (j6 hm) (λx r=>setRow_other _ _ _ _ r) (size_setRow _ _ _) C ?_,hn,O _ _,hk⟩
   refine⟨b,_,e,hm,setRow_heap w b _ _ e _ F,?_⟩;unfold splice;refine F2.append (F2.append (F2.mono z (W.take j)) (F2.mono z d)) ?_;have h4:=F2.mono z (W.drop (j+v.cells.toList.length));simp_all
  .rename_i f sz' es;obtain⟨rfl,Q,hk⟩:=hk;obtain⟨L,R,g,T,Z,P,V,hd,Tp,hj,hk⟩:=rW _ H d hk;have Y:l<c.n:=(H.obj l _ M).1;have m:L.ν l=some (b,I):=(Z.le.ν l Y).trans hm;have B:=(P.obj l _ Tp).2;simp only [jr,m]at B;obtain⟨cells,e,F,J⟩:=B;have afH:i*sz+j+v.cells.toList.length<=(from_ cells I).size:=by
    have a4:=hd.length;have:=(J i Q).2 (sz-1) ah
    grind
   have N:I+(i*sz+j)+v.cells.toList.length<=cells.size:=by rw [lY]at afH;omega
   have D:=run b (I+(i*sz+j)) cells e F N rfl;have s:(cells.toList.take (I+(i*sz+j))++v.cells.toList++cells.toList.drop (I+(i*sz+j)+v.cells.toList.length)).toArray.size=cells.size:=by grind
   have C:=nP F s;have B:∀f x,L.K f x->(w.setRow b (cells.toList.take (I+(i*sz+j))++v.cells.toList++cells.toList.drop (I+(i*sz+j)+v.cells.toList.length)).toArray).heap[x]? =w.heap[x]? :=
    λf x r=>setRow_other _ _ _ _ (λS=>P.own f b ⟨l,_,Tp,trivial,j6 m⟩ (S▸r))
   have hG:Grow L w R L _ _:=Grow.write (o':= .rows (f&&g) sz (es.set i (if j=0/\T.length=sz then T else gN (es.getD i []) T j))) Tp trivial (j6 m) (λx r=>setRow_other _ _ _ _ r) (size_setRow _ _ _) C rfl rfl rfl;refine⟨.skip,undef,L,_,_,k,.tup [],D,.inr ⟨rfl,rfl⟩,Z.trans hG,?_,V.trans hn,O _ _,hk (es.getD i []) (by simp_all)⟩;refine P.write Tp trivial (j6 m) (λx r=>setRow_other _ _ _ _ r) (size_setRow _ _ _) C ?_;simp only [jr,m];refine⟨_,e,setRow_heap w b _ _ e _ F,?_⟩
   have h3:=(bQ.mono (K':=L.K (f&&g)) (w':=w) (λx r=>by cases f<;>cases g<;>first | exact r | exact P.sub x r) (λ_ _=>rfl) J).store Q
    (F2.mono (λ_ _ h=>h.Xc (f:=f) P.sub) hd) hj afH
   rw [uZ ah];exact h3.mono (λ_ h=>h) (B (f&&g))
  .exact hk.elim
 .exact hk.elim
end Go.AE
namespace Go.AE
open Go
variable{P:Program}{c:Ctx}{h:Heap}{cells:Array Value}{e:TypeId}{K:PV->Heap->Nat->Prop}{w:World}{E:Tab}{t:TypeId}{sz:Nat}
def qU{w w1:World}{n k:Nat}(H:bH c w h)(hn:c.n=nm n k){s:Sem Next}{u:Value}{o:eD}{pv:PV}
  (g:s.run P w= .ok (.value u) w1) (q:w1.heap=(w.alloc (.cells cells e)).heap) (p:w1.os=w.os) (l:w1.tape=w.tape) (j:w1.output=w.output)
  (B:World.jD w w1->(∀x,x<w.heap.size->w1.heap[x]? =w.heap[x]?)->w1.heap[w.heap.size]? =some (.cells cells e (0,0))->jr (c.name (some w.heap.size)) w1 c.n o)
  (C:w1.heap[w.heap.size]? =some (.cells cells e (0,0))->bG (c.name (some w.heap.size)) w1 u pv) (hk:K pv ((nm n k,o)::h) (k+1)):Turns P c w h n s K:=by
 have r:World.jD w w1:=λb m y=>by
  have:=pQ w (.cells cells e) b m y;obtain⟨v,E,A,z,t⟩:=this;exact⟨v,E,A,by rw [q];exact z,t⟩
 have a:∀x,x<w.heap.size->w1.heap[x]? =w.heap[x]? :=λx i=>by grind [alloc_old]
 have d:w1.heap[w.heap.size]? =some (.cells cells e (0,0)):=by rw [q];exact jv w _
 have f:w.heap.size<=w1.heap.size:=by rw [q];simp
 refine⟨.value u,u,c.name (some w.heap.size),_,(c.n,o)::h,k+1,pv,g,.inl rfl,Grow.new (λx i=>(Option.some.inj i).symm) r a f p l j,
  H.new (λx i=>(Option.some.inj i).symm) r a f (B r a d),?_,C d,?_⟩
 .show c.n+1=_;rw [hn];rfl
 simp_all
def Ll{w g:World}(H:bH c w h){vs:List Value}{cs:List Cell}(i:F2 (bM c w) vs cs)(k:World.jD w g)
  (a:∀x,x<w.heap.size->g.heap[x]? =w.heap[x]?) (d:g.heap[w.heap.size]? =some (.cells vs.toArray e (0,0))):jr (c.name (some w.heap.size)) g c.n (.box cs):=
 ⟨w.heap.size,vs,e,by simp [Ctx.nameAt,upd],d,F2.mono (λ_ _ l=>l.mono (c.pO _) (λf b j=>a b (H.low f b j)) k) i⟩
def Tq{b a m:Nat}(hm:c.n=m):bG (c.name (some b)) w (.pointer (some ⟨b,0,none⟩)) (.c (.ptr m a 0 0)):=by
 subst hm;have:=bM.ptr (c:=c.name (some b)) (w:=w) c.n a 0 0 b 0 (Nat.lt_succ_self _) (by simp [Ctx.nameAt,upd]);exact .c _ _ (by simpa using this)
def Lm(hE:aH E){n k:Nat}(H:bH c w h)(hn:c.n=nm n k)
  (hk:aF (E.ty t) λy=>y.zero≠ []/\K (.c (.ptr (nm n k) y.size 0 0)) ((nm n k,.box y.zero)::h) (k+1)):Turns E.P c w h n (do pure (Next.value (<-Instr.alloc t true (.tuple #[])))) K:=by
 replace hk:=aI hk;obtain⟨y,f,i,hk⟩:=hk
 obtain⟨d,uU,j,_,z,b,a⟩:=(hE.ty t y f).info;refine qU H hn (cells:=z.cells) (e:=t) (w1:=w.alloc (.cells z.cells t)) (o:= .box y.zero) (u:= .pointer (some ⟨w.heap.size,0,none⟩)) ?_ rfl rfl rfl rfl ?_ (λ_=>Tq hn) hk
 .simp [Instr.alloc,zeroValue,typeInfo,uU,b,newVar,newRow]
 .intro hst hold hnew;have g:=a c w;exact Ll H (vs:=z.cells.toList) g hst hold (by simpa using hnew)
def Lp{n k:Nat}(H:bH c w h)(hn:c.n=nm n k){v:Value}{p:PV}(a:bG c w v p)
  (b:(aP p).length≠0) (hk:K (.c (.ptr (nm n k) (aP p).length 0 0)) ((nm n k,.box (aP p))::h) (k+1)):Turns P c w h n (do pure (Next.value (<-Instr.box t v))) K:=by
 refine qU H hn (cells:=v.cells) (e:=t) (w1:=w.alloc (.cells v.cells t)) (o:= .box (aP p)) (u:= .pointer (some ⟨w.heap.size,0,none⟩)) ?_ rfl rfl rfl rfl ?_ (λ_=>Tq hn) hk
 .simp [Instr.box,newVar,newRow]
 .intro hst hold hnew;exact Ll H (vs:=v.cells.toList) (a.cells b) hst hold (by simpa using hnew)
def zL{a:Act}{t:Slots}:∀(o:List (Nat×Operand)) {c:Ctx} {h:Heap} (_:∀i v,aW t i=some v->∃u,a.tmps[i]? =some u/\bG c w u v) (_:oD E c w) (_:bH c w h)
  {K:Bool->List (List D)->Heap->Prop} (_:sz≠0) (_:uW E t sz h o K),
  ∃d k f b,Grow c w h d w k/\bH d w k/\d.n=c.n/\F2 (λ(v:Value) (e:List D)=>e.length=sz/\F2 (dh (d.K f) w) v.cells.toList e) (o.map λx=>a.eval x.2) b/\K f b k
 | [],c,h,hs,G,H,K,hsz,hk=>⟨c,h,true,[],.refl _ _ _,H,rfl,.nil,hk⟩
 | (i,x)::r,c,h,hs,G,H,K,hsz,hk=>by
  unfold uW at hk;obtain⟨v,I,C,hk⟩:=dF (a:=a) (w:=w) (c:=c) (h:=h) ⟨hs,H,G⟩ hk;have hc:=I.cells ah;obtain⟨z,q,f,e,l,B,J,s,hk⟩:=rW _ H hc hk;have m:∀i v,aW t i=some v->∃u,a.tmps[i]? =some u/\bG z w u v:=λi v F=>let⟨u,q,j⟩:=hs i v F;⟨u,q,j.grow H l⟩
  obtain⟨A,j,g,b,p,n,L,y,hk⟩:=zL r m (G.grow H l) B hsz hk;refine⟨A,j,f&&g,e::b,l.trans p,n,L.trans J,.cons ⟨?_,?_⟩ ?_,hk⟩
  .rw [<-s.length,hc.length,C]
  .exact F2.mono (λ_ _ h=>(h.mono' (p.le.K f)).flag n.sub) s
  .exact F2.mono (λ_ _ h=>⟨h.1,F2.mono (λ_ _ h=>h.Xc n.sub) h.2⟩) y
def Lr(sz:Nat):∀(b:List Value) (m:Nat) (pre a:List Value),(∀v∈b,v.cells.size=sz)->pre.length=m*sz->a.length=b.length*sz->
  Instr.fill (λi=>some (i*sz,sz)) (pre++a).toArray ((List.range' m b.length).zip b)=some (pre++(b.flatMap λv=>v.cells.toList)).toArray
 | [],m,pre,a,_,_,hp=>by simp_all [Instr.fill]
 | v::b,m,pre,a,hv,hpre,hp=>by
  have g:v.cells.size=sz:=hv v (by simp);simp only [List.length_cons,List.range'_succ,List.zip_cons_cons,Instr.fill];have c:a.length=b.length*sz+sz:=by grind
  rw [if_neg (by grind)];have e:(v.cells.zipIdx.foldl (λ(cs:Array Value) (x:Value×Nat)=>cs.setIfInBounds (m*sz+x.2) x.1) (pre++a).toArray)=((pre++v.cells.toList)++a.drop sz).toArray:=by
   apply Array.ext';rw [<-Array.foldl_toList,foldl_toList,Array.toList_zipIdx];rw [yM _ _ (m*sz) 0 (by grind)];simp_all [Nat.add_zero,List.take_left',List.drop_append]
  rw [e];have d:=Lr sz b (m+1) (pre++v.cells.toList) (a.drop sz) (λx f=>hv x (by simp [f])) (by grind) (by simp;omega);rw [d];simp
theorem flat_get{a:Nat}:∀(b:List (List Value)) (_:∀v∈b,v.length=a) (i j:Nat) (_:i<b.length) (_:j<a),(b.flatten)[i*a+j]? =(b.getD i [])[j]?
 | v::b,h,0,j,_,hj=>by grind
 | v::b,h,i+1,j,hi,hj=>by
  have c:v.length=a:=h v (by simp);simp only [List.flatten_cons];rw [List.getElem?_append_right (by grind),c,show(i+1)*a+j-a=i*a+j by grind];have:=flat_get b (λx d=>h x (by simp [d])) i j (by simpa using hi) hj;simpa using this
def NJ{K:Nat->Prop}{d:List (List Value)}{c:List (List D)}(h:F2 (λ(v:List Value) (e:List D)=>e.length=sz/\F2 (dh K w) v e) d c):bQ K w d.flatten.toArray sz c:=by
 have q:∀v∈d,v.length=sz:=h.all (λa b g=>by rw [g.2.length];exact g.1);have f:=h.length;intro i r;have p:c[i]? =some (c.getD i []):=by simp_all
 obtain⟨v,s,n,m⟩:=h.get p;refine⟨n,λj t=> ?_⟩;have o:(c.getD i [])[j]? =some (gd c i j):=by grind [gd,List.getD]
 obtain⟨x,l,k⟩:=m.get o
 grind [flat_get,pK]
theorem qV{k:IntKind}:∀ {b:List (List D)} {a:List Int},lW k b=some a->b=a.map (ic k)
 | [],a,h=>by grind [lW]
 | [.int k' n]::r,a,h=>by
  simp only [lW]at h;split at h
  .rename_i e;subst e;split at h
   .rename_i l hl;cases h;rw [qV hl];rfl
   .cases h
  .cases h
 | []::_,a,h=>by simp [lW]at h
 | [.bool _]::_,a,h=>by simp [lW]at h
 | [.str _]::_,a,h=>by simp [lW]at h
 | [.rows _ _]::_,a,h=>by simp [lW]at h
 | (_::_::_)::_,a,h=>by simp [lW]at h
theorem Ls(d:lN)(a:List (List D)):ir d a=a:=by
 unfold ir
 grind [qV]
def NK{b sz m q:Nat}{d:Nat×Nat}(a:Nat)(f:c.n=q)(g:w.heap[b]? =some (.cells cells e d))(hm:m<=a)(hc:a*sz<=cells.size):
  bG (c.name (some b)) w (.slice (some ⟨b,0,none⟩) m a) (.c (.os q sz 0 m)):=by
 subst f;have:=bM.os (c:=c.name (some b)) (w:=w) c.n sz 0 m a b 0 (Nat.lt_succ_self _) (by simp [Ctx.nameAt,upd]) hm ⟨cells,e,d,g,by simpa using hc⟩;exact .c _ _ (by simpa using this)
def Bb{w g:World}(H:bH c w h){f:Bool}{i:List (List D)}(j:bQ (c.K f) w cells sz i)
  (a:∀x,x<w.heap.size->g.heap[x]? =w.heap[x]?) (d:g.heap[w.heap.size]? =some (.cells cells e (0,0))):jr (c.name (some w.heap.size)) g c.n (.rows f sz i):=by
 have hm:(c.name (some w.heap.size)).ν c.n=some (w.heap.size,0):=by simp [Ctx.nameAt,upd]
 simp only [jr,hm,VA];exact⟨cells,e,d,j.mono (λ_ h=>h) (λb k=>a b (H.low f b k))⟩
theorem zip_map{α β γ:Type}(f:α->β)(g:α->γ)(l:List α):(l.map f).zip (l.map g)=l.map λx=>(f x,g x):=by grind
theorem Bc(hE:aH E){t:Slots}{n k:Nat}{a:Act}(A:qO E c w t h a)(hn:c.n=nm n k){ty:TypeId}{len:Nat}{b:Array (Nat×Operand)}
  (hk:gP E (.buildSlice ty len b) t h n k K):Turns E.P c w h n (do pure (Next.value (<-Instr.buildSlice ty len (b.map λ(i,x)=>(i,a.eval x))))) K:=by
 simp only [gP]at hk
 replace hk:=aI hk;obtain⟨y,hy,hk⟩:=hk
 split at hk
 .rename_i e he
  replace hk:=aI hk;obtain⟨z,s,D,m,M,hk⟩:=hk
  obtain⟨c1,C,f,q,g1,L,O,B,hk⟩:=zL (E:=E) (a:=a) (t:=t) (w:=w) (sz:=z.size) b.toList A.slot A.glob A.heap D hk;rw [Ls]at hk;have g:=(hE.ty ty y hy).desc;rw [he]at g;obtain⟨Y,uU,hs,_,r,J,G⟩:=(hE.ty e z s).info;have d:b.toList.length=len:=by have:=congrArg List.length m;simpa using this
  have I:q.length=len:=by rw [<-B.length];simpa using d
  have p:∀v∈b.toList.map (λx=>a.eval x.2),v.cells.size=z.size:=B.all (λv ds F=>by have:=F.2.length;simp_all);have Cr:=Lr z.size (b.toList.map λx=>a.eval x.2) 0 [] ((List.range (len*z.size)).map λi=>r.cells[i%r.cells.size]!) p (by simp) (by simp_all);have al8:((List.range' 0 (b.toList.map λx=>a.eval x.2).length).zip (b.toList.map λx=>a.eval x.2))=b.toList.map λx=>(x.1,a.eval x.2):=by grind [List.range_eq_range',List.length_map,zip_map]
  rw [al8]at Cr;simp only [List.nil_append]at Cr;have a0:r.cells.size=z.size:=by
   have C:=(G c w).length;have h2:=(hE.ty e z s).len;simp at C;omega
  have al9:((b.toList.map λx=>a.eval x.2).flatMap λv=>v.cells.toList).length=len*z.size:=by
   rw [<-d];have:∀(l:List Value),(∀v∈l,v.cells.size=z.size)->(l.flatMap λv=>v.cells.toList).length=l.length*z.size:=by
    intro l hl
    induction l with
    | nil=>simp
    | cons x l N=>grind
   grind
  have U:Turns E.P c1 w C n (do pure (Next.value (<-Instr.buildSlice ty len (b.map λ(i,x)=>(i,a.eval x))))) K:=by
   refine qU L (O.trans hn) (cells:=((b.toList.map λx=>a.eval x.2).flatMap λv=>v.cells.toList).toArray) (e:=e) (o:= .rows f z.size q)
    (w1:=w.alloc (.cells ((b.toList.map λx=>a.eval x.2).flatMap λv=>v.cells.toList).toArray e))
    (u:= .slice (some ⟨w.heap.size,0,none⟩) len len) ?_ rfl rfl rfl rfl ?_ (λT=>NK len (O.trans hn) T (Nat.le_refl _) (by simp_all)) hk
   .have ahJ:Instr.fill (λi=>some (i*z.size,z.size)) (Array.map (λi=>r.cells[i%r.cells.size]!) (Array.range (len*z.size))) (b.toList.map λx=>(x.1,a.eval x.2))=
      some ((b.toList.map λx=>a.eval x.2).flatMap λv=>v.cells.toList).toArray:=by
     rw [<-Cr];congr 1;grind
    have j:¬16777216<len*z.size:=by omega
    by_cases S:len*z.size=0
    .have hl0:len=0:=by grind [Nat.mul_eq_zero,absurd]
     subst hl0;have H:b= #[]:=by simp_all
     subst H;simp [Instr.buildSlice,run_underlying g,run_sizeOf hE s,Instr.fill,newRow]
     grind
    .simp [Instr.buildSlice,run_underlying g,run_sizeOf hE s,j,S,zeroValue,typeInfo,uU,J,newRow];rw [ahJ];simp
   .intro hst hold hnew;refine Bb L ?_ hold hnew;have:((b.toList.map λx=>a.eval x.2).flatMap λv=>v.cells.toList)=((b.toList.map λx=>a.eval x.2).map λv=>v.cells.toList).flatten:=by simp [List.flatMap]
    rw [this];refine NJ ?_
    clear Cr al8 p this hk al9 hnew I
    generalize b.toList.map (λx=>a.eval x.2)=vs at B
    induction B with
    | nil=>exact .nil
    | cons F _ N=>exact .cons F N
  obtain⟨nx,u,R,P,V,k',pv,X,q2,Z,q4,q5,W,Q⟩:=U;exact⟨nx,u,R,P,V,k',pv,X,q2,g1.trans Z,q4,q5,W,Q⟩
 .exact hk.elim
end Go.AE
namespace Go.AE
open Go
variable{w:World}
def NP:Ctx:={K:=λ_ _=>False,ν:=λ_=>none,n:=0}
def Bd{cs:List Cell}{vs:List Value}{e:List D}(h:F2 (bM NP w) vs cs)(g:ZD cs e):F2 (dh (λ_=>False) w) vs e:=by
 induction g generalizing vs with
 | nil=>cases h;exact .nil
 | d f x _ b=>cases h with | cons a c=>cases a with | d _ _ _ a=>exact .cons a (b c)
 | nl i _ b=>cases h with | cons a c=>cases a with | nil=>exact .cons (.none _ _ _) (b c)
def rowAt_zero{K:Nat->Prop}{b:Array Value}{a:List D}{sz m N:Nat}(d:F2 (dh (λ_=>False) w) b.toList a)(o:b.size=sz)(r:m*sz<=N):
  bQ K w ((Array.range N).map λi=>b[i%b.size]!) sz (List.replicate m a):=by
 intro i e;rw [List.length_replicate]at e;have g:(List.replicate m a).getD i []=a:=by simp_all
 have n:=d.length;refine⟨by simp_all,λj q=> ?_⟩;have c:gd (List.replicate m a) i j=a.getD j default:=by unfold gd;rw [g]
 have l:a[j]? =some (a.getD j default):=by simp_all
 obtain⟨v,p,k⟩:=d.get l;refine⟨v,?_,by rw [c];exact k.mono' (λ_ h=>h.elim)⟩;have f:i*sz+j<N:=by
  have:(i+1)*sz<=m*sz:=Nat.mul_le_mul_right _ e
  grind
 grind [Nat.mul_comm,Nat.mul_add_mod,Nat.mod_eq_of_lt,Array.getElem?_eq_some_iff,Array.getElem!_eq_getD]
theorem CV{E:Tab}(hE:aH E){c:Ctx}{t:Slots}{h:Heap}{n k:Nat}{a:Act}(A:qO E c w t h a)(hn:c.n=nm n k){ty:TypeId}{l I:Operand}{K:PV->Heap->Nat->Prop}
  (hk:gP E (.makeSlice ty l I) t h n k K):Turns E.P c w h n (do pure (Next.value (<-Instr.makeSlice ty (a.eval l) (a.eval I)))) K:=by
 simp only [gP]at hk
 replace hk:=aI hk;obtain⟨y,P,hk⟩:=hk
 split at hk
 .rename_i e he
  replace hk:=aI hk;obtain⟨z,s,hk⟩:=hk
  obtain⟨M,x,hk⟩:=hk
  replace hk:=dF A hk;obtain⟨u1,v,hk⟩:=hk
  replace hk:=dF A hk;obtain⟨u2,C,hk⟩:=hk
  replace hk:=kg hk;obtain⟨_,R,m,rfl,hk⟩:=hk
  replace hk:=kg hk;obtain⟨_,U,Q,rfl,hk⟩:=hk
  obtain⟨F,O,L,N,g,hk⟩:=hk;subst Q;rw [iA v,iA C];have d:=(hE.ty ty y P).desc;rw [he]at d;obtain⟨D,uU,T,B,q,H,j⟩:=(hE.ty e z s).info;have G:q.cells.size=z.size:=by
   have r:=(j c w).length;have S:=(hE.ty e z s).len;simp at r;omega
  have hm:m<=1073741824:=g;have b:IntKind.i64.wrap m=m:=IntWalk.i64_in _ ah;have p:¬(D.bytes:Int)*m>281474976710656:=by
   rw [B];have r:(z.bytes:Int)*m<=1024*m:=Int.mul_le_mul_of_nonneg_right ah N;omega
  refine qU A.heap hn (cells:=(Array.range (m.toNat*z.size)).map λi=>q.cells[i%q.cells.size]!) (e:=e) (o:= .rows true z.size (List.replicate m.toNat M))
   (w1:=w.alloc (.cells ((Array.range (m.toNat*z.size)).map λi=>q.cells[i%q.cells.size]!) e))
   (u:= .slice (some ⟨w.heap.size,0,none⟩) m.toNat m.toNat) ?_ rfl rfl rfl rfl ?_ (λB=>NK m.toNat hn B (Nat.le_refl _) (by simp)) hk
  .by_cases hm0:m.toNat=0
   .have:m=0:=by omega
    subst this;have J:∀f:Nat->Value,Array.map f (Array.range 0)= #[]:=by simp_all
    simp [Instr.makeSlice,run_underlying d,asInt,asIntOf,typeInfo,uU,b,run_sizeOf hE s,newRow,J]
   .have hne:m.toNat*z.size≠0:=Nat.mul_ne_zero hm0 F;have r:¬m<0:=by omega
    simp [Instr.makeSlice,run_underlying d,asInt,asIntOf,typeInfo,uU,b,run_sizeOf hE s,newRow,zeroValue,H,r,p,hne]
  .intro hst hold hnew;refine Bb A.heap (rowAt_zero (Bd (j NP w) x) G (Nat.le_refl _)) hold hnew
 .exact hk.elim
end Go.AE
namespace Go.AE
open Go
variable{c:Ctx}{w:World}{h:Heap}{K:Nat->Prop}{sz:Nat}{cells:Array Value}{es:List (List D)}{P:Program}{ds:List (List D)}{e:TypeId}
def bH.rename(H:bH c w h){l b q:Nat}{o o':eD}(D:look h l=some o)(r:o.live)(hm:c.μ l=some b)(G:jr (c.nameAt (some (b,q))) w c.n o'):
  bH (c.nameAt (some (b,q))) w ((c.n,o')::(l,.gone)::h) where
 obj:=by
  intro x s p;by_cases e:c.n=x
  .subst e;rw [aK]at p;cases p;exact⟨Nat.lt_succ_self _,G⟩
  .rw [aB _ _ e]at p;by_cases m:l=x
   .subst m;rw [aK]at p;cases p;exact⟨Nat.lt_succ_of_lt (H.obj l o D).1,trivial⟩
   .rw [aB _ _ m]at p;obtain⟨a,i⟩:=H.obj x s p;exact⟨Nat.lt_succ_of_lt a,i.mono (c.A9 _) (λ_ _ _=>rfl) (.refl w) a (λ_ _ _=>rfl)⟩
 inj:=by
  intro x s A B y a n i k d g;have j:∀z t,c.n≠z->look ((c.n,o')::(l,.gone)::h) z=some t->t.live->z≠l/\look h z=some t/\(c.nameAt (some (b,q))).μ z=c.μ z:=by
   intro z t E a i;rw [aB _ _ E]at a;by_cases e:l=z
   .subst e;rw [aK]at a;cases a;exact i.elim
   .rw [aB _ _ e]at a;exact⟨λh=>e h.symm,a,by simp [ko,upd,show z≠c.n from λh=>E h.symm]⟩
  by_cases e:c.n=x<;>by_cases m:c.n=A
  .omega
  .exfalso;obtain⟨C,v,u⟩:=j A B m i k;subst e;have:y=b:=by simpa [ko,upd]using d.symm
   subst this;rw [u]at g;exact C (H.inj A B l o y v k D r g hm)
  .exfalso;obtain⟨C,v,u⟩:=j x s e a n;subst m;have:y=b:=by simpa [ko,upd]using g.symm
   subst this;rw [u]at d;exact C (H.inj x s l o y v n D r d hm)
  .obtain⟨C,v,u⟩:=j x s e a n;obtain⟨K,J,F⟩:=j A B m i k;rw [u]at d;rw [F]at g;exact H.inj x s A B y v n J k d g
 own:=by
  rintro f x ⟨z,t,a,i,I⟩ hk;by_cases e:c.n=z
  .subst e;have:x=b:=by simp_all [ko,upd]
   subst this;exact H.own f x ⟨l,o,D,r,hm⟩ hk
  .rw [aB _ _ e]at a;by_cases m:l=z
   .subst m;rw [aK]at a;cases a;exact i.elim
   .rw [aB _ _ m]at a;exact H.own f x ⟨z,t,a,i,by simpa [ko,upd,show z≠c.n from λh=>e h.symm]using I⟩ hk
 low:=H.low
 sub:=H.sub
theorem Grow.rename{l b q:Nat}{o o':eD}(i:look h l=some o)(d:o.live)(hm:c.μ l=some b):Grow c w h (c.nameAt (some (b,q))) w ((c.n,o')::(l,.gone)::h) where
 le:=c.A9 _
 size:=Nat.le_refl _
 stays:= .refl w
 kept:=λ_ _ _=>rfl
 xK:=λ_ _ h=> .inl h
 qx:=by
  rintro x ⟨z,k,a,f,j⟩;by_cases e:c.n=z
  .subst e;have:x=b:=by simp_all [ko,upd]
   subst this;exact .inl ⟨l,o,i,d,hm⟩
  .rw [aB _ _ e]at a;by_cases g:l=z
   .subst g;rw [aK]at a;cases a;exact f.elim
   .rw [aB _ _ g]at a;exact .inl ⟨z,k,a,f,by simpa [ko,upd,show z≠c.n from λh=>e h.symm]using j⟩
 os:=rfl
 tape:=rfl
 output:=rfl
theorem Grow.forget{l:Nat}:Grow c w h c w ((l,.gone)::h) where
 le:= .refl c
 size:=Nat.le_refl _
 stays:= .refl w
 kept:=λ_ _ _=>rfl
 xK:=λ_ _ h=> .inl h
 qx:=by
  rintro x ⟨z,f,a,b,e⟩;by_cases d:l=z
  .subst d;rw [aK]at a;cases a;exact b.elim
  .rw [aB _ _ d]at a;exact .inl ⟨z,f,a,b,e⟩
 os:=rfl
 tape:=rfl
 output:=rfl
def bH.forget(H:bH c w h){l:Nat}{o:eD}(r:look h l=some o):bH c w ((l,.gone)::h) where
 obj:=by
  intro x n j;by_cases b:l=x
  .subst b;rw [aK]at j;cases j;exact⟨(H.obj l o r).1,trivial⟩
  .rw [aB _ _ b]at j;exact H.obj x n j
 inj:=by
  intro x n p q y a i d g k m;by_cases e:l=x
  .subst e;rw [aK]at a;cases a;exact i.elim
  .by_cases b:l=p
   .subst b;rw [aK]at d;cases d;exact g.elim
   .rw [aB _ _ e]at a;rw [aB _ _ b]at d;exact H.inj x n p q y a i d g k m
 own:=by
  rintro f x ⟨z,t,a,d,s⟩ hk;by_cases b:l=z
  .subst b;rw [aK]at a;cases a;exact d.elim
  .rw [aB _ _ b]at a;exact H.own f x ⟨z,t,a,d,s⟩ hk
 low:=H.low
 sub:=H.sub
def bQ.append{c e rest:List Value}{a b:List (List D)}(m:bQ K w c.toArray sz a)(p:c.length=a.length*sz)
  (l:bQ K w e.toArray sz b):bQ K w (c++e++rest).toArray sz (a++b):=by
 intro i n;rw [List.length_append]at n;by_cases d:i<a.length
 .have f:(a++b).getD i []=a.getD i []:=by simp_all
  obtain⟨h,k⟩:=m i d
  grind [gd,List.getElem?_eq_some_iff,List.append_assoc,List.getElem?_append_left]
 .have hi2:i-a.length<b.length:=by omega
  have f:(a++b).getD i []=b.getD (i-a.length) []:=by simp_all
  obtain⟨h,k⟩:=l _ hi2;refine⟨by rw [f];exact h,λj o=> ?_⟩;obtain⟨v,g,hd⟩:=k j o;refine⟨v,?_,by grind [gd]⟩;simp only [List.getElem?_toArray]at g ⊢;have q:(i-a.length)*sz+j<e.length:=(List.getElem?_eq_some_iff.1 g).1;have r:i*sz+j=c.length+((i-a.length)*sz+j):=by
   rw [p,<-Nat.add_assoc,<-Nat.add_mul];congr 2;omega
  grind
def oF{sz lo n:Nat}(h:bQ K w cells sz es)(hn:lo+n<=es.length):
  bQ K w ((cells.toList.drop (lo*sz)).take (n*sz)).toArray sz ((es.drop lo).take n):=by
 intro i d;have a:i<n:=by simp at d;omega
 have c:((es.drop lo).take n).getD i []=es.getD (lo+i) []:=by grind
 obtain⟨e,f⟩:=h (lo+i) ah;refine⟨by rw [c];exact e,λj g=> ?_⟩;obtain⟨v,k,hd⟩:=f j g;refine⟨v,?_,by grind [gd]⟩;have b:i*sz+j<n*sz:=by
  have:(i+1)*sz<=n*sz:=Nat.mul_le_mul_right _ a
  grind
 grind
def rX(h:bQ K w cells sz es)(c:sz≠0):es.length*sz<=cells.size:=by
 by_cases a:es.length=0
 .simp_all
 .obtain⟨v,hv,_⟩:=(h (es.length-1) ah).2 (sz-1) ah;obtain⟨b,_⟩:=Array.getElem?_eq_some_iff.1 hv;have:es.length*sz=(es.length-1)*sz+sz:=by
   rw [show es.length=es.length-1+1 by omega,Nat.add_mul];simp
  omega
def Dl(P:Program)(K:Nat->Prop)(w:World)(u:Value)(sz:Nat)(ds:List (List D)):Prop:=
 ∃(a:Option Addr) (c:Nat) (cells:List Value),u= .slice a ds.length c/\(∀b:World,b.heap=w.heap->(Builtin.firstCells sz ds.length u).run P b= .ok cells.toArray b)/\cells.length=ds.length*sz/\bQ K w cells.toArray sz ds/\
  (∀v∈cells,v.oneCell'=true)
theorem D5{w a:World}(h:a.heap=w.heap)(b:Addr):a.cell? b=w.cell? b:=by unfold World.cell?;rw [h]
theorem ku{a:Option Addr}{b sz:Nat}:Dl P K w (.slice a 0 b) sz []:=by
 refine⟨a,b,[],rfl,λd _=> ?_,by simp,λi c=>by simp at c,by simp⟩;cases a<;>simp [Builtin.firstCells,loadCells,loadCellsFrom]
def nQ{cells:List Value}(f:cells.length=ds.length*sz)(h:bQ K w cells.toArray sz ds):∀v∈cells,v.oneCell'=true:=by
 intro v a;obtain⟨q,c,rfl⟩:=List.mem_iff_getElem.1 a;have b:0<sz:=by grind
 have e:q/sz<ds.length:=by rw [Nat.div_lt_iff_lt_mul b];omega
 obtain⟨v,a,hd⟩:=(h (q/sz) e).2 (q%sz) (Nat.mod_lt _ b);have d:q/sz*sz+q%sz=q:=by rw [Nat.mul_comm];exact Nat.div_add_mod q sz
 rw [d]at a;simp [c]at a;rw [a];exact hd.oneCell
def yN{u:Value}{sz c:Nat}(h:dh K w u (.rows c ds))(x:ds≠ []->c=sz):Dl P K w u sz ds:=by
 cases h with
 | none a e=>exact ku
 | rows b f e _ n _ g y hn p hc r s=>
  subst hn;by_cases m:ds=[]
  .subst m;exact ku
  .have:=x m;subst this;have o:0<ds.length:=List.length_pos_iff.2 m;refine⟨some ⟨b,f,none⟩,e,(List.range (ds.length*c)).map λq=>g (q/c) (q%c),rfl,?_,by simp,?_,?_⟩
   .intro w1 hw1;have:=run_loadCells_list (P:=P) w1 ⟨b,f,none⟩ ((List.range (ds.length*c)).map λq=>g (q/c) (q%c)) (λj v k=>by grind [Option.map_eq_some_iff,List.getElem?_eq_some_iff,Nat.eq_zero_or_pos,addr_add,D5,Nat.div_lt_iff_lt_mul,Nat.mod_lt,Nat.add_assoc,Nat.mul_comm,Nat.div_add_mod]);simpa [Builtin.firstCells]using this
   .intro i d;refine⟨r i d,λj k=>⟨g i j,?_,s i j d k⟩⟩;have l:i*c+j<ds.length*c:=by
     have:(i+1)*c<=ds.length*c:=Nat.mul_le_mul_right _ d
     grind
    have t:(i*c+j)/c=i:=by grind [Nat.mul_comm,Nat.mul_add_div,Nat.div_eq_of_lt]
    grind [Nat.mul_comm,Nat.mul_add_mod,Nat.mod_eq_of_lt]
   .refine nQ (K:=K) (w:=w) (sz:=c) (ds:=ds) (by simp) ?_;intro i d;refine⟨r i d,λj k=>⟨g i j,?_,s i j d k⟩⟩;have l:i*c+j<ds.length*c:=by
     have:(i+1)*c<=ds.length*c:=Nat.mul_le_mul_right _ d
     grind
    have t:(i*c+j)/c=i:=by grind [Nat.mul_comm,Nat.mul_add_div,Nat.div_eq_of_lt]
    grind [Nat.mul_comm,Nat.mul_add_mod,Nat.mod_eq_of_lt]
theorem HY{b c sz lo n f:Nat}{h:Nat×Nat}(m:w.heap[b]? =some (.cells cells e h))(i:bQ K w (from_ cells c) sz es)
  (k:sz≠0) (hn:lo+n<=es.length) (d:World) (j:d.heap=w.heap):
  (Builtin.firstCells sz n (.slice (some ⟨b,c+lo*sz,none⟩) n f)).run P d= .ok (((from_ cells c).toList.drop (lo*sz)).take (n*sz)).toArray d:=by
 have a:=rX i k;have g:(lo+n)*sz<=es.length*sz:=Nat.mul_le_mul_right _ hn;rw [Nat.add_mul]at g;rw [lY]at a;have hd:(from_ cells c).toList.drop (lo*sz)=cells.toList.drop (c+lo*sz):=by simp [from_,List.drop_drop]
 rw [hd];have l:((cells.toList.drop (c+lo*sz)).take (n*sz)).length=n*sz:=by simp;omega
 grind [run_loadCells_list,addr_add,D5,qP,Builtin.firstCells]
def Lu{b g sz a n c:Nat}{k:Nat×Nat}{f:List (List D)}(q:w.heap[b]? =some (.cells cells e k))(i:bQ K w (from_ cells g) sz f)
  (m:sz≠0) (hn:a+n<=f.length):Dl P K w (.slice (some ⟨b,g+a*sz,none⟩) n c) sz ((f.drop a).take n):=by
 have h:=rX i m;have j:(a+n)*sz<=f.length*sz:=Nat.mul_le_mul_right _ hn;rw [Nat.add_mul]at j;have d:((f.drop a).take n).length=n:=by simp;omega
 have o:(((from_ cells g).toList.drop (a*sz)).take (n*sz)).length=n*sz:=by simp;omega
 refine⟨some ⟨b,g+a*sz,none⟩,c,((from_ cells g).toList.drop (a*sz)).take (n*sz),by rw [d],λp l=> ?_,by simp_all,oF i hn,?_⟩
 .grind [HY]
 .exact nQ (by simp_all) (oF i hn)
end Go.AE
namespace Go.AE
open Go
variable{E:Tab}{w:World}{z:TY}{x:Value}{n:Nat}{base:Option Addr}{h:Heap}{P:Program}{c:Ctx}{s:Sem Next}{K:PV->Heap->Nat->Prop}
theorem HZ(a:Nat):∀(r c:Nat),Builtin.growBy a r c<=max c (2*a+192)
 | 0,c=>by simp [Builtin.growBy];omega
 | r+1,c=>by
  unfold Builtin.growBy;split
  .omega
  .have:=HZ a r (c+(c+768)/4);omega
def nextslicecap_le{a b:Nat}(h:b<a):Builtin.nextslicecap a b<=2*a+512:=by grind [Builtin.nextslicecap,HZ]
inductive NQ (E:Tab) (w:World) (t2 e:TypeId) (z:TY) (x:Value) (n:Nat) (cells:List Value):Prop
 | slice (y2:TY) (e2:TypeId) (a:Option Addr) (cap:Nat):E.ty t2=some y2->y2.desc= .slice e2->x= .slice a n cap->
  (∀w1:World,w1.heap=w.heap->(Builtin.firstCells z.size n x).run E.P w1= .ok cells.toArray w1)->NQ E w t2 e z x n cells
 | zeros (y2:TY) (k k':IntKind) (zv:Value) (inf:TypeInfo):E.ty t2=some y2->y2.desc= .int k->x= .int k' n->n<=zJ->E.P.info? e=some inf->inf.bytes=z.bytes->inf.zero=some zv->
  cells=(List.range (n*zv.cells.size)).map (λi=>zv.cells[i%zv.cells.size]!)->zv.cells.size=z.size->NQ E w t2 e z x n cells
def xZ(hE:aH E){ty g e:TypeId}{cells:List Value}(l:E.P.underlying ty=some (.slice e))(s:E.ty e=some z)(D:z.size≠0)(C:z.bytes<=1024)
  (j:NQ E w g e z x n cells)  {sLen sCap:Nat} (b:sLen+n<=sCap):
  (Builtin.append_ #[ty,g] ty #[.slice base sLen sCap,x]).run E.P w=
   ((match base with | some a=>storeCells (a.add (sLen*z.size)) cells | none=>pure ():Sem Unit).run E.P w).andThen λ_ t=> .ok (.slice base (sLen+n) sCap) t:=by
 cases j with
 | slice y2 B a y m o j d=>
  have hd:=(hE.ty g y2 m).desc;rw [o]at hd;have f:E.P.underlying g=some (.slice B):=hd;subst j;have:=d w rfl;simp [Builtin.append_,run_underlying l,run_sizeOf hE s,run_underlying f,Builtin.lenOf,b,this];cases base<;>simp
 | zeros y2 k I G A m o j h F v p hc H=>
  have hd:=(hE.ty g y2 m).desc;rw [o]at hd;have f:E.P.underlying g=some (.int k):=hd;subst j;have hm:n<=1073741824:=h;have c:IntKind.i64.wrap (n:Int)=n:=IntWalk.i64_in _ ah;have u:¬(n:Int)<0:=by omega
  have i:¬(281474976710656:Int)< (n:Int)*(z.bytes:Int):=by
   have m:(n:Int)*(z.bytes:Int)<=(n:Int)*1024:=Int.mul_le_mul_of_nonneg_left ah ah;omega
  simp [Builtin.append_,run_underlying l,run_sizeOf hE s,run_underlying f,asInt,asIntOf,c,u,typeInfo,F,v,i,b,zeroValue,p];have q:(Builtin.zeroCells G.cells n).toList=cells:=by subst hc;simp [Builtin.zeroCells]
  rw [q];by_cases r:n=0
  .have hc0:cells=[]:=by simp_all
   subst hc0;rw [if_pos (by simp_all)];cases base<;>simp
  .rw [if_neg (Nat.mul_ne_zero r D)];cases base<;>simp
theorem run_append_grow(hE:aH E){ty r e:TypeId}{cells d:List Value}(D:E.P.underlying ty=some (.slice e))(I:E.ty e=some z)(hs:z.size≠0)(M:z.bytes<=1024)
  (C:NQ E w r e z x n cells) {h:Option Addr} {b c:Nat} (A:c<b+n) (y:b+n<=zJ) (J:d.length=b*z.size) (R:cells.length=n*z.size)
  (u:∀w1:World,w1.heap=w.heap->(Builtin.firstCells z.size b (.slice h b c)).run E.P w1= .ok d.toArray w1):
  ∃f i,b+n<=f/\f*z.size<=(d++cells++i).length/\(Builtin.append_ #[ty,r] ty #[.slice h b c,x]).run E.P w=
   .ok (.slice (some ⟨w.heap.size,0,none⟩) (b+n) f) {w.alloc (.cells (d++cells++i).toArray e)with drawn:=w.drawn+1}:=by
 have hm:b+n<=1073741824:=y;obtain⟨X,uU,a1,t,g,m,O⟩:=(hE.ty e z I).info;have N:=nextslicecap_le A;have F:¬281474976710656<Builtin.nextslicecap (b+n) c*z.bytes:=by
  have l:Builtin.nextslicecap (b+n) c*z.bytes<=(2*(b+n)+512)*1024:=Nat.mul_le_mul N M;omega
 have s:¬b+n<=c:=by omega
 have P:g.cells.size=z.size:=by
  have l:=(O NP w).length;have H:=(hE.ty e z I).len;simp at l;omega
 have v:¬(9223372036854775807:Int)< (b:Int)+(n:Int):=by omega
 generalize K:(Question.appendCap (b+n) c e).cut (w.tape w.drawn (Question.appendCap (b+n) c e))=q;have aps:b+n<=q:=by rw [<-K];simp [Question.cut]
 have Tt:(Question.appendCap (b+n) c e).forced=false:=rfl;refine⟨q,(Builtin.zeroCells g.cells (q- (b+n))).toList,aps,?_,?_⟩
 .simp [Builtin.zeroCells,J,R,P];rw [<-Nat.add_mul,<-Nat.add_mul]
  grind
 .have afI:=u w.drew rfl;cases C with
  | slice y2 e2 a W l H C o=>
   have hd:=(hE.ty r y2 l).desc;rw [H]at hd;have p:E.P.underlying r=some (.slice e2):=hd;subst C;have ahK:=o w.drew rfl;simp [Builtin.append_,run_underlying D,run_sizeOf hE I,run_underlying p,Builtin.lenOf,s,typeInfo,uU,t,F,v,Tt,K,afI,ahK,zeroValue,m,newRow];have G:d.toArray++(cells.toArray++Builtin.zeroCells g.cells (q- (b+n)))=(d++(cells++(Builtin.zeroCells g.cells (q- (b+n))).toList)).toArray:=by simp_all
   rw [G];rfl
  | zeros y2 k k' a0 S l H C ama T hb amb hc U=>
   have hd:=(hE.ty r y2 l).desc;rw [H]at hd;have p:E.P.underlying r=some (.int k):=hd;subst C;rw [uU]at T;cases T;rw [m]at amb;cases amb;have Y:n<=1073741824:=ama;have j:IntKind.i64.wrap (n:Int)=n:=IntWalk.i64_in _ ah;have V:¬(n:Int)<0:=by omega
   have B:¬(281474976710656:Int)< (n:Int)*(z.bytes:Int):=by
    have l:(n:Int)*(z.bytes:Int)<=(n:Int)*1024:=Int.mul_le_mul_of_nonneg_left ah ah;omega
   have L:Builtin.zeroCells g.cells n=cells.toArray:=by grind [Array.ext',Builtin.zeroCells]
   simp [Builtin.append_,run_underlying D,run_sizeOf hE I,run_underlying p,asInt,asIntOf,j,V,typeInfo,uU,t,B,s,F,v,Tt,K,afI,zeroValue,m,newRow,L];have G:d.toArray++(cells.toArray++Builtin.zeroCells g.cells (q- (b+n)))=(d++(cells++(Builtin.zeroCells g.cells (q- (b+n))).toList)).toArray:=by simp_all
   by_cases Q:n=0
   .have hc0:cells=[]:=by simp_all
    rw [if_pos (by simp_all)];rw [hc0]at G ⊢;have Z:d.toArray++Builtin.zeroCells g.cells (q- (b+n))=(d++([]++(Builtin.zeroCells g.cells (q- (b+n))).toList)).toArray:=by rw [<-G];simp
    rw [Z];rfl
   .rw [if_neg (Nat.mul_ne_zero Q hs),G];rfl
theorem yO{n k:Nat}(H:bH c w h)(hn:c.n=nm n k){a:Option Addr}{f:Bool}{sz:Nat}
  (b:s.run P w= .ok (.value (.slice a 0 0)) w) (hk:K (.c (.os (nm n k) sz 0 0)) ((nm n k,.rows f sz [])::h) (k+1)):Turns P c w h n s K:=by
 refine⟨_,_,c.name none,w,(c.n,.rows f sz [])::h,k+1,.c (.os (nm n k) sz 0 0),b,.inl rfl,Grow.new (λx d=>by cases d) (.refl w) (λ_ _=>rfl) (Nat.le_refl _) rfl rfl rfl,
  H.new (λx d=>by cases d) (.refl w) (λ_ _=>rfl) (Nat.le_refl _) ?_,?_,?_,?_⟩
 .simp_all [Ctx.nameAt,upd,jr]
 .show c.n+1=_;rw [hn];rfl
 .rw [<-hn];exact .c _ _ (.os0 a c.n sz (Nat.lt_succ_self _) (by simp [iB,upd]))
 simp_all
theorem Turns.after{c b:Ctx}{h a:Heap}(g:Grow c w h b w a)(t:Turns P b w a n s K):Turns P c w h n s K:=by
 obtain⟨r,u,f,d,i,m,pv,k,q,l,p,o,j,e⟩:=t;exact⟨r,u,f,d,i,m,pv,k,q,g.trans l,p,o,j,e⟩
theorem rY(hE:aH E){n k:Nat}(H:bH c w h)(hn:c.n=nm n k){ty A e:TypeId}{m:Nat}{cells old:List Value}(t:E.P.underlying ty=some (.slice e))(G:E.ty e=some z)
  (J:z.size≠0) (s:z.bytes<=1024) (L:NQ E w A e z x m cells)  {sLen sCap:Nat} (q:sCap<sLen+m) (l:sLen+m<=zJ) (g:old.length=sLen*z.size) (y:cells.length=m*z.size)
  (i:∀w1:World,w1.heap=w.heap->(Builtin.firstCells z.size sLen (.slice base sLen sCap)).run E.P w1= .ok old.toArray w1) {f1 f2:Bool} {es ds:List (List D)} (M:es.length=sLen)
  (v:bQ (c.K f1) w old.toArray z.size es) (r:bQ (c.K f2) w cells.toArray z.size ds) 
  (hk:K (.c (.os (nm n k) z.size 0 (sLen+m))) ((nm n k,.rows (f1&&f2) z.size (es++ds))::h) (k+1)):
  Turns E.P c w h n (do pure (Next.value (<-Builtin.append_ #[ty,A] ty #[.slice base sLen sCap,x]))) K:=by
 obtain⟨a,d,F,B,p⟩:=run_append_grow hE t G J s L q l g y i
 refine qU H hn (cells:=(old++cells++d).toArray) (e:=e) (o:= .rows (f1&&f2) z.size (es++ds)) (u:= .slice (some ⟨w.heap.size,0,none⟩) (sLen+m) a)
  (w1:={w.alloc (.cells (old++cells++d).toArray e)with drawn:=w.drawn+1}) (by simp [p]) rfl rfl rfl rfl ?_ (λf=>NK a hn f F (by simpa using B)) hk
 intro C I j;refine Bb H (bQ.append ?_ (by rw [g,M]) ?_) I j
 .exact v.mono (λb f=>by cases f1<;>cases f2<;>first | exact f | exact H.sub b f) (λ_ _=>rfl)
 .exact r.mono (λb f=>by cases f1<;>cases f2<;>first | exact f | exact H.sub b f) (λ_ _=>rfl)
def NR(hE:aH E)(H:bH c w h){I e:TypeId}{y2 z:TY}{u:Value}{v:PV}{s:List D}(t:E.ty I=some y2)(U:E.ty e=some z)(F:z.size≠0)(L:ZD z.zero s)
  (g:bG c w u v) (a0:qR y2.desc v)
  {K:Bool->Nat->List (List D)->Prop} (hk:NI h s v K):
  ∃f T ds,K f T ds/\((ds≠ []->T=z.size)->∃cells,NQ E w I e z u ds.length cells/\cells.length=ds.length*z.size/\bQ (c.K f) w cells.toArray z.size ds/\(∀v∈cells,v.oneCell'=true)):=by
 have mk:∀(f:Bool) (ds:List (List D)) (p:TypeId),y2.desc= .slice p->Dl E.P (c.K f) w u z.size ds->
   ∃cells,NQ E w I e z u ds.length cells/\cells.length=ds.length*z.size/\bQ (c.K f) w cells.toArray z.size ds/\(∀v∈cells,v.oneCell'=true):=by
  rintro f ds p hd ⟨a,y,cells,G,J,h3,Z,h5⟩;exact⟨cells,.slice y2 p a y t hd G J,h3,Z,h5⟩
 unfold NI at hk;split at hk
 .cases g with | c _ _ g=>cases g with | nil=>
  cases hd:y2.desc with
  | slice p=>exact⟨true,0,[],hk,λ_=>mk true [] p hd ku⟩
  | _=>grind [qR]
 .rename_i f sz es;cases g with | c _ _ g=>cases g with | d _ _ _ g=>
  cases hd:y2.desc with
  | slice p=>exact⟨f,sz,es,hk,λF=>mk f es p hd (yN g F)⟩
  | _=>grind [qR]
 .rename_i f sz es;cases g with | c _ _ g=>cases g with | clip _ a n _ _ g=>
  cases hd:y2.desc with
  | slice p=>exact⟨f,sz,es,hk,λF=>mk f es p hd (yN g F)⟩
  | _=>grind [qR]
 .rename_i l sz lo n
  replace hk:=lV hk;obtain⟨o,ho,hk⟩:=hk
  split at hk
  .rename_i f sz' es;obtain⟨rfl,A,hk⟩:=hk;cases hd:y2.desc with
   | slice p=>
    refine⟨f,sz,_,hk,λR=>mk f _ p hd ?_⟩;have x:=(H.obj l _ ho).2;cases g with | c _ _ g=>cases g with
    | os0 a _ _ V hm=>rw [List.take_zero];exact ku
    | osE a _ _ _ b V hm=>rw [List.take_zero];exact ku
    | os _ _ _ _ y b oo V hm hn M=>
     by_cases W:n=0
     .grind [ku]
     .have hne:(es.drop lo).take n≠ []:=by
       intro he;have:=congrArg List.length he
       grind
      simp only [jr,hm]at x;obtain⟨cells,E',X,j⟩:=x;have S:=R hne;subst S;exact Lu X j F A
   | _=>grind [qR]
  .exact hk.elim
 .rename_i f k' n;obtain⟨W,B,hk⟩:=hk;rw [iA g];cases hd:y2.desc with
  | int Y=>
   obtain⟨P,uU,a1,O,k,Q,C⟩:=(hE.ty e z U).info;have q:k.cells.size=z.size:=by
    have G:=(C NP w).length;have J:=(hE.ty e z U).len;simp at G;omega
   have hm:n<=1073741824:=B;have r:((List.replicate n.toNat s).length:Int)=n:=by simp;omega
   have j:bQ (c.K true) w ((List.range (n.toNat*k.cells.size)).map (λi=>k.cells[i%k.cells.size]!)).toArray z.size (List.replicate n.toNat s):=by
    have G:=rowAt_zero (K:=c.K true) (w:=w) (N:=n.toNat*z.size) (m:=n.toNat) (Bd (C NP w) L) q (Nat.le_refl _);have J:(Array.range (n.toNat*z.size)).map (λi=>k.cells[i%k.cells.size]!)=((List.range (n.toNat*k.cells.size)).map (λi=>k.cells[i%k.cells.size]!)).toArray:=by grind
    simp_all
   refine⟨true,_,_,hk,λ_=>⟨(List.range (n.toNat*k.cells.size)).map (λi=>k.cells[i%k.cells.size]!),.zeros y2 Y k' k P t hd (by rw [r]) ah uU O Q (by rw [List.length_replicate]) q,by simp [q],j,?_⟩⟩;exact nQ (K:=c.K true) (w:=w) (sz:=z.size) (ds:=List.replicate n.toNat s) (by simp [q]) j
  | _=>grind [qR]
 .exact hk.elim
def Jo(hE:aH E){n k:Nat}(H:bH c w h)(hn:c.n=nm n k){ty t2 e:TypeId}{y2 z:TY}{s x:Value}{a b:PV}(M:E.P.underlying ty=some (.slice e))(W:E.ty e=some z)
    (b4:E.ty t2=some y2) (F:bG c w s a) (X:bG c w x b)
    (b2:qR y2.desc b) 
    (hk:zK h n k z a b K):Turns E.P c w h n (do pure (Next.value (<-Builtin.append_ #[ty,t2] ty #[s,x]))) K:=by
  unfold zK at hk;obtain⟨zd,c4,y,J,hk⟩:=hk;have hq:=NR hE H b4 W y c4 X b2 hk
  clear hk
  obtain⟨f2,s2,ds,⟨b0,hk⟩,a5⟩:=hq;obtain⟨cells,hX,Q,g,h1⟩:=a5 b0;have g:bQ (c.K (f2 || DY ds)) w cells.toArray z.size ds:=by
    cases hsc:DY ds with
    | false=>simpa using g
    | true=>
      intro i N;refine⟨(g i N).1,λj hj=> ?_⟩;obtain⟨v,hv,hd⟩:=(g i N).2 j hj;refine⟨v,hv,hd.nO _ ?_⟩;have hl:=(g i N).1;have b3:ds.getD i []∈ds:=by simp_all
      have h1:=List.all_eq_true.1 hsc _ b3
      grind [gd,default,List.getD,List.getElem?_eq_getElem,List.getElem_mem,List.all_eq_true]
  generalize (f2 || DY ds)=f2 at hk g;unfold uX at hk;have c9:∀(base:Option Addr),ds.length=0->((do pure (Next.value (<-Builtin.append_ #[ty,t2] ty #[.slice base 0 0,x])):Sem Next)).run E.P w= .ok (.value (.slice base 0 0)) w:=by
    intro base h0;have:=xZ hE (w:=w) M W y J hX (base:=base) (sLen:=0) (sCap:=0) ah;have c1:cells=[]:=by simp_all
    subst c1;rw [h0]at this;cases base<;>simp [this,storeCells]
  have Xd:∀(base:Option Addr) (r:Nat) (O:World),(Builtin.firstCells z.size 0 (.slice base 0 r)).run E.P O= .ok ([]:List Value).toArray O:=by
    intro base r O;cases base<;>simp [Builtin.firstCells,loadCells,loadCellsFrom]
  split at hk
  · obtain⟨S,hk⟩:=hk;cases F with | c _ _ F=>cases F with | nil=>
    by_cases h0:ds.length=0
    · grind [List.eq_nil_of_length_eq_zero,yO]
    · have:=rY hE H hn M W y J hX (old:=[]) (base:=none) (sLen:=0) (sCap:=0) ah ah (by simp) Q (λO _=>Xd none 0 O) (f1:=true) (f2:=f2) (es:=[]) (ds:=ds) rfl
        (λi N=>by simp at N) g (K:=K) (by simpa using hk)
      exact this
  · rename_i l sz lo m
    replace hk:=lV hk;obtain⟨o,Z,hk⟩:=hk
    split at hk
    · rename_i f1 d4 es;obtain⟨hm,rfl,rfl,S,hk⟩:=hk;have Tv:=Grow.forget (c:=c) (w:=w) (h:=h) (l:=l);have Hf:=H.forget Z;have a9:∀base:Option Addr,m=0->s= .slice base 0 0->Turns E.P c w h n (do pure (Next.value (<-Builtin.append_ #[ty,t2] ty #[s,x]))) K:=by
        intro base b6 b5;subst b6;subst b5;rw [List.take_zero]at hk;by_cases h0:ds.length=0
        · grind [List.eq_nil_of_length_eq_zero,Turns.after,yO]
        · exact Turns.after Tv (rY hE Hf hn M W y J hX (old:=[]) (base:=base) (sLen:=0) (sCap:=0) ah ah (by simp) Q (λO _=>Xd base 0 O) (f1:=f1) (f2:=f2) (es:=[]) (ds:=ds) rfl
            (λi N=>by simp at N) g (K:=K) (by simpa using hk))
      cases F with | c _ _ F=>cases F with
      | os0 aa _ _ hl t=>simp_all
      | osE aa _ _ _ u hl t=>simp_all
      | os _ _ _ _ r u U hl t c8 T=>
        have a2:=(H.obj l _ Z).2;simp only [jr,t]at a2;obtain⟨d,V,A,L⟩:=a2;have G:=oF (lo:=lo) (n:=m) L hm;have c0:=rX L y;have b8:(lo+m)*z.size<=es.length*z.size:=Nat.mul_le_mul_right _ hm;rw [Nat.add_mul]at b8;have a7:((es.drop lo).take m).length=m:=by simp;omega
        have d0:(from_ d U).size=d.size-U:=lY;have b9:(from_ d U).toList.drop (lo*z.size)=(from_ d (U+lo*z.size)).toList:=by simp [from_,List.drop_drop]
        by_cases R:m+ds.length<=r
        ·
          obtain⟨c2,E2,d1,a4,ahL⟩:=T;rw [A]at a4;cases a4;have ahM:(m+ds.length)*z.size<=r*z.size:=Nat.mul_le_mul_right _ ah;rw [Nat.add_mul]at ahM;rw [Nat.add_mul]at ahL;generalize hB:U+lo*z.size=B at*;have c7:B+m*z.size+cells.length<=d.size:=by rw [Q];omega
          have a3:=run_storeCells_at E.P u (B+m*z.size) V cells 0 d w A (by simpa using c7) h1;have D:=xZ hE (w:=w) M W y J hX (base:=some ⟨u,B,none⟩) (sLen:=m) (sCap:=r) R;simp only [addr_add,Nat.add_zero]at D a3;rw [a3]at D;simp only [Result.andThen_ok]at D;have I:(d.toList.take (B+m*z.size)++cells++d.toList.drop (B+m*z.size+cells.length)).toArray.size=d.size:=by grind
          have Lv:=nP A I;have p:∀x,x≠u->(w.setRow u (d.toList.take (B+m*z.size)++cells++d.toList.drop (B+m*z.size+cells.length)).toArray).heap[x]? =w.heap[x]? :=λx X=>setRow_other _ _ _ _ X
          have apt:∀f x,c.K f x->(w.setRow u (d.toList.take (B+m*z.size)++cells++d.toList.drop (B+m*z.size+cells.length)).toArray).heap[x]? =w.heap[x]? :=
            λf x X=>p x (λV=>H.own f u ⟨l,_,Z,trivial,j6 t⟩ (V▸X))
          have ad6:bQ (c.K (f1&&f2)) (w.setRow u (d.toList.take (B+m*z.size)++cells++d.toList.drop (B+m*z.size+cells.length)).toArray)
              (from_ (d.toList.take (B+m*z.size)++cells++d.toList.drop (B+m*z.size+cells.length)).toArray B) z.size ((es.drop lo).take m++ds):=by
            rw [uZ ah];have hp:bQ (c.K f1) w ((from_ d B).toList.take (m*z.size)).toArray z.size ((es.drop lo).take m):=by rw [<-b9];exact G
            have d2:(from_ d B).size=d.size-B:=lY;refine(bQ.append (sz:=z.size) (hp.mono (λb A=> ?_) (λ_ _=>rfl)) (by rw [a7,List.length_take,Array.length_toList];omega) (g.mono (λb A=> ?_) (λ_ _=>rfl))).mono (λ_ h=>h) (apt (f1&&f2))
            · cases f1<;>cases f2<;>first | exact A | exact H.sub b A
            · cases f1<;>cases f2<;>first | exact A | exact H.sub b A
          have C:=setRow_heap w u d (d.toList.take (B+m*z.size)++cells++d.toList.drop (B+m*z.size+cells.length)).toArray V (0,0) A;have g1:Grow c w h c _ ((l,.rows true z.size [])::h):=Grow.write Z trivial (j6 t) p (size_setRow _ _ _) Lv rfl rfl rfl;have H1:bH c _ ((l,.rows true z.size [])::h):=H.write Z trivial (j6 t) p (size_setRow _ _ _) Lv (by
            simp only [jr,t];exact⟨_,V,C,λi N=>by cases N⟩)
          have a0:look ((l,.rows true z.size [])::h) l=some (.rows true z.size []):=aK _ _ _;have amc:(c.nameAt (some (u,B))).ν c.n=some (u,B):=by simp [Ctx.nameAt,upd]
          have H2:=H1.rename a0 trivial (j6 t) (q:=B) (o':= .rows (f1&&f2) z.size ((es.drop lo).take m++ds)) (by simp only [jr,amc];exact⟨_,V,C,ad6⟩);have g2:=Grow.rename (w:=w.setRow u (d.toList.take (B+m*z.size)++cells++d.toList.drop (B+m*z.size+cells.length)).toArray) (q:=B) (o':= .rows (f1&&f2) z.size ((es.drop lo).take m++ds)) a0 trivial (j6 t)
          have c6:∀x,look ((c.n,eD.rows (f1&&f2) z.size ((es.drop lo).take m++ds))::(l,.gone)::(l,.rows true z.size [])::h) x=
              look ((c.n,eD.rows (f1&&f2) z.size ((es.drop lo).take m++ds))::(l,.gone)::h) x:=by grind [look]
          refine⟨.value (.slice (some ⟨u,B,none⟩) (m+ds.length) r),_,c.nameAt (some (u,B)),_,(c.n,.rows (f1&&f2) z.size ((es.drop lo).take m++ds))::(l,.gone)::h,k+1,.c (.os (nm n k) z.size 0 (m+ds.length)),by(simp only [Sem.run_bind,D,Result.andThen_ok,Sem.run_pure];rfl),.inl rfl,?_,?_,?_,?_,?_⟩
          · have g3:=g1.trans g2;exact {g3 with qx:=λb A=>g3.qx b (by obtain⟨x,o,p1,Y,p3⟩:=A;exact⟨x,o,by simp_all,Y,p3⟩)}
          · exact { obj := λx o X => H2.obj x o (by simp_all)
                    inj:=λx o x' o' b p1 Y p3 p4 p5 p6=>H2.inj x o x' o' b (by simp_all) Y (by simp_all) p4 p5 p6
                    own:=λf b A=>H2.own f b (by obtain⟨x,o,p1,Y,p3⟩:=A;exact⟨x,o,by simp_all,Y,p3⟩)
                    low:=H2.low
                    sub:=H2.sub}
          · show c.n+1=_;rw [hn];rfl
          · have:=bM.os (c:=c.nameAt (some (u,B))) (w:=w.setRow u (d.toList.take (B+m*z.size)++cells++d.toList.drop (B+m*z.size+cells.length)).toArray) c.n z.size 0 (m+ds.length) r u B (Nat.lt_succ_self _) amc R ⟨_,V,(0,0),C,by rw [I,Nat.zero_add];omega⟩;rw [<-hn];exact .c _ _ (by simpa using this)
          · rw [hn];exact hk
        · refine Turns.after Tv (rY hE Hf hn M W y J hX (old:=((from_ d U).toList.drop (lo*z.size)).take (m*z.size)) (base:=some ⟨u,U+lo*z.size,none⟩) (sLen:=m) (sCap:=r) ah ah (by rw [List.length_take,List.length_drop,Array.length_toList];omega) Q ?_
            (f1:=f1) (f2:=f2) (es:=(es.drop lo).take m) (ds:=ds) a7 G g (K:=K) hk)
          exact λO b1=>HY A L y ah O b1
    · exact hk.elim
  · rename_i f1 sz es;obtain⟨c5,c3,S,hk⟩:=hk;cases F with | c _ _ F=>cases F with | clip _ aa nn _ _ F=>
    by_cases h0:ds.length=0
    · have a6:ds=[]:=List.eq_nil_of_length_eq_zero h0;have a8:=c3 a6;subst a6;subst a8;have d5:nn=0:=by cases F with | none=>rfl | rows _ _ _ _ _ _ _ _ b7=>simpa using b7
      grind [yO]
    · obtain⟨a1,aq2,d3,q1,q2,q3,q4,q5⟩:=yN (P:=E.P) F c5
      grind [rY]
  · exact hk.elim
end Go.AE
namespace Go.AE
open Go
variable{w:World}{K:PV->Heap->Nat->Prop}
def Jp(c:Ctx)(w:World):bG c w undef (.tup []):= .tup [] [] rfl (λi a=>by simp at a)
def Lx{E:Tab}(hE:aH E){c:Ctx}{h:Heap}{n k:Nat}(H:bH c w h)(hn:c.n=nm n k){ty e tr:TypeId}{z:TY}{u:Value}{v:PV}{W:List D}(V:E.P.underlying ty=some (.slice e))(hz:E.ty e=some z)
    (a6:ZD z.zero W) (L:bG c w u v)  (hk:uY h W z v λh'=>K (.tup []) h' k):Turns E.P c w h n (do pure (Next.value (<-Builtin.clear_ #[ty] tr #[u]))) K:=by
  obtain⟨a9,uU,b2,b3,s,b0,S⟩:=(hE.ty e z hz).info;have R:s.cells.size=z.size:=by
    have h1:=(S NP w).length;have h2:=(hE.ty e z hz).len;simp at h1;omega
  unfold uY at hk;split at hk
  · cases L with | c _ _ L=>cases L with | nil=>
    exact⟨_,_,c,w,h,k,.tup [],by simp [Builtin.clear_,run_underlying V];rfl,.inl rfl,.refl _ _ _,H,hn,Jp c w,hk⟩
  · rename_i l sz lo m
    replace hk:=lV hk;obtain⟨o,Q,hk⟩:=hk
    split at hk
    · rename_i f b1 q;obtain⟨rfl,rfl,X,P,hk⟩:=hk;have F:∀a,m=0->u= .slice a 0 0\/(∃y,u= .slice a 0 y)->Turns E.P c w h n (do pure (Next.value (<-Builtin.clear_ #[ty] tr #[u]))) K:=by
        intro a hm a0;subst hm;have he:q.take lo++List.replicate 0 W++q.drop (lo+0)=q:=by simp
        rw [he]at hk;have I:=H.obj l _ Q;have p:((do pure (Next.value (<-Builtin.clear_ #[ty] tr #[u])):Sem Next)).run E.P w= .ok (.value (.tuple #[])) w:=by
          rcases a0 with rfl | ⟨y,rfl⟩<;>(cases a<;>simp [Builtin.clear_,run_underlying V])
        have a8:∀x,look ((l,eD.rows f z.size q)::h) x=look h x:=by grind [aK,aB]
        refine⟨_,_,c,w,_,k,.tup [],p,.inl rfl,?_,?_,hn,Jp c w,hk⟩
        · exact {(Grow.refl c w h)with qx:=λb C=>by obtain⟨x,o,M,O,B⟩:=C;exact .inl ⟨x,o,by simp_all,O,B⟩}
        · exact { obj := λx o hx => H.obj x o (by simp_all)
                  inj:=λx o x' o' b M O B p4 p5 p6=>H.inj x o x' o' b (by simp_all) O (by simp_all) p4 p5 p6
                  own:=λf b C=>H.own f b (by obtain⟨x,o,M,O,B⟩:=C;exact⟨x,o,by simp_all,O,B⟩)
                  low:=H.low
                  sub:=H.sub}
      cases L with | c _ _ L=>cases L with
      | os0 aa _ _ hl j=>simp_all
      | osE aa _ _ _ A hl j=>simp_all
      | os _ _ _ _ y A i hl j a7 Y=>
        by_cases a3:m=0
        · subst a3;exact F _ rfl (.inr ⟨y,rfl⟩)
        · · have I := (H.obj l _ Q).2;simp only [jr,j]at I;obtain⟨d,U,C,t⟩:=I;have J:=rX t X;rw [lY]at J;have a5:(lo+m)*z.size<=q.length*z.size:=Nat.mul_le_mul_right _ P;rw [Nat.add_mul]at a5;have r:(Builtin.zeroCells s.cells m).toList.length=m*z.size:=by simp [Builtin.zeroCells,R]
            have b4:0<m*z.size:=Nat.mul_pos ah ah;have afJ:bQ (c.K f) w (Builtin.zeroCells s.cells m).toList.toArray z.size (List.replicate m W):=by
              have h1:=rowAt_zero (K:=c.K f) (w:=w) (N:=m*z.size) (m:=m) (Bd (S NP w) a6) R (Nat.le_refl _)
              grind [Array.range,Builtin.zeroCells,Array.ext']
            have Z:=run_storeCells_at E.P A (i+lo*z.size) U (Builtin.zeroCells s.cells m).toList 0 d w C (by rw [r];omega) (nQ (by simp [r]) afJ);simp only [Nat.add_zero]at Z
            have p:((do pure (Next.value (<-Builtin.clear_ #[ty] tr #[.slice (some ⟨A,i+lo*z.size,none⟩) m y])):Sem Next)).run E.P w=
                .ok (.value (.tuple #[])) (w.setRow A (d.toList.take (i+lo*z.size)++(Builtin.zeroCells s.cells m).toList++d.toList.drop (i+lo*z.size+(Builtin.zeroCells s.cells m).toList.length)).toArray):=by simp_all [absurd,Builtin.clear_,run_underlying,zeroValue,typeInfo]
            rw [r]at p;have G:(d.toList.take (i+lo*z.size)++(Builtin.zeroCells s.cells m).toList++d.toList.drop (i+lo*z.size+m*z.size)).toArray.size=d.size:=by grind
            have Lv:=nP C G;have g:∀x,x≠A->(w.setRow A (d.toList.take (i+lo*z.size)++(Builtin.zeroCells s.cells m).toList++d.toList.drop (i+lo*z.size+m*z.size)).toArray).heap[x]? =w.heap[x]? :=λx hx=>setRow_other _ _ _ _ hx
            refine⟨_,_,c,_,_,k,.tup [],p,.inl rfl,Grow.write Q trivial (j6 j) g (size_setRow _ _ _) Lv rfl rfl rfl,H.write Q trivial (j6 j) g (size_setRow _ _ _) Lv ?_,hn,Jp _ _,hk⟩;simp only [jr,j];refine⟨_,U,setRow_heap w A _ _ U _ C,?_⟩;have M:=oF (lo:=0) (n:=lo) t ah;have B:=oF (lo:=lo+m) (n:=q.length- (lo+m)) t ah;rw [List.drop_zero]at M;have e3:(q.drop (lo+m)).take (q.length- (lo+m))=q.drop (lo+m):=List.take_of_length_le (by simp);rw [e3]at B;simp only [Nat.zero_mul,List.drop_zero]at M;have T:(q.take lo).length=lo:=by simp;omega
            have a1:=bQ.append (rest:=[]) M (by rw [T,List.length_take,Array.length_toList,lY];omega) afJ;rw [List.append_nil]at a1;have a2:=bQ.append (rest:=((from_ d i).toList.drop ((lo+m)*z.size)).drop ((q.length- (lo+m))*z.size)) a1 (by
              rw [List.length_append,List.length_append,T,List.length_replicate,r,List.length_take,Array.length_toList,lY,Nat.add_mul];omega) B
            have apu:(from_ d i).toList.take (lo*z.size)++(Builtin.zeroCells s.cells m).toList++((from_ d i).toList.drop ((lo+m)*z.size)).take ((q.length- (lo+m))*z.size)++((from_ d i).toList.drop ((lo+m)*z.size)).drop ((q.length- (lo+m))*z.size)=
                (from_ d i).toList.take (lo*z.size)++(Builtin.zeroCells s.cells m).toList++(from_ d i).toList.drop (lo*z.size+m*z.size):=by
              rw [List.append_assoc _ _ (List.drop _ _),List.take_append_drop,Nat.add_mul]
            have fs:=uZ (cells:=d) (o:=i) (k:=lo*z.size) (vs:=(Builtin.zeroCells s.cells m).toList) ah;rw [r]at fs;rw [apu,<-fs]at a2;exact a2.mono (λ_ h=>h) (λb a4=>g b (λU=>H.own f A ⟨l,_,Q,trivial,j6 j⟩ (U▸a4)))
    · exact hk.elim
  · exact hk.elim
def vg{E:Tab}(hE:aH E){c:Ctx}{t:Slots}{h:Heap}{n k:Nat}{a:Act}(A:qO E c w t h a)(hn:c.n=nm n k)(o:Oper)(hk:gP E o.op t h n k K):
  Turns E.P c w h n (execOp a.eval o) K:=by
 cases ho:o.op<;>rw [ho]at hk
 case alloc ty=>
  have:=Lm hE A.heap hn hk
  grind [execOp]
 case box ty x=>
  simp only [gP]at hk
  replace hk:=dF A hk;obtain⟨v,u,G,hk⟩:=hk
  have:=Lp (P:=E.P) (t:=ty) A.heap hn u G hk
  grind [execOp]
 case buildSlice ty len s=>grind [Bc,execOp]
 case makeSlice ty l L=>grind [CV,execOp]
 case store ty p x=>
  simp only [gP]at hk
  replace hk:=aI hk;obtain⟨y,g,hk⟩:=hk
  replace hk:=dF A hk;obtain⟨pv,F,hk⟩:=hk
  replace hk:=dF A hk;obtain⟨v,u,hk⟩:=hk
  have:=Lj hE A.heap hn g F u hk
  grind [execOp]
 case call I=>
  obtain⟨i,⟨C⟩,⟨f⟩⟩:=I;simp only [gP]at hk;split at hk
  .rename_i x y ty ty2
   replace hk:=aI hk;obtain⟨r,g,hk⟩:=hk
   split at hk
   .rename_i e he
    replace hk:=aI hk;obtain⟨z,q,hk⟩:=hk
    replace hk:=dF A hk;obtain⟨H,B,hk⟩:=hk
    replace hk:=dF A hk;obtain⟨M,D,b,hk⟩:=hk
    have d:=(hE.ty ty r g).desc;rw [he]at d;split at b
    .rename_i t2
     replace b:=aI b;obtain⟨y2,m,b⟩:=b
     have:=Jo hE A.heap hn d q m B D b hk
     grind [execOp,pure,Builtin.append_,resolve,invoke,builtin]
    .exact b.elim
   .exact hk.elim
  .rename_i x ty
   replace hk:=aI hk;obtain⟨r,g,hk⟩:=hk
   split at hk
   .rename_i e he
    replace hk:=aI hk;obtain⟨z,q,hk⟩:=hk
    obtain⟨J,j,hk⟩:=hk
    replace hk:=dF A hk;obtain⟨H,B,hk⟩:=hk
    have d:=(hE.ty ty r g).desc;rw [he]at d;have:=Lx hE (tr:=ty) A.heap hn d q j B hk
    grind [execOp,pure,Builtin.clear_,resolve,invoke,builtin]
   .exact hk.elim
  .exact hk.elim
 all_goals exact hk.elim
end Go.AE
namespace Go.AE
open Go
variable{v:Option PV}{a:Act}{t:Slots}{E:Tab}{c:Ctx}{w:World}
structure St where
 t:Slots
 h:Heap
 n:Nat
 k:Nat
 m:Nat
abbrev Trans:=List PV->Heap->Nat->(PV->Heap->Nat->Prop)->Prop
abbrev oG:=FuncId->Option Trans
def dOK(m:Nat):Option Nat->Prop | none=>True | some d=>d<m
def St.put(s:St)(d:Option Nat)(v:Option PV):St:=match d with | none=>s | some d=> {s with t:=(d,v)::s.t}
def H9(E:Tab)(t:Slots):List Operand->(List PV->Prop)->Prop
 | [],K=>K []
 | x::r,K=>aT (ev E t x) λv=>H9 E t r λa=>K (v::a)
def Xe(o:Option Trans)(K:Trans->Prop):Prop:=match o with | some v=>K v | none=>False
def fnA(v:PV)(K:FuncId->List Cell->Prop):Prop:=match v with | .c (.fn g cs)=>K g cs | _=>False
def afK(E:Tab)(G:oG)(f:Operand)(a:List Operand)(s:St)(K:PV->Heap->Nat->Prop):Prop:=
 aT (ev E s.t f) λd=>fnA d λg cs=>H9 E s.t a λc=>Xe (G g) λR=>R (c++cs.map .c) s.h (nm s.n s.k) λr b j=>K r b (s.k+j)
def iT:Op->Nat
 | .alloc _ | .box .. | .buildSlice .. | .makeSlice .. | .store .. =>1
 | .call {callee:= .builtin b,.. }=>match b with | .append | .clear=>1 | _=>0
 | .call {callee:= .value _,.. }=>2
 | _=>0
def vk(E:Tab)(G:oG)(a:Op)(s:St)(K:PV->Heap->Nat->Prop):Prop:=
 match a with
 | .call c=>match c.callee with | .value f=>afK E G f c.args.toList s K | _=>False
 | _=>False
def Xf(E:Tab)(G:oG)(o:Oper)(s:St)(K:St->Prop):Prop:=
 dOK s.m o.dst/\match iT o.op with
 | 0=>gK E o.op s.t s.h λv=>K (s.put o.dst (some v))
 | 1=>gP E o.op s.t s.h s.n s.k λv h k=>K (St.put {s with h:=h,k:=k} o.dst (some v))
 | _=>vk E G o.op s λv h k=>K (St.put {s with h:=h,k:=k} o.dst (some v))
def gslot(ops:List Oper)(j:Nat):Option Nat:=(ops[j]?).bind (·.dst)
def tX(d:Option Nat)(K:Nat->Prop):Prop:=match d with | some d=>K d | none=>False
def kP(v:Option PV)(want:Bool)(T F:Prop):Prop:=match v with | some (.c (.d _ (.bool b)))=>K8 (b==want) T F | some (.tup [])=>F | _=>False
def lZ:PV:= .tup []
def jX{a:Bool}{T F:Prop}(h:kP v a T F):(∃f b,v=some (.c (.d f (.bool b)))/\(b=a->T)/\(b≠a->F))\/(v=some lZ/\F):=by
 unfold kP at h;split at h
 .rename_i f b;exact .inl ⟨f,b,rfl,λe=>h.1 (by simp [e]),λe=>h.2 (by simpa using e)⟩
 .exact .inr ⟨rfl,h⟩
 .exact h.elim
theorem dz{f b a:Bool}{T F:Prop}(d:b=a->T)(c:b≠a->F):kP (some (.c (.d f (.bool b)))) a T F:=
 ⟨λe=>d (by simpa using e),λe=>c (by simpa using e)⟩
def Bf(E:Tab)(G:oG)(a:List Oper)(o:Oper)(s:St)(K:St->Prop):Prop:=
 match o.guard with
 | none=>Xf E G o s K
 | some (j,want)=>dOK s.m o.dst/\tX (gslot a j) λd=>kP (aW s.t d) want (Xf E G o s K) (K (s.put o.dst (some lZ)))
def yQ(E:Tab)(G:oG)(a:List Oper):List Oper->(St->Prop)->St->Prop
 | [],K,s=>K s
 | o::r,K,s=>Bf E G a o s λb=>yQ E G a r K b
structure mQ(E:Tab)(s:St)(c:Ctx)(w:World)(a:Act):Prop where
 abs:qO E c w s.t s.h a
 n:c.n=nm s.n s.k
 defers:a.defers=[]
 size:a.tmps.size=s.m
def Post(Q:Value->World->Prop):Ending->World->Prop
 | .returned v,w=>Q v w
 | .outgrown,_=>False
 | .panicked _,_=>False
def Enters(P:Program)(f:FuncId):Prop:=∀a w,(callFunc f a).run P w= .ok (.enter f a) w
structure dA(E:Tab)(f:FuncId)(R:Trans):Prop where
 enters:Enters E.P f
 calls:∀args h n K,R args h n K->∀c w vs,c.n=n->F2 (bG c w) vs args->bH c w h->oD E c w->
  Calls E.P f vs.toArray w (Post λv w'=>∃c' r h' j,Grow c w h c' w' h'/\bH c' w' h'/\c'.n=nm n j/\bG c' w' v r/\K r h' j)
def qz(E:Tab)(G:oG):Prop:=∀f R,G f=some R->dA E f R
def x9(E:Tab)(d:Ctx)(b:World)(h0:Heap)(Q:Exit->St->Prop):Exit->Act->World->Prop
 | .outgrown,_,_=>False
 | .panic _,_,_=>False
 | .goto _,_,_=>False
 | .normal,a,w=>∃c s,Grow d b h0 c w s.h/\mQ E s c w a/\Q .normal s
 | .ret,a,w=>∃c s,Grow d b h0 c w s.h/\mQ E s c w a/\Q .ret s
 | .exit i,a,w=>∃c s,Grow d b h0 c w s.h/\mQ E s c w a/\Q (.exit i) s
theorem iQ{d i:Nat}:aW ((d,v)::t) i=if d=i then v else aW t i:=rfl
theorem mQ.put{s:St}(A:mQ E s c w a){d:Option Nat}(hd:dOK s.m d){u:Value}{v:PV}(k:bG c w u v):mQ E (s.put d (some v)) c w (a.put d u):=by
 cases d with
 | none=>exact A
 | some d=>
  refine⟨⟨λi x b=> ?_,A.abs.heap,A.abs.glob⟩,A.n,A.defers,by simp [Act.put,St.put,A.size]⟩;simp only [St.put,iQ]at b;have f:d<a.tmps.size:=by rw [A.size];exact hd
  by_cases e:d=i
  .grind [Act.put]
  .rw [if_neg e]at b;obtain⟨j,h,g⟩:=A.abs.slot i x b
   grind [Act.put,Array.getElem?_setIfInBounds_ne]
def mQ.grow{s:St}{c c':Ctx}{w w':World}{b:Heap}{d:Nat}(A:mQ E s c w a)(g:Grow c w s.h c' w' b)(H:bH c' w' b)(hn:c'.n=nm s.n d):mQ E {s with h:=b,k:=d} c' w' a:=
 ⟨⟨λi x j=>let⟨u,f,e⟩:=A.abs.slot i x j;⟨u,f,e.grow A.abs.heap g⟩,H,A.abs.glob.grow A.abs.heap g⟩,hn,A.defers,A.size⟩
def vo{h:Heap}(A:qO E c w t h a):
  ∀(d:List Operand) (K:List PV->Prop),H9 E t d K->∃b,F2 (bG c w) (d.map a.eval) b/\K b
 | [],K,hk=>⟨[],.nil,hk⟩
 | x::r,K,hk=>by
  unfold H9 at hk;obtain⟨v,f,hk⟩:=dF A hk;obtain⟨b,e,hk⟩:=vo A r _ hk;exact⟨v::b,.cons f e,hk⟩
theorem D6(hE:aH E){G:oG}(hG:qz E G){V:Ctx}{O:World}{L:Heap}{Q:Exit->St->Prop}{s:St}(A:mQ E s c w a)(N:Grow V O L c w s.h)(o:Oper)
  {K:St->Prop} {next:Act->World->Prop} (b:∀J z t W,mQ E J z t W->Grow V O L z t J.h->K J->next W t) (hk:Xf E G o s K):
  o.wp E.P a w next (x9 E V O L Q):=by
 obtain⟨hd,hk⟩:=hk;split at hk
 .obtain⟨u,pv,l,g,hk⟩:=uV hE A.abs o hk;unfold Oper.wp;rw [l,Oper.upon_value];exact b _ _ _ _ (A.put hd g) (by cases o.dst<;>exact N) hk
 .obtain⟨nx,u,z,t,M,k',pv,l,hnx,B,U,p,g,hk⟩:=vg hE A.abs A.n o hk;have I:=(A.grow B U p).put (d:=o.dst) (s:={s with h:=M,k:=k'}) hd g;have X:=N.trans B;unfold Oper.wp;rw [l];rcases hnx with rfl | ⟨rfl,rfl⟩
  .rw [Oper.upon_value];exact b _ _ _ _ I (by cases o.dst<;>exact X) hk
  .rw [Oper.upon_skip];exact b _ _ _ _ I (by cases o.dst<;>exact X) hk
 .unfold vk at hk;split at hk
  .rename_i cl ho;split at hk
   .rename_i f hf;obtain⟨H,⟨m⟩,q⟩:=cl;simp only at hf;subst hf;obtain⟨fv,n,hk⟩:=dF A.abs hk;unfold fnA at hk;generalize a0:a.eval f=fu at n;split at hk
    .rename_i gid cs;obtain⟨ps,S,hk⟩:=vo A.abs _ _ hk;cases hR:G gid with
     | none=>rw [hR]at hk;exact hk.elim
     | some R=>
     rw [hR]at hk;simp only [Xe]at hk;cases n with | c _ _ n=>cases n with | fn _ Jq _ Z hc=>
     have C:F2 (bG c w) Jq (cs.map .c):=F2.DF (by simp [Z]) (λi x y hx Y=>by
      simp only [List.getElem?_map,Option.map_eq_some_iff]at Y;obtain⟨y',D,rfl⟩:=Y;have hi:i<cs.length:=(List.getElem?_eq_some_iff.1 D).1;have:=hc i hi;rw [pK hx,pK D]at this;exact .c _ _ this)
     have F:=hG gid R hR;have NS:=F.calls _ _ _ _ hk c w (m.map a.eval++Jq) A.n (S.append C) A.abs.heap A.abs.glob;have l:(execOp a.eval o).run E.P w= .ok (.enter gid (m.map a.eval++Jq).toArray) w:=by
      have h1:=F.enters (m.map a.eval++Jq).toArray w
      grind [execOp,resolve,Deferred.ofValue,invoke]
     unfold Oper.wp;rw [l,Oper.upon_enter];refine NS.mono ?_;intro e t T;cases e with
     | returned v=>
      obtain⟨z,r,M,j,B,U,p,g,hk⟩:=T;have P:z.n=nm s.n (s.k+j):=by rw [p,Xb]
      have I:=(A.grow B U P).put (d:=o.dst) (s:={s with h:=M,k:=s.k+j}) hd g;exact b _ _ _ _ I (by cases o.dst<;>exact N.trans B) hk
     | panicked ch=>exact T.elim
     | outgrown=>exact T.elim
    .exact hk.elim
   .exact hk.elim
  .exact hk.elim
theorem rZ{ops:Array Oper}{tmps:Array Value}{j d:Nat}{b a:Bool}(e:gslot ops.toList j=some d)(c:tmps[d]? =some (.bool b)):(yielded ops tmps j==some a)=(b==a):=by grind [bind,gslot,yielded]
def zO(hE:aH E){G:oG}(H:qz E G){t:Ctx}{z:World}{h0:Heap}{Q:Exit->St->Prop}(g:Array Oper):
  ∀(l:List Oper) {s:St} {c:Ctx} {w:World} {a:Act} (_:mQ E s c w a) (_:Grow t z h0 c w s.h),yQ E G g.toList l (Q .normal) s->wpList E.P g (x9 E t z h0 Q) l a w
 | [],s,c,w,a,A,g0,hk=>wpList_nil ⟨c,s,g0,A,hk⟩
 | o::r,s,c,w,a,A,g0,hk=>by
  refine wpList_step λnext h=> ?_
  have hn:∀k n m q,mQ E k n m q->Grow t z h0 n m k.h->yQ E G g.toList r (Q .normal) k->next q m:=λk n m q D C p=>h _ _ (zO hE H g r D C p)
  unfold yQ Bf at hk;split at hk
  .grind [Region.wanted,D6]
  .rename_i j want hgd;obtain⟨i,hk⟩:=hk;unfold tX at hk;split at hk
   .rename_i d hd;rcases jX hk with⟨f,b,y,I,v⟩ | ⟨y,v⟩
    .obtain⟨u,hu,hr⟩:=A.abs.slot d _ y;have:=jJ hr;subst this;have x:Region.wanted o (yielded g a.tmps)=(b==want):=by grind [Region.wanted,rZ]
     rw [x];by_cases B:b=want
     .grind [D6]
     .rw [if_neg (by simp [B])];exact hn _ _ _ _ (A.put i (Jp _ _)) (by cases o.dst<;>exact g0) (v B)
    .obtain⟨u,hu,hr⟩:=A.abs.slot d _ y;have J:(g[j]?).bind (·.dst)=some d:=by simpa [gslot]using hd
     have F:∀b,u≠ .bool b:=by
      intro b e;subst e;cases hr
     have x:Region.wanted o (yielded g a.tmps)=false:=by grind [Region.wanted,yielded]
     rw [if_neg (by rw [x];simp)];exact hn _ _ _ _ (A.put i (Jp _ _)) (by cases o.dst<;>exact g0) v
   .exact hk.elim
end Go.AE
namespace Go.AE
open Go
abbrev afL:=Nat->Array Oper->(St->Prop)->St->Prop
def ahN(E:Tab)(g:afL):Prop:=∀(id:Nat) (b:Array Oper) (Q:Exit->St->Prop) (s:St) (f:Ctx) (d:World) (e:Heap) (c:Ctx) (w:World) (a:Act),mQ E s c w a->Grow f d e c w s.h->g id b (Q .normal) s->
 (Code.region id b true).wp E.P (x9 E f d e Q) a w
def LA(E:Tab)(s:St):List ResultVar->(List PV->Prop)->Prop
 | [],K=>K []
 | .tmp t::r,K=>aT (aW s.t t) λv=>LA E s r λa=>K (v::a)
 | .cell t ty::r,K=>aT (aW s.t t) λp=>lQ E s.h ty p λv=>LA E s r λa=>K (v::a)
def one(a:List PV):PV:=match a with | [v]=>v | a=> .tup a
def VH(tmps:Array Value):ResultVar->Sem Value
 | .tmp t=>pure (tmps.getD t undef)
 | .cell a t=>do loadVar t (<-asAddr (tmps.getD a undef))
def LB{P:Program}{a:Func}{tmps:Array Value}{w:World}{us:List Value}(h:(a.results.toList.mapM (VH tmps)).run P w= .ok us w):
  (results a tmps).run P w= .ok (if h:us.toArray.size=1 then us.toArray[0]else .tuple us.toArray) w:=by
 have e:results a tmps=(do let vs<-a.results.mapM (VH tmps);pure (if h:vs.size=1 then vs[0]else .tuple vs)):=by
  unfold results;congr 1
 grind [Array.mapM_eq_mapM_toList,Sem.run_bind,Sem.run_map,Result.andThen_ok,Sem.run_pure]
def Bg{E:Tab}(hE:aH E){s:St}{c:Ctx}{w:World}{a:Act}(A:mQ E s c w a):∀(k:List ResultVar) (K:List PV->Prop),LA E s k K->
  ∃d b,(k.mapM (VH a.tmps)).run E.P w= .ok d w/\F2 (bG c w) d b/\K b
 | [],K,hk=>⟨[],[],by simp,.nil,hk⟩
 | .tmp t::r,K,hk=>by
  unfold LA at hk;obtain⟨v,q,hk⟩:=jW hk;obtain⟨u,o,h⟩:=A.abs.slot t v q;obtain⟨d,b,m,g,i⟩:=Bg hE A r _ hk;refine⟨u::d,v::b,?_,.cons h g,i⟩;simp_all [VH,Array.getD_eq_getD_getElem?,List.mapM_cons,Sem.run_bind,Result.andThen_ok,Sem.run_pure]
 | .cell t ty::r,K,hk=>by
  unfold LA at hk;obtain⟨p,n,hk⟩:=jW hk;obtain⟨u,o,h⟩:=A.abs.slot t p n;obtain⟨x,pv,f,e,hk⟩:=DR hE A.abs.heap h hk;obtain⟨d,b,m,g,i⟩:=Bg hE A r _ hk;refine⟨x::d,pv::b,?_,.cons e g,i⟩;have l:a.tmps.getD t undef=u:=by simp_all
  have y:(VH a.tmps (.cell t ty)).run E.P w= .ok x w:=by
   unfold Instr.loadAt at f;simp only [VH,l];cases u with
   | pointer j=>
    cases j with
    | none=>simp [Instr.sureAddr]at f
    | some j=>simpa [Instr.sureAddr,asAddr]using f
   | _=>simp [Instr.sureAddr]at f
  simp_all
def zc:Value->Option Cell
 | .int k n=>some (.d true (.int k n))
 | .bool b=>some (.d true (.bool b))
 | .string s=>some (.d true (.str s))
 | .slice none 0 0=>some .nil
 | .pointer none=>some .np
 | _=>none
def ahO{c:Ctx}{w:World}{v:Value}{x:Cell}(h:zc v=some x):bM c w v x:=by
 unfold zc at h;split at h<;>first | (cases h;done) | skip
 .cases h;exact .ofInt _ _ _
 .cases h;exact .d true _ _ (.bool _)
 .cases h;exact .d true _ _ (.str _)
 .cases h;exact .nil
 .cases h;exact .np
def zcs:List Value->Option (List Cell)
 | []=>some []
 | v::r=>match zc v,zcs r with | some x,some xs=>some (x::xs) | _,_=>none
def Tw{c:Ctx}{w:World}:∀ {b:List Value} {a:List Cell},zcs b=some a->F2 (bM c w) b a
 | [],a,h=>by simp [zcs]at h;subst h;exact .nil
 | v::r,a,h=>by
  simp only [zcs]at h;split at h
  .rename_i x ys h1 h2;cases h;exact .cons (ahO h1) (Tw h2)
  .cases h
variable{α:Type}
def bP(T:(α->Prop)->Prop):Prop:=∀K,T K->∃v,K v/\T (λa=>a=v)
def bP.const(v:α):bP (λK=>K v):=λ_ h=>⟨v,h,rfl⟩
def bP.no:bP (λ_:α->Prop=>False):=λ_ h=>h.elim
def bP.and{p:Prop}{T:(α->Prop)->Prop}(h:bP T):bP (λK=>p/\T K):=λK hk=>let⟨v,b,a⟩:=h K hk.2;⟨v,b,hk.1,a⟩
def bP.aT(o:Option PV){T:PV->(α->Prop)->Prop}(h:∀v,bP (T v)):bP (λK=>aT o λv=>T v K):=by
 cases o with
 | none=>exact .no
 | some v=>exact h v
theorem bP.aF(o:Option TY){T:TY->(α->Prop)->Prop}(h:∀v,bP (T v)):bP (λK=>aF o λv=>T v K):=by
 cases o with
 | none=>exact .no
 | some v=>exact h v
theorem bP.pG(o:Option eD){T:eD->(α->Prop)->Prop}(h:∀v,bP (T v)):bP (λK=>pG o λv=>T v K):=by
 cases o with
 | none=>exact .no
 | some v=>exact h v
def bP.Cm(o:Option Cell){T:Cell->(α->Prop)->Prop}(h:∀v,bP (T v)):bP (λK=>Cm o λv=>T v K):=by
 cases o with
 | none=>exact .no
 | some v=>exact h v
theorem bP.uQ(o:Option (List Int)){T:List Int->(α->Prop)->Prop}(h:∀v,bP (T v)):bP (λK=>uQ o λv=>T v K):=by
 cases o with
 | none=>exact .no
 | some v=>exact h v
def bP.Hy(v:PV){T:Bool->(α->Prop)->Prop}(h:∀v,bP (T v)):bP (λK=>Hy v λb=>T b K):=by
 intro K hk;obtain⟨f,b,rfl,hk⟩:=DL hk;exact h b K hk
def bP.rV(v:PV){T:IntKind->Int->(α->Prop)->Prop}(h:∀k n,bP (T k n)):bP (λK=>rV v λk n=>T k n K):=by
 intro K hk;unfold AE.rV at hk;split at hk
 .exact h _ _ K hk
 .exact hk.elim
def bP.K8(b:Bool){T U:(α->Prop)->Prop}(h:bP T)(d:bP U):bP (λK=>K8 b (T K) (U K)):=by
 cases b with
 | true=>intro K hk;obtain⟨v,c,a⟩:=h K (hk.1 rfl);exact⟨v,c,⟨λ_=>a,λe=>absurd e (by simp)⟩⟩
 | false=>intro K hk;obtain⟨v,c,a⟩:=d K (hk.2 rfl);exact⟨v,c,⟨λe=>absurd e (by simp),λ_=>a⟩⟩
def bP.all{α β:Type}(o:Option β){p:Prop}{T:β->(α->Prop)->Prop}(a:p->∃x,o=some x)(h:∀x,bP (T x)):bP (λK=>p/\∀x,o=some x->T x K):=by
 rintro K ⟨b,hk⟩;obtain⟨x,c⟩:=a b;obtain⟨v,e,d⟩:=h x K (hk x c)
 grind
def bP.ite(p:Prop)[Decidable p]{T U:(α->Prop)->Prop}(h:bP T)(a:bP U):bP (λK=>if p then T K else U K):=by
 by_cases e:p
 all_goals simp_all
def VI(f:Bool)(y:TY)(row:List D)(j:Nat):bP (uP f y row j):=by
 unfold uP;cases y.desc with
 | struct a=>exact .and (.const _)
 | int k=>
  intro K hk
  grind
 | scalar=>exact .all _ (λh=>⟨_,List.getElem?_eq_getElem h⟩) (λx=> .const _)
 | str=>exact .all _ (λh=>⟨_,List.getElem?_eq_getElem h⟩) (λx=> .const _)
 | bool=>exact .all _ (λh=>⟨_,List.getElem?_eq_getElem h⟩) (λx=> .const _)
 | slice e=>exact .all _ (λh=>⟨_,List.getElem?_eq_getElem h⟩) (λx=> .const _)
def LC(f:Bool)(a:List (List D))(i j:Nat)(y:TY):bP (WU f a i j y):=
 .all _ (λh=>⟨_,List.getElem?_eq_getElem h⟩) (λrow=>VI f y row j)
def Xg(cs:List Cell)(j:Nat)(y:TY):bP (Jk cs j y):=by
 unfold Jk;exact .ite _ (.and (.const _)) (.Cm _ λ_=> .const _)
def Xh(o:eD)(a i j:Nat)(y:TY):bP (ad5 o a i j y):=by
 cases o with
 | box cs=>exact .and (Xg cs j y)
 | rows f b c=>exact .and (LC f c i j y)
 | gone=>exact .no
def VJ(E:Tab)(h:Heap)(ty:TypeId)(p:PV):bP (lQ E h ty p):=by
 unfold lQ;refine .aF _ λy=> ?_
 split
 .exact .pG _ λo=>Xh o _ _ _ _
 .exact LC _ _ _ _ _
 .exact .no
def Xi(p:PV):bP (Ny p):=by
 intro K hk;unfold Ny at hk;split at hk
 .exact⟨_,hk,rfl⟩
 .exact⟨_,hk,rfl⟩
 .exact hk.elim
def NT(a:BinOp)(k:IntKind)(x y:Int):bP (AX a k x y):=by
 cases a<;>first | exact .const _ | exact .and (.const _) | exact .no
def Xj(E:Tab)(c:BinOp)(ty:TypeId)(a b:PV):bP (AY E c ty a b):=by
 unfold AY;split
 .exact .and (NT _ _ _ _)
 .exact .aF _ λz=> .and (by cases c<;>first | exact .const _ | exact .no)
 .exact .aF _ λz=> .and (by cases c<;>first | exact .const _ | exact .no)
 .exact .uQ _ λx=> .uQ _ λy=> .and (.and (by cases c<;>first | exact .const _ | exact .no))
 .exact .and (.aF _ λz=> .and (by cases c<;>first | exact .const _ | exact .no))
 .exact .and (.aF _ λz=> .and (by cases c<;>first | exact .const _ | exact .no))
 .exact .no
def ad7(b:UnOp)(a:PV):bP (unA b a):=by
 intro K hk;unfold unA at hk;split at hk
 .exact⟨_,hk,rfl⟩
 .exact⟨_,hk,rfl⟩
 .exact hk.elim
def VK(E:Tab)(s d:TypeId)(a:PV):bP (DJ E s d a):=by
 unfold DJ;refine .aF _ λy=> ?_
 split
 .exact .aF _ λ_=> .const _
 .refine .aF _ λz=> ?_
  split
  .exact .aF _ λt=> .and (.uQ _ λb=> .const _)
  .exact .no
 .exact .no
def D7(E:Tab)(s:TypeId)(a:PV)(f:Nat):bP (jc E s a f):=by
 unfold jc;refine .aF _ λy=> ?_
 split
 .split
  .refine .aF _ λz=> .and ?_
   split
   .exact .const _
   .exact .const _
   .exact .no
  .exact .no
 .exact .no
def NU(E:Tab)(s:TypeId)(a:PV)(f:Nat):bP (uR E s a f):=by
 unfold uR;refine .aF _ λy=> ?_
 split
 .split
  .refine .aF _ λz=> ?_
   split
   .exact .and (.ite _ (.const _) (.Cm _ λ_=> .const _))
   .exact .no
  .exact .no
 .exact .no
def D8(E:Tab)(t:TypeId)(a b:PV):bP (jV E t a b):=by
 unfold jV;refine .aF _ λy=> ?_
 split
 .refine .aF _ λz=> .rV _ λ_ i=> ?_
  split
  .exact .and (.and (.and (.const _)))
  .exact .and (.and (.and (.const _)))
  .exact .and (.and (.and (.const _)))
  .exact .no
 .exact .no
def Xk(a:PV):bP (La a):=by
 intro K hk;unfold La at hk;split at hk<;>first | exact⟨_,hk,rfl⟩ | exact hk.elim
def Jr(a:PV)(i:Nat):bP (qN a i):=by
 unfold qN;split
 .exact .aT _ λ_=> .const _
 .exact .no
def vB(E:Tab)(t:Slots)(o:Option Operand)(d:Int){T:Int->(α->Prop)->Prop}(h:∀n,bP (T n)):bP (λK=>zI E t o d λn=>T n K):=by
 unfold zI;split
 .exact h _
 .exact .aT _ λ_=> .rV _ λ_ n=>h n
def NV(E:Tab)(t:Slots)(ty:TypeId)(a:PV)(c b d:Option Operand):bP (uS E t ty a c b d):=by
 unfold uS;refine .aF _ λy=> ?_
 split
 .refine .aF _ λz=>vB E t c 0 λl=> ?_
  split
  .refine .and (vB E t b _ λh=> .and (.and (.and ?_)));split
   .exact .const _
   .exact vB E t _ 0 λm=> .and (.and (.const _))
  .exact .and (.and (vB E t b _ λh=> .and (.and (.and (.const _)))))
  .exact .and (vB E t b _ λh=> .and (.and (.const _)))
  .exact .no
 .exact .no
def Ia(E:Tab)(t:Slots)(a:Nat->Option (Nat×Nat)):∀(l:List (Nat×Operand)) (cs:List Cell),bP (tQ E t a l cs)
 | [],cs=> .const _
 | (i,x)::r,cs=>by
  intro K hk;unfold tQ at hk;cases hp:a i with
  | none=>simp_all
  | some p=>
   rw [hp]at hk;obtain⟨v,b,c,d,g,hk⟩:=jW hk;obtain⟨u,f,e⟩:=Ia E t a r _ K hk;refine⟨u,f,?_⟩;unfold tQ;rw [hp,b];exact⟨c,d,g,e⟩
def bP.map{α β:Type}{T:(α->Prop)->Prop}(h:bP T)(mono:∀(K a:α->Prop),(∀v,K v->a v)->T K->T a)(f:α->β):bP (λK=>T λv=>K (f v)):=λK hk=>
 let⟨v,c,b⟩:=h _ hk
 ⟨f v,c,mono _ _ (λd e=>by rw [e]) b⟩
def D9(E:Tab)(t:Slots)(a:Nat->Option (Nat×Nat))(K b:List Cell->Prop)(hK:∀v,K v->b v):∀(l:List (Nat×Operand)) (cs:List Cell),tQ E t a l cs K->tQ E t a l cs b
 | [],cs,h=>hK _ h
 | (i,x)::r,cs,h=>by
  unfold tQ at h ⊢;cases hp:a i with
  | none=>simp_all
  | some p=>
   rw [hp]at h;cases hv:ev E t x with
   | none=>rw [hv]at h;exact h.elim
   | some v=>rw [hv]at h;exact⟨h.1,h.2.1,h.2.2.1,D9 E t a K b hK r _ h.2.2.2⟩
def NW(E:Tab)(t:Slots)(ty:TypeId)(l:List (Nat×Operand)):bP (AZ E t ty l):=by
 unfold AZ;refine .aF _ λy=> ?_
 split
 .exact .and (bP.map (Ia E t _ l _) (λK a h=>D9 E t _ K a h l _) PV.agg)
 .exact .no
def yR(E:Tab)(t:Slots):∀(l:List Operand) (K a:List Cell->Prop),(∀v,K v->a v)->tT E t l K->tT E t l a
 | [],K,a,h,hk=>h _ hk
 | x::r,K,a,h,hk=>by
  unfold tT at hk ⊢;cases hv:ev E t x with
  | none=>rw [hv]at hk;exact hk.elim
  | some v=>
   rw [hv]at hk;simp only [AE.aT]at hk ⊢;split at hk
   .exact yR E t r _ _ (λl b=>h _ b) hk
   .exact hk.elim
def Ib(E:Tab)(t:Slots):∀(l:List Operand),bP (tT E t l)
 | []=> .const _
 | x::r=>by
  intro K hk;unfold tT at hk;obtain⟨v,a,hk⟩:=jW hk;split at hk
  .rename_i y;obtain⟨u,d,c⟩:=Ib E t r _ hk;refine⟨_,d,?_⟩;unfold tT;rw [a];exact yR E t r _ _ (λl b=>by rw [b]) c
  .exact hk.elim
def Xl(a:PV):bP (WW a):=by
 intro K hk
 grind [WW]
def VL(E:Tab)(t:Slots)(c:Call):bP (tV E t c):=by
 unfold tV;split
 .split
  .exact .aF _ λy=> .and (.aT _ λv=>Xk v)
  .exact .no
 .split
  .exact .aF _ λy=> .and (.aT _ λv=>Xl v)
  .exact .no
 .split
  .exact .aT _ λa=> .aT _ λb=> .rV _ λk m=> .rV _ λ_ n=> .const _
  .exact .no
 .split
  .exact .aT _ λa=> .aT _ λb=> .rV _ λk m=> .rV _ λ_ n=> .const _
  .exact .no
 .exact .no
def VN(E:Tab)(e:Op)(t:Slots)(h:Heap):bP (gK E e t h):=by
 cases e
 case move x=>exact .aT _ λ_=> .const _
 case assign x=>exact .aT _ λ_=> .const _
 case pick c a b=>exact .aT _ λv=> .Hy _ λq=> .K8 _ (.aT _ λ_=> .const _) (.aT _ λ_=> .const _)
 case load ty p=>exact .aT _ λv=>VJ _ _ _ _
 case nilCheck x=>exact .aT _ λv=>Xi _
 case binOp e ty x y z=>exact .aT _ λa=> .aT _ λb=>Xj _ _ _ _ _
 case unOp e ty x=>exact .aT _ λa=>ad7 _ _
 case convert s d x=>exact .aT _ λa=>VK _ _ _ _
 case fieldAddr s x f=>exact .aT _ λa=>D7 _ _ _ _
 case field s x f=>exact .aT _ λa=>NU _ _ _ _
 case indexAddr ty x i=>exact .aT _ λa=> .aT _ λb=>D8 _ _ _ _
 case slice ty x r o n=>exact .aT _ λa=>NV _ _ _ _ _ _ _
 case extract x i=>exact .aT _ λa=>Jr _ _
 case build ty j=>exact NW _ _ _ _
 case call c=>exact VL _ _ _
 case makeFunc l first k=>
  intro K hk;unfold gK at hk ⊢;cases l with
  | func g=>exact bP.and (bP.map (Ib E t _) (λK m hK=>yR E t _ K m hK) _) K hk
  | _=>exact hk.elim
 all_goals exact .no
end Go.AE
namespace Go.AE
open Go
variable{t:Slots}{E:Tab}{h:Heap}{f:Bool}
abbrev eF:=Nat×List Nat×List Nat
abbrev Held:=Nat×Oper×Slots×Option PV
def pR:List Held->Nat->Option (Oper×Slots×Option PV)
 | [],_=>none
 | (i,x)::r,j=>if i=j then some x else pR r j
def cut(t:Slots):List Nat->Slots
 | []=> []
 | r::rs=>(r,aW t r)::cut t rs
def LD{r:Nat}{v:PV}:∀ {a:List Nat},aW (cut t a) r=some v->r∈a/\aW t r=some v
 | [],h=>by simp [cut,aW]at h
 | x::a,h=>by
  simp only [cut,aW]at h;split at h
  .simp_all
  .obtain⟨h1,h2⟩:=LD h;simp_all
def iL(E:Tab)(ops:List Oper)(o:Oper)(t:Slots)(h:Heap)(K:Option PV->Prop):Prop:=
 match o.guard with
 | none=>gK E o.op t h λv=>K (some v)
 | some (j,want)=>tX (gslot ops j) λd=>kP (aW t d) want (gK E o.op t h λv=>K (some v)) (K (some lZ))
def Ea(E:Tab)(a:Op)(t:Slots)(h:Heap):bP (λK:Option PV->Prop=>gK E a t h λv=>K (some v)):=λK hk=>
 let⟨v,b,c⟩:=VN E a t h _ hk
 ⟨some v,b,by simp_all⟩
def VO(E:Tab)(a:List Oper)(o:Oper)(t:Slots)(h:Heap):bP (iL E a o t h):=by
 intro K hk;unfold iL at hk ⊢;cases hg:o.guard with
 | none=>rw [hg]at hk;exact Ea E o.op t h K hk
 | some g=>
  obtain⟨j,c⟩:=g;rw [hg]at hk;simp only at hk ⊢;cases hd:gslot a j with
  | none=>rw [hd]at hk;exact hk.elim
  | some d=>
   rw [hd]at hk;simp only [tX]at hk ⊢;rcases jX hk with⟨f,b,i,l,k⟩ | ⟨i,k⟩
   .rw [i];by_cases e:b=c
    .obtain⟨v,h1,h2⟩:=Ea E o.op t h K (l e)
     grind [dz,absurd]
    grind [lZ,dz,absurd]
   .rw [i];exact⟨some lZ,k,rfl⟩
def LG(hE:aH E){c:Ctx}{w:World}{a:Act}(A:qO E c w t h a){ops:Array Oper}{o:Oper}{K:Option PV->Prop}(hk:iL E ops.toList o t h K):
  (Region.wanted o (yielded ops a.tmps)=true/\∃u v,(execOp a.eval o).run E.P w= .ok (.value u) w/\bG c w u v/\K (some v))\/
  (Region.wanted o (yielded ops a.tmps)=false/\K (some lZ)):=by
 unfold iL at hk;split at hk
 .grind [uV,Region.wanted]
 .rename_i j want hg;cases hd:gslot ops.toList j with
  | none=>rw [hd]at hk;exact hk.elim
  | some d=>
   rw [hd]at hk;rcases jX hk with⟨f,b,g,l,i⟩ | ⟨g,i⟩
   .obtain⟨u,hu,hr⟩:=A.slot d _ g;have:=jJ hr
    grind [Region.wanted,yielded,rZ,uV]
   .obtain⟨u,hu,hr⟩:=A.slot d _ g;refine .inr ⟨?_,i⟩;have m:(ops[j]?).bind (·.dst)=some d:=by simpa [gslot]using hd
    have k:∀b,u≠ .bool b:=by
     intro b e;subst e;cases hr
    grind [Region.wanted,yielded]
def isLoad:Op->Bool | .load .. =>true | _=>false
def yT{a:Op}(c:isLoad a=false)(t:Slots)(h b:Heap):gK E a t h=gK E a t b:=by
 cases a<;>first | rfl | (simp [isLoad]at c)
def NY{a:List Oper}{o:Oper}(c:isLoad o.op=false)(t:Slots)(h b:Heap):iL E a o t h=iL E a o t b:=by
 unfold iL;rw [yT c t h b]
inductive ZC:Cell->Bool->D->Prop
 | d (f:Bool) (x:D):ZC (.d f x) (f || x.nO) x
 | nil (sz:Nat):ZC .nil true (.rows sz [])
 | clip (f:Bool) (sz:Nat) (es:List (List D)):ZC (.clip f sz es) f (.rows sz es)
inductive ZCs:List Cell->Bool->List D->Prop
 | nil:ZCs [] true []
 | cons {x:Cell} {r:List Cell} {f g:Bool} {d:D} {ds:List D}:ZC x f d->ZCs r g ds->ZCs (x::r) (f&&g) (d::ds)
inductive ZPs (E:Tab) (t:Slots) (sz:Nat):List (Nat×Operand)->Bool->List (List D)->Prop
 | nil:ZPs E t sz [] true []
 | cons {i:Nat} {x:Operand} {r:List (Nat×Operand)} {v:PV} {f g:Bool} {ds:List D} {es:List (List D)}:ev E t x=some v->(aP v).length=sz->ZCs (aP v) f ds->ZPs E t sz r g es->
  ZPs E t sz ((i,x)::r) (f&&g) (ds::es)
def zA(E:Tab)(c:Op)(t:Slots)(K:PV->Prop):Prop:=
 match c with
 | .buildSlice ty len a=>aF (E.ty ty) λy=>match y.desc with
  | .slice e=>aF (E.ty e) λz=>z.size≠0/\a.toList.map (·.1)=List.range len/\len*z.size<=16777216/\
   ∃f b,ZPs E t z.size a.toList f b/\b.length=len/\K (.c (.clip f z.size b))
  | _=>False
 | _=>False
def ahP(E:Tab)(a:Op)(t:Slots):bP (zA E a t):=by
 intro K hk;unfold zA at hk ⊢;split at hk
 .rename_i ty len parts;cases hy:E.ty ty with
  | none=>rw [hy]at hk;exact hk.elim
  | some y=>
   rw [hy]at hk;simp only [aF]at hk ⊢
   grind
 .exact hk.elim
def Js{x:Cell}{d:D}{K:Bool->D->Heap->Prop}(b:ZC x f d)(hk:K f d h):Cn h x K:=by
 cases b with
 | d=>exact hk
 | nil a=>exact⟨a,hk⟩
 | clip=>exact hk
def Bh{cs:List Cell}{a:List D}(d:ZCs cs f a){K:Bool->List D->Heap->Prop}(hk:K f a h):qy h cs K:=by
 induction d generalizing K with
 | nil=>exact hk
 | cons c _ b=>exact Js c (b hk)
def Bj{a:Nat}{l:List (Nat×Operand)}{b:List (List D)}(i:ZPs E t a l f b){K:Bool->List (List D)->Heap->Prop}(hk:K f b h):uW E t a h l K:=by
 induction i generalizing K with
 | nil=>exact hk
 | cons e d g _ c=>
  unfold uW;rw [e];exact⟨d,Bh g (c hk)⟩
end Go.AE
namespace Go.AE
open Go
variable{c:Ctx}{w:World}{h:Heap}{b:Nat}{P:Program}{ty:TypeId}
def Ctx.wide(c:Ctx)(K:Bool->Nat->Prop):Ctx:={c with K:=K}
def bH.lt(H:bH c w h)(a:eH c h b):b<w.heap.size:=by
 obtain⟨l,o,e,d,f⟩:=a;exact((H.obj l o e).2).lt d f
def side{w w':World}(H:bH c w h){K:Bool->Nat->Prop}(k:w.heap.size<=w'.heap.size)(hk:∀b,b<w.heap.size->w'.heap[b]? =w.heap[b]?)
  (p:World.jD w w') (s:∀f b,c.K f b->K f b) (n:∀f b,K f b->c.K f b\/w.heap.size<=b) (z:∀f b,K f b->b<w'.heap.size) (r:∀b,K true b->K false b)
  (x:w'.os=w.os) (q:w'.tape=w.tape) (e:w'.output=w.output):bH (c.wide K) w' h/\Grow c w h (c.wide K) w' h:=by
 have g:CLe c (c.wide K):=⟨s,Nat.le_refl _,λ_ _=>rfl⟩
 refine⟨⟨λl o y=> ?_,λl o C A b i j t v u B=>H.inj l o C A b i j t v u B,λf b d hK=> ?_,z,r⟩,
  ⟨g,k,p,λb d _=>hk b d,λf b d=>(n f b d).imp id .inl,λb d=> .inl d,x,q,e⟩⟩
 .obtain⟨i,j⟩:=H.obj l o y;exact⟨i,j.mono g (λf b d=>hk b (H.low f b d)) p i (λb m hm=>hk b (j.lt m hm))⟩
 .rcases n f b hK with a | a
  .exact H.own f b d a
  .exact absurd (H.lt (c:=c) d) ah
def bH.nil(H:bH c w h):bH c w []:=
 ⟨λl o a=>by simp [look]at a,λl o d e b a=>by simp [look]at a,λf b ⟨l,o,a,_⟩=>by simp [look]at a,H.low,H.sub⟩
theorem yg:¬eH c [] b:=λ⟨l,o,a,_⟩=>by simp [look]at a
theorem andThen_ok{α β:Type}{r:Result α}{f:α->World->Result β}{v:β}(h:r.andThen f= .ok v w):∃a b,r= .ok a b/\f a b= .ok v w:=by
 cases r with
 | ok a b=>exact⟨a,b,rfl,h⟩
 | halt c b=>simp_all
def run_bind_ok{α β:Type}{s:Sem α}{f:α->Sem β}{w w':World}{v:β}(h:(s>>=f).run P w= .ok v w'):∃a b,s.run P w= .ok a b/\(f a).run P b= .ok v w':=by
 rw [Sem.run_bind]at h;exact andThen_ok h
theorem Eb{len:Nat}{a:Array (Nat×Value)}{w w':World}{u:Value}(h:(Instr.buildSlice ty len a).run P w= .ok u w'):∃e,u= .slice e len len:=by
 unfold Instr.buildSlice at h;obtain⟨d,j,l,h⟩:=run_bind_ok h;split at h
 .rename_i el0;obtain⟨c,m,k,h⟩:=run_bind_ok h;have fin:∀(b:String) (z:Array Value) (g:TypeId) (f:World),(match Instr.fill (λi=>some (i*c,c)) ((Array.range (len*c)).map (z[· %z.size]!)) a.toList with | some cells=>(do pure (.slice (some (<-newRow g cells)) len len):Sem Value) | _=>stuck b).run P f= .ok u w'->∃e,u= .slice e len len:=by
   intro b z g f h;split at h
   .obtain⟨e,w4,_,h⟩:=run_bind_ok h;simp at h;grind
   simp_all
  have apv:∀(b:String) (f:World),(if len*c=0 then(do let zero<-pure #[];(match Instr.fill (λi=>some (i*c,c)) ((Array.range (len*c)).map (λx=>zero[x%zero.size]!)) a.toList with | some cells=>(do pure (.slice (some (<-newRow el0 cells)) len len):Sem Value) | _=>stuck b))else
    (do let zero<-pure (<-zeroValue el0).cells;(match Instr.fill (λi=>some (i*c,c)) ((Array.range (len*c)).map (λx=>zero[x%zero.size]!)) a.toList with | some cells=>(do pure (.slice (some (<-newRow el0 cells)) len len):Sem Value) | _=>stuck b))).run P f= .ok u w'->∃e,u= .slice e len len:=by
   intro b f h;split at h
   .obtain⟨z,w4,_,h⟩:=run_bind_ok h;exact fin _ _ _ _ h
   .obtain⟨z,w4,_,h⟩:=run_bind_ok h;obtain⟨z,n,_,h⟩:=run_bind_ok h;exact fin _ _ _ _ h
  simp only []at h;split at h
  .simp_all
  .exact apv _ _ h
 simp_all
def VP{E:Tab}(hE:aH E){t:Slots}{a:Act}(A:qO E c w t h a)(o:Oper){K:PV->Prop}(hk:zA E o.op t K):
  ∃u q w' v,(execOp a.eval o).run E.P w= .ok (.value u) w'/\Grow c w h q w' h/\bH q w' h/\q.n=c.n/\bG q w' u v/\K v:=by
 unfold zA at hk;split at hk
 .rename_i ty len parts ho
  replace hk:=aI hk;obtain⟨y,W,hk⟩:=hk
  split at hk
  .rename_i e D
   replace hk:=aI hk;obtain⟨z,Q,s,m,p,f,C,S,J,hk⟩:=hk
   .have A0:qO E c w t [] a:=⟨A.slot,A.heap.nil,A.glob⟩;have X:gP E o.op t [] c.n 0 (λv O k'=>v= .c (.os (nm c.n 0) z.size 0 len)/\O=[(nm c.n 0,.rows f z.size (ir z.desc C))]):=by
     rw [ho];simp only [gP];rw [W];show(match y.desc with | .slice e=>_ | _=>False);rw [D];simp only;rw [Q];exact⟨s,m,p,Bj S ⟨rfl,rfl⟩⟩
    obtain⟨Y,u,c1,H,P,Z,pv,l,B,U,V,n1,k,rfl,rfl⟩:=vg hE A0 (by simp [nm]) o X;cases k with | c _ _ k=>
    have F:Cn [(nm c.n 0,eD.rows f z.size (ir z.desc C))] (.os (nm c.n 0) z.size 0 len) (λg d _=>g=f/\d= .rows z.size (ir z.desc C)):=by grind [ir,Ls,List.take_of_length_le,Cn,look,pG]
    obtain⟨T,I,g,d,N,M,n2,hd,rfl,rfl⟩:=Cq V k F;have j:=U.trans N
    obtain⟨R,G⟩:=side (c:=c) (w:=w) (w':=H) (h:=h) A.heap (K:=T.K) j.size (λb r=>j.kept b r yg) j.stays j.le.K
     (λf b r=>by rcases j.xK f b r with a | a | a;all_goals grind [absurd,yg]) M.low M.sub j.os j.tape j.output
    have apw:Y= .value u:=by
     rcases B with h | ⟨_,h⟩
     .exact h
     .subst h;cases k
    subst apw;have n:∃L,u= .slice L len len:=by
     have D:execOp a.eval o=(do pure (Next.value (<-Instr.buildSlice ty len (parts.map λ(i,x)=>(i,a.eval x))))):=by simp [execOp,ho]
     rw [D]at l;obtain⟨u',w2,P,I⟩:=run_bind_ok l;simp at I
     grind [Eb]
    obtain⟨L,rfl⟩:=n;exact⟨_,_,H,_,l,G,R,rfl,.c _ _ (.clip _ _ _ _ _ (by rw [Ls]at hd;exact hd)),hk⟩
  .exact hk.elim
 .exact hk.elim
def GJ{E:Tab}(hE:aH E)(H:bH c w h)(o:Oper)(l:o.op= .alloc ty){y:TY}(j:E.ty ty=some y)(ev:Operand->Value):
  ∃w' e g,(execOp ev o).run E.P w= .ok (.value (.pointer (some ⟨w.heap.size,0,none⟩))) w'/\Grow c w h c w' h/\bH c w' h/\
   w'.heap[w.heap.size]? =some (.cells e g (0,0))/\∀c w,F2 (bM c w) e.toList y.zero:=by
 obtain⟨i,uU,m,_,z,k,d⟩:=(hE.ty ty y j).info;refine⟨w.alloc (.cells z.cells ty),z.cells,ty,?_,?_,?_,jv _ _,d⟩
 .simp_all [execOp,Instr.alloc,zeroValue,typeInfo,newVar,newRow]
 .have:=(side (w':=w.alloc (.cells z.cells ty)) H (K:=c.K) (Nat.le_of_lt (lt_of_some (jv _ _))) (λb a=>alloc_old a) (pQ _ _) (λ_ _ h=>h) (λ_ _ h=> .inl h)
   (λf b a=>Nat.lt_of_lt_of_le (H.low f b a) (Nat.le_of_lt (lt_of_some (jv _ _)))) H.sub rfl rfl rfl).2
  exact this
 .have:=(side (w':=w.alloc (.cells z.cells ty)) H (K:=c.K) (Nat.le_of_lt (lt_of_some (jv _ _))) (λb a=>alloc_old a) (pQ _ _) (λ_ _ h=>h) (λ_ _ h=> .inl h)
   (λf b a=>Nat.lt_of_lt_of_le (H.low f b a) (Nat.le_of_lt (lt_of_some (jv _ _)))) H.sub rfl rfl rfl).1
  exact this
def bH.reg(H:bH c w h){o:eD}(z:jr (c.name (some b)) w c.n o)(i:¬eH c h b)(hk:∀f,¬c.K f b):
  bH (c.name (some b)) w ((c.n,o)::h):=by
 have hμ:(c.name (some b)).μ c.n=some b:=by simp [iB,upd]
 have y:∀l o,look h l=some o->c.n≠l:=λl o a e=>by have:=(H.obj l o a).1;omega
 have aq3:∀l o,look h l=some o->(c.name (some b)).μ l=c.μ l:=λl o a=>(c.pO (some b)).μ l (H.obj l o a).1
 refine⟨λl n a=> ?_,λl t m r x g k d u s v=> ?_,λf x ⟨l,n,g,k,d⟩ hK=> ?_,H.low,H.sub⟩
 .by_cases e:c.n=l
  .subst e;rw [aK]at a;cases a;exact⟨Nat.lt_succ_self _,z⟩
  .rw [aB o h e]at a;obtain⟨p,q⟩:=H.obj l n a;exact⟨Nat.lt_succ_of_lt p,q.mono (c.pO _) (λ_ _ _=>rfl) (.refl _) p (λ_ _ _=>rfl)⟩
 .by_cases e:c.n=l
  .by_cases j:c.n=m
   .omega
   .exfalso;subst e;rw [hμ]at s;cases s;rw [aB o h j]at d;exact i ⟨m,r,d,u,by simp_all⟩
  .rw [aB o h e]at g;by_cases j:c.n=m
   .exfalso;subst j;rw [hμ]at v;cases v;exact i ⟨l,t,g,k,by simp_all⟩
   .rw [aB o h j]at d;exact H.inj l t m r x g k d u (by simp_all) (by simp_all)
 .by_cases e:c.n=l
  .subst e;rw [hμ]at d;cases d;exact hk f hK
  .rw [aB o h e]at g;exact H.own f x ⟨l,n,g,k,by simp_all⟩ hK
def Grow.reg{j c:Ctx}{d w:World}{i h:Heap}(g:Grow j d i c w h)(H:bH c w h){o:eD}(n:d.heap.size<=b):Grow j d i (c.name (some b)) w ((c.n,o)::h) where
 le:=g.le.trans (c.pO _)
 size:=g.size
 stays:=g.stays
 kept:=g.kept
 xK:=g.xK
 qx:=λx ⟨l,f,a,k,m⟩=>by
  by_cases e:c.n=l
  .simp_all [iB,upd]
  .rw [aB o h e]at a;exact g.qx x ⟨l,f,a,k,by rw [<-(c.pO (some b)).μ l (H.obj l f a).1];exact m⟩
 os:=g.os
 tape:=g.tape
 output:=g.output
def Grow.drawn(c:Ctx)(w:World)(h:Heap)(d:Nat):Grow c w h c {w with drawn:=d} h:=
 ⟨.refl c,Nat.le_refl _,λ_ _ a=>a,λ_ _ _=>rfl,λ_ _ h=> .inl h,λ_ h=> .inl h,rfl,rfl,rfl⟩
def bH.drawn(H:bH c w h)(d:Nat):bH c {w with drawn:=d} h:=
 ⟨λl o a=>let⟨p,q⟩:=H.obj l o a;⟨p,q.mono (w:=w) (w':={w with drawn:=d}) (.refl c) (λ_ _ _=>rfl) (λ_ _ b=>b) p (λ_ _ _=>rfl)⟩,H.inj,H.own,H.low,H.sub⟩
end Go.AE
namespace Go.AE
open Go
def VQ(E:Tab)(G:oG)(o:Oper)(t:Slots)(s:St)(K:PV->Heap->Nat->Prop):Prop:=
 match iT o.op with
 | 1=>gP E o.op t s.h s.n s.k K
 | _=>vk E G o.op {s with t:=t} K
theorem NZ{E:Tab}(hE:aH E){G:oG}(P:qz E G){Q:Exit->Act->World->Prop}{s:St}{t:Slots}{c:Ctx}{w:World}{a:Act}(A:qO E c w t s.h a)(hn:c.n=nm s.n s.k)(o:Oper)
  {K:PV->Heap->Nat->Prop} {next:Act->World->Prop} (I:∀u v k h m C,Grow c w s.h k h m->bH k h m->k.n=nm s.n C->bG k h u v->K v m C->next (a.put o.dst u) h)
  (hk:VQ E G o t s K):o.wp E.P a w next Q:=by
 unfold VQ at hk;split at hk
 .obtain⟨nx,u,k,h,m,C,pv,g,hnx,L,T,D,p,hk⟩:=vg hE A hn o hk
  grind [Oper.wp,Oper.upon_value,Oper.upon_skip]
 .unfold vk at hk;split at hk
  .rename_i cl ho;split at hk
   .rename_i f hf;obtain⟨B,⟨b⟩,l⟩:=cl;simp only at hf;subst hf;obtain⟨Z,d,hk⟩:=dF A hk;unfold fnA at hk;generalize S:a.eval f=W at d;split at hk
    .rename_i gid cs;obtain⟨V,F,hk⟩:=vo A _ _ hk;cases hR:G gid with
     | none=>rw [hR]at hk;exact hk.elim
     | some R=>
     rw [hR]at hk;simp only [Xe]at hk;cases d with | c _ _ d=>cases d with | fn _ Jq _ M hc=>
     have n:F2 (bG c w) Jq (cs.map .c):=F2.DF (by simp [M]) (λi x y O J=>by
      simp only [List.getElem?_map,Option.map_eq_some_iff]at J;obtain⟨Y,q,rfl⟩:=J;have N:i<cs.length:=(List.getElem?_eq_some_iff.1 q).1;have:=hc i N;rw [pK O,pK q]at this;exact .c _ _ this)
     have z:=P gid R hR;have NS:=z.calls _ _ _ _ hk c w (b.map a.eval++Jq) hn (F.append n) A.heap A.glob;have g:(execOp a.eval o).run E.P w= .ok (.enter gid (b.map a.eval++Jq).toArray) w:=by
      have X:=z.enters (b.map a.eval++Jq).toArray w
      grind [execOp,resolve,Deferred.ofValue,invoke]
     unfold Oper.wp;rw [g,Oper.upon_enter];refine NS.mono ?_;intro e h H;cases e with
     | returned v=>
      obtain⟨k,r,m,j,L,T,D,p,hk⟩:=H
      grind [Xb]
     | panicked U=>exact H.elim
     | outgrown=>exact H.elim
    .exact hk.elim
   .exact hk.elim
  .exact hk.elim
def LH(P:Program)(ty:TypeId):Prop:=∃k e,P.underlying ty=some (.map k e)/\P.underlying k=some (.int .i64)/\∃a:TypeInfo,P.info? e=some a/\a.zero=some (.bool false)
theorem run_makeMap{P:Program}{w:World}{ty:TypeId}:(Instr.makeMap ty none).run P w= .ok (.map (some w.heap.size)) (w.alloc (.map #[] 0)):=by
 simp [Instr.makeMap,Result.andThen]
theorem vC{k:Int}:∀(a:List MapEntry) (i:Nat),(∀e∈a,∃n,e.key= .int .i64 n)->
  ∃r,Instr.findNow (.int .i64) (.int .i64 k) a i=some r/\((r=none/\∀e∈a,e.key≠ .int .i64 k)\/∃j v e,r=some (j,v)/\e∈a/\e.key= .int .i64 k/\e.val=v)
 | [],i,_=>⟨none,rfl,.inl ⟨rfl,λe h=>by cases h⟩⟩
 | x::a,i,h=>by
  obtain⟨n,hn⟩:=h x (by simp);obtain⟨r,d,c⟩:=vC (k:=k) a (i+1) (λe b=>h e (by simp [b]))
  grind [Instr.findNow,Instr.sameNow]
theorem isKey(k:Int):MapKept.IsKey (.int .i64) (.int .i64 k):=by simp [MapKept.IsKey]
theorem Jt{P:Program}{w:World}{t:TypeId}{a:TypeInfo}(h:P.info? t=some a)(b:a.zero=some (.bool false)):(zeroValue t).run P w= .ok (.bool false) w:=by
 simp [zeroValue,typeInfo,h,b,Result.andThen]
theorem N7{P:Program}{w:World}{ty:TypeId}(g:LH P ty){b:Nat}{c:Array MapEntry}{a:Nat}(f:w.heap[b]? =some (.map c a)){k:Int}{v:Value}(hk:∀e∈c.toList,∃n,e.key= .int .i64 n)(hn:∀e∈c.toList,e.key≠ .int .i64 k):
  (Instr.mapUpdate ty (.map (some b)) (.int .i64 k) v).run P w= .ok () {w with heap:=w.heap.setIfInBounds b (.map (c.push {key:= .int .i64 k,val:=v,born:=a}) (a+1))}:=by
 obtain⟨o,q,h,d,i,s,p⟩:=g;obtain⟨r,j,m⟩:=vC (k:=k) c.toList 0 hk;have l:r=none:=by grind
 subst l;simp [Instr.mapUpdate,run_underlying h,MapKept.run_getObj_map f,MapKept.run_checkKey d (isKey k),MapKept.run_findKey d j,MapKept.run_setObj_map _ f,Result.andThen]
theorem N8{P:Program}{w:World}{ty:TypeId}(l:LH P ty){b:Nat}{a:Array MapEntry}{d:Nat}(f:w.heap[b]? =some (.map a d)){k:Int}(hk:∀e∈a.toList,∃n,e.key= .int .i64 n):
  ∃u,(Instr.lookup ty (.map (some b)) (.int .i64 k) false).run P w= .ok u w/\((u= .bool false/\∀e∈a.toList,e.key≠ .int .i64 k)\/∃e∈a.toList,e.key= .int .i64 k/\e.val=u):=by
 obtain⟨y,z,h,c,p,t,o⟩:=l;obtain⟨r,i,m⟩:=vC (k:=k) a.toList 0 hk;rcases m with⟨rfl,g⟩ | ⟨j,v,e,rfl,x,q,s⟩
 .refine⟨.bool false,?_,.inl ⟨rfl,g⟩⟩;simp [Instr.lookup,run_underlying h,MapKept.run_getObj_map f,MapKept.run_checkKey c (isKey k),MapKept.run_findKey c i,Result.andThen,Jt t o]
 .refine⟨v,?_,.inr ⟨e,x,q,s⟩⟩;simp [Instr.lookup,run_underlying h,MapKept.run_getObj_map f,MapKept.run_checkKey c (isKey k),MapKept.run_findKey c i,Result.andThen]
class aD where
 l:List Nat
 m:List Nat
variable [aD]
def apx(a:Array (Nat×Operand)):Bool:=match a.toList with | [(_,.tmp t)]=>aD.l.contains t | _=>false
def mI:Operand->Bool | .tmp t=>aD.m.contains t | _=>false
def mapD:Nat:=aD.m.getD 0 0
def VR:Nat:=aD.m.getD 1 0
def kindOf(b:Op):Nat:=match b with | .alloc _=>2 | .buildSlice _ _ a=>if apx a then 3 else 1 | .makeMap .. =>1 | .insert .. =>1 | .lookup .. =>1 | .move x=>if mI x then 1 else 0 | b=>if iT b=0 then 0 else 3
def Cu(o:Oper):Option (Int×Nat):=match o.op with | .insert _ _ (.const (.int .i64 k)) (.tmp r)=>some (k,r) | _=>none
def l8(a:List Oper):List (Int×Nat):=a.filterMap Cu
def Ec(t:Slots)(k:Int):List (Int×Nat)->(Bool->Prop)->Prop
 | [],K=>K false
 | (k',r)::rest,K=>∃f b,aW t r=some (.c (.d f (.bool b)))/\if k=k' then K b else Ec t k rest K
def zM(E:Tab)(ops:List Oper)(a:Op)(t:Slots)(K:Option PV->Prop):Prop:=match a with
 | .makeMap .. =>K none
 | .insert _ _ _ v=>(match v with | .tmp r=>∃p,aW t r=some p | _=>False)/\K none
 | .move x=>mI x=true/\K none
 | .lookup _ _ (.tmp q) _=>∃f n,aW t q=some (.c (.d f (.int .i64 n)))/\Ec t n (l8 ops) λb=>K (some (.c (.d true (.bool b))))
 | a=>zA E a t λv=>K (some v)
theorem Ed(t:Slots)(k:Int):∀(l:List (Int×Nat)),bP (Ec t k l)
 | [],_,h=>⟨false,h,rfl⟩
 | (k',r)::rest,K,h=>by
  obtain⟨f,b,c,a⟩:=h;by_cases e:k=k'
  .rw [if_pos e]at a;exact⟨b,a,f,b,c,by rw [if_pos e]⟩
  .rw [if_neg e]at a;obtain⟨v,d,g⟩:=Ed t k rest K a;exact⟨v,d,f,b,c,by simp_all⟩
def su:Op->Bool
 | .makeMap .. =>false | .insert .. =>false | .move _=>false
 | .lookup _ _ q _=>match q with | .tmp _=>false | _=>true
 | _=>true
theorem zP{E:Tab}{ops:List Oper}{c:Op}(h:su c=true){t:Slots}{K:Option PV->Prop}:zM E ops c t K=zA E c t λv=>K (some v):=by
 cases c
 case makeMap=>cases h
 case insert=>cases h
 case move=>cases h
 case lookup a b q d=>cases q<;>first | rfl | cases h
 all_goals rfl
theorem Xm(E:Tab)(e:List Oper)(g:Op)(t:Slots):bP (zM E e g t):=by
 intro K hk;by_cases c:su g=true
 .rw [zP c]at hk;obtain⟨v,i,h⟩:=ahP _ _ _ _ hk
  grind [zP]
 .cases g
  case makeMap=>exact⟨none,hk,rfl⟩
  case insert=>exact⟨none,hk.2,hk.1,rfl⟩
  case move x=>exact⟨none,hk.2,hk.1,rfl⟩
  case lookup a b q d=>
   cases q with
   | tmp q=>
    obtain⟨f,n,i,h⟩:=hk;obtain⟨b,j,k⟩:=Ed t n _ _ h;exact⟨_,j,f,n,i,by simp_all⟩
   | _=>exact absurd rfl c
  all_goals exact absurd rfl c
def bq(ops:List Oper)(i:Nat):Nat:=match ops[i]? with | some o=>kindOf o.op | none=>4
def zN(E:Tab)(ops:List Oper)(o:Oper)(t:Slots)(K:Option PV->Prop):Prop:=match o.guard with
 | none=>zM E ops o.op t K
 | some (j,want)=>tX (gslot ops j) λd=>kP (aW t d) want (zM E ops o.op t K) (K (some lZ))
theorem ad8{E:Tab}{ops:List Oper}{o:Oper}(h:o.guard=none){t:Slots}{K:Option PV->Prop}:zN E ops o t K=zM E ops o.op t K:=by unfold zN;rw [h]
theorem ahQ(E:Tab)(a:List Oper)(o:Oper)(t:Slots):bP (zN E a o t):=by
 intro K hk;unfold zN at hk ⊢;cases hg:o.guard with
 | none=>rw [hg]at hk;exact Xm E a o.op t K hk
 | some g=>
  obtain⟨j,c⟩:=g;rw [hg]at hk;simp only at hk ⊢;cases hd:gslot a j with
  | none=>rw [hd]at hk;exact hk.elim
  | some d=>
   rw [hd]at hk;simp only [tX]at hk ⊢;rcases jX hk with⟨f,b,h,k,i⟩ | ⟨h,i⟩
   .rw [h];by_cases e:b=c
    .obtain⟨v,h1,h2⟩:=Xm E a o.op t K (k e)
     grind [dz,absurd]
    grind [lZ,dz,absurd]
   .rw [h];exact⟨some lZ,i,rfl⟩
def afM(o:Option Oper)(K:Oper->Prop):Prop:=match o with | some v=>K v | none=>False
def N9(E:Tab)(ops:List Oper)(h:Heap)(a:List Held):List Nat->Prop
 | []=>True
 | j::r=>(match pR a j with | some (o,t,v)=>iL E ops o t h (λb=>b=v) | none=>False)/\N9 E ops h a r
def dW(E:Tab)(G:oG)(ops:List Oper):List eF->List Held->(St->Prop)->St->Prop
 | [],_,K,s=>K s
 | (i,rs,cs)::r,hs,K,s=>afM ops[i]? λo=>dOK s.m o.dst/\match kindOf o.op with
  | 0=>iL E ops o (cut s.t rs) s.h λv=>dW E G ops r ((i,o,cut s.t rs,v)::hs) K (s.put o.dst v)
  | 1=>zN E ops o (cut s.t rs) λv=>dW E G ops r hs K (s.put o.dst v)
  | 2=>gP E o.op [] s.h s.n s.k λv h k=>dW E G ops r hs K (St.put {s with h:=h,k:=k} o.dst (some v))
  | _=>match o.guard with
   | none=>VQ E G o (cut s.t rs) s λv h k=>N9 E ops h hs cs/\dW E G ops r hs K (St.put {s with h:=h,k:=k} o.dst (some v))
   | some (j,want)=>tX (gslot ops j) λd=>kP (aW (cut s.t rs) d) want
    (VQ E G o (cut s.t rs) s λv h k=>N9 E ops h hs cs/\dW E G ops r hs K (St.put {s with h:=h,k:=k} o.dst (some v)))
    (dW E G ops r hs K (s.put o.dst (some lZ)))
def zQ(ops:List Oper)(i:Nat):Bool:=match ops[i]? with | some o=>o.guard.isSome | none=>true
def Dm(ops:List Oper)(i:Nat):Bool:=match ops[i]? with | some o=>kindOf o.op==1&&su o.op | none=>false
def loadAt(a:List Oper)(i:Nat):Bool:=match a[i]? with | some o=>isLoad o.op | none=>true
def ad9(b:List Oper)(a:Nat->Nat->Bool)(pre:List Nat)(i:Nat)(c:List Nat):Bool:=
 (List.range b.length).all λj=>match gslot b j with
  | none=>true
  | some d=> !c.contains d || j==i || (if pre.contains j then a i j else a j i)
def Cv(a:List Oper)(b:Nat->Nat->Bool)(i:Nat):List eF->Bool
 | []=>true
 | (q,_,_)::r=>if bq a q=2 then Cv a b i r else bq a q==3&&b q i
def tY(ops:List Oper)(anc:Nat->Nat->Bool):List Nat->Option Nat->List eF->Bool
  | _,_,[]=>true
  | pre,lm,(i,rs,cs)::r=>
    decide (i<ops.length)&& !pre.contains i&&ad9 ops anc pre i rs&&
    (bq ops i==2 || (match lm with | none=>true | some q=>anc i q))&&
    (match bq ops i with
     | 0=>true
     | 1=>true
     | 2=>Cv ops anc i r&& (gslot ops i).isSome
     | 3=>pre.all λj=> !loadAt ops j || anc i j || cs.contains j
     | _=>false)&&
    (bq ops i==0 || bq ops i==3 || Dm ops i || !zQ ops i)&&
    tY ops anc (i::pre) (if bq ops i==3 then some i else lm) r
def Xn(a:List Nat)(b:List Edge):Nat:=b.foldl (λs e=>if Region.binds .any e then s ||| 2^e.on ||| a.getD e.on 0 else s) 0
def Ju:List Oper->List Nat->List Nat
 | [],acc=>acc
 | o::r,acc=>Ju r (acc++ [Xn acc o.after.toList])
def masks(ops:List Oper):List Nat:=Ju ops []
def kM(m:List Nat)(i j:Nat):Bool:=(m.getD i 0).testBit j
def aea(ops:List Oper):Bool:=(List.range ops.length).all λi=>match ops[i]? with
 | some o=>o.after.toList.all λe=> !Region.binds .any e || decide (e.on<i)
 | none=>true
def bT(ops:List Oper):Bool:=(List.range ops.length).all λi=>(List.range ops.length).all λj=>
 i==j || (match gslot ops i,gslot ops j with | some d,some e=>d !=e | _,_=>true)
def Jv(a:List Oper)(b:List eF):Bool:=
 aea a&&bT a&& ((List.range a.length).all λi=>(b.map (·.1)).contains i)&&tY a (kM (masks a)) [] none b
inductive Reach (ops:List Oper):Nat->Nat->Prop
 | one {i j:Nat} {o:Oper} {e:Edge}:ops[i]? =some o->e∈o.after.toList->Region.binds .any e=true->e.on=j->Reach ops i j
 | step {i j:Nat} {o:Oper} {e:Edge}:ops[i]? =some o->e∈o.after.toList->Region.binds .any e=true->Reach ops e.on j->Reach ops i j
theorem Ee{a:List Nat}{j:Nat}:∀(b:List Edge) (s:Nat),(b.foldl (λs e=>if Region.binds .any e then s ||| 2^e.on ||| a.getD e.on 0 else s) s).testBit j=true->
  s.testBit j=true\/∃e∈b,Region.binds .any e=true/\(e.on=j\/(a.getD e.on 0).testBit j=true)
 | [],s,h=> .inl h
 | e::b,s,h=>by
  simp only [List.foldl_cons]at h;rcases Ee b _ h with c | ⟨g,c,d,f⟩
  all_goals grind
theorem yh(b:List Oper):∀(r:List Oper) (a:List Nat) (pre:List Oper),pre++r=b->pre.length=a.length->
  (∀i j,(a.getD i 0).testBit j=true->Reach b i j)->∀i j,((Ju r a).getD i 0).testBit j=true->Reach b i j
 | [],a,pre,h1,h2,h3=>h3
 | o::r,a,pre,h1,h2,h3=>by
  refine yh b r _ (pre++ [o]) (by simp [h1]) (by simp [h2]) ?_;intro i j f;rw [List.getD_eq_getElem?_getD]at f;by_cases l:i<a.length
  .grind
  .rw [List.getElem?_append_right ah]at f;by_cases g:i=a.length
   .subst g;simp only [Nat.sub_self,List.getElem?_cons_zero,Option.getD_some]at f;have h:b[a.length]? =some o:=by grind
    rcases Ee _ _ f with c | ⟨e,k,d,c⟩
    .simp at c
    .rcases c with c | c
     .exact .one h k d c
     .exact .step h k d (h3 _ _ c)
   grind
theorem kC{a:List Oper}{i j:Nat}(h:kM (masks a) i j=true):Reach a i j:=
 yh a a [] [] rfl rfl (λi j h=>by simp at h) i j h
def Lst(l:Array Bool)(i:Nat):Prop:=l.getD i false=true
def Closed(a:List Oper)(l:Array Bool):Prop:=∀i o,Lst l i->a[i]? =some o->∀e∈o.after.toList,Region.binds .any e=true->Lst l e.on
theorem mR{a:List Oper}{l:Array Bool}(hc:Closed a l){i j:Nat}(h:Reach a i j)(hd:∀o,a[i]? =some o->∀e∈o.after.toList,Region.binds .any e=true->Lst l e.on):Lst l j:=by
 induction h with
 | one c b d k=>grind
 | step c b d _ g=>exact g (λo f=>hc _ o (hd _ c _ b d) f)
theorem qW{a:List Oper}{l:Array Bool}(hc:Closed a l){i j:Nat}(h:Reach a i j)(c:Lst l i):Lst l j:=
 mR hc h λo b=>hc i o c b
def qA(a:List Oper)(i:Nat):Bool:=match a[i]? with | some o=>(match o.op with | .makeMap .. =>true | _=>false) | none=>false
def vD(a:List Oper)(i:Nat):Bool:=match a[i]? with | some o=>(match o.op with | .insert .. =>true | _=>false) | none=>false
def Bn(a:List Oper)(i:Nat):Bool:=match a[i]? with | some o=>(match o.op with | .move x=>mI x | _=>false) | none=>false
def Jw(P:Program)(ty:TypeId):Bool:=match P.underlying ty with
 | some (.map k e)=>(match P.underlying k with | some (.int .i64)=>true | _=>false)&& (match P.info? e with | some i=>(match i.zero with | some (.bool false)=>true | _=>false) | none=>false)
 | _=>false
theorem Ic{P:Program}{ty:TypeId}(h:Jw P ty=true):LH P ty:=by
 unfold Jw at h;split at h
 .rename_i k e h1;rw [Bool.and_eq_true]at h;obtain⟨a,b⟩:=h;refine⟨k,e,h1,?_,?_⟩
  all_goals grind
 .cases h
def VT(b:List Oper)(a:Nat->Nat->Bool)(p:Nat->Bool)(i:Nat):Bool:=(List.range b.length).any λm=>p m&&a i m
theorem Tx{a:List Oper}{p:Nat->Bool}{i:Nat}(h:VT a (kM (masks a)) p i=true):∃m,p m=true/\Reach a i m:=by grind [VT,List.any_eq_true,kC]
def LJ(P:Program)(a:List Oper)(b:Nat->Nat->Bool)(i:Nat)(o:Oper):Bool:=match o.op with
 | .makeMap _ r=>r.isNone&&o.dst==some mapD
 | .insert ty x k v=>match x,k,v with
  | .tmp x,.const (.int .i64 _),.tmp r=>x==mapD&&o.dst.isNone&&Jw P ty&&VT a b (qA a) i&& (List.range a.length).all λj=>gslot a j !=some r || b i j
  | _,_,_=>false
 | .lookup ty x q ok=>match x,q with
  | .tmp x,.tmp _=>x==VR&& !ok&&Jw P ty&&VT a b (qA a) i&&VT a b (Bn a) i&& (List.range a.length).all λj=> !vD a j || b i j
  | _,_=>false
 | .move x=> !mI x || ((match x with | .tmp x=>x==mapD | _=>false)&&o.dst==some VR&&VT a b (qA a) i)
 | _=>true
def Jy(P:Program)(a:List Oper):Bool:=((List.range a.length).all λi=>match a[i]? with | some o=>LJ P a (kM (masks a)) i o | none=>true)&&decide ((l8 a).map Prod.fst).Nodup
structure qB(P:Program)(ops:List Oper):Prop where
 mkm:∀(i:Nat) o ty r,ops[i]? =some o->o.op= .makeMap ty r->r=none/\o.dst=some mapD
 ins:∀(i:Nat) o ty x k v,ops[i]? =some o->o.op= .insert ty x k v->o.dst=none/\∃n r,x= .tmp mapD/\k= .const (.int .i64 n)/\v= .tmp r/\LH P ty/\(∃m,qA ops m=true/\Reach ops i m)/\∀j,gslot ops j=some r->Reach ops i j
 lk:∀(i:Nat) o ty x q ok,ops[i]? =some o->o.op= .lookup ty x q ok->ok=false/\x= .tmp VR/\(∃q',q= .tmp q')/\LH P ty/\(∃m,qA ops m=true/\Reach ops i m)/\(∃m,Bn ops m=true/\Reach ops i m)/\∀j,vD ops j=true->Reach ops i j
 mv:∀(i:Nat) o x,ops[i]? =some o->o.op= .move x->mI x=true->x= .tmp mapD/\o.dst=some VR/\∃m,qA ops m=true/\Reach ops i m
 nd:((l8 ops).map Prod.fst).Nodup
theorem VU{α:Type}{l:List α}{i:Nat}{x:α}(h:l[i]? =some x):i<l.length:=(List.getElem?_eq_some_iff.1 h).1
theorem Xo{a:List Oper}{j:Nat}(h:vD a j=true):j<a.length:=by grind [vD,VU]
theorem Xp{a:List Oper}{j r:Nat}(h:gslot a j=some r):j<a.length:=by grind [Nat.lt_or_ge,gslot,List.getElem?_eq_none]
theorem VW{P:Program}{a:List Oper}(h:Jy P a=true):qB P a:=by
 unfold Jy at h;rw [Bool.and_eq_true,decide_eq_true_eq,List.all_eq_true]at h;obtain⟨h,e⟩:=h;have d:∀(i:Nat) o,a[i]? =some o->LJ P a (kM (masks a)) i o=true:=λi o c=>by grind
 refine⟨λi o ty r c b=> ?_,λi o ty x k v c b=> ?_,λi o ty x q ok c b=> ?_,λi o x c b f=> ?_,e⟩
 .grind [LJ,Option.isNone_iff_eq_none]
 .have:=d i o c;unfold LJ at this
  grind [Option.isNone_iff_eq_none,Ic,Tx,List.all_eq_true,Xp,kC]
 all_goals grind [LJ,Bool.not_eq_true',Ic,Tx,List.all_eq_true,Xo,kC,Bool.not_true]
end Go.AE
namespace Go.AE
open Go
variable [aD]
def Src(a:List Oper)(s0:St)(pre:List Nat)(b:Nat->Option PV)(i r:Nat)(v:PV):Prop:=
 (∃j,gslot a j=some r/\j∈pre/\Reach a i j/\b j=some v)\/(aW s0.t r=some v/\∀j,gslot a j=some r->j=i\/Reach a j i)
def oH(a:List Oper)(j:Nat)(k:Int)(r:Nat):Prop:=∃o ty x,a[j]? =some o/\o.op= .insert ty x (.const (.int .i64 k)) (.tmp r)
structure MP(ops:List Oper)(L:Array Bool)(c:Ctx)(w:World)(h:Heap)(a:Act)(n0 b:Nat):Prop where
 slot:a.tmps[mapD]? =some (.map (some b))
 obj:∃es clk,w.heap[b]? =some (.map es clk)/\(∀e∈es.toList,∃j k r,oH ops j k r/\Lst L j/\e.key= .int .i64 k/\a.tmps[r]? =some e.val)/\
  ∀j k r,oH ops j k r->Lst L j->∃e∈es.toList,e.key= .int .i64 k/\a.tmps[r]? =some e.val
 no:¬eH c h b
 nk:∀f,¬c.K f b
 ge:n0<=b
 mv:∀j,Bn ops j=true->Lst L j->a.tmps[VR]? =some (.map (some b))
def Bo(d:List Oper)(L:Array Bool)(c:Ctx)(w:World)(h:Heap)(a:Act)(e:Nat):Prop:=∀m,qA d m=true->Lst L m->∃b,MP d L c w h a e b
structure DI(E:Tab)(G:oG)(ops:Array Oper)(K:St->Prop)(s0:St)(c0:Ctx)(w0:World)(h0:Heap)
    (pre:List Nat) (lm:Option Nat) (suf:List eF) (s:St) (hs:List Held) (val:Nat->Option PV) (pb:Nat->Nat)
    (L:Array Bool) (c:Ctx) (w:World) (a:Act):Prop where
  run:dW E G ops.toList suf hs K s
  chk:tY ops.toList (kM (masks ops.toList)) pre lm suf=true
  cov:∀i,i<ops.size->i∈pre\/i∈suf.map (·.1)
  done:∀i,i∈pre->2<=bq ops.toList i->Lst L i
  only:∀i,Lst L i->i∈pre\/bq ops.toList i=2
  closed:Closed ops.toList L
  size:L.size=ops.size
  s1:∀j r v,gslot ops.toList j=some r->Lst L j->j∈pre->val j=some v->∃u,a.tmps[r]? =some u/\bG c w u v
  s2:∀r v,(∀j,gslot ops.toList j=some r->¬Lst L j)->aW s0.t r=some v->∃u,a.tmps[r]? =some u/\bG c w u v
  t1:∀j r,gslot ops.toList j=some r->j∈pre->aW s.t r=val j
  t2:∀r,(∀j,gslot ops.toList j=some r->j∉pre)->aW s.t r=aW s0.t r
  pend:∀i,i∈pre->¬Lst L i->∃o t,ops.toList[i]? =some o/\dOK s.m o.dst/\(∀r v,aW t r=some v->Src ops.toList s0 pre val i r v)/\
     ((kindOf o.op=0/\pR hs i=some (o,t,val i)/\iL E ops.toList o t s.h (λv'=>v'=val i))\/(kindOf o.op=1/\(su o.op=true\/o.guard=none)/\zN E ops.toList o t (λv=>val i=v)))
  qX:∀i,Lst L i->i∉pre->∃(o:Oper) (ty:TypeId) (y:TY) (d:Nat) (vs:Array Value) (Et:TypeId),ops.toList[i]? =some o/\o.op= .alloc ty/\E.ty ty=some y/\o.dst=some d/\
     a.tmps[d]? =some (.pointer (some ⟨pb i,0,none⟩))/\w.heap[pb i]? =some (.cells vs Et (0,0))/\(∀c w,F2 (bM c w) vs.toList y.zero)/\¬eH c s.h (pb i)/\(∀f,¬c.K f (pb i))/\w0.heap.size<=pb i
  dist:∀i j,Lst L i->i∉pre->Lst L j->j∉pre->pb i=pb j->i=j
  heap:bH c w s.h
  glob:oD E c w
  grow:Grow c0 w0 h0 c w s.h
  cn:c.n=nm s.n s.k
  defers:a.defers=[]
  mU:a.tmps.size=s.m
  sn:s.n=s0.n
  sm:s.m=s0.m
  ms:qB E.P ops.toList
  mp:Bo ops.toList L c w s.h a w0.heap.size
theorem aY{L:Array Bool}{i j:Nat}(a:i<L.size):Lst (L.setIfInBounds i true) j↔j=i\/Lst L j:=by
 unfold Lst;simp only [Array.getD_eq_getD_getElem?,Array.getElem?_setIfInBounds]
 grind
theorem kQ{a:List Oper}(h:bT a=true){i j d e:Nat}(k:gslot a i=some d)(f:gslot a j=some e)(c:i≠j):d≠e:=by
 have b:i<a.length:=by grind [Nat.lt_or_ge,gslot,List.getElem?_eq_none]
 have l:j<a.length:=by grind [Nat.lt_or_ge,gslot,List.getElem?_eq_none]
 unfold bT at h;rw [List.all_eq_true]at h;have g:=h i (List.mem_range.2 b)
 grind
theorem bA{ops:List Oper}{i:Nat}{o:Oper}(h:ops[i]? =some o):gslot ops i=o.dst:=by simp [gslot,h]
theorem vE{a:Act}{d:Nat}{u:Value}(h:d<a.tmps.size):(a.put (some d) u).tmps[d]? =some u:=by simp [Act.put,h]
theorem oI{a:Act}{o:Option Nat}{r:Nat}{u:Value}(h:∀d,o=some d->d≠r):(a.put o u).tmps[r]? =a.tmps[r]? :=by
 cases o with
 | none=>rfl
 | some d=>simp [Act.put,Array.getElem?_setIfInBounds_ne (h d rfl)]
theorem Ef{a:Act}{o:Option Nat}{u:Value}:(a.put o u).tmps.size=a.tmps.size:=by
 cases o with
 | none=>rfl
 | some d=>simp [Act.put]
theorem put_defers{a:Act}{o:Option Nat}{u:Value}:(a.put o u).defers=a.defers:=by cases o<;>rfl
def Cw:Op->Bool | .makeMap .. =>true | .insert .. =>true | .move x=>mI x | _=>false
theorem aeb{a:List Oper}{i:Nat}{o:Oper}(b:a[i]? =some o)(h:Cw o.op=false):qA a i=false/\vD a i=false/\Bn a i=false:=by
 unfold qA vD Bn
 grind [Cw]
theorem Eh{a:Op}(h:kindOf a≠1):Cw a=false:=by
 unfold Cw
 grind [absurd,kindOf,mI]
theorem aec{a:List Oper}{m:Nat}(h:qA a m=true):∃o ty r,a[m]? =some o/\o.op= .makeMap ty r:=by grind [qA]
theorem Tz{a:List Oper}{m:Nat}(h:Bn a m=true):∃o x,a[m]? =some o/\o.op= .move x/\mI x=true:=by grind [Bn]
theorem zR{a:List Oper}{j:Nat}{k:Int}{r:Nat}(h:oH a j k r):vD a j=true:=by
 obtain⟨o,ty,x,c,b⟩:=h
 grind [vD]
theorem qB.gD{P:Program}{a:List Oper}(S:qB P a){m:Nat}(h:qA a m=true):gslot a m=some mapD:=by
 obtain⟨o,ty,r,b,c⟩:=aec h;rw [bA b];exact(S.mkm m o ty r b c).2
theorem qB.gE{P:Program}{a:List Oper}(S:qB P a){m:Nat}(h:Bn a m=true):gslot a m=some VR:=by
 obtain⟨o,x,b,c,d⟩:=Tz h;rw [bA b];exact(S.mv m o x b c d).2.1
theorem qB.reads{P:Program}{a:List Oper}(S:qB P a){j:Nat}{k:Int}{r:Nat}(h:oH a j k r){i:Nat}(g:gslot a i=some r):Reach a j i:=by
 obtain⟨o,ty,x,c,b⟩:=h;obtain⟨_,n,d,_,_,e,_,_,f⟩:=S.ins j o ty x _ _ c b;simp_all
theorem MP.keep{P:Program}{g:List Oper}{L:Array Bool}{c y:Ctx}{w D:World}{h E:Heap}{a:Act}{F b i:Nat}{o:Oper}{u:Value}(M:MP g L c w h a F b)(S:qB P g)(A:bT g=true)(hc:Closed g L)(Q:i<L.size)
  (G:g[i]? =some o) (B:¬Lst L i) (J:qA g i=false) (R:vD g i=false) (O:Bn g i=false) {m:Nat} (hm:qA g m=true) (I:∀x,w.heap[b]? =some x->D.heap[b]? =some x) (t:¬eH y E b) (C:∀f,¬y.K f b):
  MP g (L.setIfInBounds i true) y D E (a.put o.dst u) F b:=by
 have s:∀j r,gslot g j=some r->j≠i->(a.put o.dst u).tmps[r]? =a.tmps[r]? :=λj r n l=>oI (λd hd e=>kQ A ((bA G).trans hd) n (Ne.symm l) e)
 have aq4:∀j k r,oH g j k r->Lst L j->(a.put o.dst u).tmps[r]? =a.tmps[r]? :=λj k r n q=>oI (λd hd e=>B (qW hc (S.reads n ((bA G).trans (hd.trans (congrArg some e)))) q))
 have v:∀ {j:Nat},Lst (L.setIfInBounds i true) j->j≠i->Lst L j:=λq l=>((aY Q).1 q).resolve_left l
 have ne:∀ {p:Nat->Bool} {j:Nat},p i=false->p j=true->j≠i:=λH K e=>by simp_all
 obtain⟨N,z,H,K,T⟩:=M.obj;refine⟨by rw [s m _ (S.gD hm) (ne J hm)];exact M.slot,⟨N,z,I _ H,λe U=> ?_,λj k r n q=> ?_⟩,t,C,M.ge,λj n q=> ?_⟩
 .grind [aY]
 .grind [zR]
 .have l:=ne O n;rw [s j _ (S.gE n) l];exact M.mv j n (v q l)
section
variable {E:Tab} {G:oG} {ops:Array Oper} {K:St->Prop} {s0:St} {c0:Ctx} {w0:World} {h0:Heap} {pre:List Nat} {lm:Option Nat} {suf:List eF} {s:St} {hs:List Held}
 {val:Nat->Option PV} {pb:Nat->Nat} {L:Array Bool} {c:Ctx} {w:World} {a:Act}
theorem Closed.set{a:List Oper}{L:Array Bool}(h:Closed a L){i:Nat}{o:Oper}(l:a[i]? =some o)(k:i<L.size)(hd:∀e∈o.after.toList,Region.binds .any e=true->Lst L e.on):Closed a (L.setIfInBounds i true):=by
 intro j f b c e d g;rw [aY k]at b ⊢;rcases b with rfl | b
 .simp_all
 .exact .inr (h j f b c e d g)
theorem DI.src(D:DI E G ops K s0 c0 w0 h0 pre lm suf s hs val pb L c w a){i:Nat}{o:Oper}(u:ops.toList[i]? =some o)(hn:¬Lst L i)(hd:∀e∈o.after.toList,Region.binds .any e=true->Lst L e.on)
  {t:Slots} (g:∀r v,aW t r=some v->Src ops.toList s0 pre val i r v) (h:Heap) (H:bH c w h):qO E c w t h a:=by
 refine⟨λr v p=> ?_,H,D.glob⟩;rcases g r v p with⟨j,d,b,n,k⟩ | ⟨d,b⟩
 .exact D.s1 j r v d (mR D.closed n (λx m=>by simp_all)) b k
 .exact D.s2 r v (λj q f=>by
   rcases b j q with rfl | l
   .exact hn f
   .exact hn (qW D.closed l f)) d
theorem DI.rd(D:DI E G ops K s0 c0 w0 h0 pre lm suf s hs val pb L c w a){i:Nat}{d:List Nat}(m:i∉pre)(h:ad9 ops.toList (kM (masks ops.toList)) pre i d=true)(r:Nat)(v:PV)(b:aW (cut s.t d) r=some v):
  Src ops.toList s0 pre val i r v:=by
 obtain⟨l,b⟩:=LD b;unfold ad9 at h;rw [List.all_eq_true]at h;have g:∀j,gslot ops.toList j=some r->j=i\/(if pre.contains j then kM (masks ops.toList) i j else kM (masks ops.toList) j i)=true:=by grind [Nat.lt_or_ge,gslot,List.getElem?_eq_none,Bool.not_eq_true']
 by_cases e:∃j,gslot ops.toList j=some r/\j∈pre
 .obtain⟨j,h1,h2⟩:=e;refine .inl ⟨j,h1,h2,?_,by rw [<-D.t1 j r h1 h2];exact b⟩
  grind [absurd,kC]
 .have hnw:∀j,gslot ops.toList j=some r->j∉pre:=λj f k=>e ⟨j,f,k⟩
  refine .inr ⟨by rw [<-D.t2 r hnw];exact b,λj f=> ?_⟩
  grind [kC]
theorem w9{c e:Ctx}{w j:World}{h i:Heap}(g:Grow c w h e j i){b:Nat}{x:Go.Obj}(k:w.heap[b]? =some x)(a:¬eH c h b)(hk:∀f,¬c.K f b):
  j.heap[b]? =some x/\¬eH e i b/\∀f,¬e.K f b:=by
 have d:=lt_of_some k;refine⟨(g.kept b d a).trans k,λm=> ?_,λf l=> ?_⟩
 .rcases g.qx b m with h | h
  .exact a h
  .omega
 .rcases g.xK f b l with h | h | h
  all_goals grind
theorem Bo.keep{P:Program}{d:List Oper}{L:Array Bool}{c p:Ctx}{w n:World}{h q:Heap}{a:Act}{r i:Nat}{o:Oper}{u:Value}(I:Bo d L c w h a r)(S:qB P d)(j:bT d=true)(hc:Closed d L)(t:i<L.size)
  (s:d[i]? =some o) (k:¬Lst L i) (l:Cw o.op=false) (g:Grow c w h p n q):Bo d (L.setIfInBounds i true) p n q (a.put o.dst u) r:=λm hm A=>by
 obtain⟨z,v,B⟩:=aeb s l;have f:m≠i:=λe=>by simp_all
 obtain⟨b,M⟩:=I m hm (((aY t).1 A).resolve_left f);obtain⟨F,y,D,_⟩:=M.obj;obtain⟨E,C,k3⟩:=w9 g D M.no M.nk;exact⟨b,M.keep S j hc t s k z v B hm (λx G=>by simp_all) C k3⟩
theorem DI.TA(D:DI E G ops K s0 c0 w0 h0 pre lm suf s hs val pb L c w a)(C:bT ops.toList=true){i:Nat}{o:Oper}(A:ops.toList[i]? =some o)(z:i∈pre)(hd:∀e∈o.after.toList,Region.binds .any e=true->Lst L e.on)
  (hm:dOK s.m o.dst) {c':Ctx} {w':World} (hV:∀ {u:Value} {v:PV},bG c w u v->bG c' w' u v)
  (hP:∀ {b:Nat} {t:Array Value} {x:TypeId} {Q:Nat×Nat},w.heap[b]? =some (.cells t x Q)->¬eH c s.h b->(∀f,¬c.K f b)->w'.heap[b]? =some (.cells t x Q)/\¬eH c' s.h b/\∀f,¬c'.K f b)
  (hG:oD E c' w') (J:Grow c0 w0 h0 c' w' s.h) (H:bH c' w' s.h) (hn:c'.n=c.n) {u:Value} (hu:∀v,val i=some v->bG c' w' u v) (N:Bo ops.toList (L.setIfInBounds i true) c' w' s.h (a.put o.dst u) w0.heap.size):
  DI E G ops K s0 c0 w0 h0 pre lm suf s hs val pb (L.setIfInBounds i true) c' w' (a.put o.dst u):=by
 have l:i<L.size:=by rw [D.size];grind
 have q:∀j r,gslot ops.toList j=some r->j≠i->(a.put o.dst u).tmps[r]? =a.tmps[r]? :=λj r m B=>oI (λd hd e=>kQ C ((bA A).trans hd) m (Ne.symm B) e)
 exact {
  run:=D.run,chk:=D.chk,cov:=D.cov
  done:=λj g h=>(aY l).2 (.inr (D.done j g h))
  only:=λj m=>by
   rcases(aY l).1 m with rfl | m
   .exact .inl z
   .exact D.only j m
  closed:=D.closed.set A l hd
  size:=by simp [D.size]
  s1:=λj r v g h M n=>by
   by_cases e:j=i
   .subst e;rw [bA A]at g;refine⟨u,?_,hu v n⟩;rw [g]at hm ⊢;exact vE (by rw [D.mU];exact hm)
   .obtain⟨P,S,T⟩:=D.s1 j r v g (((aY l).1 h).resolve_left e) M n
    grind
  s2:=λr v g h=>by
   obtain⟨P,S,T⟩:=D.s2 r v (λj m I=>g j m ((aY l).2 (.inr I))) h;exact⟨P,by rw [oI (λd hd e=>g i (by rw [bA A,hd,e]) ((aY l).2 (.inl rfl)))];exact S,hV T⟩
  t1:=D.t1,t2:=D.t2
  pend:=λj g h=>D.pend j g (λI=>h ((aY l).2 (.inr I)))
  qX:=λj g h=>by
   have p:j≠i:=λe=>h (e▸z)
   obtain⟨o',ty,y,d,t,x,R,W,U,O,V,X,Y,p8,p9,F⟩:=D.qX j (((aY l).1 g).resolve_left p) h;obtain⟨Z,q2,q3⟩:=hP X p8 p9;exact⟨o',ty,y,d,t,x,R,W,U,O,by rw [q j d ((bA R).trans O) p];exact V,Z,Y,q2,q3,F⟩
  dist:=λj k g h M n=>D.dist j k (((aY l).1 g).resolve_left (λe=>h (e▸z))) h (((aY l).1 M).resolve_left (λe=>n (e▸z))) n
  heap:=H
  glob:=hG
  grow:=J
  cn:=hn.trans D.cn
  defers:=by rw [put_defers];exact D.defers
  mU:=by rw [Ef];exact D.mU
  sn:=D.sn,sm:=D.sm,ms:=D.ms,mp:=N}
theorem DI.Jz(D:DI E G ops K s0 c0 w0 h0 pre lm suf s hs val pb L c w a)(d:bT ops.toList=true){i:Nat}{o:Oper}(m:ops.toList[i]? =some o)(l:i∈pre)(hd:∀e∈o.after.toList,Region.binds .any e=true->Lst L e.on)
  (hm:dOK s.m o.dst) {b:Ctx} {w':World} (g:Grow c w s.h b w' s.h) (H:bH b w' s.h) (hn:b.n=c.n) {u:Value} (n:∀v,val i=some v->bG b w' u v) (f:Bo ops.toList (L.setIfInBounds i true) b w' s.h (a.put o.dst u) w0.heap.size):
  DI E G ops K s0 c0 w0 h0 pre lm suf s hs val pb (L.setIfInBounds i true) b w' (a.put o.dst u):=
 D.TA d m l hd hm (λh=>h.grow D.heap g) (λk j p=>w9 g k j p) (D.glob.grow D.heap g) (D.grow.trans g) H hn n f
theorem DI.listed(D:DI E G ops K s0 c0 w0 h0 pre lm suf s hs val pb L c w a)(d:bT ops.toList=true){i:Nat}{o:Oper}(k:ops.toList[i]? =some o)(l:i∈pre)(h:¬Lst L i)(j:Cw o.op=false)(hd:∀e∈o.after.toList,Region.binds .any e=true->Lst L e.on)
  (hm:dOK s.m o.dst) {b:Ctx} {f:World} (g:Grow c w s.h b f s.h) (H:bH b f s.h) (hn:b.n=c.n) {u:Value} (m:∀v,val i=some v->bG b f u v):
  DI E G ops K s0 c0 w0 h0 pre lm suf s hs val pb (L.setIfInBounds i true) b f (a.put o.dst u):=
 D.Jz d k l hd hm g H hn m (D.mp.keep D.ms d D.closed (by rw [D.size];grind) k h j g)
theorem DI.made(D:DI E G ops K s0 c0 w0 h0 pre lm suf s hs val pb L c w a)(t:bT ops.toList=true){i:Nat}{o:Oper}(x:ops.toList[i]? =some o)(Y:i∉pre)(N:¬Lst L i)(hd:∀e∈o.after.toList,Region.binds .any e=true->Lst L e.on)
  {d:Nat} (m:o.dst=some d) (hm:d<s.m) {ty:TypeId} (p:o.op= .alloc ty) {y:TY} (hy:E.ty ty=some y) {A:World} (g:Grow c w s.h c A s.h) (H:bH c A s.h) {q:Array Value} {B:TypeId}
  (U:A.heap[w.heap.size]? =some (.cells q B (0,0))) (X:∀c w,F2 (bM c w) q.toList y.zero):
  DI E G ops K s0 c0 w0 h0 pre lm suf s hs val (λj=>if j=i then w.heap.size else pb j) (L.setIfInBounds i true) c A (a.put o.dst (.pointer (some ⟨w.heap.size,0,none⟩))):=by
 have l:i<L.size:=by rw [D.size];grind
 have z:∀j r u,gslot ops.toList j=some r->j≠i->(a.put o.dst u).tmps[r]? =a.tmps[r]? :=λj r u n F=>oI (λd hd e=>kQ t ((bA x).trans hd) n (Ne.symm F) e)
 have T:∀j,Lst L j->j∉pre->pb j<w.heap.size:=λj b h=>by
  obtain⟨_,_,_,_,_,_,_,_,_,_,_,I,_⟩:=D.qX j b h;exact lt_of_some I
 exact {
  run:=D.run,chk:=D.chk,cov:=D.cov
  done:=λj b h=>(aY l).2 (.inr (D.done j b h))
  only:=λj n=>by
   rcases(aY l).1 n with rfl | n
   .grind [bq,kindOf]
   .exact D.only j n
  closed:=D.closed.set x l hd
  size:=by simp [D.size]
  s1:=λj r v b h C J=>by
   have e:j≠i:=λe=>Y (e▸C)
   obtain⟨M,R,Q⟩:=D.s1 j r v b (((aY l).1 h).resolve_left e) C J;exact⟨M,by grind,Q.grow D.heap g⟩
  s2:=λr v b h=>by
   obtain⟨M,R,Q⟩:=D.s2 r v (λj n O=>b j n ((aY l).2 (.inr O))) h;exact⟨M,by rw [oI (λd hd e=>b i (by rw [bA x,hd,e]) ((aY l).2 (.inl rfl)))];exact R,Q.grow D.heap g⟩
  t1:=D.t1,t2:=D.t2
  pend:=λj b h=>D.pend j b (λO=>h ((aY l).2 (.inr O)))
  qX:=λj b h=>by
   by_cases e:j=i
   .subst e;simp only [if_true];refine⟨o,ty,y,d,q,B,x,p,hy,m,?_,U,X,λP=> ?_,λf Z=> ?_,D.grow.size⟩
    .rw [m];exact vE (by rw [D.mU];exact hm)
    .exact absurd (D.heap.lt P) (Nat.lt_irrefl _)
    .exact absurd (D.heap.low f _ Z) (Nat.lt_irrefl _)
   .obtain⟨o',ty,y,d,q,B,p1,p2,p3,p4,p5,I,p7,p8,p9,p10⟩:=D.qX j (((aY l).1 b).resolve_left e) h;obtain⟨V,q2,W⟩:=w9 g I p8 p9;simp only [e,if_false];exact⟨o',ty,y,d,q,B,p1,p2,p3,p4,by rw [z j d _ ((bA p1).trans p4) e];exact p5,V,p7,q2,W,p10⟩
  dist:=λj k b h C J S=>by
   by_cases e:j=i
   .grind [aY]
   .by_cases e':k=i
    .grind [aY]
    .simp only [e,e',if_false]at S;exact D.dist j k (((aY l).1 b).resolve_left e) h (((aY l).1 C).resolve_left e') J S
  heap:=H
  glob:=D.glob.grow D.heap g
  grow:=D.grow.trans g
  cn:=D.cn
  defers:=by rw [put_defers];exact D.defers
  mU:=by rw [Ef];exact D.mU
  sn:=D.sn,sm:=D.sm,ms:=D.ms
  mp:=D.mp.keep D.ms t D.closed l x N (by rw [p];rfl) g}
end
end Go.AE
namespace Go.AE
open Go
variable [aD]
theorem Oa{s:St}{d:Option Nat}{v:Option PV}:(s.put d v).h=s.h/\(s.put d v).n=s.n/\(s.put d v).k=s.k/\(s.put d v).m=s.m:=by cases d<;>exact⟨rfl,rfl,rfl,rfl⟩
theorem xg{s:St}{o:Option Nat}{v:Option PV}{r:Nat}(h:∀d,o=some d->d≠r):aW (s.put o v).t r=aW s.t r:=by
 cases o with
 | none=>rfl
 | some d=>grind [St.put,iQ]
theorem Bq{s:St}{d:Nat}{v:Option PV}:aW (s.put (some d) v).t d=v:=by simp [St.put,iQ]
theorem VX{E:Tab}{h:Heap}{a:Nat}{c:eD}(b:look h a=none){ty:TypeId}{p:PV}{K:PV->Prop}(hk:lQ E h ty p K):lQ E ((a,c)::h) ty p K:=by
 unfold lQ at hk ⊢;cases hy:E.ty ty with
 | none=>rw [hy]at hk;exact hk.elim
 | some y=>
  rw [hy]at hk;simp only [aF]at hk ⊢;split
  .rename_i l sz i j;simp only at hk;by_cases e:a=l
   .subst e;rw [b]at hk;exact hk.elim
   grind [aB]
  all_goals simp_all
theorem Ie{E:Tab}{h:Heap}{c:Nat}{f:eD}(e:look h c=none){b:Op}{t:Slots}{K:PV->Prop}(hk:gK E b t h K):gK E b t ((c,f)::h) K:=by
 by_cases a:isLoad b=false
 .rw [<-yT a t h];exact hk
 .cases b<;>first | (exact absurd rfl a) | skip
  rename_i ty p;simp only [gK]at hk ⊢;obtain⟨v,d,hk⟩:=jW hk;rw [d];exact VX e hk
theorem VY{E:Tab}{a:List Oper}{o:Oper}{h:Heap}{c:Nat}{k:eD}(i:look h c=none){t:Slots}{K:Option PV->Prop}(hk:iL E a o t h K):iL E a o t ((c,k)::h) K:=by
 unfold iL at hk ⊢;split at hk
 .exact Ie i hk
 .rename_i j want hg;cases hd:gslot a j with
  | none=>rw [hd]at hk;exact hk.elim
  | some d=>
   rw [hd]at hk;simp only [tX]at hk ⊢;rcases jX hk with⟨f,b,e,l,g⟩ | ⟨e,g⟩
   .grind [dz,Ie]
   .rw [e];exact g
theorem LK{i j:Nat}{x:Oper×Slots×Option PV}{a:List Held}(h:i≠j):pR ((i,x)::a) j=pR a j:=by simp [pR,h]
section
variable {E:Tab} {G:oG} {ops:Array Oper} {K:St->Prop} {s0:St} {c0:Ctx} {w0:World} {h0:Heap} {pre:List Nat} {lm:Option Nat} {suf:List eF} {s:St} {hs:List Held}
 {val:Nat->Option PV} {pb:Nat->Nat} {L:Array Bool} {c:Ctx} {w:World} {a:Act}
structure amd(ops:List Oper)(pre:List Nat)(lm:Option Nat)(i:Nat)(rs cs:List Nat)(r:List eF):Prop where
 lt:i<ops.length
 new:i∉pre
 rd:ad9 ops (kM (masks ops)) pre i rs=true
 after:bq ops i=2\/∀q,lm=some q->kM (masks ops) i q=true
 two:bq ops i=2->Cv ops (kM (masks ops)) i r=true/\(gslot ops i).isSome=true
 three:bq ops i=3->∀j∈pre,loadAt ops j=true->kM (masks ops) i j=true\/j∈cs
 guard:bq ops i≠0->bq ops i≠3->Dm ops i=true\/zQ ops i=false
 rest:tY ops (kM (masks ops)) (i::pre) (if bq ops i=3 then some i else lm) r=true
theorem kR{ops:List Oper}{pre:List Nat}{b:Option Nat}{i:Nat}{a cs:List Nat}{r:List eF}(h:tY ops (kM (masks ops)) pre b ((i,a,cs)::r)=true):amd ops pre b i a cs r:=by
 unfold tY at h;simp only [Bool.and_eq_true,decide_eq_true_eq,Bool.not_eq_true',Bool.or_eq_true,beq_iff_eq]at h;obtain⟨⟨⟨⟨⟨⟨e,c⟩,g⟩,d⟩,m⟩,o⟩,f⟩:=h;refine⟨e,by simpa using c,g,d.imp id (λh q l=>by simp_all),λhk=> ?_,λhk j p n=> ?_,λhk k=> ?_,f⟩
 all_goals grind
theorem Src.mono{a:List Oper}{s0:St}{pre:List Nat}{val:Nat->Option PV}{i r:Nat}{v:PV}{n:Nat}(hn:n∉pre)(x:Option PV)(h:Src a s0 pre val i r v):Src a s0 (n::pre) (λj=>if j=n then x else val j) i r v:=by
 rcases h with⟨j,c,b,d,e⟩ | h
 .exact .inl ⟨j,c,List.mem_cons_of_mem _ b,d,by grind⟩
 .exact .inr h
theorem DI.push{i:Nat}{n cs:List Nat}{r:List eF}(D:DI E G ops K s0 c0 w0 h0 pre lm ((i,n,cs)::r) s hs val pb L c w a)(A:bT ops.toList=true){o:Oper}(F:ops.toList[i]? =some o)(hk:bq ops.toList i<=1)
  (hm:dOK s.m o.dst) (v:Option PV) (l:List Held) (p:dW E G ops.toList r l K (s.put o.dst v)) (P:∀j,j≠i->pR l j=pR hs j)
  (hc:(kindOf o.op=0/\pR l i=some (o,cut s.t n,v)/\iL E ops.toList o (cut s.t n) s.h (λg=>g=v))\/(kindOf o.op=1/\(su o.op=true\/o.guard=none)/\zN E ops.toList o (cut s.t n) (λg=>v=g))):
  DI E G ops K s0 c0 w0 h0 (i::pre) (if bq ops.toList i=3 then some i else lm) r (s.put o.dst v) l (λj=>if j=i then v else val j) pb L c w a:=by
 have C:=kR D.chk;have H:¬Lst L i:=λN=>(D.only i N).elim C.new (λh=>by omega)
 obtain⟨z,M,O,u⟩:= @Oa _ s o.dst v
 exact {
  run:=p
  chk:=C.rest
  cov:=λj q=>by
   rcases D.cov j q with h | h
   all_goals grind
  done:=λj b f=>by
   rcases List.mem_cons.1 b with rfl | b
   .omega
   .exact D.done j b f
  only:=λj q=>(D.only j q).imp (List.mem_cons_of_mem _) id
  closed:=D.closed,size:=D.size
  s1:=λj x g b f I y=>by
   have e:j≠i:=λe=>H (e▸f)
   simp only [e,if_false]at y;exact D.s1 j x g b f ((List.mem_cons.1 I).resolve_left e) y
  s2:=D.s2
  t1:=λj x b f=>by
   by_cases e:j=i
   .grind [bA,Bq]
   .rw [if_neg e,xg (λd hd B=>kQ A ((bA F).trans hd) b (Ne.symm e) B)];exact D.t1 j x b ((List.mem_cons.1 f).resolve_left e)
  t2:=λx b=>by
   rw [xg (λd hd B=>b i (by rw [bA F,hd,B]) (by simp))];exact D.t2 x (λj q m=>b j q (List.mem_cons_of_mem _ m))
  pend:=λj b f=>by
   by_cases e:j=i
   .subst e;refine⟨o,cut s.t n,F,by rw [u];exact hm,λx g J=>Src.mono C.new v (D.rd C.new C.rd x g J),?_⟩;simp_all
   .obtain⟨o',t,p1,p2,p3,p4⟩:=D.pend j ((List.mem_cons.1 b).resolve_left e) f;refine⟨o',t,p1,by rw [u];exact p2,λx g J=>Src.mono C.new v (p3 x g J),?_⟩;simp_all
  qX:=λj b f=>by rw [z];exact D.qX j b (λm=>f (List.mem_cons_of_mem _ m))
  dist:=λj k b f I y=>D.dist j k b (λm=>f (List.mem_cons_of_mem _ m)) I (λm=>y (List.mem_cons_of_mem _ m))
  heap:=by rw [z];exact D.heap
  glob:=D.glob
  grow:=by rw [z];exact D.grow
  cn:=by rw [M,O];exact D.cn
  defers:=D.defers
  mU:=by rw [u];exact D.mU
  sn:=by rw [M];exact D.sn
  sm:=by rw [u];exact D.sm
  ms:=D.ms
  mp:=by rw [z];exact D.mp}
theorem zS{ops:List Oper}{i:Nat}{o:Oper}(h:ops[i]? =some o):bq ops i=kindOf o.op:=by simp [bq,h]
theorem DI.adv(e:bT ops.toList=true):∀(t:List eF) {pre:List Nat} {m:Option Nat} {s:St} {l:List Held} {d:Nat->Option PV},DI E G ops K s0 c0 w0 h0 pre m t s l d pb L c w a->
  ∃f z VZ F p k,DI E G ops K s0 c0 w0 h0 f z VZ F p k pb L c w a/\∀i A cs r,VZ=(i,A,cs)::r->2<=bq ops.toList i
 | [],pre,m,s,l,d,D=>⟨pre,m,[],s,l,d,D,λ_ _ _ _ h=>by cases h⟩
 | (i,A,cs)::r,pre,m,s,l,d,D=>by
  have C:=kR D.chk;by_cases hk:2<=bq ops.toList i
  .exact⟨pre,m,_,s,l,d,D,λJ _ _ _ h=>by cases h;exact hk⟩
  .have b:=D.run;unfold dW at b;cases ho:ops.toList[i]? with
   | none=>rw [ho]at b;exact b.elim
   | some o=>
    rw [ho]at b;obtain⟨hm,b⟩:=b;have I:=zS ho;split at b
    .rename_i h0;obtain⟨v,u,y⟩:=VO _ _ _ _ _ _ b;exact DI.adv e r (D.push e ho ah hm v _ u (λj B=>LK (Ne.symm B)) (.inl ⟨h0,by simp [pR],y⟩))
    .rename_i h0;obtain⟨v,u,y⟩:=ahQ _ _ _ _ _ b;have H:=C.guard ah ah;have q:su o.op=true\/o.guard=none:=H.imp (λg=>by simp [Dm,ho]at g;exact g.2) (λg=>by simpa [zQ,ho]using g);refine DI.adv e r (D.push e ho ah hm v _ u (λj B=>rfl) (.inr ⟨h0,q,?_⟩));have:(λn=>v=n)=(λn=>n=v):=by funext x;simp [eq_comm]
     rw [this];exact y
    .omega
    .rename_i h1 h2 h3;have:kindOf o.op=0\/kindOf o.op=1:=by omega
     rcases this with h | h
     .exact absurd h h1
     .exact absurd h h2
end
end Go.AE
namespace Go.AE
open Go
variable [aD]
section
variable {E:Tab} {G:oG} {ops:Array Oper} {K:St->Prop} {s0:St} {c0:Ctx} {w0:World} {h0:Heap} {pre:List Nat} {lm:Option Nat} {suf:List eF} {s:St} {hs:List Held}
 {val:Nat->Option PV} {pb:Nat->Nat} {L:Array Bool} {c:Ctx} {w:World} {a:Act}
theorem DI.reg{i:Nat}{rs cs:List Nat}{r:List eF}(D:DI E G ops K s0 c0 w0 h0 pre lm ((i,rs,cs)::r) s hs val pb L c w a)(a4:bT ops.toList=true)(hk:bq ops.toList i=2)(R:Lst L i):
  ∃s' P c',DI E G ops K s0 c0 w0 h0 (i::pre) lm r s' hs P pb L c' w a:=by
 have C:=kR D.chk;obtain⟨o,ty,y,d,W,Et,Q,a7,hy,J,hu,hb,hz,a0,a5,a6⟩:=D.qX i R C.new;have f:=D.run;unfold dW at f;rw [Q]at f;obtain⟨hm,f⟩:=f;have n:kindOf o.op=2:=by grind [zS]
 rw [n]at f;simp only [gP,a7,hy,aF]at f;obtain⟨a8,f⟩:=f;have z:tY ops.toList (kM (masks ops.toList)) (i::pre) lm r=true:=by have:=C.rest;simp_all
 rw [<-D.cn]at f;obtain⟨S,pn,pk,pm⟩:= @Oa _ {s with h:=(c.n,.box y.zero)::s.h,k:=s.k+1} o.dst (some (.c (.ptr c.n y.size 0 0)));have B:=c.pO (some (pb i));have hO:jr (c.name (some (pb i))) w c.n (.box y.zero):=⟨pb i,W.toList,Et,by simp [Ctx.nameAt,upd],hb,hz _ _⟩;have H':=D.heap.reg hO a0 a5;have T:look s.h c.n=none:=by
  cases hx:look s.h c.n with
  | none=>rfl
  | some F=>exact absurd (D.heap.obj _ _ hx).1 (Nat.lt_irrefl _)
 have mono:∀ {u:Value} {v:PV},bG c w u v->bG (c.name (some (pb i))) w u v:=λh=>h.mono B (λ_ _ _=>rfl) (.refl _)
 refine⟨_,λj=>if j=i then some (.c (.ptr c.n y.size 0 0))else val j,c.name (some (pb i)),{
  run:=f
  chk:=z
  cov:=λj N=>by
   rcases D.cov j N with h | h
   all_goals grind
  done:=λj g n=>by
   rcases List.mem_cons.1 g with rfl | g
   .exact R
   .exact D.done j g n
  only:=λj N=>(D.only j N).imp (List.mem_cons_of_mem _) id
  closed:=D.closed,size:=D.size
  s1:=λj x O g n Z H=>by
   by_cases e:j=i
   .subst e;simp only [if_true,Option.some.injEq]at H;subst H;rw [bA Q,J]at g;cases g;refine⟨_,hu,?_⟩;have:=bM.ptr (c:=c.name (some (pb j))) (w:=w) c.n y.size 0 0 (pb j) 0 (Nat.lt_succ_self _) (by simp [Ctx.nameAt,upd]);exact .c _ _ (by simpa using this)
   .simp only [e,if_false]at H;obtain⟨u,a1,a2⟩:=D.s1 j x O g n ((List.mem_cons.1 Z).resolve_left e) H;simp_all
  s2:=λx O g n=>let⟨u,a1,a2⟩:=D.s2 x O g n;⟨u,a1,mono a2⟩
  t1:=λj x g n=>by
   by_cases e:j=i
   .grind [bA,Bq]
   .rw [if_neg e,xg (λd hd p=>kQ a4 ((bA Q).trans hd) g (Ne.symm e) p)];exact D.t1 j x g ((List.mem_cons.1 n).resolve_left e)
  t2:=λx g=>by
   rw [xg (λd hd p=>g i (by rw [bA Q,hd,p]) (by simp))];exact D.t2 x (λj N q=>g j N (List.mem_cons_of_mem _ q))
  pend:=λj g n=>by
   have e:j≠i:=λe=>n (e▸R)
   obtain⟨o',t,p1,V,U,p4⟩:=D.pend j ((List.mem_cons.1 g).resolve_left e) n;refine⟨o',t,p1,by rw [pm];exact V,λx O hv=>Src.mono C.new _ (U x O hv),?_⟩
   grind [VY]
  qX:=λj g n=>by
   have e:j≠i:=λe=>n (e▸List.mem_cons_self)
   obtain⟨o',ty,y',d,W,Et,p1,V,U,p4,p5,p6,p7,p8,p9,Y⟩:=D.qX j g (λq=>n (List.mem_cons_of_mem _ q));refine⟨o',ty,y',d,W,Et,p1,V,U,p4,p5,p6,p7,?_,p9,Y⟩;rw [S];rintro⟨l,F,A,b2,I⟩;by_cases p:c.n=l
   .subst p;have:(c.name (some (pb i))).μ c.n=some (pb i):=by simp [iB,upd]
    rw [this]at I;exact e (D.dist j i g (λq=>n (List.mem_cons_of_mem _ q)) R C.new (Option.some.inj I).symm)
   .rw [aB _ _ p]at A;exact p8 ⟨l,F,A,b2,by rw [<-B.μ l (D.heap.obj l F A).1];exact I⟩
  dist:=λj k g n Z H=>D.dist j k g (λq=>n (List.mem_cons_of_mem _ q)) Z (λq=>H (List.mem_cons_of_mem _ q))
  heap:=by rw [S];exact H'
  glob:=D.glob
  grow:=by rw [S];exact D.grow.reg D.heap a6
  cn:=by
   rw [pn,pk];show c.n+1=nm s.n (s.k+1);rw [D.cn];simp [nm,Nat.add_assoc]
  defers:=D.defers
  mU:=by rw [pm];exact D.mU
  sn:=by rw [pn];exact D.sn
  sm:=by rw [pm];exact D.sm
  ms:=D.ms
  mp:=λm hm a3=>by
   obtain⟨b,M⟩:=D.mp m hm a3;obtain⟨es,X,e1,e2⟩:=M.obj;refine⟨b,⟨M.slot,⟨es,X,e1,e2⟩,?_,M.nk,M.ge,M.mv⟩⟩;rw [S];rintro⟨l,F,A,b2,I⟩;by_cases p:c.n=l
   .subst p;have:(c.name (some (pb i))).μ c.n=some (pb i):=by simp [iB,upd]
    simp_all
   .rw [aB _ _ p]at A;exact M.no ⟨l,F,A,b2,by rw [<-B.μ l (D.heap.obj l F A).1];exact I⟩}⟩
theorem TB{E:Tab}{a:List Oper}{h:Heap}{c:List Held}{j:Nat}:∀ {cs:List Nat},N9 E a h c cs->j∈cs->∀ {o:Oper} {t:Slots} {v:Option PV},pR c j=some (o,t,v)->iL E a o t h (λd=>d=v)
 | [],_,b,_,_,_,_=>by cases b
 | x::cs,hr,b,o,t,v,hf=>by
  rcases List.mem_cons.1 b with rfl | b
  .have:=hr.1;simp_all
  .exact TB hr.2 b hf
theorem DI.step{i:Nat}{rs cs:List Nat}{r:List eF}(D:DI E G ops K s0 c0 w0 h0 pre lm ((i,rs,cs)::r) s hs val pb L c w a)
  (z:bT ops.toList=true) (hk:bq ops.toList i=3) {o:Oper} (B:ops.toList[i]? =some o) (hd:∀e∈o.after.toList,Region.binds .any e=true->Lst L e.on) (hm:dOK s.m o.dst)
  {u:Value} {v:PV} {F:Ctx} {R:World} {h':Heap} {k':Nat} (g:Grow c w s.h F R h') (H:bH F R h') (hn:F.n=nm s.n k') (J:bG F R u v)
  (a7:∀j m t,j∈pre->¬Lst L j->ops.toList[j]? =some m->isLoad m.op=true->pR hs j=some (m,t,val j)->iL E ops.toList m t s.h (λp=>p=val j)->iL E ops.toList m t h' (λp=>p=val j))
  (M:dW E G ops.toList r hs K (St.put {s with h:=h',k:=k'} o.dst (some v))):
  DI E G ops K s0 c0 w0 h0 (i::pre) (if bq ops.toList i=3 then some i else lm) r (St.put {s with h:=h',k:=k'} o.dst (some v)) hs (λj=>if j=i then some v else val j) pb (L.setIfInBounds i true) F R (a.put o.dst u):=by
 have C:=kR D.chk;have a3:¬Lst L i:=λN=>(D.only i N).elim C.new (λh=>by omega)
 have l:i<L.size:=by rw [D.size];simpa using C.lt
 obtain⟨O,pn,pk,U⟩:= @Oa _ {s with h:=h',k:=k'} o.dst (some v);have P:∀j r u,gslot ops.toList j=some r->j≠i->(a.put o.dst u).tmps[r]? =a.tmps[r]? :=λj r u n V=>oI (λd hd e=>kQ z ((bA B).trans hd) n (Ne.symm V) e)
 exact {
  run:=M
  chk:=C.rest
  cov:=λj n=>by
   rcases D.cov j n with h | h
   all_goals grind
  done:=λj b f=>(aY l).2 (by
   rcases List.mem_cons.1 b with rfl | b
   .exact .inl rfl
   .exact .inr (D.done j b f))
  only:=λj n=>by
   rcases(aY l).1 n with rfl | n
   .simp_all
   .exact(D.only j n).imp (List.mem_cons_of_mem _) id
  closed:=D.closed.set B l hd
  size:=by simp [D.size]
  s1:=λj x p b f h3 y=>by
   by_cases e:j=i
   .subst e;simp only [if_true,Option.some.injEq]at y;subst y;rw [bA B]at b;refine⟨u,?_,J⟩;rw [b]at hm ⊢;exact vE (by rw [D.mU];exact hm)
   .simp only [e,if_false]at y;obtain⟨Z,a1,a2⟩:=D.s1 j x p b (((aY l).1 f).resolve_left e) ((List.mem_cons.1 h3).resolve_left e) y;exact⟨Z,by grind,a2.grow D.heap g⟩
  s2:=λx p b f=>by
   obtain⟨Z,a1,a2⟩:=D.s2 x p (λj n N=>b j n ((aY l).2 (.inr N))) f;exact⟨Z,by rw [oI (λd hd e=>b i (by rw [bA B,hd,e]) ((aY l).2 (.inl rfl)))];exact a1,a2.grow D.heap g⟩
  t1:=λj x b f=>by
   by_cases e:j=i
   .grind [bA,Bq]
   .rw [if_neg e,xg (λd hd I=>kQ z ((bA B).trans hd) b (Ne.symm e) I)];exact D.t1 j x b ((List.mem_cons.1 f).resolve_left e)
  t2:=λx b=>by
   rw [xg (λd hd I=>b i (by rw [bA B,hd,I]) (by simp))];exact D.t2 x (λj n A=>b j n (List.mem_cons_of_mem _ A))
  pend:=λj b f=>by
   have e:j≠i:=λe=>f ((aY l).2 (.inl e))
   have a6:¬Lst L j:=λN=>f ((aY l).2 (.inr N))
   have a4:=(List.mem_cons.1 b).resolve_left e;obtain⟨m,t,S,W,T,Q⟩:=D.pend j a4 a6;refine⟨m,t,S,by rw [U];exact W,λx p hv=>Src.mono C.new _ (T x p hv),?_⟩;simp only [e,if_false];rw [O];rcases Q with⟨X,q2,Y⟩ | q
   .refine .inl ⟨X,q2,?_⟩;by_cases a5:isLoad m.op=true
    .simp_all
    .show iL E ops.toList m t h' _;rw [<-NY (by simpa using a5) t s.h h'];exact Y
   .exact .inr q
  qX:=λj b f=>by
   have e:j≠i:=λe=>f (e▸List.mem_cons_self)
   obtain⟨m,ty,y',d,vs,Et,S,W,T,Q,p5,p6,p7,p8,p9,a0⟩:=D.qX j (((aY l).1 b).resolve_left e) (λA=>f (List.mem_cons_of_mem _ A));obtain⟨X,q2,Y⟩:=w9 g p6 p8 p9;exact⟨m,ty,y',d,vs,Et,S,W,T,Q,by rw [P j d u ((bA S).trans Q) e];exact p5,X,p7,by rw [O];exact q2,Y,a0⟩
  dist:=λj k b f h3 y=>by
   have e:j≠i:=λe=>f (e▸List.mem_cons_self)
   have I:k≠i:=λe=>y (e▸List.mem_cons_self)
   exact D.dist j k (((aY l).1 b).resolve_left e) (λA=>f (List.mem_cons_of_mem _ A)) (((aY l).1 h3).resolve_left I) (λA=>y (List.mem_cons_of_mem _ A))
  heap:=by rw [O];exact H
  glob:=D.glob.grow D.heap g
  grow:=by rw [O];exact D.grow.trans g
  cn:=by simp_all
  defers:=by rw [put_defers];exact D.defers
  mU:=by rw [Ef,U];exact D.mU
  sn:=by rw [pn];exact D.sn
  sm:=by rw [U];exact D.sm
  ms:=D.ms
  mp:=by rw [O];exact D.mp.keep D.ms z D.closed l B a3 (Eh (by grind [zS])) g}
theorem DI.mut(hE:aH E)(P:qz E G){Q:Exit->Act->World->Prop}{i:Nat}{F cs:List Nat}{r:List eF}(D:DI E G ops K s0 c0 w0 h0 pre lm ((i,F,cs)::r) s hs val pb L c w a)
  (p:bT ops.toList=true) (hk:bq ops.toList i=3) {o:Oper} (I:ops.toList[i]? =some o) (hd:∀e∈o.after.toList,Region.binds .any e=true->Lst L e.on) {next:Act->World->Prop} (hm:dOK s.m o.dst)
  (b:VQ E G o (cut s.t F) s λv h k=>N9 E ops.toList h hs cs/\dW E G ops.toList r hs K (St.put {s with h:=h,k:=k} o.dst (some v)))
  (d:∀y J l n m u,DI E G ops K s0 c0 w0 h0 (i::pre) y r J hs l pb (L.setIfInBounds i true) n m (a.put o.dst u)->next (a.put o.dst u) m):o.wp E.P a w next Q:=by
 have C:=kR D.chk;have q:¬Lst L i:=λM=>(D.only i M).elim C.new (λh=>by omega)
 have A:=D.src I q hd (D.rd C.new C.rd) s.h D.heap;refine NZ hE P A D.cn o ?_ b;rintro u v n m T V g H hn f ⟨B,b⟩;refine d _ _ _ n m u (D.step p hk I hd hm g H hn f (λj X t x z W R S U=> ?_) b);rcases C.three hk j x (by grind [loadAt])with hx | hx
 .exact absurd (mR D.closed (kC hx) (λN O=>by simp_all)) z
 .exact TB B hx S
theorem TD{c:List Oper}{anc:Nat->Nat->Bool}{q:Nat}:∀ {b:List eF} {pre:List Nat} {d:Option Nat},tY c (kM (masks c)) pre d b=true->q∈b.map (·.1)->q∉pre
 | [],_,_,_,a=>by cases a
 | (i,rs,cs)::r,pre,d,h,a=>by
  have C:=kR h;simp only [List.map_cons,List.mem_cons]at a;rcases a with rfl | a
  .exact C.new
  .exact λe=>TD (anc:=anc) C.rest a (List.mem_cons_of_mem _ e)
theorem Dn{a:List Oper}{i:Nat}(hk:bq a i≠2):∀ {b:List eF} {pre:List Nat} {d:Option Nat},tY a (kM (masks a)) pre d b=true->i∈b.map (·.1)->
  (∃q,q∈b.map (·.1)/\bq a q=3/\kM (masks a) i q=true)\/∀q,d=some q->kM (masks a) i q=true
 | [],_,_,_,c=>by cases c
 | (x,rs,cs)::r,pre,d,h,c=>by
  have C:=kR h;simp only [List.map_cons,List.mem_cons]at c;rcases c with rfl | c
  .exact .inr (C.after.resolve_left hk)
  .rcases Dn hk C.rest c with⟨q,h1,h2,h3⟩ | h1
   all_goals grind
theorem Ig{ops:List Oper}{i:Nat}(hk:bq ops i<=1):∀ {a:List eF} {pre:List Nat} {k:Option Nat},tY ops (kM (masks ops)) pre k a=true->i∈a.map (·.1)->(∀x c cs r,a=(x,c,cs)::r->bq ops x=2\/bq ops x=3)->
  ∃q,q∈a.map (·.1)/\bq ops q=3/\kM (masks ops) i q=true
 | [],_,_,_,b,_=>by cases b
 | (x,c,cs)::r,pre,k,h,b,hh=>by
  have C:=kR h;simp only [List.map_cons,List.mem_cons]at b ⊢;have d:=hh x c cs r rfl;have f:i≠x:=λe=>by subst e;omega
  have b:=b.resolve_left f;rcases d with d | d
  .have hn:=(C.two d).1;have m:∀y c cs g,r=(y,c,cs)::g->bq ops y=2\/bq ops y=3:=λy c cs g e=>by grind [Cv]
   obtain⟨q,j,l,n⟩:=Ig hk C.rest b m
   grind
  .rcases Dn ah C.rest b with⟨q,j,l,n⟩ | j
   all_goals grind
theorem LM{a:List Oper}{i x:Nat}(hk:bq a i=3):∀ {r:List eF} {pre:List Nat} {d:Option Nat},tY a (kM (masks a)) pre d r=true->i∈r.map (·.1)->Cv a (kM (masks a)) x r=true->
  kM (masks a) i x=true\/∃q,q∈r.map (·.1)/\bq a q=3/\kM (masks a) i q=true
 | [],_,_,_,b,_=>by cases b
 | (y,rs,cs)::r,pre,d,h,b,hn=>by
  have C:=kR h;simp only [List.map_cons,List.mem_cons]at b ⊢;unfold Cv at hn;split at hn
  .rename_i hy;have b:=b.resolve_left (λe=>by subst e;omega);rcases LM hk C.rest b hn with c | ⟨q,c,f,g⟩
   all_goals grind
  .simp only [Bool.and_eq_true,beq_iff_eq]at hn;rcases b with rfl | b
   .exact .inl hn.2
   .rcases Dn ah C.rest b with⟨q,c,f,g⟩ | c
    all_goals grind
end
end Go.AE
namespace Go.AE
open Go
variable [aD]
theorem TF{a:List Oper}{j:Nat}{k:Int}{r:Nat}(h:oH a j k r):(k,r)∈l8 a:=by
 obtain⟨o,ty,x,c,b⟩:=h;unfold l8;rw [List.mem_filterMap];exact⟨o,List.mem_of_getElem? c,by unfold Cu;rw [b]⟩
theorem Xq{o:Oper}{k:Int}{r:Nat}(h:Cu o=some (k,r)):∃ty x,o.op= .insert ty x (.const (.int .i64 k)) (.tmp r):=by grind [Cu]
theorem aed{a:List Oper}{k:Int}{r:Nat}(h:(k,r)∈l8 a):∃j,oH a j k r:=by
 unfold l8 at h;rw [List.mem_filterMap]at h;obtain⟨o,c,b⟩:=h;obtain⟨j,d⟩:=List.mem_iff_getElem?.1 c;obtain⟨ty,x,e⟩:=Xq b;exact⟨j,o,ty,x,d,e⟩
theorem Ei:∀ {c:List Oper} {i j:Nat} {k:Int} {r d:Nat},((l8 c).map Prod.fst).Nodup->oH c i k r->oH c j k d->i=j/\r=d
 | [],i,_,_,_,_,_,h,_=>by obtain⟨o,ty,x,n,_⟩:=h;simp at n
 | o::c,i,j,k,r,d,hn,h,h'=>by
  have l:∀ {j:Nat} {r:Nat},oH (o::c) (j+1) k r->oH c j k r:=λ⟨m,ty,x,a,b⟩=>⟨m,ty,x,by simpa using a,b⟩
  have q:∀ {r:Nat},oH (o::c) 0 k r->Cu o=some (k,r):=λ⟨m,ty,x,a,b⟩=>by grind [Cu]
  have f:((l8 c).map Prod.fst).Nodup:=by grind [l8,Cu,List.filterMap_cons_none,List.filterMap_cons_some,List.nodup_cons]
  have g:∀ {j:Nat} {r d:Nat},Cu o=some (k,r)->oH c j k d->False:=λe p=>by
   unfold l8 at hn;rw [List.filterMap_cons_some e,List.map_cons]at hn;exact(List.nodup_cons.1 hn).1 (List.mem_map.2 ⟨_,TF p,rfl⟩)
  cases i with
  | zero=>
   cases j with
   | zero=>grind
   | succ j=>grind
  | succ i=>
   cases j with
   | zero=>grind
   | succ j=>
    obtain⟨t,s⟩:=Ei f (l h) (l h');omega
theorem Ej{t:Slots}{n:Int}:∀ {l:List (Int×Nat)} {K:Bool->Prop},Ec t n l K->(K false/\∀r,(n,r)∉l)\/∃r f b,(n,r)∈l/\aW t r=some (.c (.d f (.bool b)))/\K b
 | [],K,h=> .inl ⟨h,λr g=>by cases g⟩
 | (k',r)::rest,K,h=>by
  obtain⟨f,b,j,a⟩:=h;by_cases e:n=k'
  .grind
  .rw [if_neg e]at a;rcases Ej a with⟨c,d⟩ | ⟨i,k,m,c,d,o⟩
   all_goals grind
section
variable {E:Tab} {G:oG} {ops:Array Oper} {K:St->Prop} {s0:St} {c0:Ctx} {w0:World} {h0:Heap} {pre:List Nat} {lm:Option Nat} {suf:List eF} {s:St} {hs:List Held}
 {val:Nat->Option PV} {pb:Nat->Nat} {L:Array Bool} {c:Ctx} {w:World} {a:Act}
theorem DI.one(D:DI E G ops K s0 c0 w0 h0 pre lm suf s hs val pb L c w a)(b:bT ops.toList=true){i m:Nat}(d:qA ops.toList i=true)(hm:qA ops.toList m=true):m=i:=by
 by_cases e:m=i
 .exact e
 .exact absurd rfl (kQ b (D.ms.gD hm) (D.ms.gD d) e)
theorem zT{a:Act}{r:Nat}{u:Value}(h:a.tmps[r]? =some u):a.eval (.tmp r)=u:=by
 simp [Act.eval,h]
theorem DI.mkM(D:DI E G ops K s0 c0 w0 h0 pre lm suf s hs val pb L c w a)(d:bT ops.toList=true){i:Nat}{o:Oper}(F:ops.toList[i]? =some o)(M:i∈pre)(A:¬Lst L i)(hd:∀e∈o.after.toList,Region.binds .any e=true->Lst L e.on)
  (hm:dOK s.m o.dst) {ty:TypeId} {r:Option Operand} (l:o.op= .makeMap ty r) (Q:val i=none):∃u w',(execOp a.eval o).run E.P w= .ok (.value u) w'/\DI E G ops K s0 c0 w0 h0 pre lm suf s hs val pb (L.setIfInBounds i true) c w' (a.put o.dst u):=by
 have S:=D.ms;obtain⟨rfl,n⟩:=S.mkm i o ty r F l;have O:i<L.size:=by rw [D.size];grind
 have p:qA ops.toList i=true:=by grind [qA]
 have C:=side (w':=w.alloc (.map #[] 0)) D.heap (K:=c.K) (Nat.le_of_lt (lt_of_some (jv _ _))) (λb y=>alloc_old y) (pQ _ _) (λ_ _ h=>h) (λ_ _ h=> .inl h)
  (λf b y=>Nat.lt_of_lt_of_le (D.heap.low f b y) (Nat.le_of_lt (lt_of_some (jv _ _)))) D.heap.sub rfl rfl rfl
 have no:∀j,Lst (L.setIfInBounds i true) j->j≠i->(∃m,qA ops.toList m=true/\Reach ops.toList j m)->False:=λj H x ⟨m,J,I⟩=>by
  have:=qW D.closed I (((aY O).1 H).resolve_left x);rw [D.one d p J]at this;exact A this
 refine⟨.map (some w.heap.size),w.alloc (.map #[] 0),by simp [execOp,l,run_makeMap],D.Jz d F M hd hm C.2 C.1 rfl (λv h=>by simp_all) λm t H=> ?_⟩;have:=D.one d p t;subst this;refine⟨w.heap.size,⟨?_,⟨#[],0,jv _ _,λe P=>by simp at P,λj k r q g=> ?_⟩,λB=>absurd (D.heap.lt B) (Nat.lt_irrefl _),λf N=>absurd (D.heap.low f _ N) (Nat.lt_irrefl _),D.grow.size,λj q g=> ?_⟩⟩
 .rw [n]at hm ⊢;exact vE (by rw [D.mU];exact hm)
 .exfalso;refine no j g (λe=> ?_) ?_
  .subst e;have:=zR q
   grind [vD]
  .obtain⟨o',ty',x',q1,q2⟩:=q;obtain⟨_,_,_,_,_,_,_,z,_⟩:=S.ins j o' ty' x' _ _ q1 q2;exact z
 .exfalso;refine no j g (λe=> ?_) ?_
  .grind [Bn]
  .obtain⟨o',x',q1,q2,z⟩:=Tz q;exact(S.mv j o' x' q1 q2 z).2.2
theorem DI.mvM(D:DI E G ops K s0 c0 w0 h0 pre lm suf s hs val pb L c w a)(p:bT ops.toList=true){i:Nat}{o:Oper}(q:ops.toList[i]? =some o)(V:i∈pre)(t:¬Lst L i)(hd:∀e∈o.after.toList,Region.binds .any e=true->Lst L e.on)
  (hm:dOK s.m o.dst) {x:Operand} (l:o.op= .move x) (Y:mI x=true) (hv:val i=none):∃u P,(execOp a.eval o).run E.P w= .ok (.value u) P/\DI E G ops K s0 c0 w0 h0 pre lm suf s hs val pb (L.setIfInBounds i true) c P (a.put o.dst u):=by
 have S:=D.ms;obtain⟨rfl,n,m,f,H⟩:=S.mv i o x q l Y;have Q:i<L.size:=by rw [D.size];grind
 have T:Bn ops.toList i=true:=by grind [Bn]
 have O:=mR D.closed H (λo' X=>by simp_all);obtain⟨b,M⟩:=D.mp m f O;have J:∀j r u,gslot ops.toList j=some r->j≠i->(a.put o.dst u).tmps[r]? =a.tmps[r]? :=λj r u g B=>oI (λd hd e=>kQ p ((bA q).trans hd) g (Ne.symm B) e)
 have I:∀ {m},qA ops.toList m=true->m≠i:=λh e=>by grind [qA]
 have N:∀ {j k r},oH ops.toList j k r->j≠i:=λh e=>by
  subst e;have:=zR h;grind [vD]
 refine⟨.map (some b),w,by simp [execOp,l,zT M.slot],D.Jz p q V hd hm (.refl _ _ _) D.heap rfl (λv h=>by simp_all) λm' R hl=> ?_⟩;obtain⟨W,C,Z,U,e3⟩:=M.obj;refine⟨b,⟨by rw [J m _ _ (S.gD f) (I f)];exact M.slot,⟨W,C,Z,λe he=> ?_,λj k r g y=> ?_⟩,M.no,M.nk,M.ge,λj g y=> ?_⟩⟩
 .obtain⟨j,k,r,z,A,F,q4⟩:=U e he;exact⟨j,k,r,z,(aY Q).2 (.inr A),F,by rw [oI (λd hd e=>t (qW D.closed (S.reads z ((bA q).trans (hd.trans (congrArg some e)))) A))];exact q4⟩
 .have hl2:=((aY Q).1 y).resolve_left (N g);obtain⟨e,z,A,F⟩:=e3 j k r g hl2;exact⟨e,z,A,by rw [oI (λd hd e=>t (qW D.closed (S.reads g ((bA q).trans (hd.trans (congrArg some e)))) hl2))];exact F⟩
 .rw [n]at hm ⊢;exact vE (by rw [D.mU];exact hm)
theorem DI.lkM(D:DI E G ops K s0 c0 w0 h0 pre lm suf s hs val pb L c w a)(J:bT ops.toList=true){i:Nat}{o:Oper}(ho:ops.toList[i]? =some o)(hp:i∈pre)(U:¬Lst L i)(hd:∀e∈o.after.toList,Region.binds .any e=true->Lst L e.on)
  (hm:dOK s.m o.dst) {t:Slots} (A:qO E c w t s.h a) {ty:TypeId} {x:Operand} {q:Nat} {ok:Bool} (g:o.op= .lookup ty x (.tmp q) ok) (hv:zM E ops.toList o.op t (λv=>val i=v)):∃u Z,(execOp a.eval o).run E.P w= .ok (.value u) Z/\DI E G ops K s0 c0 w0 h0 pre lm suf s hs val pb (L.setIfInBounds i true) c Z (a.put o.dst u):=by
 have S:=D.ms;obtain⟨rfl,rfl,_,V,⟨m,O,P⟩,⟨mv,C,F⟩,z⟩:=S.lk i o ty x _ ok ho g;have T:∀ {j},Reach ops.toList i j->Lst L j:=λh=>mR D.closed h (λo' a4=>by simp_all)
 obtain⟨b,M⟩:=D.mp m O (T P);have hE:=M.mv mv C (T F);rw [g]at hv;obtain⟨f,n,hq,hg⟩:=hv;obtain⟨uq,a1,Y⟩:=A.slot q _ hq;have:=iA Y;subst this;obtain⟨es,a3,e1,e2,e3⟩:=M.obj;obtain⟨u,a0,y⟩:=N8 V e1 (k:=n) (λe X=>by grind);have hb:∃l,u= .bool l/\val i=some (.c (.d true (.bool l))):=by
  rcases Ej hg with⟨R,I⟩ | ⟨r,f',l,R,I,g3⟩
  .refine⟨false,?_,R⟩;rcases y with⟨y,_⟩ | ⟨e,X,hk,_⟩
   .exact y
   .exfalso;obtain⟨j,k,r,N,_,d,_⟩:=e2 e X;rw [hk]at d;injection d with _ d;subst d;exact I r (TF N)
  .refine⟨l,?_,g3⟩;obtain⟨j,W⟩:=aed R;obtain⟨e,X,hk,hr⟩:=e3 j n r W (T (z j (zR W)));obtain⟨ur,a5,B⟩:=A.slot r _ I;have:=jJ B;subst this;rcases y with⟨_,y⟩ | ⟨e',Q,H,a2⟩
   .simp_all
   .obtain⟨j',k',r',N,_,d,q4⟩:=e2 e' Q;rw [H]at d;injection d with _ d;subst d;obtain⟨_,q5⟩:=Ei S.nd N W;simp_all
 obtain⟨l,rfl,p⟩:=hb;refine⟨.bool l,w,by simp_all [execOp,zT],D.listed J ho hp U (by rw [g];rfl) hd hm (.refl _ _ _) D.heap rfl λv h=> ?_⟩;rw [p]at h;cases h;exact .c _ _ (.d _ _ _ (.bool _))
theorem DI.apy(D:DI E G ops K s0 c0 w0 h0 pre lm suf s hs val pb L c w a)(a3:bT ops.toList=true){i:Nat}{o:Oper}(U:ops.toList[i]? =some o)(hp:i∈pre)(b2:¬Lst L i)(hd:∀e∈o.after.toList,Region.binds .any e=true->Lst L e.on)
  (hm:dOK s.m o.dst) {t:Slots} (A:qO E c w t s.h a) {ty:TypeId} {x k v:Operand} (I:o.op= .insert ty x k v) (hv:zM E ops.toList o.op t (λv=>val i=v)):∃w',(execOp a.eval o).run E.P w= .ok .skip w'/\DI E G ops K s0 c0 w0 h0 pre lm suf s hs val pb (L.setIfInBounds i true) c w' a:=by
 have S:=D.ms;obtain⟨B,n,r,rfl,rfl,rfl,V,⟨m,a5,Y⟩,_⟩:=S.ins i o ty x k v U I;have hi:i<L.size:=by rw [D.size];grind
 have a0:=mR D.closed Y (λo' a9=>by simp_all);obtain⟨b,M⟩:=D.mp m a5 a0;rw [I]at hv;obtain⟨⟨p,a4⟩,hv⟩:=hv;obtain⟨ur,W,_⟩:=A.slot r _ a4;have own:oH ops.toList i n r:=⟨o,ty,_,U,I⟩;obtain⟨es,z,e1,e2,e3⟩:=M.obj;have P:=N7 V e1 (k:=n) (v:=ur) (λe he=>by grind) (λe he hk=>by
  obtain⟨j,k',r',q1,q2,R,_⟩:=e2 e he;rw [hk]at R;injection R with _ R;subst R;obtain⟨q4,_⟩:=Ei S.nd q1 own;simp_all)
 generalize hw:({w with heap:=w.heap.setIfInBounds b (.map (es.push {key:= .int .i64 n,val:=ur,born:=z}) (z+1))}:World)=w' at P;refine⟨w',?_,?_⟩
 .have h1:=zT M.slot;have h2:=zT W;have T:a.eval (.const (.int .i64 n))= .int .i64 n:=rfl;simp_all [execOp]
 have b0:=lt_of_some e1;have y:∀q,q≠b->w'.heap[q]? =w.heap[q]? :=λq J=>by grind
 have Q:w'.heap[b]? =some (.map (es.push {key:= .int .i64 n,val:=ur,born:=z}) (z+1)):=by grind
 have N:w'.heap.size=w.heap.size:=by subst hw;simp
 have Z:∀ {q:Nat} {vs:Array Value} {Et:TypeId} {fr:Nat×Nat},w.heap[q]? =some (.cells vs Et fr)->q≠b:=λh e=>by simp_all
 have hK:∀f q,c.K f q->w'.heap[q]? =w.heap[q]? :=λf q h=>y q (λe=>by subst e;exact M.nk f h)
 have hO:∀q,eH c s.h q->w'.heap[q]? =w.heap[q]? :=λq h=>y q (λe=>by subst e;exact M.no h)
 have C:World.jD w w':=DX λq c' E' fr h=>⟨c',fr,by grind,rfl⟩
 have H:w'.os=w.os/\w'.tape=w.tape/\w'.output=w.output:=by grind
 have DD:=D.TA (u:=undef) a3 U hp hd hm (c':=c) (w':=w') (λh=>h.mono (.refl c) hK C) (λh1 h2 T=>⟨by grind,h2,T⟩)
  (λg d hg=>by
   obtain⟨h1,u,h2,T⟩:=D.glob g d hg;exact⟨h1,u,by grind [pF],T.mono (λ_ h=>h) (hK false)⟩)
  ⟨D.grow.le,by rw [N];exact D.grow.size,D.grow.stays.trans C,λq F hn=>by rw [y q (λe=>by have:=M.ge;omega)];exact D.grow.kept q F hn,D.grow.xK,D.grow.qx,H.1.trans D.grow.os,H.2.1.trans D.grow.tape,H.2.2.trans D.grow.output⟩
  ⟨λl ob hl=>by
   obtain⟨a1,a2⟩:=D.heap.obj l ob hl;exact⟨a1,a2.mono (.refl c) hK C a1 (λq a7 a6=>hO q ⟨l,ob,hl,a7,a6⟩)⟩,D.heap.inj,D.heap.own,λf q F=>by rw [N];exact D.heap.low f q F,D.heap.sub⟩
  rfl (λv h=>by simp_all) (λm' a8 b3=> ?_)
 .rw [B]at DD;exact DD
 .have hput:a.put o.dst undef=a:=by rw [B];rfl
  rw [hput];refine⟨b,⟨M.slot,⟨_,_,Q,λe he=> ?_,λj k' r' X O=> ?_⟩,M.no,M.nk,M.ge,λj X O=> ?_⟩⟩
  .grind [Array.toList_push,List.mem_singleton,aY]
  .by_cases e:j=i
   .subst e;obtain⟨o',b1,x',q1,q2⟩:=X;simp_all
   grind [aY,Array.toList_push]
  .have J:j≠i:=λe=>by grind [Bn]
   exact M.mv j X (((aY hi).1 O).resolve_left J)
end
end Go.AE
namespace Go.AE
open Go
variable [aD]
section
variable {E:Tab} {G:oG} {ops:Array Oper} {K:St->Prop} {s0:St} {c0:Ctx} {w0:World} {h0:Heap} {pre:List Nat} {lm:Option Nat} {suf:List eF} {s:St} {hs:List Held}
 {val:Nat->Option PV} {pb:Nat->Nat} {L:Array Bool} {c:Ctx} {w:World} {a:Act}
def El(ops:List Oper)(a:List eF):Prop:=∀x b cs r,a=(x,b,cs)::r->bq ops x=2\/bq ops x=3
theorem aee(a:Op):kindOf a<=3:=by unfold kindOf;grind
theorem DI.ame(D:DI E G ops K s0 c0 w0 h0 pre lm suf s hs val pb L c w a)(h:bT ops.toList=true):
  ∃b j VZ m f d,DI E G ops K s0 c0 w0 h0 b j VZ m f d pb L c w a/\El ops.toList VZ:=by
 obtain⟨apz,q,apA,t,o,apB,k,g⟩:=DI.adv h suf D;refine⟨_,_,_,_,_,_,k,λx r cs n e=> ?_⟩;have:=g x r cs n e;subst e;have l:=kR k.chk;have i:ops.toList[x]? =some (ops.toList[x]'l.lt):=List.getElem?_eq_getElem l.lt;have p:=zS i
 grind [aee]
theorem V3{a:List Oper}{x:Nat}{r:List eF}(hn:Cv a (kM (masks a)) x r=true):El a r:=λy b cs c e=>by grind [Cv]
theorem DI.no(D:DI E G ops K s0 c0 w0 h0 pre lm suf s hs val pb L c w a){i:Nat}{o:Oper}(j:ops.toList[i]? =some o)(hd:∀e∈o.after.toList,Region.binds .any e=true->Lst L e.on)
  {q:Nat} (d:q∈suf.map (·.1)) (k:bq ops.toList q=3) (g:kM (masks ops.toList) i q=true):False:=by
 have b:=mR D.closed (kC g) (λl f=>by simp_all);rcases D.only q b with h | h
 .exact TD (anc:=λ_ _=>true) D.chk d h
 .omega
theorem DI.toM(h:bT ops.toList=true){i:Nat}{o:Oper}(k:ops.toList[i]? =some o)(hk:bq ops.toList i=3)(hd:∀e∈o.after.toList,Region.binds .any e=true->Lst L e.on):
  ∀(g:List eF) {pre:List Nat} {v:Option Nat} {s:St} {f:Nat->Option PV} {c:Ctx},DI E G ops K s0 c0 w0 h0 pre v g s hs f pb L c w a->El ops.toList g->i∈g.map (·.1)->
  ∃j u n cs r y d z,DI E G ops K s0 c0 w0 h0 j u ((i,n,cs)::r) y hs d pb L z w a
 | [],_,_,_,_,_,_,_,hq=>by cases hq
 | (x,n,cs)::r,pre,v,s,f,c,D,hh,hq=>by
  have C:=kR D.chk;by_cases e:i=x
  .subst e;exact⟨pre,v,n,cs,r,s,f,c,D⟩
  .have hq':i∈r.map (·.1):=by
    simp only [List.map_cons,List.mem_cons]at hq;exact hq.resolve_left e
   rcases hh x n cs r rfl with m | m
   .have hn:=(C.two m).1;rcases LM hk C.rest hq' hn with b | ⟨q,b,p,t⟩
    .have hl:=mR D.closed (kC b) (λB l=>by rw [k]at l;cases l;exact hd);obtain⟨y,d,z,A⟩:=D.reg h m hl;exact DI.toM h k hk hd r A (V3 hn) hq'
    .exact(D.no k hd (by simp only [List.map_cons,List.mem_cons];exact .inr b) p t).elim
   .rcases Dn ah C.rest hq' with⟨q,b,p,t⟩ | b
    .exact(D.no k hd (by simp only [List.map_cons,List.mem_cons];exact .inr b) p t).elim
    .rw [if_pos m]at b;exact(D.no k hd (by simp) m (b x rfl)).elim
theorem DI.fin(g:bT ops.toList=true)(b:∀i,i<ops.size->Lst L i):∀(l:List eF) {pre:List Nat} {m:Option Nat} {s:St} {f:Nat->Option PV} {c:Ctx},DI E G ops K s0 c0 w0 h0 pre m l s hs f pb L c w a->
  ∃k h,Grow c0 w0 h0 k w h.h/\mQ E h k w a/\K h
 | [],pre,m,s,f,c,D=>by
  refine⟨c,s,D.grow,⟨⟨λr v t=> ?_,D.heap,D.glob⟩,D.cn,D.defers,D.mU⟩,D.run⟩;by_cases e:∃j,gslot ops.toList j=some r
  .obtain⟨j,d⟩:=e;have n:j<ops.size:=by grind [Nat.lt_or_ge,gslot,List.getElem?_eq_none]
   have p:j∈pre:=(D.cov j n).resolve_right (by simp);exact D.s1 j r v d (b j n) p (by rw [<-D.t1 j r d p];exact t)
  .have hno:∀j,gslot ops.toList j≠some r:=λj d=>e ⟨j,d⟩
   exact D.s2 r v (λj d=>absurd d (hno j)) (by rw [<-D.t2 r (λj d=>absurd d (hno j))];exact t)
 | (x,rs,cs)::r,pre,m,s,f,c,D=>by
  have C:=kR D.chk;have q:=b x (by simpa using C.lt);have hk:=(D.only x q).resolve_left C.new;obtain⟨h,o,k,u⟩:=D.reg g hk q;exact DI.fin g b r u
def cnt(n:Nat)(L:Array Bool):Nat:=((List.range n).filter λi=> !L.getD i false).length
theorem filter_lt{p q:Nat->Bool}(b:∀x,q x=true->p x=true){i:Nat}(e:p i=true)(f:q i=false):∀ {l:List Nat},i∈l->(l.filter q).length< (l.filter p).length:=by
 have c:∀l:List Nat,(l.filter q).length<=(l.filter p).length:=by
  intro l
  induction l with
  | nil=>simp
  | cons x l a=>grind
 intro l d
 induction l with
 | nil=>cases d
 | cons x l a=>grind
theorem TG{n:Nat}{L:Array Bool}{i:Nat}(b:i<n)(d:L.size=n)(hn:¬Lst L i):cnt n (L.setIfInBounds i true)<cnt n L:=by
 have a:∀j,Lst (L.setIfInBounds i true) j↔j=i\/Lst L j:=λj=>aY ah
 refine filter_lt (i:=i) (λx c=> ?_) ?_ ?_ (List.mem_range.2 b)
 .simp only [Bool.not_eq_true']at c ⊢;cases hl:L.getD x false with
  | false=>rfl
  | true=>
   have:Lst (L.setIfInBounds i true) x:=(a x).2 (.inr hl)
   grind [Lst]
 all_goals grind [Bool.not_eq_true',absurd,Lst]
theorem Ob(a:aea ops.toList=true)(p:L.size=ops.size)(m:Region.ready .any ops L=[]):∀n i,i<n->i<ops.size->Lst L i:=by
 intro n
 induction n with
 | zero=>intro i h;omega
 | succ n l=>
  intro i f c;by_cases k:Lst L i
  .exact k
  .exfalso;have d:i∈Region.ready .any ops L:=by
    rw [mem_ready];refine⟨?_,ops[i],Array.getElem?_eq_getElem c,λe j o=> ?_⟩
    .grind [Lst,Array.getD_eq_getD_getElem?,Array.getElem?_eq_getElem]
    .unfold aea at a;rw [List.all_eq_true]at a;have b:=a i (List.mem_range.2 (by simpa using c));have g:ops.toList[i]? =some ops[i]:=by simp [c]
     rw [g]at b;simp only [List.all_eq_true,Bool.or_eq_true,Bool.not_eq_true',decide_eq_true_eq]at b;rcases b e (by simpa using j)with h | h
     .simp_all
     .exact l e.on ah ah
   simp_all
theorem aef(hE:aH E)(hG:qz E G)(n:bT ops.toList=true)(a6:aea ops.toList=true)(a9:∀(i:Nat) (o:Oper) (ty:TypeId) (d:Nat),ops.toList[i]? =some o->o.op= .alloc ty->o.dst=some d->d<s0.m/\∃y,E.ty ty=some y){Q:Exit->St->Prop}(hK:K=Q .normal):∀(B:Nat) (L:Array Bool) (a:Act) (w:World),
  cnt ops.size L<=B->(∃pre T m s X J Z c,DI E G ops K s0 c0 w0 h0 pre T m s X J Z L c w a/\El ops.toList m)->wpAny E.P .any ops (x9 E c0 w0 h0 Q) B L a w:=by
 have fin:∀(L:Array Bool) (a:Act) (w:World),(∃pre T m s X J Z c,DI E G ops K s0 c0 w0 h0 pre T m s X J Z L c w a/\El ops.toList m)->(∀i,i<ops.size->Lst L i)->x9 E c0 w0 h0 Q .normal a w:=by
  rintro L a w ⟨pre,T,m,s,X,J,Z,c,D,_⟩ Y;obtain⟨c',s',h1,h2,h3⟩:=D.fin n Y m;exact⟨c',s',h1,h2,by simp_all⟩
 intro B
 induction B with
 | zero=>
  intro L a w hc hD;have Y:∀i,i<ops.size->Lst L i:=λi hi=>by
   by_cases hl:Lst L i
   .exact hl
   .obtain⟨pre,T,m,s,X,J,Z,c,D,_⟩:=hD;have:=TG hi D.size hl;omega
  refine⟨?_,fin L a w hD Y⟩;cases V:Region.ready .any ops L with
  | nil=>rfl
  | cons i r=>
   exfalso;have hi:i∈Region.ready .any ops L:=by rw [V];simp
   grind [mem_ready,Array.getElem?_eq_some_iff,Lst,Array.getD_eq_getD_getElem?,Array.getElem?_eq_getElem]
 | succ B ih=>
  intro L a w hc hD;refine⟨λV=> ?_,λi hi=> ?_⟩
  .obtain⟨pre,T,m,s,X,J,Z,c,D,hh⟩:=hD;exact fin L a w ⟨pre,T,m,s,X,J,Z,c,D,hh⟩ (λi hi=>Ob a6 D.size V (i+1) i (Nat.lt_succ_self _) hi)
  .obtain⟨pre,T,m,s,X,J,Z,c,D,hh⟩:=hD;obtain⟨h1,o,h2,a8⟩:=mem_ready.1 hi;have a0:=(Array.getElem?_eq_some_iff.1 h2).1;have z:¬Lst L i:=by grind [Lst,Array.getD_eq_getD_getElem?,Array.getElem?_eq_getElem]
   have M:ops.toList[i]? =some o:=by simpa using h2
   have hd:∀e∈o.after.toList,Region.binds .any e=true->Lst L e.on:=λe he hb=>a8 e (by simpa using he) hb
   have W:cnt ops.size (L.setIfInBounds i true)<=B:=by have:=TG a0 D.size z;omega
   have b9:=zS M;unfold wpOp;simp only [h2];rcases Nat.lt_or_ge 1 (bq ops.toList i)with hk | hk
   .by_cases hk2:bq ops.toList i=2
    ·
     have N:i∉pre:=λN=>z (D.done i N hk)
     have R:i∈m.map (·.1):=(D.cov i a0).resolve_left N;obtain⟨d,a2,hg⟩:∃d,o.dst=some d/\o.guard=none:=by
      have:∀(m:List eF) (pre:List Nat) (T:Option Nat),tY ops.toList (kM (masks ops.toList)) pre T m=true->i∈m.map (·.1)->∃d,o.dst=some d/\o.guard=none:=by
       intro m
       induction m with
       | nil=>simp_all
       | cons x r b1=>
        obtain⟨x,rs,cs⟩:=x;intro pre T b0 R;have C:=kR b0;simp only [List.map_cons,List.mem_cons]at R;rcases R with rfl | R
        .have q1:=(C.two hk2).2;have q2:=(C.guard ah ah).resolve_left (λg=>by simp [Dm,M]at g;omega);simp_all [bA,Option.isSome_iff_exists,zQ]
        .exact b1 _ _ C.rest R
      exact this m pre T D.chk R
     have p:Region.wanted o (yielded ops a.tmps)=true:=by simp [Region.wanted,hg]
     rw [if_pos p];obtain⟨ty,F⟩:∃ty,o.op= .alloc ty:=by
      have a7:kindOf o.op=2:=by omega
      unfold kindOf at a7
      grind
     obtain⟨hm,y,hy⟩:=a9 i o ty d M F a2;obtain⟨w',vs,Et,l,g,H,hb,hz⟩:=GJ hE D.heap o F hy a.eval;refine .inl ?_;unfold Oper.wp;rw [l,Oper.upon_value];exact ih _ _ _ W ⟨_,_,_,_,_,_,_,_,D.made n M N z hd a2 (by rw [D.sm];exact hm) F hy g H hb hz,hh⟩
    ·
     have a1:bq ops.toList i=3:=by
      have:kindOf o.op<=3:=by unfold kindOf;grind
      omega
     have N:i∉pre:=λN=>z (D.done i N hk)
     have R:i∈m.map (·.1):=(D.cov i a0).resolve_left N;obtain⟨a4,b6,rs,cs,r,s',b4,c',D'⟩:=D.toM n M a1 hd m hh R;have C:=kR D'.chk;have l:=D'.run;unfold dW at l;rw [M]at l;obtain⟨hm,l⟩:=l;have h3:kindOf o.op=3:=by omega
     rw [h3]at l;simp only at l;have next:∀a3 s2 amf c2 w2 u,DI E G ops K s0 c0 w0 h0 (i::a4) a3 r s2 X amf Z (L.setIfInBounds i true) c2 w2 (a.put o.dst u)->wpAny E.P .any ops (x9 E c0 w0 h0 Q) B (L.setIfInBounds i true) (a.put o.dst u) w2:=by
      intro a3 s2 amf c2 w2 u D2;obtain⟨apz,b7,apA,s3,b5,apB,D3,b8⟩:=D2.ame n
      grind
     cases hgd:o.guard with
     | none=>
      rw [hgd]at l;simp only at l;have p:Region.wanted o (yielded ops a.tmps)=true:=by simp [Region.wanted,hgd]
      rw [if_pos p];exact .inl (D'.mut hE hG n a1 M hd hm l next)
     | some g=>
      obtain⟨j,O⟩:=g;rw [hgd]at l;simp only at l;cases hdj:gslot ops.toList j with
      | none=>rw [hdj]at l;exact l.elim
      | some d=>
      rw [hdj]at l;simp only [tX]at l;have apC:¬Lst L i:=z;have A:=D'.src M apC hd (D'.rd C.new C.rd) s'.h D'.heap;have skip:dW E G ops.toList r X K (s'.put o.dst (some lZ))->wpAny E.P .any ops (x9 E c0 w0 h0 Q) B (L.setIfInBounds i true) (a.put o.dst undef) w:=λV=>
       next _ _ _ c' w undef (D'.step n a1 M hd hm (h':=s'.h) (k':=s'.k) (.refl _ _ _) D'.heap D'.cn (Jp _ _) (λ_ _ _ _ _ _ _ _ q=>q) V)
      rcases jX l with⟨f,b,U,hT,hF⟩ | ⟨U,hF⟩
      .obtain⟨u,hu,V⟩:=A.slot d _ U;have:=jJ V;subst this;have hw:Region.wanted o (yielded ops a.tmps)=(b==O):=by grind [Region.wanted,rZ]
       by_cases e:b=O
       .rw [if_pos (by simp_all)];exact .inl (D'.mut hE hG n a1 M hd hm (hT e) next)
       simp_all
      .obtain⟨u,hu,V⟩:=A.slot d _ U;have hw:Region.wanted o (yielded ops a.tmps)=false:=by
        have hj:(ops[j]?).bind (·.dst)=some d:=by simpa [gslot]using hdj
        have b3:∀b,u≠ .bool b:=by
         intro b e;subst e;cases V
        grind [Region.wanted,yielded]
       simp_all
   ·
    have N:i∈pre:=by
     rcases D.cov i a0 with h | h
     .exact h
     .obtain⟨q,q1,q2,I⟩:=Ig hk D.chk h hh;exact(D.no M hd q1 q2 I).elim
    obtain⟨o',t,p1,p2,p3,p4⟩:=D.pend i N z;rw [M]at p1;cases p1;have A:=D.src M z hd p3 s.h D.heap;rcases p4 with⟨q1,q2,I⟩ | ⟨q1,q2,I⟩
    .have hmo:Cw o.op=false:=Eh (by rw [q1];decide);rcases LG hE A (ops:=ops) I with⟨hw,u,v,l,a5,U⟩ | ⟨hw,U⟩
     .rw [if_pos hw];refine .inl ?_;unfold Oper.wp;rw [l,Oper.upon_value];exact ih _ _ _ W ⟨_,_,_,_,_,_,_,_,D.listed n M N z hmo hd p2 (.refl _ _ _) D.heap rfl (λv' S=>by simp_all),hh⟩
     .rw [if_neg (by rw [hw];simp)];exact ih _ _ _ W ⟨_,_,_,_,_,_,_,_,D.listed n M N z hmo hd p2 (.refl _ _ _) D.heap rfl (λv' S=>by rw [<-U]at S;cases S;exact Jp _ _),hh⟩
    .have Xr:(∃u w',(execOp a.eval o).run E.P w= .ok (.value u) w'/\∃c',DI E G ops K s0 c0 w0 h0 pre T m s X J Z (L.setIfInBounds i true) c' w' (a.put o.dst u))->Oper.upon E.P o a (wpAny E.P .any ops (x9 E c0 w0 h0 Q) B (L.setIfInBounds i true)) (x9 E c0 w0 h0 Q) ((execOp a.eval o).run E.P w):=by grind [Oper.upon_value]
     by_cases P:su o.op=true
     .have hmo:Cw o.op=false:=by
       cases ho':o.op<;>rw [ho']at P<;>first | rfl | cases P
      have b2:(Region.wanted o (yielded ops a.tmps)=true/\zM E ops.toList o.op t (λv=>J i=v))\/(Region.wanted o (yielded ops a.tmps)=false/\J i=some lZ):=by
       unfold zN at I;cases hgd:o.guard with
       | none=>
        rw [hgd]at I;exact .inl ⟨by simp [Region.wanted,hgd],I⟩
       | some g=>
        obtain⟨j,O⟩:=g;rw [hgd]at I;simp only at I;cases hdj:gslot ops.toList j with
        | none=>rw [hdj]at I;exact I.elim
        | some d=>
        rw [hdj]at I;simp only [tX]at I;rcases jX I with⟨f,b,U,hT,hF⟩ | ⟨U,hF⟩
        .obtain⟨u,hu,V⟩:=A.slot d _ U;have:=jJ V;subst this;have hw:Region.wanted o (yielded ops a.tmps)=(b==O):=by grind [Region.wanted,rZ]
         by_cases e:b=O
         .exact .inl ⟨by simp_all,hT e⟩
         .exact .inr ⟨by simp_all,hF e⟩
        .obtain⟨u,hu,V⟩:=A.slot d _ U;refine .inr ⟨?_,hF⟩;have hj:(ops[j]?).bind (·.dst)=some d:=by simpa [gslot]using hdj
         have b3:∀b,u≠ .bool b:=by
          intro b e;subst e;cases V
         grind [Region.wanted,yielded]
      rcases b2 with⟨p,I⟩ | ⟨hw,U⟩
      .rw [if_pos p];refine .inl ?_;unfold Oper.wp;rw [zP P]at I;obtain⟨u,c',w',v,l,g,H,hn,a5,U⟩:=VP hE A o I;exact Xr ⟨u,w',l,c',D.listed n M N z hmo hd p2 g H hn (λv' S=>by simp_all)⟩
      .rw [if_neg (by rw [hw];simp)];exact ih _ _ _ W ⟨_,_,_,_,_,_,_,_,D.listed n M N z hmo hd p2 (.refl _ _ _) D.heap rfl (λv' S=>by rw [U]at S;cases S;exact Jp _ _),hh⟩
     .have q2:o.guard=none:=q2.resolve_left P;rw [ad8 q2]at I;have p:Region.wanted o (yielded ops a.tmps)=true:=by simp [Region.wanted,q2]
      rw [if_pos p];refine .inl ?_;unfold Oper.wp;cases F:o.op
      case makeMap ty r=>
       rw [F]at I;obtain⟨u,w',l,DD⟩:=D.mkM n M N z hd p2 F I
       grind
      case insert ty x k v=>
       obtain⟨w',l,DD⟩:=D.apy n M N z hd p2 A F I;rw [l,Oper.upon_skip,(D.ms.ins i o ty x k v M F).1];exact ih _ _ _ W ⟨_,_,_,_,_,_,_,_,DD,hh⟩
      case move x=>
       rw [F]at I;obtain⟨u,w',l,DD⟩:=D.mvM n M N z hd p2 F I.1 I.2
       grind
      case lookup ty x q ok=>
       cases q with
       | tmp q=>
        obtain⟨u,w',l,DD⟩:=D.lkM n M N z hd p2 A F I
        grind
       | _=>rw [F]at P;exact absurd rfl P
      all_goals (rw [F]at P;exact absurd rfl P)
end
def Em(E:Tab)(m:Nat):List Oper->Prop
 | []=>True
 | o::r=>(match o.op with | .alloc ty=>dOK m o.dst/\aF (E.ty ty) λ_=>True | _=>True)/\Em E m r
theorem Cx{E:Tab}{m:Nat}:∀ {l:List Oper},Em E m l->∀(i:Nat) (o:Oper) (ty:TypeId) (d:Nat),l[i]? =some o->o.op= .alloc ty->o.dst=some d->d<m/\∃y,E.ty ty=some y
 | [],_,i,o,ty,d,h,_,_=>by simp at h
 | x::r,hl,i,o,ty,d,h,ho,hd=>by
  cases i with
  | zero=>
   simp at h;subst h;have:=hl.1;rw [ho]at this;simp only at this;rw [hd]at this;obtain⟨y,a,_⟩:=aI this.2;exact⟨this.1,y,a⟩
  | succ i=>exact Cx hl.2 i o ty d (by simpa using h) ho hd
def zU(E:Tab)(m:Nat):List Oper->Bool
 | []=>true
 | o::r=>(match o.op with | .alloc ty=>(match o.dst with | some d=>decide (d<m) | none=>true)&& (E.ty ty).isSome | _=>true)&&zU E m r
theorem En{E:Tab}{m:Nat}:∀ {l:List Oper},zU E m l=true->Em E m l
 | [],_=>trivial
 | o::r,h=>by
  unfold zU at h;simp only [Bool.and_eq_true]at h;refine⟨?_,En h.2⟩;have a:=h.1;split
  .rename_i ty ho;rw [ho]at a;simp only [Bool.and_eq_true]at a;refine⟨?_,?_⟩
   .grind [dOK]
   .cases hy:E.ty ty with
    | none=>simp_all
    | some y=>exact trivial
  .exact trivial
def Static(E:Tab)(b:Nat->List eF)(id:Nat)(a:Array Oper)(m:Nat):Prop:=(Jv a.toList (b id)&&zU E m a.toList&&Jy E.P a.toList)=true
def drA(E:Tab)(G:oG)(b:Nat->List eF):afL:=λid a K s=>
 Static E b id a s.m/\dW E G a.toList (b id) [] K s
theorem ahR{E:Tab}(hE:aH E){G:oG}(K:qz E G)(hm:E.P.follows .mixedOrders=true)(k:Nat->List eF):ahN E (drA E G k):=by
 rintro id d Q s M I B c w a A g ⟨hc,l⟩;unfold Static Jv at hc;simp only [Bool.and_eq_true]at hc;obtain⟨⟨⟨⟨⟨n,f⟩,aq5⟩,q⟩,e⟩,p⟩:=hc
 replace e:=En e
 refine wp_region_any hm ?_;have b:∀i,¬Lst (Array.replicate d.size false) i:=λi h=>by
  unfold Lst at h;simp only [Array.getD_eq_getD_getElem?,Array.getElem?_replicate]at h
  grind
 have gd:=Grow.drawn c w s.h (w.drawn+1)
 have D:DI E G d (Q .normal) s M I B [] none (k id) s [] (λ_=>none) (λ_=>0) (Array.replicate d.size false) c {w with drawn:=w.drawn+1} a:={
  run:=l
  chk:=q
  cov:=λi O=>by simp_all
  done:=λi h=>by cases h
  only:=λi h=>absurd h (b i)
  closed:=λi o h=>absurd h (b i)
  size:=by simp
  s1:=λj r v _ h=>absurd h (b j)
  s2:=λr v _ h=>let⟨u,C,y⟩:=A.abs.slot r v h;⟨u,C,y.grow A.abs.heap gd⟩
  t1:=λj r _ h=>by cases h
  t2:=λr _=>rfl
  pend:=λi h=>by cases h
  qX:=λi h=>absurd h (b i)
  dist:=λi j h=>absurd h (b i)
  heap:=A.abs.heap.drawn _
  glob:=A.abs.glob.grow A.abs.heap gd
  grow:=g.trans gd
  cn:=A.n
  defers:=A.defers
  mU:=A.size
  sn:=rfl,sm:=rfl
  ms:=VW p
  mp:=λm _ F=>absurd F (b m)}
 obtain⟨t,L,VZ,N,z,x,J,H⟩:=D.ame f;refine aef hE K f n (Cx e) rfl _ _ _ _ ?_ ⟨_,_,_,_,_,_,_,_,J,H⟩
 grind [cnt,Nat.le_trans,List.length_filter_le]
end Go.AE
namespace Go.TX
open Go Go.AE List
@[ext] structure Ins where
 op:Int
 d:Int
 a:Int
 k:Int
 deriving DecidableEq,Inhabited
structure Form where
 d:Bool
 a:Bool
 most:Int
 words:List ByteArray
 deriving Inhabited
@[ext] structure au where
 dI:Int
 atoms:List Int
 deriving DecidableEq,Inhabited
@[ext] structure Atom where
 kind:Int
 k:Int
 x:List au
 y:List au
 deriving DecidableEq,Inhabited
@[ext] structure IOp where
 kind:Int
 x:Int
 y:Int
 k:Int
 at_:Int
 deriving DecidableEq,Inhabited
@[ext] structure Blk where
 pc:Int
 len:Int
 ops:List IOp
 fin:Int
 x:Int
 y:Int
 k:Int
 deriving DecidableEq,Inhabited
@[ext] structure aC where
 regs:List Int
 pc:Int
 mem:List Int
 save:Int
 aO:Bool
 waits:Bool
 halt:Int
 ins:List Int
 outs:List Int
 count:Int
 deriving DecidableEq,Inhabited
@[ext] structure Ev where
 kind:Int
 at_:Int
 x:List au
 y:List au
 regs:List (List au)
 deriving DecidableEq,Inhabited
@[ext] structure Sym where
 events:List Ev
 regs:List (List au)
 fin:Int
 x:List au
 y:List au
 k:Int
 deriving DecidableEq,Inhabited
@[ext] structure Cac where
 words:List Int
 blk:Blk
 deriving DecidableEq,Inhabited
@[ext] structure Cer where
 base:Blk
 made:Blk
 deriving DecidableEq,Inhabited
@[ext] structure Ask where
 own:Bool
 bytes:List Int
 deriving DecidableEq,Inhabited
@[ext] structure Eng where
 aj:aC
 cache:List Cac
 bC:List Cer
 deriving DecidableEq,Inhabited
inductive Co where
 | i64 | u8 | bool | str | ins | form | mono | poly | atom | tab | iop | blk | aj | ev | sym | cac | cer | ask | eng | ints
 deriving DecidableEq,Inhabited,Repr
inductive Sh where
 | int (k:IntKind) | bool | str | rows (c:Co)
 deriving DecidableEq,Inhabited
abbrev Sh.i:Sh:= .int .i64
def vF:List Sh:=[.i,.i,.rows .iop,.i,.i,.i,.i]
def vG:List Sh:=[.rows .i64,.i,.rows .i64,.i,.bool,.bool,.i,.rows .i64,.rows .i64,.i]
abbrev Co.fields:Co->List Sh
 | .i64=> [.i] | .u8=> [.int .u8] | .bool=> [.bool] | .str=> [.str]
 | .ins=> [.i,.i,.i,.i]
 | .form=> [.bool,.bool,.i,.rows .str]
 | .mono=> [.i,.rows .i64]
 | .poly=> [.rows .mono]
 | .atom=> [.i,.i,.rows .mono,.rows .mono]
 | .tab=> [.rows .atom]
 | .iop=> [.i,.i,.i,.i,.i]
 | .blk=>vF
 | .aj=>vG
 | .ev=> [.i,.i,.rows .mono,.rows .mono,.rows .poly]
 | .sym=> [.rows .ev,.rows .poly,.i,.rows .mono,.rows .mono,.i]
 | .cac=> .rows .i64::vF
 | .cer=>vF++vF
 | .ask=> [.bool,.rows .u8]
 | .eng=>vG++ [.rows .cac,.rows .cer]
 | .ints=> [.rows .i64]
abbrev Co.den:Co->Type
 | .i64=>Int | .u8=>Int | .bool=>Bool | .str=>ByteArray
 | .ins=>Ins | .form=>Form | .mono=>au | .poly=>List au | .atom=>Atom | .tab=>List Atom | .iop=>IOp
 | .blk=>Blk | .aj=>aC | .ev=>Ev | .sym=>Sym | .cac=>Cac | .cer=>Cer | .ask=>Ask | .eng=>Eng | .ints=>List Int
instance (c:Co):Inhabited c.den:=match c with
 | .i64=>inferInstanceAs (Inhabited Int) | .u8=>inferInstanceAs (Inhabited Int) | .bool=>inferInstanceAs (Inhabited Bool) | .str=>inferInstanceAs (Inhabited ByteArray)
 | .ins=>inferInstanceAs (Inhabited Ins) | .form=>inferInstanceAs (Inhabited Form) | .mono=>inferInstanceAs (Inhabited au) | .poly=>inferInstanceAs (Inhabited (List au))
 | .atom=>inferInstanceAs (Inhabited Atom) | .tab=>inferInstanceAs (Inhabited (List Atom)) | .iop=>inferInstanceAs (Inhabited IOp) | .blk=>inferInstanceAs (Inhabited Blk)
 | .aj=>inferInstanceAs (Inhabited aC) | .ev=>inferInstanceAs (Inhabited Ev) | .sym=>inferInstanceAs (Inhabited Sym) | .cac=>inferInstanceAs (Inhabited Cac)
 | .cer=>inferInstanceAs (Inhabited Cer) | .ask=>inferInstanceAs (Inhabited Ask) | .eng=>inferInstanceAs (Inhabited Eng)
 | .ints=>inferInstanceAs (Inhabited (List Int))
inductive LTy where
 | i | b | s | l (c:Co) | x (c:Co)
 deriving DecidableEq,Inhabited
abbrev Sh.lty:Sh->LTy
 | .int _=> .i | .bool=> .b | .str=> .s | .rows c=> .l c
def Co.flat(c:Co):Bool:=c.fields.all λs=>match s with | .rows _=>false | _=>true
abbrev Co.qY(c:Co):List LTy:=c.fields.map Sh.lty
structure Car where
 I:Type
 B:Type
 S:Type
 L:Co->Type
 X:Co->Type
abbrev LT(A:Car):LTy->Type
 | .i=>A.I | .b=>A.B | .s=>A.S | .l c=>A.L c | .x c=>A.X c
abbrev Tup(A:Car):List LTy->Type
 | []=>Unit
 | t::r=>LT A t×Tup A r
inductive LV (A:Car) where
 | i (x:A.I) | b (x:A.B) | s (x:A.S) | l (c:Co) (x:A.L c) | x (c:Co) (v:A.X c)
def amg(A:Car):(t:LTy)->LT A t->LV A
 | .i,x=> .i x | .b,x=> .b x | .s,x=> .s x | .l c,x=> .l c x | .x c,x=> .x c x
def unpack(A:Car):(a:List LTy)->Tup A a->List (LV A)
 | [],_=> []
 | t::r,x=>amg A t x.1::unpack A r x.2
def ahS(A:Car):(t:LTy)->LV A->Option (LT A t)
 | .i,.i x=>some x | .b,.b x=>some x | .s,.s x=>some x
 | .l c,.l c' x=>if h:c'=c then some (h▸x)else none
 | .x c,.x c' x=>if h:c'=c then some (h▸x)else none
 | _,_=>none
def pack(A:Car):(c:List LTy)->List (LV A)->Option (Tup A c)
 | [],[]=>some ()
 | t::r,v::vs=>match ahS A t v with
  | some a=>match pack A r vs with | some b=>some (a,b) | none=>none
  | none=>none
 | _,_=>none
structure Alg extends aA:Car where
 M:Type->Type
 lit:Int->I
 bl:Bool->B
 st:ByteArray->S
 arith:BinOp->IntKind->I->I->I
 cmp:BinOp->I->I->B
 addN:I->I->I
 LP:I->I->I
 neg:IntKind->I->I
 conv:IntKind->I->I
 Oc:I->I->I
 jK:I->I->I
 yU:B->B
 LQ:B->B->B
 orB:B->B->B
 eqB:B->B->B
 eqS:S->S->B
 Od:L .u8->S
 Oe:B->I->I->I
 JA:B->B->B->B
 Og:B->(c:Co)->L c->L c->L c
 V4:B->(c:Co)->X c->X c->X c
 len:(c:Co)->L c->I
 Eo:(c:Co)->L c
 get:(c:Co)->L c->I->X c
 set:(c:Co)->L c->I->X c->L c
 app:(c:Co)->L c->L c->L c
 sub:(c:Co)->L c->I->I->L c
 rep:(c:Co)->I->X c->L c
 lst:(c:Co)->List (X c)->L c
 glob:Nat->(c:Co)->L c
 fI:(c:Co)->Nat->X c->I
 fB:(c:Co)->Nat->X c->B
 fS:(c:Co)->Nat->X c->S
 fL:(c:Co)->Nat->(c':Co)->X c->L c'
 mkX:(c:Co)->Tup aA c.qY->X c
 eqX:(c:Co)->X c->X c->B
 ret:(ts:List LTy)->Tup aA ts->M (Tup aA ts)
 uF: {ρ:Type}->(ts:List LTy)->Tup aA ts->(Tup aA ts->M ρ)->M ρ
 fail: {ρ:Type}->M ρ
 chk: {ρ:Type}->B->M ρ->M ρ
 cond: {ρ:Type}->B->M ρ->M ρ->M ρ
 bind: {ρ:Type}->(ts:List LTy)->M (Tup aA ts)->(Tup aA ts->M ρ)->M ρ
 vH: {ρ:Type}->(ts:List LTy)->M (Sum (Tup aA ts) ρ)->(Tup aA ts->M ρ)->M ρ
 inl: {ρ:Type}->(ts:List LTy)->Tup aA ts->M (Sum (Tup aA ts) ρ)
 inr: {ρ:Type}->(ts:List LTy)->M ρ->M (Sum (Tup aA ts) ρ)
 iter: {ρ:Type}->(ts:List LTy)->(Tup aA ts->M (Sum (Tup aA ts) ρ))->Tup aA ts->M ρ
inductive Leaf (A:Car) where
 | int (k:IntKind) (x:A.I) | bool (x:A.B) | str (x:A.S) | rows (c:Co) (xs:A.L c)
inductive TC (A:Car) where
 | d (f:Bool) (x:Leaf A)
 | nil
 | clip (f:Bool) (c:Co) (xs:A.L c)
 | own (l:Nat)
 | os (l:Nat) (lo n:A.I)
 | pb (l sz j:Nat)
 | pr (l:Nat) (i:A.I) (j:Nat)
 | rp (f:Bool) (c:Co) (xs:A.L c) (i:A.I) (j:Nat)
 | gp (g:Nat) (c:Co)
 | fn (g:FuncId) (caps:List (Nat×Nat))
 | np
inductive TV (A:Car) where
 | c (x:TC A)
 | agg (cs:List (TC A))
 | sv (f:Bool) (c:Co) (x:A.X c)
 | tup (vs:List (TV A))
inductive dL (A:Car) where
 | box (v:TV A)
 | rows (f:Bool) (c:Co) (xs:A.L c)
 | gone (c:Co) (n:A.I)
structure XT where
 ty:TypeId->Option TY
 co:TypeId->Option Co
 glob:Nat->Option Co
 ieq:TypeId->Option Co
section
variable (A:Alg)
def ahT(c:Co)(j:Nat)(x:A.X c):Sh->Leaf A.aA
 | .int k=> .int k (A.fI c j x)
 | .bool=> .bool (A.fB c j x)
 | .str=> .str (A.fS c j x)
 | .rows a=> .rows a (A.fL c j a x)
def fD(c:Co)(x:A.X c):Nat->List Sh->List (Leaf A.aA)
 | _,[]=> []
 | j,s::r=>ahT A c j x s::fD c x (j+1) r
def qC(f:Bool)(c:Co)(x:A.X c):List (TC A.aA):=(fD A c x 0 c.fields).map (.d f)
def bU:TV A.aA->List (TC A.aA)
 | .c x=> [x]
 | .agg cs=>cs
 | .sv f c x=>qC A f c x
 | .tup _=> []
def Leaf.lv{A:Car}:Leaf A->LV A
 | .int _ x=> .i x | .bool x=> .b x | .str x=> .s x | .rows c a=> .l c a
def Leaf.flag{A:Car}(f:Bool):Leaf A->Bool
 | .rows _ _=>f | _=>true
def jG{A:Car}:Leaf A->Sh
 | .int k _=> .int k | .bool _=> .bool | .str _=> .str | .rows c _=> .rows c
def eO(h:List (dL A.aA))(s:Sh)(x:TC A.aA):Option (Bool×LV A.aA×List Nat):=
 match x with
 | .d f y=>if jG y=s then some (y.flag f,y.lv,[])else none
 | .nil=>match s with | .rows c=>some (true,.l c (A.Eo c),[]) | _=>none
 | .clip f c a=>if Sh.rows c=s then some (f,.l c a,[])else none
 | .own l=>match h[l]? with | some (.rows f c a)=>if Sh.rows c=s then some (f,.l c a,[l])else none | _=>none
 | _=>none
def aL(h:List (dL A.aA)):List Sh->List (TC A.aA)->Option (Bool×List (LV A.aA)×List Nat)
 | [],[]=>some (true,[],[])
 | s::r,x::xs=>match eO A h s x with
  | some (f,y,l)=>match aL h r xs with | some (g,ys,ls)=>if l.all λi=> !ls.contains i then some (f&&g,y::ys,l++ls)else none | none=>none
  | none=>none
 | _,_=>none
def toX(h:List (dL A.aA))(c:Co)(v:TV A.aA):Option (Bool×A.X c×List Nat):=
 match v with
 | .sv f a x=>if e:a=c then some (f || c.flat,e▸x,[])else none
 | .tup _=>none
 | v=>match aL A h c.fields (bU A v)with
  | some (f,ys,ls)=>match pack A.aA c.qY ys with | some t=>some (f,A.mkX c t,ls) | none=>none
  | none=>none
def bE:TV A.aA->Bool | .agg _ | .sv .. =>true | _=>false
def kD(y:TY)(j:Nat)(a:TV A.aA)(cs:List (TC A.aA)):Option (TV A.aA):=
 if y.desc.agg then
  (if(j==0)&& (y.size==cs.length)&&bE A a then some a else if Nat.ble (j+y.size) cs.length then some (.agg ((cs.drop j).take y.size))else none)
 else match cs[j]? with
  | some x=>(match y.desc with
   | .int k=>(match x with | .d _ (.int k' _)=>if k=k' then some (.c x)else none | _=>none)
   | _=>some (.c x))
  | none=>none
abbrev PR:=Option (List A.B×TV A.aA)
def okV(v:TV A.aA):PR A:=some ([],v)
def okI(k:IntKind)(x:A.I):PR A:=some ([],.c (.d true (.int k x)))
def okB(x:A.B):PR A:=some ([],.c (.d true (.bool x)))
def LU(v:Option (TV A.aA)):PR A:=match v with | some v=>some ([],v) | none=>none
def evX(X:XT)(e:Nat->Option (TV A.aA)):Operand->Option (TV A.aA)
 | .tmp i=>e i
 | .const v=>match v with
  | .int k n=>some (.c (.d true (.int k (A.lit n))))
  | .bool b=>some (.c (.d true (.bool (A.bl b))))
  | .string s=>some (.c (.d true (.str (A.st s))))
  | .slice none 0 0=>some (.c .nil)
  | .pointer none=>some (.c .np)
  | _=>none
 | .global g=>match X.glob g with | some c=>some (.c (.gp g c)) | none=>none
 | .func f=>some (.c (.fn f []))
def LW(X:XT)(h:List (dL A.aA))(ty:TypeId)(p:TV A.aA):PR A:=
 match X.ty ty with
 | none=>none
 | some y=>match p with
  | .c (.pb l sz j)=>match h[l]? with
   | some (.box v)=>if(bU A v).length==sz then LU A (kD A y j v (bU A v))else none
   | _=>none
  | .c (.pr l i j)=>match h[l]? with
   | some (.rows f c xs)=>match kD A y j (.sv f c (A.get c xs i)) (qC A f c (A.get c xs i))with
    | some v=>some ([A.cmp .leq (A.lit 0) i,A.cmp .lss i (A.len c xs)],v)
    | none=>none
   | _=>none
  | .c (.rp f c xs i j)=>LU A (kD A y j (.sv f c (A.get c xs i)) (qC A f c (A.get c xs i)))
  | .c (.gp g c)=>match y.desc with | .slice _=>some ([],.c (.d false (.rows c (A.glob g c)))) | _=>none
  | _=>none
def JB:BinOp->Bool
 | .add | .sub | .mul | .quo | .rem | .and | .or | .xor | .shl | .shr=>true
 | _=>false
def Xt:BinOp->Bool
 | .eql | .neq | .lss | .leq | .gtr | .geq=>true
 | _=>false
def ahU(X:XT)(d:BinOp)(ty:TypeId)(a b:TV A.aA):PR A:=
  match a,b with
  | .c (.d _ (.int k x)),.c (.d _ (.int k' y))=>
    if k=k'\/Tm d=true then
      (match d with
       | .quo | .rem=>some ([A.cmp .neq y (A.lit 0)],.c (.d true (.int k (A.arith d k x y))))
       | .shl | .shr=>some ([A.cmp .leq (A.lit 0) y],.c (.d true (.int k (A.arith d k x y))))
       | d=>if JB d then okI A k (A.arith d k x y)else if Xt d then okB A (A.cmp d x y)else none)
    else none
  | .c (.d _ (.bool x)),.c (.d _ (.bool y))=>match X.ty ty with
    | some z=>match z.desc with
      | .bool=>(match d with | .eql=>okB A (A.eqB x y) | .neq=>okB A (A.yU (A.eqB x y)) | _=>none)
      | _=>none
    | none=>none
  | .c (.d _ (.str x)),.c (.d _ (.str y))=>match X.ty ty with
    | some z=>match z.desc with
      | .str=>(match d with | .eql=>okB A (A.eqS x y) | .neq=>okB A (A.yU (A.eqS x y)) | _=>none)
      | _=>none
    | none=>none
  | .c (.os _ _ m),.c .nil=>match X.ty ty with
    | some z=>match z.desc with
      | .slice _=>(match d with
        | .eql=>some ([A.cmp .neq m (A.lit 0)],.c (.d true (.bool (A.bl false))))
        | .neq=>some ([A.cmp .neq m (A.lit 0)],.c (.d true (.bool (A.bl true))))
        | _=>none)
      | _=>none
    | none=>none
  | .c (.d _ (.rows c xs)),.c .nil=>match X.ty ty with
    | some z=>match z.desc with
      | .slice _=>(match d with
        | .eql=>some ([A.cmp .neq (A.len c xs) (A.lit 0)],.c (.d true (.bool (A.bl false))))
        | .neq=>some ([A.cmp .neq (A.len c xs) (A.lit 0)],.c (.d true (.bool (A.bl true))))
        | _=>none)
      | _=>none
    | none=>none
  | v,w=>match X.ieq ty with
    | some c=>match toX A [] c v,toX A [] c w with
      | some (_,x,_),some (_,y,_)=>(match d with | .eql=>okB A (A.eqX c x y) | .neq=>okB A (A.yU (A.eqX c x y)) | _=>none)
      | _,_=>none
    | none=>none
def ahV(h:List (dL A.aA))(v:TV A.aA):TV A.aA:=match v with
 | .c (.own l)=>(match h[l]? with | some (.rows _ c xs)=> .c (.os l (A.lit 0) (A.len c xs)) | _=>v)
 | _=>v
def unX(c:UnOp)(a:TV A.aA):PR A:=
 match c,a with
 | .not,.c (.d _ (.bool b))=>okB A (A.yU b)
 | .neg,.c (.d _ (.int k n))=>okI A k (A.neg k n)
 | _,_=>none
def Xu(X:XT)(src b:TypeId)(a:TV A.aA):PR A:=
 match X.ty src,X.ty b with
 | some z,some y=>match y.desc,a with
  | .int k,.c (.d _ (.int _ n))=>okI A k (A.conv k n)
  | .str,.c (.d _ (.rows .u8 xs))=>(match z.desc with
   | .slice e=>(match X.ty e with
    | some t=>(match t.desc with | .int .u8=>some ([],.c (.d true (.str (A.Od xs)))) | _=>none)
    | none=>none)
   | _=>none)
  | _,_=>none
 | _,_=>none
def yV(X:XT)(s:TypeId)(a:TV A.aA)(f:Nat):PR A:=
 match X.ty s with
 | some y=>match y.desc with
  | .struct b=>match b[f]? with
   | some (off,ft)=>match X.ty ft with
    | some z=>if z.size==0 then none else(match a with
     | .c (.pb l sz j)=>okV A (.c (.pb l sz (j+off)))
     | .c (.pr l i j)=>okV A (.c (.pr l i (j+off)))
     | .c (.rp g c xs i j)=>okV A (.c (.rp g c xs i (j+off)))
     | _=>none)
    | none=>none
   | none=>none
  | _=>none
 | none=>none
def Oh(X:XT)(s:TypeId)(a:TV A.aA)(f:Nat):PR A:=
 match X.ty s with
 | some y=>match y.desc with
  | .struct b=>match b[f]? with
   | some (off,ft)=>match X.ty ft with
    | some z=>if bE A a&&Nat.ble (off+z.size) (bU A a).length then
      (if z.desc.agg then okV A (.agg (((bU A a).drop off).take z.size))else match (bU A a)[off]? with | some x=>okV A (.c x) | none=>none)
     else none
    | none=>none
   | none=>none
  | _=>none
 | none=>none
def kS(X:XT)(e:TypeId)(c:Co):Bool:=match X.ty e with | some z=>z.size==c.fields.length | none=>false
def yX(X:XT)(h:List (dL A.aA))(t:TypeId)(a b:TV A.aA):PR A:=
 match X.ty t with
 | some y=>match y.desc,b with
  | .slice e,.c (.d _ (.int _ i))=>match a with
   | .c (.d f (.rows c xs))=>if kS X e c then some ([A.cmp .leq (A.lit 0) i,A.cmp .lss i (A.len c xs)],.c (.rp f c xs i 0))else none
   | .c (.clip f c xs)=>if kS X e c then some ([A.cmp .leq (A.lit 0) i,A.cmp .lss i (A.len c xs)],.c (.rp f c xs i 0))else none
   | .c (.own l)=>match h[l]? with
    | some (.rows _ c xs)=>if kS X e c then some ([A.cmp .leq (A.lit 0) i,A.cmp .lss i (A.len c xs)],.c (.pr l i 0))else none
    | _=>none
   | .c (.os l lo n)=>match h[l]? with
    | some (.rows _ c _)=>if kS X e c then some ([A.cmp .leq (A.lit 0) i,A.cmp .lss i n,A.cmp .leq (A.lit 0) lo],.c (.pr l (A.addN lo i) 0))else none
    | _=>none
   | _=>none
  | _,_=>none
 | none=>none
def ahW(h:List (dL A.aA))(a:TV A.aA):PR A:=
 match a with
 | .c (.d _ (.rows c xs))=>okI A .i64 (A.len c xs)
 | .c (.clip _ c xs)=>okI A .i64 (A.len c xs)
 | .c (.own l)=>match h[l]? with | some (.rows _ c xs)=>okI A .i64 (A.len c xs) | _=>none
 | .c (.os _ _ n)=>okI A .i64 n
 | .c .nil=>okI A .i64 (A.lit 0)
 | _=>none
def ahX(a:TV A.aA):PR A:=
 match a with
 | .c (.pb l s j)=>okV A (.c (.pb l s j))
 | .c (.pr l i j)=>okV A (.c (.pr l i j))
 | .c (.rp f c xs i j)=>okV A (.c (.rp f c xs i j))
 | _=>none
def JC(X:XT)(e:Nat->Option (TV A.aA))(o:Option Operand)(a:A.I):Option A.I:=
 match o with
 | none=>some a
 | some x=>match evX A X e x with | some (.c (.d _ (.int _ n)))=>some n | _=>none
def Oi(X:XT)(e:Nat->Option (TV A.aA))(h:List (dL A.aA))(ty:TypeId)(a:TV A.aA)(lo d b:Option Operand):PR A:=
 match X.ty ty with
 | some y=>match y.desc with
  | .slice g=>match JC A X e lo (A.lit 0)with
   | some l=>match a with
    | .c (.d f (.rows c xs))=>if kS X g c then
      match JC A X e d (A.len c xs)with
      | some r=>match b with
       | none=>some ([A.cmp .leq (A.lit 0) l,A.cmp .leq l r,A.cmp .leq r (A.len c xs)],.c (.d f (.rows c (A.sub c xs l r))))
       | some _=>match JC A X e b (A.lit 0)with
        | some m=>if d.isSome then some ([A.cmp .leq (A.lit 0) l,A.cmp .leq l r,A.cmp .leq r (A.len c xs),A.cmp .eql m r],.c (.clip f c (A.sub c xs l r)))else none
        | none=>none
      | none=>none
     else none
    | .c (.own w)=>match h[w]?,b with
     | some (.rows _ c xs),none=>if kS X g c then
       match JC A X e d (A.len c xs)with
       | some r=>some ([A.cmp .leq (A.lit 0) l,A.cmp .leq l r,A.cmp .leq r (A.len c xs)],.c (.os w l (A.LP r l)))
       | none=>none
      else none
     | _,_=>none
    | .c (.os w l0 n)=>match h[w]?,b with
     | some (.rows _ c _),none=>if kS X g c then
       match JC A X e d n with
       | some r=>some ([A.cmp .leq (A.lit 0) l,A.cmp .leq l r,A.cmp .leq r n,A.cmp .leq (A.lit 0) l0],.c (.os w (A.addN l0 l) (A.LP r l)))
       | none=>none
      else none
     | _,_=>none
    | .c .nil=>match b,JC A X e d (A.lit 0)with
     | none,some r=>if(X.ty g).isSome then some ([A.cmp .eql l (A.lit 0),A.cmp .eql r (A.lit 0)],.c .nil)else none
     | _,_=>none
    | _=>none
   | none=>none
  | _=>none
 | none=>none
def LY(X:XT)(e:Nat->Option (TV A.aA))(a:List (Nat×TypeId)):List (Nat×Operand)->List (TC A.aA)->Option (List (TC A.aA))
 | [],cs=>some cs
 | (i,x)::rest,cs=>match a[i]? with
  | some (off,ft)=>match X.ty ft,evX A X e x with
   | some z,some v=>if((bU A v).length==z.size)&& !(z.size==0)&&Nat.ble (off+z.size) cs.length then
    LY X e a rest (cs.take off++bU A v++cs.drop (off+(bU A v).length))else none
   | _,_=>none
  | none=>none
def TH:Cell->Option (TC A.aA)
 | .d true (.int k n)=>some (.d true (.int k (A.lit n)))
 | .d true (.bool b)=>some (.d true (.bool (A.bl b)))
 | .d true (.str s)=>some (.d true (.str (A.st s)))
 | .nil=>some .nil
 | .np=>some .np
 | _=>none
def jY:List Cell->Option (List (TC A.aA))
 | []=>some []
 | x::r=>match TH A x,jY r with | some y,some ys=>some (y::ys) | _,_=>none
def Oj(X:XT)(e:Nat->Option (TV A.aA))(ty:TypeId)(a:List (Nat×Operand)):PR A:=
 match X.ty ty with
 | some y=>match y.desc with
  | .struct b=>if b.all λc=>(X.ty c.2).isSome then
    match jY A y.zero with
    | some z=>match LY A X e b a z with | some cs=>okV A (.agg cs) | none=>none
    | none=>none
   else none
  | _=>none
 | none=>none
def LZ(X:XT)(e:Nat->Option (TV A.aA)):List Operand->Option (List (Nat×Nat))
 | []=>some []
 | x::r=>match evX A X e x with
  | some (.c (.pb l sz 0))=>match LZ X e r with | some a=>some ((l,sz)::a) | none=>none
  | _=>none
def Xv(b:A.B):TC A.aA->TC A.aA->Option (TC A.aA)
 | .d f (.int k x),.d g (.int k' y)=>if k=k' then some (.d (f&&g) (.int k (A.Oe b x y)))else none
 | .d f (.bool x),.d g (.bool y)=>some (.d (f&&g) (.bool (A.JA b x y)))
 | .d f (.rows c xs),.d g (.rows c' ys)=>if e:c'=c then some (.d (f&&g) (.rows c (A.Og b c xs (e▸ys))))else none
 | _,_=>none
def Ol(b:A.B):TV A.aA->TV A.aA->Option (TV A.aA)
 | .c x,.c y=>match Xv A b x y with | some z=>some (.c z) | none=>none
 | _,_=>none
def Ep(X:XT)(e:Nat->Option (TV A.aA))(h:List (dL A.aA))(c:Call):PR A:=
 match c.callee with
 | .builtin .len=>match c.args.toList,c.argTypes.toList with
  | [x],[ty]=>match X.ty ty,evX A X e x with
   | some y,some v=>(match y.desc with | .slice _=>ahW A h v | _=>none)
   | _,_=>none
  | _,_=>none
 | .builtin .cap=>match c.args.toList,c.argTypes.toList with
  | [x],[ty]=>match X.ty ty,evX A X e x with
   | some y,some (.c .nil)=>(match y.desc with | .slice _=>okI A .i64 (A.lit 0) | _=>none)
   | _,_=>none
  | _,_=>none
 | .builtin .min=>match c.args.toList with
  | [x,y]=>match evX A X e x,evX A X e y with
   | some (.c (.d _ (.int k m))),some (.c (.d _ (.int _ n)))=>okI A k (A.Oc m n)
   | _,_=>none
  | _=>none
 | .builtin .max=>match c.args.toList with
  | [x,y]=>match evX A X e x,evX A X e y with
   | some (.c (.d _ (.int k m))),some (.c (.d _ (.int _ n)))=>okI A k (A.jK m n)
   | _,_=>none
  | _=>none
 | _=>none
def zV(v:Option (TV A.aA))(K:TV A.aA->PR A):PR A:=match v with | some v=>K v | none=>none
def TI(X:XT)(e:Nat->Option (TV A.aA))(h:List (dL A.aA))(k:Op):PR A:=
 match k with
 | .move x | .assign x=>zV A (evX A X e x) λv=>okV A v
 | .load ty p=>zV A (evX A X e p) λv=>LW A X h ty v
 | .nilCheck x=>zV A (evX A X e x) λv=>ahX A v
 | .binOp k ty x y _=>zV A (evX A X e x) λa=>zV A (evX A X e y) λb=>ahU A X k ty (ahV A h a) b
 | .unOp k _ x=>zV A (evX A X e x) λa=>unX A k a
 | .convert s d x=>zV A (evX A X e x) λa=>Xu A X s d a
 | .fieldAddr s x f=>zV A (evX A X e x) λa=>yV A X s a f
 | .field s x f=>zV A (evX A X e x) λa=>Oh A X s a f
 | .indexAddr ty x i=>zV A (evX A X e x) λa=>zV A (evX A X e i) λb=>yX A X h ty a b
 | .slice ty x r q n=>zV A (evX A X e x) λa=>Oi A X e h ty a r q n
 | .extract x i=>zV A (evX A X e x) λa=>match a with | .tup m=>LU A m[i]? | _=>none
 | .build ty j=>Oj A X e ty j.toList
 | .makeFunc o first l=>match o with
  | .func g=>if first.toList.isEmpty then(match LZ A X e l.toList with | some cs=>okV A (.c (.fn g cs)) | none=>none)else none
  | _=>none
 | .call c=>Ep A X e h c
 | _=>none
structure HR where
 chk:List A.B
 v:TV A.aA
 h:List (dL A.aA)
 touched:List Nat
def bg(h:List (dL A.aA)):List Nat->List (dL A.aA)
 | []=>h
 | l::r=>bg (match h[l]? with | some (.rows _ c xs)=>h.set l (.gone c (A.len c xs)) | _=>h) r
def jK:Int:=1073741824
def zdB(l:List Cell):Bool:=l.all λx=>match x with | .d _ _=>true | .nil=>true | _=>false
def ahY(h:List (dL A.aA))(c:Co)(a:Option (A.X c))(v:TV A.aA):Option (Bool×A.L c):=
 match v with
 | .c (.d _ (.int _ n))=>match a with | some x=>some (true,A.rep c n x) | none=>none
 | .c .nil=>some (true,A.Eo c)
 | .c (.d f (.rows c' xs))=>if e:c'=c then some (f,e▸xs)else none
 | .c (.clip f c' xs)=>if e:c'=c then some (f,e▸xs)else none
 | .c (.own l)=>match h[l]? with | some (.rows f c' xs)=>if e:c'=c then some (f,e▸xs)else none | _=>none
 | .c (.os l lo n)=>match h[l]? with | some (.rows f c' xs)=>if e:c'=c then some (f,e▸A.sub c' xs lo (A.addN lo n))else none | _=>none
 | _=>none
def kU(h:List (dL A.aA))(v:TV A.aA):List A.B:=
 match v with
 | .c (.os l lo n)=>match h[l]? with
  | some (.rows _ c' xs)=> [A.cmp .leq (A.lit 0) lo,A.cmp .leq (A.lit 0) n,A.cmp .leq (A.addN lo n) (A.len c' xs)]
  | _=> []
 | .c (.d _ (.int _ n))=> [A.cmp .leq (A.lit 0) n,A.cmp .leq n (A.lit jK)]
 | _=> []
def Er(X:XT)(a:TypeId)(v:TV A.aA):Bool:=
 match X.ty a with
 | some y2=>(match y2.desc,v with | .slice _,.c (.d _ (.int ..))=>false | .slice _,.c _=>true | .int _,.c (.d _ (.int ..))=>true | _,_=>false)
 | none=>false
def TJ(z:TY)(c:Co):Option (A.X c):=
 match jY A z.zero with
 | some a=>(match toX A [] c (.agg a)with | some (_,x,_)=>some x | none=>none)
 | none=>none
def JD(X:XT)(h:List (dL A.aA))(ty d:TypeId)(a b:TV A.aA):Option (HR A):=
 match X.ty ty with
 | some y=>match y.desc with
  | .slice e=>match X.ty e,X.co e with
   | some z,some c=>if kS X e c&& !(z.size==0)&&Nat.ble z.bytes 1024&&Er A X d b&&zdB z.zero then
     match (ahY A h c (TJ A z c) b).map λp=>(p.1 || c.flat,p.2)with
     | some (f2,ds)=>match a with
      | .c .nil=>some ⟨kU A h b++ [A.cmp .leq (A.len c ds) (A.lit jK)],.c (.own h.length),h++ [.rows f2 c ds],[]⟩
      | .c (.own l)=>match h[l]? with
       | some (.rows f1 c1 xs)=>if q:c1=c then
         some ⟨kU A h b++ [A.cmp .leq (A.addN (A.len c1 xs) (A.len c ds)) (A.lit jK)],.c (.own h.length),
          h.set l (.gone c1 (A.len c1 xs))++ [.rows (f1&&f2) c (A.app c (q▸xs) ds)],[l]⟩
        else none
       | _=>none
      | .c (.os l lo n)=>match h[l]? with
       | some (.rows f1 c1 xs)=>if q:c1=c then
         some ⟨kU A h b++ [A.cmp .eql lo (A.lit 0),A.cmp .leq (A.lit 0) n,A.cmp .leq n (A.len c1 xs),A.cmp .leq (A.addN n (A.len c ds)) (A.lit jK)],.c (.own h.length),
          h.set l (.gone c1 (A.len c1 xs))++ [.rows (f1&&f2) c (A.app c (A.sub c (q▸xs) (A.lit 0) n) ds)],[l]⟩
        else none
       | _=>none
      | .c (.clip f1 c1 xs)=>if q:c1=c then
        some ⟨kU A h b++ [A.orB (A.cmp .lss (A.lit 0) (A.len c ds)) (A.cmp .eql (A.len c1 xs) (A.lit 0)),A.cmp .leq (A.addN (A.len c1 xs) (A.len c ds)) (A.lit jK)],.c (.own h.length),
         h++ [.rows (f1&&f2) c (A.app c (q▸xs) ds)],[]⟩
       else none
      | _=>none
     | none=>none
    else none
   | _,_=>none
  | _=>none
 | none=>none
def sD(X:XT)(e:Nat->Option (TV A.aA))(c:Co):List (dL A.aA)->List (Nat×Operand)->Option (Bool×List (A.X c)×List (dL A.aA)×List Nat)
 | h,[]=>some (true,[],h,[])
 | h,(_,x)::r=>match evX A X e x with
  | some v=>match toX A h c v with
   | some (f,y,ls)=>match sD X e c (bg A h ls) r with
    | some (g,ys,h',ls')=>some (f&&g,y::ys,h',ls++ls')
    | none=>none
   | none=>none
  | none=>none
def L6(c:Co)(cs:List (LV A.aA))(j:Nat)(a:List (LV A.aA)):Option (A.X c):=
 match pack A.aA c.qY (cs.take j++a++cs.drop (j+a.length))with | some t=>some (A.mkX c t) | none=>none
def vI(X:XT)(h:List (dL A.aA))(ty:TypeId)(p v:TV A.aA):Option (HR A):=
 match X.ty ty with
 | some y=>if(y.size==0) || !((bU A v).length==y.size)then none else match p with
  | .c (.pb l sz j)=>match h[l]? with
   | some (.box w)=>
    if(j==0)&& ((bU A v).length==(bU A w).length)&& ((bU A w).length==sz)&& (bE A v==bE A w)then some ⟨[],.tup [],h.set l (.box v),[l]⟩
    else if Nat.ble (j+(bU A v).length) (bU A w).length&& ((bU A w).length==sz)then
     some ⟨[],.tup [],h.set l (.box (.agg ((bU A w).take j++bU A v++(bU A w).drop (j+(bU A v).length)))),[l]⟩
    else none
   | _=>none
  | .c (.pr l i j)=>match h[l]? with
   | some (.rows f c xs)=>
    if(j==0)&& (y.size==c.fields.length)then
     match toX A h c v with
     | some (g,x,ls)=>if ls.contains l then none else
      some ⟨[A.cmp .leq (A.lit 0) i,A.cmp .lss i (A.len c xs)],.tup [],(bg A h ls).set l (.rows (f&&g) c (A.set c xs i x)),l::ls⟩
     | none=>none
    else match aL A h ((c.fields.drop j).take y.size) (bU A v)with
     | some (g,ys,ls)=>if ls.contains l || !Nat.ble (j+y.size) c.fields.length then none else
      match L6 A c ((fD A c (A.get c xs i) 0 c.fields).map Leaf.lv) j ys with
      | some z=>some ⟨[A.cmp .leq (A.lit 0) i,A.cmp .lss i (A.len c xs)],.tup [],(bg A h ls).set l (.rows (f&&g) c (A.set c xs i z)),l::ls⟩
      | none=>none
     | none=>none
   | _=>none
  | _=>none
 | none=>none
def Om(X:XT)(h:List (dL A.aA))(ty:TypeId)(v:TV A.aA):Option (HR A):=
 match X.ty ty with
 | some y=>match y.desc with
  | .slice e=>match X.ty e,X.co e with
   | some z,some c=>match jY A z.zero with
    | some a=>match toX A [] c (.agg a)with
     | some (_,x,_)=>if kS X e c&& !(z.size==0)then
      match v with
      | .c .nil=>some ⟨[],.tup [],h,[]⟩
      | .c (.own l)=>match h[l]? with
       | some (.rows f c1 xs)=>if c1=c then some ⟨[],.tup [],h.set l (.rows f c (A.rep c (A.len c1 xs) x)),[l]⟩else none
       | _=>none
      | .c (.os l lo n)=>match h[l]? with
       | some (.rows f c1 xs)=>if q:c1=c then
         some ⟨kU A h v,.tup [],h.set l (.rows f c (A.app c (A.app c (A.sub c (q▸xs) (A.lit 0) lo) (A.rep c n x)) (A.sub c (q▸xs) (A.addN lo n) (A.len c1 xs)))),[l]⟩
        else none
       | _=>none
      | _=>none
      else none
     | none=>none
    | none=>none
   | _,_=>none
  | _=>none
 | none=>none
def Es(X:XT)(e:Nat->Option (TV A.aA))(h:List (dL A.aA))(j:Op):Option (HR A):=
 match j with
 | .alloc ty=>match X.ty ty with
  | some y=>match jY A y.zero with
   | some [x]=>if y.desc.agg then some ⟨[],.c (.pb h.length y.size 0),h++ [.box (.agg [x])],[]⟩else some ⟨[],.c (.pb h.length y.size 0),h++ [.box (.c x)],[]⟩
   | some (x::r)=>some ⟨[],.c (.pb h.length y.size 0),h++ [.box (.agg (x::r))],[]⟩
   | _=>none
  | none=>none
 | .box _ x=>match evX A X e x with
  | some v=>if(bU A v).length==0 then none else some ⟨[],.c (.pb h.length (bU A v).length 0),h++ [.box v],[]⟩
  | none=>none
 | .buildSlice ty len d=>match X.ty ty with
  | some y=>match y.desc with
   | .slice g=>match X.ty g,X.co g with
    | some z,some c=>if kS X g c&& !(z.size==0)&& (d.toList.map (·.1)==range len)&&Nat.ble (len*z.size) 16777216 then
      match sD A X e c h d.toList with
      | some (f,xs,h',ls)=>some ⟨[],.c (.own h'.length),h'++ [.rows f c (A.lst c xs)],ls⟩
      | none=>none
     else none
    | _,_=>none
   | _=>none
  | none=>none
 | .makeSlice ty l k=>match X.ty ty with
  | some y=>match y.desc with
   | .slice g=>match X.ty g,X.co g with
    | some z,some c=>match jY A z.zero,evX A X e l,evX A X e k with
     | some zs,some (.c (.d _ (.int _ m))),some (.c (.d _ (.int _ m')))=>match toX A [] c (.agg zs)with
      | some (_,x,_)=>if kS X g c&& !(z.size==0)&&Nat.ble z.bytes 1024 then
        some ⟨[A.cmp .eql m' m,A.cmp .leq (A.lit 0) m,A.cmp .leq m (A.lit jK)],.c (.own h.length),h++ [.rows true c (A.rep c m x)],[]⟩
       else none
      | none=>none
     | _,_,_=>none
    | _,_=>none
   | _=>none
  | none=>none
 | .store ty p x=>match evX A X e p,evX A X e x with
  | some pv,some v=>vI A X h ty pv v
  | _,_=>none
 | .call c=>match c.callee,c.args.toList,c.argTypes.toList with
  | .builtin .append,[a,b],[ty,t2]=>match evX A X e a,evX A X e b with
   | some i,some bv=>JD A X h ty t2 i bv
   | _,_=>none
  | .builtin .clear,[a],[ty]=>match evX A X e a with
   | some i=>Om A X h ty i
   | none=>none
  | _,_,_=>none
 | _=>none
end
end Go.TX
