/- Part 1 of a proof: what the last part needs. No condition. -/
import Derived.WalkKit
import Derived.WalkSpells
import Derived.Laws.BytesArg
import Derived.Deep.LoopGhost
import Derived.Orders
import Derived.MapKept
set_option maxHeartbeats 1000000
set_option linter.all false
set_option linter.unusedSectionVars false
set_option linter.unusedVariables false
set_option linter.unusedSimpArgs false
def ah{p : Prop}(h : p := by omega) : p := h
namespace Go.AE
open Go
inductive D where
 | int (k:IntKind) (n:Int)
 | bool (b:Bool)
 | str (s:ByteArray)
 | rows (sz:Nat) (es:List (List D))
 deriving Inhabited
def gd(es:List (List D))(i j:Nat):D:=(es.getD i []).getD j default
def D.bY:D->Bool | .rows _ _=>false | _=>true
inductive dJ (K:Nat->Prop) (w:World):Value->D->Prop
 | int (k:IntKind) (n:Int):dJ K w (.int k n) (.int k n)
 | bool (b:Bool):dJ K w (.bool b) (.bool b)
 | str (s:ByteArray):dJ K w (.string s) (.str s)
 | none (a:Option Addr) (cap sz:Nat):dJ K w (.slice a 0 cap) (.rows sz [])
 | rows (b off cap sz n:Nat) (es:List (List D)) (u:Nat->Nat->Value):K b->n=es.length->n<=cap->
  (∀i j,i<es.length->j<sz->w.cell? ⟨b,off+i*sz+j,none⟩=some (u i j))->
  (∀i,i<es.length->(es.getD i []).length=sz)->
  (∀i j,i<es.length->j<sz->dJ K w (u i j) (gd es i j))->
  dJ K w (.slice (some ⟨b,off,none⟩) n cap) (.rows sz es)
theorem qL{w w':World}{b:Nat}(h:w'.heap[b]? =w.heap[b]?)(o:Nat):w'.cell? ⟨b,o,none⟩=w.cell? ⟨b,o,none⟩:=by grind [World.cell?]
def dJ.mono{K K':Nat->Prop}{w w':World}(hK:∀b,K b->K' b)(hw:∀b,K b->w'.heap[b]? =w.heap[b]?){v:Value}{x:D}
  (h:dJ K w v x):dJ K' w' v x:=by
 induction h with
 | int k n=>exact .int k n
 | bool b=>exact .bool b
 | str s=>exact .str s
 | none a cap sz=>exact .none a cap sz
 | rows b off cap sz n es u hb hn hcap hc hl _ ih=>
  exact .rows b off cap sz n es u (hK b hb) hn hcap (λi j hi hj=>by grind [qL]) hl ih
def dJ.bY{K:Nat->Prop}(K':Nat->Prop){w:World}{v:Value}{x:D}(hs:x.bY=true)(h:dJ K w v x):dJ K' w v x:=by
 cases h with
 | int k n=>exact .int k n
 | bool b=>exact .bool b
 | str s=>exact .str s
 | none=>simp [D.bY]at hs
 | rows=>simp [D.bY]at hs
def dJ.mono'{K K':Nat->Prop}{w:World}(hK:∀b,K b->K' b){v:Value}{x:D}(h:dJ K w v x):dJ K' w v x:=
 h.mono hK (λ_ _=>rfl)
structure Ctx where
 K:Bool->Nat->Prop
 ν:Nat->Option (Nat×Nat)
 n:Nat
def Ctx.μ(c:Ctx)(l:Nat):Option Nat:=(c.ν l).map (·.1)
def iA{c:Ctx}{l b o:Nat}(h:c.ν l=some (b,o)):c.μ l=some b:=by simp [Ctx.μ,h]
def aia{c:Ctx}{l:Nat}(h:c.ν l=none):c.μ l=none:=by simp [Ctx.μ,h]
def adw{c:Ctx}{l b:Nat}(h:c.μ l=some b):∃o,c.ν l=some (b,o):=by
 unfold Ctx.μ at h;cases e:c.ν l with
 | none=>rw [e]at h;cases h
 | some p=>rw [e]at h;cases h;exact⟨p.2,rfl⟩
inductive Cell where
 | d (f:Bool) (x:D)
 | nil
 | clip (f:Bool) (sz:Nat) (es:List (List D))
 | os (l sz lo n:Nat)
 | ptr (l sz i j:Nat)
 | rp (f:Bool) (sz:Nat) (es:List (List D)) (i j:Nat)
 | fn (g:FuncId) (cap:List Cell)
 | np
 deriving Inhabited
def World.room(w:World)(b m:Nat):Prop:=∃c E fr,w.heap[b]? =some (.cells c E fr)/\m<=c.size
inductive bB (c:Ctx) (w:World):Value->Cell->Prop
 | d (f:Bool) (v:Value) (x:D):dJ (c.K f) w v x->bB c w v (.d f x)
 | nil:bB c w (.slice none 0 0) .nil
 | clip (f:Bool) (a:Option Addr) (n sz:Nat) (es:List (List D)):dJ (c.K f) w (.slice a n n) (.rows sz es)->bB c w (.slice a n n) (.clip f sz es)
 | os0 (a:Option Addr) (l sz:Nat):l<c.n->c.μ l=none->bB c w (.slice a 0 0) (.os l sz 0 0)
 | osE (a:Option Addr) (l sz lo b:Nat):l<c.n->c.μ l=some b->bB c w (.slice a 0 0) (.os l sz lo 0)
 | os (l sz lo n cap b o:Nat):l<c.n->c.ν l=some (b,o)->n<=cap->World.room w b (o+(lo+cap)*sz)->bB c w (.slice (some ⟨b,o+lo*sz,none⟩) n cap) (.os l sz lo n)
 | ptr (l sz i j b o:Nat):l<c.n->c.ν l=some (b,o)->bB c w (.pointer (some ⟨b,o+(i*sz+j),none⟩)) (.ptr l sz i j)
 | rp (f:Bool) (b off sz:Nat) (es:List (List D)) (i j:Nat) (u:Nat->Nat->Value):c.K f b->
  (∀i j,i<es.length->j<sz->w.cell? ⟨b,off+i*sz+j,none⟩=some (u i j))->
  (∀i,i<es.length->(es.getD i []).length=sz)->
  (∀i j,i<es.length->j<sz->dJ (c.K f) w (u i j) (gd es i j))->
  i<es.length->bB c w (.pointer (some ⟨b,off+i*sz+j,none⟩)) (.rp f sz es i j)
 | fn (g:FuncId) (vs:List Value) (cap:List Cell):vs.length=cap.length->(∀i,i<cap.length->bB c w (vs.getD i undef) (cap.getD i default))->
  bB c w (.func (.func g) #[] vs.toArray) (.fn g cap)
 | np:bB c w (.pointer none) .np
structure CLe(c c':Ctx):Prop where
 K:∀f b,c.K f b->c'.K f b
 n:c.n<=c'.n
 ν:∀l,l<c.n->c'.ν l=c.ν l
def CLe.μ{c c':Ctx}(h:CLe c c')(l:Nat)(hl:l<c.n):c'.μ l=c.μ l:=by simp [Ctx.μ,h.ν l hl]
def CLe.refl(c:Ctx):CLe c c:=⟨λ_ _ h=>h,Nat.le_refl _,λ_ _=>rfl⟩
def CLe.trans{a b c:Ctx}(h:CLe a b)(k:CLe b c):CLe a c:=
 ⟨λf x hx=>k.K f x (h.K f x hx),Nat.le_trans h.n k.n,λl hl=>(k.ν l (Nat.lt_of_lt_of_le hl h.n)).trans (h.ν l hl)⟩
def World.jV(w w':World):Prop:=∀b m,World.room w b m->World.room w' b m
def bB.mono{c c':Ctx}{w w':World}(hc:CLe c c')(hw:∀f b,c.K f b->w'.heap[b]? =w.heap[b]?)(hs:World.jV w w'){v:Value}{x:Cell}
  (h:bB c w v x):bB c' w' v x:=by
 induction h with
 | d f v x h=>exact .d f v x (h.mono (hc.K f) (hw f))
 | nil=>exact .nil
 | clip f a n sz es h=>exact .clip f a n sz es (h.mono (hc.K f) (hw f))
 | os0 a l sz hl hm=>exact .os0 a l sz (Nat.lt_of_lt_of_le hl hc.n) ((hc.μ l hl).trans hm)
 | osE a l sz lo b hl hm=>exact .osE a l sz lo b (Nat.lt_of_lt_of_le hl hc.n) ((hc.μ l hl).trans hm)
 | os l sz lo n cap b o hl hm hn hr=>exact .os l sz lo n cap b o (Nat.lt_of_lt_of_le hl hc.n) ((hc.ν l hl).trans hm) hn (hs b _ hr)
 | ptr l sz i j b o hl hm=>exact .ptr l sz i j b o (Nat.lt_of_lt_of_le hl hc.n) ((hc.ν l hl).trans hm)
 | rp f b off sz es i j u hb h1 h2 h3 h4=>
  exact .rp f b off sz es i j u (hc.K f b hb) (λi j hi hj=>by grind [qL]) h2
   (λi j hi hj=>(h3 i j hi hj).mono (hc.K f) (hw f)) h4
 | fn g vs cap hl _ ih=>grind [fn]
 | np=>exact .np
inductive F2 {α β:Type} (R:α->β->Prop):List α->List β->Prop
 | nil:F2 R [] []
 | cons {a:α} {b:β} {l:List α} {m:List β}:R a b->F2 R l m->F2 R (a::l) (b::m)
inductive PV where
 | c (x:Cell)
 | agg (cs:List Cell)
 | tup (vs:List PV)
 deriving Inhabited
inductive bg (c:Ctx) (w:World):Value->PV->Prop
 | c (v:Value) (x:Cell):bB c w v x->bg c w v (.c x)
 | agg (vs:List Value) (cs:List Cell):F2 (bB c w) vs cs->bg c w (.agg vs.toArray) (.agg cs)
 | tup (vs:List Value) (ps:List PV):vs.length=ps.length->(∀i,i<ps.length->bg c w (vs.getD i undef) (ps.getD i default))->bg c w (.tuple vs.toArray) (.tup ps)
def F2.mono{α β:Type}{R S:α->β->Prop}(h:∀a b,R a b->S a b){l:List α}{m:List β}(hl:F2 R l m):F2 S l m:=by
 induction hl with
 | nil=>exact .nil
 | cons h1 _ ih=>grind [cons]
def F2.length{α β:Type}{R:α->β->Prop}{l:List α}{m:List β}(hl:F2 R l m):l.length=m.length:=by
 induction hl with
 | nil=>rfl
 | cons _ _ ih=>simp [ih]
def F2.get{α β:Type}{R:α->β->Prop}{l:List α}{m:List β}(hl:F2 R l m){i:Nat}{b:β}(h:m[i]? =some b):∃a,l[i]? =some a/\R a b:=by
 induction hl generalizing i with
 | nil=>simp at h
 | @cons a b' l m h1 _ ih=>grind
def F2.append{α β:Type}{R:α->β->Prop}{l l':List α}{m m':List β}(hl:F2 R l m)(hl':F2 R l' m'):F2 R (l++l') (m++m'):=by
 induction hl with
 | nil=>exact hl'
 | cons h1 _ ih=>exact .cons h1 ih
def F2.take{α β:Type}{R:α->β->Prop}{l:List α}{m:List β}(hl:F2 R l m)(n:Nat):F2 R (l.take n) (m.take n):=by
 induction hl generalizing n with
 | nil=>simp;exact .nil
 | cons h1 _ ih=>cases n with
  | zero=>exact .nil
  | succ n=>exact .cons h1 (ih n)
def F2.drop{α β:Type}{R:α->β->Prop}{l:List α}{m:List β}(hl:F2 R l m)(n:Nat):F2 R (l.drop n) (m.drop n):=by
 induction hl generalizing n with
 | nil=>simp;exact .nil
 | cons h1 h2 ih=>cases n with
  | zero=>exact .cons h1 h2
  | succ n=>exact ih n
def F2.sZ{α β:Type}{R:α->β->Prop}:∀ {l:List α} {m:List β},l.length=m.length->(∀(i:Nat) (a:α) (b:β),l[i]? =some a->m[i]? =some b->R a b)->F2 R l m
 | [],[],_,_=> .nil
 | a::l,b::m,h,k=> .cons (k 0 a b rfl rfl) (F2.sZ (by simpa using h) λi x y hx hy=>k (i+1) x y (by simpa using hx) (by simpa using hy))
def bg.mono{c c':Ctx}{w w':World}(hc:CLe c c')(hw:∀f b,c.K f b->w'.heap[b]? =w.heap[b]?)(hs:World.jV w w'){v:Value}{x:PV}
  (h:bg c w v x):bg c' w' v x:=by
 induction h with
 | c v x h=>exact .c v x (h.mono hc hw hs)
 | agg vs cs h=>exact .agg vs cs (F2.mono (λ_ _ h=>h.mono hc hw hs) h)
 | tup vs ps hl _ ih=>exact .tup vs ps hl ih
inductive dx where
 | box (cs:List Cell)
 | rows (f:Bool) (sz:Nat) (es:List (List D))
 | grid (sz:Nat) (cs:List (List Cell))
 | gone
 deriving Inhabited
abbrev Heap:=List (Nat×dx)
def look:Heap->Nat->Option dx
 | [],_=>none
 | (m,o)::t,l=>if m=l then some o else look t l
def dA(K:Nat->Prop)(w:World)(cells:Array Value)(sz:Nat)(es:List (List D)):Prop:=
 ∀i,i<es.length->(es.getD i []).length=sz/\∀j,j<sz->∃v,cells[i*sz+j]? =some v/\dJ K w v (gd es i j)
def from_(cells:Array Value)(o:Nat):Array Value:=(cells.toList.drop o).toArray
def mG{cells:Array Value}{o i:Nat}:(from_ cells o)[i]? =cells[o+i]? :=by simp [from_]
@[simp] theorem Iz{cells:Array Value}:from_ cells 0=cells:=by simp [from_]
def gc(cs:List (List Cell))(i j:Nat):Cell:=(cs.getD i []).getD j default
def gW(c:Ctx)(w:World)(cells:Array Value)(sz:Nat)(cs:List (List Cell)):Prop:=
 ∀i,i<cs.length->(cs.getD i []).length=sz/\∀j,j<sz->∃v,cells[i*sz+j]? =some v/\bB c w v (gc cs i j)
def gq(c:Ctx)(w:World)(l:Nat):dx->Prop
 | .box cs=>∃b vs E,c.ν l=some (b,0)/\w.heap[b]? =some (.cells vs.toArray E (0,0))/\F2 (bB c w) vs cs
 | .rows f sz es=>match c.ν l with
  | none=>es=[]
  | some (b,o)=>∃cells E,w.heap[b]? =some (.cells cells E (0,0))/\dA (c.K f) w (from_ cells o) sz es
 | .grid sz cs=>match c.ν l with
  | none=>cs=[]
  | some (b,o)=>∃cells E,w.heap[b]? =some (.cells cells E (0,0))/\gW c w (from_ cells o) sz cs
 | .gone=>True
def dx.live:dx->Prop
 | .gone=>False
 | _=>True
def fU(c:Ctx)(h:Heap)(b:Nat):Prop:=∃l o,look h l=some o/\o.live/\c.μ l=some b
structure bC(c:Ctx)(w:World)(h:Heap):Prop where
 obj:∀l o,look h l=some o->l<c.n/\gq c w l o
 inj:∀l o l' o' b,look h l=some o->o.live->look h l'=some o'->o'.live->c.μ l=some b->c.μ l'=some b->l=l'
 own:∀f b,fU c h b->¬c.K f b
 low:∀f b,c.K f b->b<w.heap.size
 sub:∀b,c.K true b->c.K false b
structure Grow(c:Ctx)(w:World)(h:Heap)(c':Ctx)(w':World)(h':Heap):Prop where
 le:CLe c c'
 size:w.heap.size<=w'.heap.size
 stays:World.jV w w'
 kept:∀b,b<w.heap.size->¬fU c h b->w'.heap[b]? =w.heap[b]?
 uT:∀f b,c'.K f b->c.K f b\/w.heap.size<=b\/fU c h b
 oV:∀b,fU c' h' b->fU c h b\/w.heap.size<=b
 os:w'.os=w.os
 tape:w'.tape=w.tape
 output:w'.output=w.output
def World.jV.refl(w:World):World.jV w w:=λ_ _ h=>h
def World.jV.trans{a b c:World}(h:World.jV a b)(k:World.jV b c):World.jV a c:=λx m hx=>k x m (h x m hx)
def Grow.refl(c:Ctx)(w:World)(h:Heap):Grow c w h c w h:=
 ⟨.refl c,Nat.le_refl _,.refl w,λ_ _ _=>rfl,λ_ _ h=> .inl h,λ_ h=> .inl h,rfl,rfl,rfl⟩
def Grow.trans{c c' c'':Ctx}{w w' w'':World}{h h' h'':Heap}(g:Grow c w h c' w' h')(k:Grow c' w' h' c'' w'' h''):Grow c w h c'' w'' h'' where
 le:=g.le.trans k.le
 size:=Nat.le_trans g.size k.size
 stays:=g.stays.trans k.stays
 kept:=λb hb hn=>by
  rw [k.kept b (Nat.lt_of_lt_of_le hb g.size) (λho=>(g.oV b ho).elim hn (λhge=>by omega)),g.kept b hb hn]
 uT:=λf b hb=>by
  rcases k.uT f b hb with h1 | h1 | h1
  .exact g.uT f b h1
  .exact .inr (.inl (Nat.le_trans g.size h1))
  .rcases g.oV b h1 with h2 | h2
   all_goals simp_all
 oV:=λb hb=>by
  rcases k.oV b hb with h1 | h1
  .exact g.oV b h1
  .exact .inr (Nat.le_trans g.size h1)
 os:=k.os.trans g.os
 tape:=k.tape.trans g.tape
 output:=k.output.trans g.output
def Grow.ro{c c':Ctx}{w w':World}{h h':Heap}(g:Grow c w h c' w' h')(r:bC c w h)(f:Bool)(b:Nat)(hb:c.K f b):w'.heap[b]? =w.heap[b]? :=
 g.kept b (r.low f b hb) (λho=>r.own f b ho hb)
def bB.grow{c c':Ctx}{w w':World}{h h':Heap}(r:bC c w h)(g:Grow c w h c' w' h'){v:Value}{x:Cell}(hv:bB c w v x):bB c' w' v x:=
 hv.mono g.le (g.ro r) g.stays
def bg.grow{c c':Ctx}{w w':World}{h h':Heap}(r:bC c w h)(g:Grow c w h c' w' h'){v:Value}{x:PV}(hv:bg c w v x):bg c' w' v x:=
 hv.mono g.le (g.ro r) g.stays
inductive iU where
 | scalar
 | str
 | bool
 | int (k:IntKind)
 | slice (e:TypeId)
 | struct (fs:List (Nat×TypeId))
 deriving Inhabited
structure TY where
 desc:iU
 size:Nat
 bytes:Nat
 zero:List Cell
 deriving Inhabited
def iU.agg:iU->Bool | .struct _=>true | _=>false
structure Tab where
 P:Program
 ty:TypeId->Option TY
 glob:Nat->Option D
 ieq:TypeId->Option Nat
def JE(P:Program)(t:TypeId):iU->Prop
 | .scalar=>∃d,P.underlying t=some d/\(∀fs,d≠ .struct fs)/\(∀n e,d≠ .array n e)
 | .str=>P.underlying t=some .string
 | .bool=>P.underlying t=some .bool
 | .int k=>P.underlying t=some (.int k)
 | .slice e=>P.underlying t=some (.slice e)
 | .struct fs=>∃F:Array Field,P.underlying t=some (.struct F)/\F.toList.map (λf=>(f.offset,f.type))=fs
structure V5(P:Program)(t:TypeId)(y:TY):Prop where
 info:∃i,P.info? t=some i/\i.size=y.size/\i.bytes=y.bytes/\∃z,i.zero=some z/\∀c w,F2 (bB c w) z.cells.toList y.zero
 desc:JE P t y.desc
 len:y.zero.length=y.size
structure aR(E:Tab):Prop where
 ty:∀t y,E.ty t=some y->V5 E.P t y
 ieq:∀t n,E.ieq t=some n->∀(xs ys:List Int),xs.length=n->ys.length=n->∀w,
  (Op.equal t (.agg (xs.map (Value.int .i64)).toArray) (.agg (ys.map (Value.int .i64)).toArray)).run E.P w= .ok (xs==ys) w/\
  (eqGuard .eql t (.tmp 0) (.tmp 0) (.agg (xs.map (Value.int .i64)).toArray) (.agg (ys.map (Value.int .i64)).toArray)).run E.P w= .ok () w
def oH(E:Tab)(c:Ctx)(w:World):Prop:=∀g d,E.glob g=some d->c.K false g/\∃u,w.cell? ⟨g,0,none⟩=some u/\dJ (c.K false) w u d
abbrev Slots:=List (Nat×Option PV)
def aA:Slots->Nat->Option PV
 | [],_=>none
 | (m,o)::t,l=>if m=l then o else aA t l
def ci(k:IntKind)(n:Int):PV:= .c (.d true (.int k n))
def cb(b:Bool):PV:= .c (.d true (.bool b))
def ic(k:IntKind)(n:Int):List D:=[.int k n]
def fD:Value->Option PV
 | .int k n=>some (ci k n)
 | .bool b=>some (cb b)
 | .string s=>some (.c (.d true (.str s)))
 | .slice none 0 0=>some (.c .nil)
 | .pointer none=>some (.c .np)
 | _=>none
def ev(E:Tab)(t:Slots):Operand->Option PV
 | .tmp i=>aA t i
 | .const v=>fD v
 | .global g=>(E.glob g).map λd=> .c (.rp false 1 [[d]] 0 0)
 | .func f=>some (.c (.fn f []))
def aB(o:Option PV)(K:PV->Prop):Prop:=match o with | some v=>K v | none=>False
def xG(b:Bool)(x y:Prop):Prop:=(b=true->x)/\(b=false->y)
def aD(o:Option TY)(K:TY->Prop):Prop:=match o with | some v=>K v | none=>False
def bZ(o:Option dx)(K:dx->Prop):Prop:=match o with | some v=>K v | none=>False
def nD(o:Option Cell)(K:Cell->Prop):Prop:=match o with | some v=>K v | none=>False
def uU:PV->(Bool->Prop)->Prop
 | .c (.d _ (.bool b)),K=>K b
 | _,_=>False
def jQ:PV->(IntKind->Int->Prop)->Prop
 | .c (.d _ (.int k n)),K=>K k n
 | _,_=>False
def nW(f:Bool)(y:TY)(row:List D)(j:Nat)(K:PV->Prop):Prop:=
 match y.desc with
 | .struct _=>j+y.size<=row.length/\K (.agg (((row.drop j).take y.size).map (.d f)))
 | .int k=>(∃n,row[j]? =some (.int k n))/\∀n,row[j]? =some (.int k n)->K (ci k n)
 | _=>j<row.length/\∀x,row[j]? =some x->K (.c (.d f x))
def D8(f:Bool)(es:List (List D))(i j:Nat)(y:TY)(K:PV->Prop):Prop:=
 i<es.length/\∀row,es[i]? =some row->nW f y row j K
def mh(cs:List Cell)(j:Nat)(y:TY)(K:PV->Prop):Prop:=
 if y.desc.agg then j+y.size<=cs.length/\K (.agg ((cs.drop j).take y.size))else nD cs[j]? λx=>K (.c x)
def D9(o:Option (List Cell))(K:List Cell->Prop):Prop:=match o with | some v=>K v | none=>False
def qG(o:dx)(sz i j:Nat)(y:TY)(K:PV->Prop):Prop:=
 match o with
 | .box cs=>i=0/\mh cs j y K
 | .rows f sz' es=>sz=sz'/\D8 f es i j y K
 | .grid sz' cs=>sz=sz'/\D9 cs[i]? λrow=>mh row j y K
 | .gone=>False
def fF(E:Tab)(h:Heap)(ty:TypeId)(p:PV)(K:PV->Prop):Prop:=
 aD (E.ty ty) λy=>
  match p with
  | .c (.ptr l sz i j)=>bZ (look h l) λo=>qG o sz i j y K
  | .c (.rp f _ es i j)=>D8 f es i j y K
  | _=>False
def Me:PV->(PV->Prop)->Prop
 | .c (.ptr l s i j),K=>K (.c (.ptr l s i j))
 | .c (.rp f s es i j),K=>K (.c (.rp f s es i j))
 | _,_=>False
def xW(op:BinOp)(k:IntKind)(x y:Int):Int:=
 let a:=BitVec.ofInt k.bits x
 let b:=BitVec.ofInt k.bits y
 k.wrap (match op with | .and=>(a&&&b).toNat | .or=>(a ||| b).toNat | .xor=>(a^^^b).toNat | _=>(a&&& ~~~b).toNat:Nat)
def iB(op:BinOp)(k:IntKind)(x y:Int)(K:PV->Prop):Prop:=
 match op with
 | .add=>K (ci k (k.wrap (x+y)))
 | .sub=>K (ci k (k.wrap (x-y)))
 | .mul=>K (ci k (k.wrap (x*y)))
 | .quo=>y≠0/\K (ci k (k.wrap (x.tdiv y)))
 | .rem=>y≠0/\K (ci k (x.tmod y))
 | .and=>K (ci k (xW .and k x y))
 | .or=>K (ci k (xW .or k x y))
 | .xor=>K (ci k (xW .xor k x y))
 | .shl=>0<=y/\K (ci k (k.wrap (x*2^ (min y.toNat k.bits))))
 | .shr=>0<=y/\K (ci k (x.fdiv (2^ (min y.toNat k.bits))))
 | .eql=>K (cb (decide (x=y)))
 | .neq=>K (cb (!decide (x=y)))
 | .lss=>K (cb (decide (x<y)))
 | .leq=>K (cb (decide (x<=y)))
 | .gtr=>K (cb (decide (y<x)))
 | .geq=>K (cb (decide (y<=x)))
 | _=>False
def OO:Cell->Option Int
 | .d _ (.int .i64 n)=>some n
 | _=>none
def jh:List Cell->Option (List Int)
 | []=>some []
 | x::r=>match OO x,jh r with | some n,some l=>some (n::l) | _,_=>none
def uV(o:Option (List Int))(K:List Int->Prop):Prop:=match o with | some v=>K v | none=>False
def Sw:BinOp->Bool
 | .shl | .shr=>true
 | _=>false
def mq(E:Tab)(op:BinOp)(ty:TypeId)(a b:PV)(K:PV->Prop):Prop:=
 match a,b with
 | .c (.d _ (.int k x)),.c (.d _ (.int k' y))=>(k=k'\/Sw op=true)/\iB op k x y K
 | .c (.d _ (.bool x)),.c (.d _ (.bool y))=>aD (E.ty ty) λz=>z.desc= .bool/\(match op with | .eql=>K (cb (x==y)) | .neq=>K (cb (!(x==y))) | _=>False)
 | .c (.d _ (.str x)),.c (.d _ (.str y))=>aD (E.ty ty) λz=>z.desc= .str/\(match op with | .eql=>K (cb (x.toList==y.toList)) | .neq=>K (cb (!(x.toList==y.toList))) | _=>False)
 | .agg xs,.agg ys=>uV (jh xs) λx=>uV (jh ys) λy=>
  E.ieq ty=some x.length/\x.length=y.length/\(match op with | .eql=>K (cb (x==y)) | .neq=>K (cb (!(x==y))) | _=>False)
 | .c (.os _ _ _ n),.c .nil=>n≠0/\aD (E.ty ty) λz=>(∃e,z.desc= .slice e)/\(match op with | .eql=>K (cb false) | .neq=>K (cb true) | _=>False)
 | .c (.d _ (.rows _ es)),.c .nil=>es≠ []/\aD (E.ty ty) λz=>(∃e,z.desc= .slice e)/\(match op with | .eql=>K (cb false) | .neq=>K (cb true) | _=>False)
 | _,_=>False
def unA(op:UnOp)(a:PV)(K:PV->Prop):Prop:=
 match op,a with
 | .not,.c (.d _ (.bool b))=>K (cb (!b))
 | .neg,.c (.d _ (.int k n))=>K (ci k (k.wrap (0-n)))
 | _,_=>False
def ae9:List D->Option Int
 | [.int .u8 n]=>some n
 | _=>none
def Mf:List (List D)->Option (List Int)
 | []=>some []
 | x::r=>match ae9 x,Mf r with | some n,some l=>some (n::l) | _,_=>none
def Ea(E:Tab)(src dst:TypeId)(a:PV)(K:PV->Prop):Prop:=
 aD (E.ty dst) λy=>match y.desc,a with
  | .int k,.c (.d _ (.int _ n))=>aD (E.ty src) λ_=>K (ci k (k.wrap n))
  | .str,.c (.d _ (.rows _ es))=>aD (E.ty src) λz=>(match z.desc with
   | .slice e=>aD (E.ty e) λt=>t.desc= .int .u8/\uV (Mf es) λxs=>K (.c (.d true (.str (strOfNums xs))))
   | _=>False)
  | _,_=>False
def bF(E:Tab)(s:TypeId)(a:PV)(f:Nat)(K:PV->Prop):Prop:=
 aD (E.ty s) λy=>match y.desc with
  | .struct fs=>match fs[f]? with
   | some (off,ft)=>aD (E.ty ft) λz=>z.size≠0/\(match a with
    | .c (.ptr l sz i j)=>K (.c (.ptr l sz i (j+off)))
    | .c (.rp r sz es i j)=>K (.c (.rp r sz es i (j+off)))
    | _=>False)
   | none=>False
  | _=>False
def nJ(E:Tab)(s:TypeId)(a:PV)(f:Nat)(K:PV->Prop):Prop:=
 aD (E.ty s) λy=>match y.desc with
  | .struct fs=>match fs[f]? with
   | some (off,ft)=>aD (E.ty ft) λz=>match a with
    | .agg cs=>off+z.size<=cs.length/\(if z.desc.agg then K (.agg ((cs.drop off).take z.size))else nD cs[off]? λx=>K (.c x))
    | _=>False
   | none=>False
  | _=>False
def bV(E:Tab)(t:TypeId)(a ix:PV)(K:PV->Prop):Prop:=
 aD (E.ty t) λy=>match y.desc with
  | .slice e=>aD (E.ty e) λz=>jQ ix λ_ i=>
   match a with
   | .c (.d f (.rows sz es))=>(es≠ []->sz=z.size)/\0<=i/\i<es.length/\K (.c (.rp f sz es i.toNat 0))
   | .c (.clip f sz es)=>(es≠ []->sz=z.size)/\0<=i/\i<es.length/\K (.c (.rp f sz es i.toNat 0))
   | .c (.os l sz lo n)=>sz=z.size/\0<=i/\i<n/\K (.c (.ptr l sz (lo+i.toNat) 0))
   | _=>False
  | _=>False
def oW:PV->(PV->Prop)->Prop
 | .c (.d _ (.rows _ es)),K=>K (ci .i64 es.length)
 | .c (.clip _ _ es),K=>K (ci .i64 es.length)
 | .c (.os _ _ _ n),K=>K (ci .i64 n)
 | .c .nil,K=>K (ci .i64 0)
 | _,_=>False
def kY(a:PV)(i:Nat)(K:PV->Prop):Prop:=
 match a with
 | .tup vs=>aB vs[i]? K
 | _=>False
def aI:PV->List Cell
 | .c x=> [x]
 | .agg cs=>cs
 | .tup _=> []
def zu(E:Tab)(t:Slots)(o:Option Operand)(dflt:Int)(K:Int->Prop):Prop:=
 match o with
 | none=>K dflt
 | some x=>aB (ev E t x) λv=>jQ v λ_ n=>K n
def uW(E:Tab)(t:Slots)(ty:TypeId)(a:PV)(lo hi mx:Option Operand)(K:PV->Prop):Prop:=
  aD (E.ty ty) λy=>match y.desc with
    | .slice e=>aD (E.ty e) λz=>zu E t lo 0 λl=>
      match a with
      | .c (.d f (.rows sz es))=>(es≠ []->sz=z.size)/\(zu E t hi es.length λh=>0<=l/\l<=h/\h<=es.length/\
          (match mx with
           | none=>K (.c (.d f (.rows sz ((es.take h.toNat).drop l.toNat))))
           | some _=>zu E t mx 0 λm=>hi.isSome=true/\m=h/\K (.c (.clip f sz ((es.take h.toNat).drop l.toNat)))))
      | .c (.os b sz lo0 n)=>sz=z.size/\mx=none/\(zu E t hi n λh=>0<=l/\l<=h/\h<=n/\K (.c (.os b sz (lo0+l.toNat) (h.toNat-l.toNat))))
      | .c .nil=>mx=none/\(zu E t hi 0 λh=>l=0/\h=0/\K (.c .nil))
      | _=>False
    | _=>False
def splice(cs new:List Cell)(off:Nat):List Cell:=cs.take off++new++cs.drop (off+new.length)
def jW(E:Tab)(t:Slots)(place:Nat->Option (Nat×Nat)):List (Nat×Operand)->List Cell->(List Cell->Prop)->Prop
 | [],cs,K=>K cs
 | (i,x)::rest,cs,K=>match place i with
  | none=>False
  | some (off,size)=>aB (ev E t x) λv=>(aI v).length=size/\size≠0/\off+size<=cs.length/\jW E t place rest (splice cs (aI v) off) K
def lD(E:Tab)(fs:List (Nat×TypeId))(i:Nat):Option (Nat×Nat):=
 match fs[i]? with
 | some (off,ft)=>match E.ty ft with | some z=>some (off,z.size) | none=>none
 | none=>none
def jX(E:Tab)(t:Slots)(ty:TypeId)(parts:List (Nat×Operand))(K:PV->Prop):Prop:=
 aD (E.ty ty) λy=>match y.desc with
  | .struct fs=>(∀ft∈fs,(E.ty ft.2).isSome=true)/\jW E t (lD E fs) parts y.zero λcs=>K (.agg cs)
  | _=>False
def uD(E:Tab)(t:Slots):List Operand->(List Cell->Prop)->Prop
 | [],K=>K []
 | x::r,K=>aB (ev E t x) λv=>match v with
  | .c y=>uD E t r λys=>K (y::ys)
  | _=>False
def V6:PV->(PV->Prop)->Prop
 | .c .nil,K=>K (ci .i64 0)
 | _,_=>False
def lT(E:Tab)(t:Slots)(c:Call)(K:PV->Prop):Prop:=
 match c.callee with
 | .builtin .len=>match c.args.toList,c.argTypes.toList with
  | [x],[ty]=>aD (E.ty ty) λy=>(match y.desc with | .slice _=>True | _=>False)/\aB (ev E t x) λv=>oW v K
  | _,_=>False
 | .builtin .cap=>match c.args.toList,c.argTypes.toList with
  | [x],[ty]=>aD (E.ty ty) λy=>(match y.desc with | .slice _=>True | _=>False)/\aB (ev E t x) λv=>V6 v K
  | _,_=>False
 | .builtin .min=>match c.args.toList with
  | [x,y]=>aB (ev E t x) λa=>aB (ev E t y) λb=>jQ a λk m=>jQ b λ_ n=>K (ci k (if n<m then n else m))
  | _=>False
 | .builtin .max=>match c.args.toList with
  | [x,y]=>aB (ev E t x) λa=>aB (ev E t y) λb=>jQ a λk m=>jQ b λ_ n=>K (ci k (if m<n then n else m))
  | _=>False
 | _=>False
def aH(E:Tab)(op:Op)(t:Slots)(h:Heap)(K:PV->Prop):Prop:=
 match op with
 | .move x | .assign x=>aB (ev E t x) K
 | .pick c a b=>aB (ev E t c) λv=>uU v λq=>xG q (aB (ev E t a) K) (aB (ev E t b) K)
 | .load ty p=>aB (ev E t p) λv=>fF E h ty v K
 | .nilCheck x=>aB (ev E t x) λv=>Me v K
 | .binOp op ty x y _=>aB (ev E t x) λa=>aB (ev E t y) λb=>mq E op ty a b K
 | .unOp op _ x=>aB (ev E t x) λa=>unA op a K
 | .convert s d x=>aB (ev E t x) λa=>Ea E s d a K
 | .fieldAddr s x f=>aB (ev E t x) λa=>bF E s a f K
 | .field s x f=>aB (ev E t x) λa=>nJ E s a f K
 | .indexAddr ty x i=>aB (ev E t x) λa=>aB (ev E t i) λb=>bV E ty a b K
 | .slice ty x lo hi mx=>aB (ev E t x) λa=>uW E t ty a lo hi mx K
 | .extract x i=>aB (ev E t x) λa=>kY a i K
 | .build ty parts=>jX E t ty parts.toList K
 | .makeFunc fn first caps=>match fn with
  | .func g=>first= #[]/\uD E t caps.toList λcs=>K (.c (.fn g cs))
  | _=>False
 | .call c=>lT E t c K
 | _=>False
structure pR(E:Tab)(c:Ctx)(w:World)(t:Slots)(h:Heap)(a:Act):Prop where
 slot:∀i v,aA t i=some v->∃u,a.tmps[i]? =some u/\bg c w u v
 heap:bC c w h
 glob:oH E c w
def lI{o:Option PV}{K:PV->Prop}(h:aB o K):∃v,o=some v/\K v:=by
 cases o with
 | none=>exact h.elim
 | some v=>exact⟨v,rfl,h⟩
def aO{o:Option TY}{K:TY->Prop}(h:aD o K):∃v,o=some v/\K v:=by
 cases o with
 | none=>exact h.elim
 | some v=>exact⟨v,rfl,h⟩
def jY{o:Option dx}{K:dx->Prop}(h:bZ o K):∃v,o=some v/\K v:=by
 cases o with
 | none=>exact h.elim
 | some v=>exact⟨v,rfl,h⟩
def xX{o:Option Cell}{K:Cell->Prop}(h:nD o K):∃v,o=some v/\K v:=by
 cases o with
 | none=>exact h.elim
 | some v=>exact⟨v,rfl,h⟩
def bB.ofInt{c:Ctx}{w:World}(k:IntKind)(n:Int)(f:Bool):bB c w (.int k n) (.d f (.int k n)):= .d f _ _ (.int k n)
def bg.ofInt{c:Ctx}{w:World}(k:IntKind)(n:Int):bg c w (.int k n) (ci k n):= .c _ _ (.ofInt k n true)
def bg.ofBool{c:Ctx}{w:World}(b:Bool):bg c w (.bool b) (cb b):= .c _ _ (.d true _ _ (.bool b))
def JF{c:Ctx}{w:World}{v:Value}{p:PV}(h:fD v=some p):bg c w v p:=by
 unfold fD at h;split at h<;>first | (cases h) | skip
 .exact .ofInt _ _
 .exact .ofBool _
 .exact .c _ _ (.d true _ _ (.str _))
 .exact .c _ _ .nil
 .exact .c _ _ .np
def Mg{E:Tab}{c:Ctx}{w:World}{t:Slots}{h:Heap}{a:Act}(A:pR E c w t h a){x:Operand}{v:PV}(hx:ev E t x=some v):
  bg c w (a.eval x) v:=by
 cases x with
 | tmp i=>
  obtain⟨u,hu,hr⟩:=A.slot i v hx;have:a.eval (.tmp i)=u:=by simp [Act.eval,Array.getD_eq_getD_getElem?,hu]
  rw [this];exact hr
 | const v'=>exact JF hx
 | global g=>
  simp only [ev,Option.map_eq_some_iff]at hx;obtain⟨d,hd,rfl⟩:=hx;obtain⟨hk,u,hu,hr⟩:=A.glob g d hd;refine .c _ _ ?_;have:=bB.rp (c:=c) (w:=w) false g 0 1 [[d]] 0 0 (λ_ _=>u) hk ?_ ?_ ?_ (by simp)
  .simpa [Act.eval]using this
  .intro i j hi hj;have h1:i=0:=by simpa using hi
   have h2:j=0:=by omega
   subst h1;subst h2;simpa using hu
  .intro i hi;have h1:i=0:=by simpa using hi
   subst h1;rfl
  .intro i j hi hj;have h1:i=0:=by simpa using hi
   have h2:j=0:=by omega
   subst h1;subst h2;exact hr
 | func f=>
  simp only [ev,Option.some.injEq]at hx;subst hx;refine .c _ _ ?_;exact bB.fn f [] [] rfl (λi hi=>by simp at hi)
def Gives(P:Program)(c:Ctx)(w:World)(s:Sem Value)(K:PV->Prop):Prop:=∃u pv,s.run P w= .ok u w/\bg c w u pv/\K pv
def dQ{E:Tab}{c:Ctx}{w:World}{t:Slots}{h:Heap}{a:Act}(A:pR E c w t h a){x:Operand}{K:PV->Prop}(hx:aB (ev E t x) K):
  ∃v,bg c w (a.eval x) v/\K v:=by
 obtain⟨v,hv,hk⟩:=lI hx;exact⟨v,Mg A hv,hk⟩
def xY{v:PV}{K:Bool->Prop}(h:uU v K):∃f b,v= .c (.d f (.bool b))/\K b:=by
 unfold uU at h;split at h
 .exact⟨_,_,rfl,h⟩
 .exact h.elim
def jE{v:PV}{K:IntKind->Int->Prop}(h:jQ v K):∃f k n,v= .c (.d f (.int k n))/\K k n:=by
 unfold jQ at h;split at h
 .exact⟨_,_,_,rfl,h⟩
 .exact h.elim
def jv{c:Ctx}{w:World}{u:Value}{f:Bool}{b:Bool}(h:bg c w u (.c (.d f (.bool b)))):u= .bool b:=by
 cases h with | c _ _ h=>cases h with | d _ _ _ h=>cases h;rfl
def iC{c:Ctx}{w:World}{u:Value}{f:Bool}{k:IntKind}{n:Int}(h:bg c w u (.c (.d f (.int k n)))):u= .int k n:=by
 cases h with | c _ _ h=>cases h with | d _ _ _ h=>cases h;rfl
theorem V7{c:Ctx}{w:World}{u:Value}{f:Bool}{k:IntKind}{n:Int}(h:bB c w u (.d f (.int k n))):u= .int k n:=by
 cases h with | d _ _ _ h=>cases h;rfl
theorem addr_add(b o n:Nat):(⟨b,o,none⟩:Addr).add n=⟨b,o+n,none⟩:=by
 unfold Addr.add;split
 .rename_i h;subst h;rfl
 .rfl
def Bc{E:Tab}(hE:aR E){t:TypeId}{y:TY}(hy:E.ty t=some y)(w:World):(isAgg t).run E.P w= .ok y.desc.agg w:=by
 have hd:=(hE.ty t y hy).desc;unfold JE at hd;split at hd
 .rename_i he;obtain⟨d,hu,h1,h2⟩:=hd;simp only [isAgg,Sem.run_bind,run_underlying hu,Result.andThen_ok,he,iU.agg];cases d<;>first | rfl | exact absurd rfl (h1 _) | exact absurd rfl (h2 _ _)
 .rename_i he;simp [isAgg,run_underlying hd,he,iU.agg]
 .rename_i he;simp [isAgg,run_underlying hd,he,iU.agg]
 .rename_i he;simp [isAgg,run_underlying hd,he,iU.agg]
 .rename_i he;simp [isAgg,run_underlying hd,he,iU.agg]
 .rename_i he;obtain⟨F,hu,_⟩:=hd;simp [isAgg,run_underlying hu,he,iU.agg]
def run_sizeOf{E:Tab}(hE:aR E){t:TypeId}{y:TY}(hy:E.ty t=some y)(w:World):(sizeOf t).run E.P w= .ok y.size w:=by
 obtain⟨i,hi,hs,_⟩:=(hE.ty t y hy).info;simp [sizeOf,typeInfo,hi,hs]
def lU{E:Tab}(hE:aR E){t:TypeId}{y:TY}(hy:E.ty t=some y){w:World}{b o:Nat}(vs:List Value)
  (hv:∀j v,vs[j]? =some v->w.cell? ⟨b,o+j,none⟩=some v) (hl:vs.length=if y.desc.agg then y.size else 1):
  (loadVar t ⟨b,o,none⟩).run E.P w= .ok (if y.desc.agg then .agg vs.toArray else vs.getD 0 undef) w:=by
 simp only [loadVar,Sem.run_bind,Bc hE hy,Result.andThen_ok];by_cases ha:y.desc.agg=true
 .simp only [ha,if_true]at hl ⊢;simp only [Sem.run_bind,run_sizeOf hE hy,Result.andThen_ok];have:=run_loadCells_list (P:=E.P) (w:=w) ⟨b,o,none⟩ vs (λj v hj=>by rw [addr_add];exact hv j v hj);rw [hl]at this;simp [this]
 .have ha':y.desc.agg=false:=by simpa using ha
  simp only [ha']at hl ⊢;cases vs with
  | nil=>simp at hl
  | cons v r=>
   have:=hv 0 v rfl;simp at this;simp [this]
theorem mH{α:Type}{l:List α}{i:Nat}{x d:α}(h:l[i]? =some x):l.getD i d=x:=by
 simp [List.getD,h]
def Mh{E:Tab}(hE:aR E){t:TypeId}{y:TY}(hy:E.ty t=some y){c:Ctx}{w:World}{f:Bool}{b o sz j:Nat}{row:List D}{K:PV->Prop}
  (hl:row.length=sz) (u:Nat->Value) (hc:∀j,j<sz->w.cell? ⟨b,o+j,none⟩=some (u j)) (hr:∀j,j<sz->dJ (c.K f) w (u j) (row.getD j default))
  (h:nW f y row j K):Gives E.P c w (loadVar t ⟨b,o+j,none⟩) K:=by
 have one:∀x,y.desc.agg=false->row[j]? =some x->∃u,(loadVar t ⟨b,o+j,none⟩).run E.P w= .ok u w/\dJ (c.K f) w u x:=by
  intro x ha hx;have hj:j<sz:=by rw [<-hl];exact(List.getElem?_eq_some_iff.1 hx).1
  have hrun:=lU hE hy (w:=w) (b:=b) (o:=o+j) [u j] (λi v hi=>by
   cases i with
   | zero=>simp at hi;subst hi;exact hc j hj
   | succ i=>simp at hi) (by simp [ha])
  refine⟨u j,by simpa [ha]using hrun,?_⟩;have:=hr j hj
  rwa [mH hx]at this
 unfold nW at h;split at h
 .rename_i fs he;obtain⟨hlen,hk⟩:=h;have ha:y.desc.agg=true:=by rw [he];rfl
  have hrun:=lU hE hy (w:=w) (b:=b) (o:=o+j) ((List.range y.size).map λi=>u (j+i)) (λi v hi=>by
   simp only [List.getElem?_map,Option.map_eq_some_iff]at hi;obtain⟨i',hi',rfl⟩:=hi;obtain⟨hlt,V8⟩:=List.getElem?_eq_some_iff.1 hi';simp at hlt V8;subst V8;rw [Nat.add_assoc];exact hc (j+i) ah) (by simp [ha])
  refine⟨_,_,hrun,?_,hk⟩;simp only [ha,if_true];refine .agg _ _ (F2.sZ (by simp;omega) ?_);intro i x z hx hz;simp only [List.getElem?_map,Option.map_eq_some_iff]at hx hz;obtain⟨i',hi',rfl⟩:=hx;obtain⟨hlt,V8⟩:=List.getElem?_eq_some_iff.1 hi';simp at hlt V8;subst V8;obtain⟨z',hz',rfl⟩:=hz;have hz2:row[j+i]? =some z':=by
   rw [List.getElem?_take_of_lt hlt,List.getElem?_drop]at hz';exact hz'
  have:=hr (j+i) ah;rw [mH hz2]at this;exact .d f _ _ this
 .rename_i k he;obtain⟨⟨n,hn⟩,hk⟩:=h;obtain⟨u',hu',hr'⟩:=one _ (by rw [he];rfl) hn;refine⟨u',_,hu',?_,hk n hn⟩;cases hr';exact .ofInt k n
 .rename_i hns hni;obtain⟨hlt,hk⟩:=h;have ha:y.desc.agg=false:=by
   unfold iU.agg;split
   .rename_i fs he;exact absurd he (hns fs)
   .rfl
  have hx:row[j]? =some row[j]:=List.getElem?_eq_getElem hlt;obtain⟨u',hu',hr'⟩:=one _ ha hx;exact⟨u',_,hu',.c _ _ (.d f _ _ hr'),hk _ hx⟩
def Eb{E:Tab}(hE:aR E){t:TypeId}{y:TY}(hy:E.ty t=some y){c:Ctx}{w:World}{f:Bool}{b o sz i j:Nat}{es:List (List D)}{K:PV->Prop}
  (u:Nat->Nat->Value) (hc:∀i j,i<es.length->j<sz->w.cell? ⟨b,o+i*sz+j,none⟩=some (u i j))
  (hl:∀i,i<es.length->(es.getD i []).length=sz) (hr:∀i j,i<es.length->j<sz->dJ (c.K f) w (u i j) (gd es i j))
  (h:D8 f es i j y K):Gives E.P c w (loadVar t ⟨b,o+i*sz+j,none⟩) K:=by
 obtain⟨hi,h⟩:=h;have he:es[i]? =some (es.getD i []):=by simp [List.getD,List.getElem?_eq_getElem hi]
 exact Mh hE hy (hl i hi) (u i) (λj hj=>hc i j hi hj) (λj hj=>hr i j hi hj) (h _ he)
theorem jw{w:World}{b:Nat}{cs:Array Value}{E:TypeId}{fr:Nat×Nat}(h:w.heap[b]? =some (.cells cs E fr))(o:Nat):w.cell? ⟨b,o,none⟩=cs[o]? :=by
 simp [World.cell?,h]
def OP{E:Tab}(hE:aR E){t:TypeId}{y:TY}(hy:E.ty t=some y){c:Ctx}{w:World}{b j:Nat}{vs:List Value}{cs:List Cell}{K:PV->Prop}{e:TypeId}{fr:Nat×Nat}
  (hb:w.heap[b]? =some (.cells vs.toArray e fr)) (hr:F2 (bB c w) vs cs) (h:mh cs j y K):Gives E.P c w (loadVar t ⟨b,j,none⟩) K:=by
 unfold mh at h;split at h
 .rename_i ha;obtain⟨hlen,hk⟩:=h;have hvl:=hr.length;have hrun:=lU hE hy (w:=w) (b:=b) (o:=j) ((vs.drop j).take y.size) (λi v hi=>by
   rw [jw hb];rw [List.getElem?_take]at hi;split at hi
   .rw [List.getElem?_drop]at hi;simpa using hi
   .cases hi) (by simp [ha];omega)
  simp only [ha,if_true]at hrun;exact⟨_,_,hrun,.agg _ _ ((hr.drop j).take y.size),hk⟩
 .rename_i ha;obtain⟨x,hx,hk⟩:=xX h;obtain⟨v,hv,hrel⟩:=hr.get hx;have hrun:=lU hE hy (w:=w) (b:=b) (o:=j) [v] (λi v' hi=>by
   cases i with
   | zero=>simp at hi;subst hi;rw [jw hb];simpa using hv
   | succ i=>simp at hi) (by simp [ha])
  simp only [ha]at hrun;exact⟨_,_,by simpa using hrun,.c _ _ hrel,hk⟩
def Mi{E:Tab}(hE:aR E){t:TypeId}{y:TY}(hy:E.ty t=some y){c:Ctx}{w:World}{b o sz i j:Nat}{cells:Array Value}{cs:List (List Cell)}{row:List Cell}{K:PV->Prop}{e:TypeId}
  (hb:w.heap[b]? =some (.cells cells e (0,0))) (hr:gW c w (from_ cells o) sz cs) (hrow:cs[i]? =some row) (h:mh row j y K):Gives E.P c w (loadVar t ⟨b,o+(i*sz+j),none⟩) K:=by
 have hi:i<cs.length:=(List.getElem?_eq_some_iff.1 hrow).1;have hg:cs.getD i []=row:=by simp [List.getD,hrow]
 obtain⟨hl,hc⟩:=hr i hi;rw [hg]at hl;have cell:∀q x,row[q]? =some x->∃v,w.cell? ⟨b,o+(i*sz+q),none⟩=some v/\bB c w v x:=by
  intro q x hx;have hq:q<sz:=by rw [<-hl];exact(List.getElem?_eq_some_iff.1 hx).1
  obtain⟨v,hv,hrel⟩:=hc q hq;refine⟨v,by rw [jw hb];rwa [mG]at hv,?_⟩;unfold gc at hrel;rw [hg,mH hx]at hrel;exact hrel
 unfold mh at h;split at h
 .rename_i ha;obtain⟨hlen,hk⟩:=h;have hx:∀q,q<y.size->∃v,w.cell? ⟨b,o+(i*sz+(j+q)),none⟩=some v/\bB c w v (row.getD (j+q) default):=λq hq=>by
   have h1:row[j+q]? =some (row.getD (j+q) default):=by simp [List.getD,List.getElem?_eq_getElem (show j+q<row.length by omega)]
   exact cell _ _ h1
  have hx':∀q,∃v,q<y.size->w.cell? ⟨b,o+(i*sz+(j+q)),none⟩=some v/\bB c w v (row.getD (j+q) default):=λq=>by
   by_cases hq:q<y.size
   .obtain⟨v,h1⟩:=hx q hq;exact⟨v,λ_=>h1⟩
   .exact⟨undef,λh=>absurd h hq⟩
  have hrun:=lU hE hy (w:=w) (b:=b) (o:=o+(i*sz+j)) ((List.range y.size).map λq=>Classical.choose (hx' q)) (λq v hi=>by
   simp only [List.getElem?_map,Option.map_eq_some_iff]at hi;obtain⟨q',hq',rfl⟩:=hi;obtain⟨hlt,V9⟩:=List.getElem?_eq_some_iff.1 hq';simp at hlt V9;subst V9;rw [show o+(i*sz+j)+q=o+(i*sz+(j+q)) by omega];exact(Classical.choose_spec (hx' q) hlt).1) (by simp [ha])
  refine⟨_,_,hrun,?_,hk⟩;simp only [ha,if_true];refine .agg _ _ (F2.sZ (by simp;omega) ?_);intro q x z hx1 hz;simp only [List.getElem?_map,Option.map_eq_some_iff]at hx1;obtain⟨q',hq',rfl⟩:=hx1;obtain⟨hlt,V9⟩:=List.getElem?_eq_some_iff.1 hq';simp at hlt V9;subst V9;have hz2:row[j+q]? =some z:=by
   rw [List.getElem?_take_of_lt hlt,List.getElem?_drop]at hz;exact hz
  have h1:=(Classical.choose_spec (hx' q) hlt).2;generalize Classical.choose (hx' q)=vv at h1 ⊢;rw [mH hz2]at h1;exact h1
 .rename_i ha;obtain⟨x,hx,hk⟩:=xX h;obtain⟨v,hv,hrel⟩:=cell j x hx;have hrun:=lU hE hy (w:=w) (b:=b) (o:=o+(i*sz+j)) [v] (λi v' hi=>by
   cases i with
   | zero=>simp at hi;subst hi;simpa using hv
   | succ i=>simp at hi) (by simp [ha])
  simp only [ha]at hrun;exact⟨_,_,by simpa using hrun,.c _ _ hrel,hk⟩
def OQ{E:Tab}(hE:aR E){t:TypeId}{y:TY}(hy:E.ty t=some y){c:Ctx}{w:World}{l sz i j b oo:Nat}{o:dx}{K:PV->Prop}
  (hm:c.ν l=some (b,oo)) (ho:gq c w l o) (h:qG o sz i j y K):Gives E.P c w (loadVar t ⟨b,oo+(i*sz+j),none⟩) K:=by
 unfold qG at h;split at h
 .rename_i cs;obtain⟨rfl,h⟩:=h;obtain⟨b',vs,e,hm',hb,hr⟩:=ho;rw [hm]at hm';cases hm';simpa using OP hE hy hb hr h
 .rename_i f sz' es;obtain⟨rfl,h⟩:=h;simp only [gq,hm]at ho;obtain⟨cells,e,hb,hrow⟩:=ho;have hu:∀i j,∃u,i<es.length->j<sz->w.cell? ⟨b,oo+i*sz+j,none⟩=some u/\dJ (c.K f) w u (gd es i j):=by
   intro i j;by_cases hi:i<es.length
   .by_cases hj:j<sz
    .obtain⟨v,hv,hr⟩:=(hrow i hi).2 j hj;exact⟨v,λ_ _=>⟨by rw [jw hb,Nat.add_assoc];rwa [mG]at hv,hr⟩⟩
    .exact⟨undef,λ_ h=>absurd h hj⟩
   .exact⟨undef,λh=>absurd h hi⟩
  have:=Eb hE hy (c:=c) (w:=w) (b:=b) (o:=oo) (sz:=sz) (λi j=>Classical.choose (hu i j)) (λi j hi hj=>(Classical.choose_spec (hu i j) hi hj).1)
   (λi hi=>(hrow i hi).1) (λi j hi hj=>(Classical.choose_spec (hu i j) hi hj).2) h
  rwa [Nat.add_assoc]at this
 .rename_i sz' cs;obtain⟨rfl,h⟩:=h;simp only [gq,hm]at ho;obtain⟨cells,e,hb,hrow⟩:=ho;cases hr:cs[i]? with
  | none=>rw [hr]at h;exact h.elim
  | some row=>
   rw [hr]at h;exact Mi hE hy hb hrow hr h
 .exact h.elim
def Ec{E:Tab}(hE:aR E){c:Ctx}{w:World}{h:Heap}(hh:bC c w h){t:TypeId}{u:Value}{p:PV}{K:PV->Prop}(hu:bg c w u p)
  (hl:fF E h t p K):Gives E.P c w (Instr.loadAt t u) K:=by
 obtain⟨y,hy,hl⟩:=aO hl;split at hl
 .rename_i l sz i j;obtain⟨o,ho,hk⟩:=jY hl;cases hu with | c _ _ hu=>cases hu with | ptr _ _ _ _ b _ hl' hm=>
  have:=OQ hE hy hm (hh.obj _ _ ho).2 hk;simpa [Gives,Instr.loadAt,Instr.sureAddr]using this
 .rename_i f sz es i j;cases hu with | c _ _ hu=>cases hu with | rp _ b off _ _ _ _ u hb h1 h2 h3 h4=>
  have:=Eb hE hy u h1 h2 h3 hl;simpa [Gives,Instr.loadAt,Instr.sureAddr]using this
 .exact hl.elim
def UO{P:Program}{c:Ctx}{w:World}{ρ:Operand->Value}{o:Oper}{x:Operand}{u:Value}{p:PV}{K:PV->Prop}(ho:o.op= .nilCheck x)(hx:ρ x=u)(hu:bg c w u p)(h:Me p K):
  ∃u pv,(execOp ρ o).run P w= .ok (.value u) w/\bg c w u pv/\K pv:=by
 unfold Me at h;split at h
 .have hu':=hu;cases hu with | c _ _ hu=>cases hu with | ptr _ _ _ _ b _ hl' hm=>
  exact⟨_,_,by simp [execOp,ho,hx],hu',h⟩
 .have hu':=hu;cases hu with | c _ _ hu=>cases hu with | rp _ b off _ _ _ _ u hb h1 h2 h3 h4=>
  exact⟨_,_,by simp [execOp,ho,hx],hu',h⟩
 .exact h.elim
def JG{P:Program}{c:Ctx}{w:World}{op:BinOp}{t:TypeId}{k:IntKind}{x y:Int}{K:PV->Prop}(h:iB op k x y K):
  Gives P c w (binOp op t (.int k x) (.int k y)) K:=by
 unfold iB at h;split at h
 .exact⟨_,_,by simp [binOp,Op.intArith],.ofInt _ _,h⟩
 .exact⟨_,_,by simp [binOp,Op.intArith],.ofInt _ _,h⟩
 .exact⟨_,_,by simp [binOp,Op.intArith],.ofInt _ _,h⟩
 .exact⟨_,_,by simp [binOp,Op.intDiv,h.1],.ofInt _ _,h.2⟩
 .exact⟨_,_,by simp [binOp,Op.intDiv,h.1],.ofInt _ _,h.2⟩
 .exact⟨_,_,by simp [binOp,Op.intBits,xW],.ofInt _ _,h⟩
 .exact⟨_,_,by simp [binOp,Op.intBits,xW],.ofInt _ _,h⟩
 .exact⟨_,_,by simp [binOp,Op.intBits,xW],.ofInt _ _,h⟩
 .have:¬y<0:=by omega
  exact⟨_,_,by simp [binOp,Op.shift,this],.ofInt _ _,h.2⟩
 .have:¬y<0:=by omega
  exact⟨_,_,by simp [binOp,Op.shift,this],.ofInt _ _,h.2⟩
 .exact⟨_,_,by simp [binOp,Op.intCmp];rfl,.ofBool _,h⟩
 .exact⟨_,_,by simp [binOp,Op.intCmp];rfl,.ofBool _,h⟩
 .exact⟨_,_,by simp [binOp,Op.intCmp],.ofBool _,h⟩
 .exact⟨_,_,by simp [binOp,Op.intCmp],.ofBool _,h⟩
 .exact⟨_,_,by simp [binOp,Op.intCmp],.ofBool _,h⟩
 .exact⟨_,_,by simp [binOp,Op.intCmp],.ofBool _,h⟩
 .exact h.elim
def xZ{o:Option (List Int)}{K:List Int->Prop}(h:uV o K):∃v,o=some v/\K v:=by
 cases o with
 | none=>exact h.elim
 | some v=>exact⟨v,rfl,h⟩
def xH{c:Ctx}{w:World}{cs:List Cell}{xs:List Int}(h:jh cs=some xs){vs:List Value}(hr:F2 (bB c w) vs cs):vs=xs.map (Value.int .i64):=by
 induction hr generalizing xs with
 | nil=>grind [jh]
 | @cons v x vs cs h1 _ ih=>
  simp only [jh]at h;split at h
  .rename_i n l hn hl;cases h;have:=ih hl;subst this;unfold OO at hn
   grind [V7]
  .cases h
def run_equal_bool{P:Program}{t:TypeId}(ht:P.underlying t=some .bool)(a b:Bool)(w:World):(Op.equal t (.bool a) (.bool b)).run P w= .ok (a==b) w:=by
 have h:∀d,(Op.equalIn (d+1) t (.bool a) (.bool b)).run P w= .ok (a==b) w:=by
  intro d;simp [Op.equalIn,run_underlying ht]
 exact h 9999
def lF{P:Program}{t e:TypeId}(ht:P.underlying t=some (.slice e))(a:Addr)(n cap:Nat)(w:World):(Op.equal t (.slice (some a) n cap) (.slice none 0 0)).run P w= .ok false w:=by
 have h:∀d,(Op.equalIn (d+1) t (.slice (some a) n cap) (.slice none 0 0)).run P w= .ok false w:=by
  intro d;simp [Op.equalIn,run_underlying ht]
 exact h 9999
def UQ{E:Tab}(hE:aR E){c:Ctx}{w:World}{op:BinOp}{t:TypeId}{u v:Value}{p q:PV}{K:PV->Prop}(hu:bg c w u p)(hv:bg c w v q)(h:mq E op t p q K)
  (x y:Operand):Gives E.P c w (do eqGuard op t x y u v;binOp op t u v) K:=by
 unfold mq at h;split at h
 .rename_i k m _ k' n;obtain⟨hk,h⟩:=h;rw [iC hu,iC hv];have hg:∀a b,(eqGuard op t x y (.int a b) v).run E.P w= .ok () w:=by simp_all [eqGuard]
  have key:Gives E.P c w (binOp op t (.int k m) (.int k' n)) K:=by
   rcases hk with rfl | hs
   .exact JG h
   .have:∀h0:0<=n,¬n<0:=λh0=>by omega
    cases op<;>first
     | exact absurd hs (by decide)
     | (unfold iB at h;exact⟨_,_,by simp [binOp,Op.shift,this h.1],.ofInt _ _,h.2⟩)
  obtain⟨r,pv,h1,h2,h3⟩:=key;refine⟨r,pv,?_,h2,h3⟩;have:=hg;rw [iC hv]at this;simp [this,h1]
 .replace h:=aO h;obtain⟨z,hz,hd,h⟩:=h
  have hun:=(hE.ty t z hz).desc;rw [hd]at hun;rw [jv hu,jv hv];split at h
  .exact⟨_,_,by simp [eqGuard,binOp,run_equal_bool hun],.ofBool _,h⟩
  .exact⟨_,_,by simp [eqGuard,binOp,run_equal_bool hun],.ofBool _,h⟩
  .exact h.elim
 .rename_i f s f' s'
  replace h:=aO h;obtain⟨z,hz,hd,h⟩:=h
  have hun:=(hE.ty t z hz).desc;rw [hd]at hun;have eu:u= .string s:=by cases hu with | c _ _ hu=>cases hu with | d _ _ _ hu=>cases hu;rfl
  have ev:v= .string s':=by cases hv with | c _ _ hv=>cases hv with | d _ _ _ hv=>cases hv;rfl
  subst eu ev;split at h
  .exact⟨_,_,by simp [eqGuard,binOp,Op.stringOp],.ofBool _,h⟩
  .exact⟨_,_,by simp [eqGuard,binOp,Op.stringOp],.ofBool _,h⟩
  .exact h.elim
 .replace h:=xZ h;obtain⟨xs,hx,h⟩:=h
  replace h:=xZ h;obtain⟨ys,hy,hi,hl,h⟩:=h
  cases hu with | agg vs cs hu=>
  cases hv with | agg vs' cs' hv=>
  rw [xH hx hu,xH hy hv];have key:=hE.ieq t _ hi xs ys rfl hl.symm w;have hg:(eqGuard op t x y (.agg (xs.map (Value.int .i64)).toArray) (.agg (ys.map (Value.int .i64)).toArray)).run E.P w= .ok () w:=by grind [eqGuard]
  split at h
  .exact⟨_,_,by simp [hg,binOp,key.1],.ofBool _,h⟩
  .exact⟨_,_,by simp [hg,binOp,key.1],.ofBool _,h⟩
  .exact h.elim
 .rename_i l sz lo n0;obtain⟨hne,h⟩:=h
  replace h:=aO h;obtain⟨z,hz,⟨el,hd⟩,h⟩:=h
  have hun:=(hE.ty t z hz).desc;rw [hd]at hun;have hu:∃b off n cap,u= .slice (some ⟨b,off,none⟩) n cap:=by
   cases hu with | c _ _ hu=>cases hu with
    | os0=>omega
    | osE=>omega
    | os l sz lo n cap b oo=>simp_all
  obtain⟨b,off,n,cap,rfl⟩:=hu;have hv:v= .slice none 0 0:=by cases hv with | c _ _ hv=>cases hv;rfl
  subst hv;split at h
  .exact⟨_,_,by simp [eqGuard,binOp,lF hun],.ofBool _,h⟩
  .exact⟨_,_,by simp [eqGuard,binOp,lF hun],.ofBool _,h⟩
  .exact h.elim
 .rename_i f sz es;obtain⟨hne,h⟩:=h
  replace h:=aO h;obtain⟨z,hz,⟨el,hd⟩,h⟩:=h
  have hun:=(hE.ty t z hz).desc;rw [hd]at hun;have hu:∃b off n cap,u= .slice (some ⟨b,off,none⟩) n cap:=by
   cases hu with | c _ _ hu=>cases hu with | d _ _ _ hu=>cases hu with
    | none a cap sz=>simp_all
    | rows b off cap sz n es u=>simp_all
  obtain⟨b,off,n,cap,rfl⟩:=hu;have hv:v= .slice none 0 0:=by cases hv with | c _ _ hv=>cases hv;rfl
  subst hv;split at h
  .exact⟨_,_,by simp [eqGuard,binOp,lF hun],.ofBool _,h⟩
  .exact⟨_,_,by simp [eqGuard,binOp,lF hun],.ofBool _,h⟩
  .exact h.elim
 .exact h.elim
def Wd{P:Program}{c:Ctx}{w:World}{op:UnOp}{u:Value}{p:PV}{K:PV->Prop}(hu:bg c w u p)(h:unA op p K):Gives P c w (Op.unary op u) K:=by
 unfold unA at h;split at h
 .rw [jv hu];exact⟨_,_,by simp [Op.unary],.ofBool _,h⟩
 .rw [iC hu];exact⟨_,_,by simp [Op.unary,Op.intArith],.ofInt _ _,h⟩
 .exact h.elim
def xq{E:Tab}(hE:aR E){t:TypeId}{y:TY}(hy:E.ty t=some y):∃d,E.P.underlying t=some d:=by
 have hd:=(hE.ty t y hy).desc;unfold JE at hd
 grind
def Mj:∀ {es:List (List D)} {xs:List Int},Mf es=some xs->xs.length=es.length/\∀i,i<es.length->es.getD i []=[.int .u8 (xs.getD i 0)]
 | [],xs,h=>by grind [Mf,Option.some.injEq,absurd]
 | x::r,xs,h=>by
  unfold Mf at h;split at h
  .rename_i n l hn hl;cases h;obtain⟨h1,h2⟩:=Mj hl;have e:x=[.int .u8 n]:=by
    unfold ae9 at hn
    grind
   grind
  .cases h
def OT{P:Program}{K:Nat->Prop}{w:World}{u:Value}{sz:Nat}{es:List (List D)}{xs:List Int}(hu:dJ K w u (.rows sz es))(hx:Mf es=some xs){src e dst:TypeId}
  (hs:P.underlying src=some (.slice e)) (he:P.underlying e=some (.int .u8)) (hd:P.underlying dst=some .string):(convert src dst u).run P w= .ok (.string (strOfNums xs)) w:=by
 have zero:∀(p:Option Addr) (c:Nat),(convert src dst (.slice p 0 c)).run P w= .ok (.string (strOfNums [])) w:=λp c=>by
  rw [run_convert_bytes_string w src dst e _ 0 c hs he hd];cases p<;>simp [Conv.bytesToString,loadCells]
  all_goals rfl
 obtain⟨h1,h2⟩:=Mj hx;cases hu with
 | none a cap=>simp_all
 | rows b off cap _ n _ u hb hn hc g1 g2 g3=>
  subst hn;cases es with
  | nil=>simp_all
  | cons e0 er=>
   have s1:sz=1:=by
    have a:=g2 0 (by simp);simp_all
   subst s1;refine run_convert_bytes_arg w src e hs he b off _ cap xs h1 (λi hi=> ?_) dst hd;have a:=g1 i 0 hi ah;have c:=g3 i 0 hi ah;rw [Nat.mul_one,Nat.add_zero]at a;rw [a];unfold gd at c;rw [h2 i hi]at c;cases hv:u i 0<;>rw [hv]at c<;>cases c
   rfl
def OU{E:Tab}(hE:aR E){c:Ctx}{w:World}{s d:TypeId}{u:Value}{p:PV}{K:PV->Prop}(hu:bg c w u p)(h:Ea E s d p K):Gives E.P c w (convert s d u) K:=by
 replace h:=aO h;obtain⟨y,hy,h⟩:=h
 split at h
 .rename_i k f k' n he
  replace h:=aO h;obtain⟨z,hz,h⟩:=h
  obtain⟨d',hd'⟩:=xq hE hz;have hun:=(hE.ty d y hy).desc;rw [he]at hun;rw [iC hu];refine⟨_,_,?_,.ofInt _ _,h⟩;simp only [convert,Sem.run_bind,run_underlying hd',run_underlying hun,Result.andThen_ok];simp_all [Conv.intToInt]
 .rename_i f sz es he
  replace h:=aO h;obtain⟨z,hz,h⟩:=h
  split at h
  .rename_i e hs
   replace h:=aO h;obtain⟨t,ht,hte,h⟩:=h
   replace h:=xZ h;obtain⟨xs,hx,h⟩:=h
   have u1:=(hE.ty s z hz).desc;rw [hs]at u1;have u2:=(hE.ty e t ht).desc;rw [hte]at u2;have u3:=(hE.ty d y hy).desc;rw [he]at u3;have hr:∃K,dJ K w u (.rows sz es):=by cases hu with | c _ _ hu=>cases hu with | d _ _ _ hu=>exact⟨_,hu⟩
   obtain⟨K',hr⟩:=hr;exact⟨_,_,OT hr hx u1 u2 u3,.c _ _ (.d _ _ _ (.str _)),h⟩
  .exact h.elim
 .exact h.elim
def uX{E:Tab}(hE:aR E){f:Field}{z:TY}(hz:E.ty f.type=some z)(hne:z.size≠0)(b o:Nat)(w:World):
  (fieldPlace ⟨b,o,none⟩ f).run E.P w= .ok ⟨b,o+f.offset,none⟩ w:=by
 simp [fieldPlace,run_sizeOf hE hz,hne,addr_add]
def IC{F:Array Field}{fs:List (Nat×TypeId)}(hF:F.toList.map (λf=>(f.offset,f.type))=fs){i off:Nat}{ft:TypeId}(h:fs[i]? =some (off,ft)):
 ∃f:Field,F[i]? =some f/\f.offset=off/\f.type=ft:=by grind
def Dn{E:Tab}(hE:aR E){c:Ctx}{w:World}{s:TypeId}{i:Nat}{u:Value}{p:PV}{K:PV->Prop}(hu:bg c w u p)(h:bF E s p i K):
  Gives E.P c w (Instr.fieldAt s u i) K:=by
 replace h:=aO h;obtain⟨y,hy,h⟩:=h
 split at h
 .rename_i fs he;split at h
  .rename_i off ft hf
   replace h:=aO h;obtain⟨z,hz,hne,h⟩:=h
   have hd:=(hE.ty s y hy).desc;rw [he]at hd;obtain⟨F,hun,hF⟩:=hd;obtain⟨f,hf',rfl,rfl⟩:=IC hF hf;split at h
   .cases hu with | c _ _ hu=>cases hu with | ptr _ _ _ _ b _ hl' hm=>
    refine⟨_,_,by simp [Instr.fieldAt,run_underlying hun,hf',Instr.sureAddr,uX hE hz hne];rfl,.c _ _ ?_,h⟩;rw [Nat.add_assoc,Nat.add_assoc];exact .ptr _ _ _ _ b _ hl' hm
   .cases hu with | c _ _ hu=>cases hu with | rp _ b o _ _ _ _ u hb h1 h2 h3 h4=>
    refine⟨_,_,by simp [Instr.fieldAt,run_underlying hun,hf',Instr.sureAddr,uX hE hz hne];rfl,.c _ _ ?_,h⟩;rw [Nat.add_assoc];exact .rp _ b o _ _ _ _ u hb h1 h2 h3 h4
   .exact h.elim
  .exact h.elim
 .exact h.elim
def Mk{E:Tab}(hE:aR E){c:Ctx}{w:World}{s:TypeId}{i:Nat}{u:Value}{p:PV}{K:PV->Prop}(hu:bg c w u p)(h:nJ E s p i K):
  Gives E.P c w (Instr.field s u i) K:=by
 replace h:=aO h;obtain⟨y,hy,h⟩:=h
 split at h
 .rename_i fs he;split at h
  .rename_i off ft hf
   replace h:=aO h;obtain⟨z,hz,h⟩:=h
   have hd:=(hE.ty s y hy).desc;rw [he]at hd;obtain⟨F,hun,hF⟩:=hd;obtain⟨f,hf',rfl,rfl⟩:=IC hF hf;split at h
   .cases hu with | agg vs cs hu=>
    obtain⟨hlen,h⟩:=h;have hvl:=hu.length;split at h
    .rename_i ha;refine⟨.agg ((vs.drop f.offset).take z.size).toArray,_,?_,.agg _ _ ((hu.drop f.offset).take z.size),h⟩;simp_all [Instr.field,run_underlying,asAgg,part,Bc,run_sizeOf]
    .rename_i ha
     replace h:=xX h;obtain⟨x,hx,hk⟩:=h
     obtain⟨v,hv,hrel⟩:=hu.get hx;refine⟨v,_,?_,.c _ _ hrel,hk⟩;simp_all [Instr.field,run_underlying,asAgg,part,Bc]
   .exact h.elim
  .exact h.elim
 .exact h.elim
def Ed{c:Ctx}{w:World}{f:Bool}{sz i:Nat}{es:List (List D)}{a:Option Addr}{n cap:Nat}(hi:i<es.length)
  (h:dJ (c.K f) w (.slice a n cap) (.rows sz es)):n=es.length/\∃b off,a=some ⟨b,off,none⟩/\bB c w (.pointer (some ⟨b,off+i*sz,none⟩)) (.rp f sz es i 0):=by
 cases h with
 | none=>simp at hi
 | rows b off _ _ _ _ u hb hn hcap hc hl hr=>
  refine⟨hn,b,off,rfl,?_⟩;have:=bB.rp (c:=c) (w:=w) f b off sz es i 0 u hb hc hl hr hi;simpa using this
def Dp{E:Tab}(hE:aR E){c:Ctx}{w:World}{t:TypeId}{u v:Value}{p q:PV}{K:PV->Prop}(hu:bg c w u p)(hv:bg c w v q)(h:bV E t p q K):
  Gives E.P c w (Instr.indexAt t u v) K:=by
 replace h:=aO h;obtain⟨y,hy,h⟩:=h
 split at h
 .rename_i e he
  replace h:=aO h;obtain⟨z,hz,h⟩:=h
  replace h:=jE h;obtain⟨fl,k,i,rfl,h⟩:=h
  rw [iC hv];have hun:=(hE.ty t y hy).desc;rw [he]at hun
  have main:∀(a:Option Addr) (n cap:Nat) (b off:Nat) (r:Value),a=some ⟨b,off,none⟩->0<=i->i<n->r= .pointer (some ⟨b,off+i.toNat*z.size,none⟩)->
    (Instr.indexAt t (.slice a n cap) (.int k i)).run E.P w= .ok r w:=by
   intro a n cap b off r ha h0 h1 hr;subst ha;subst hr;simp [Instr.indexAt,asIntOf,run_underlying hun,h0,h1,run_sizeOf hE hz,addr_add]
  split at h
  .obtain⟨hsz,h0,h1,h⟩:=h;rename_i f sz es;cases hu with | c _ _ hu=>cases hu with | d _ _ _ hu=>
   obtain⟨n,cap,a,rfl⟩:∃n cap a,u= .slice a n cap:=by cases hu<;>exact⟨_,_,_,rfl⟩
   have hi:i.toNat<es.length:=by omega
   obtain⟨hn,b,off,ha,hr⟩:=Ed hi hu;have hs:sz=z.size:=hsz (by grind);subst hs;exact⟨_,_,main a n cap b off _ ha h0 ah rfl,.c _ _ hr,h⟩
  .obtain⟨hsz,h0,h1,h⟩:=h;rename_i f sz es;cases hu with | c _ _ hu=>cases hu with | clip _ a n _ _ hu=>
   have hi:i.toNat<es.length:=by omega
   obtain⟨hn,b,off,ha,hr⟩:=Ed hi hu;have hs:sz=z.size:=hsz (by grind);subst hs;exact⟨_,_,main a n n b off _ ha h0 ah rfl,.c _ _ hr,h⟩
  .obtain⟨hsz,h0,h1,h⟩:=h;rename_i l sz lo n;subst hsz;cases hu with | c _ _ hu=>cases hu with
   | os0=>omega
   | osE=>omega
   | os _ _ _ _ cap b oo hl hm hn hroom=>
    refine⟨_,_,main _ n cap b (oo+lo*z.size) _ rfl h0 h1 rfl,.c _ _ ?_,h⟩;have:=bB.ptr (c:=c) (w:=w) l z.size (lo+i.toNat) 0 b oo hl hm
    grind
  .exact h.elim
 .exact h.elim
def UR{E:Tab}(hE:aR E){c:Ctx}{w:World}{t:TypeId}{y:TY}(hy:E.ty t=some y)(hs:(match y.desc with | .slice _=>True | _=>False)){u:Value}{p:PV}{K:PV->Prop}
  (hu:bg c w u p) (h:oW p K) (consts:Array Bool) (ty:TypeId):
  ∃r pv,(builtin .len #[t] ty consts #[u]).run E.P w= .ok (.value r) w/\bg c w r pv/\K pv:=by
 have hd:=(hE.ty t y hy).desc;split at hs
 .rename_i e he;rw [he]at hd;have main:∀a n cap,(builtin .len #[t] ty consts #[.slice a n cap]).run E.P w= .ok (.value (.int .i64 n)) w:=by
   intro a n cap;simp [builtin,Builtin.len_,run_underlying hd,goInt]
  unfold oW at h;split at h
  .cases hu with | c _ _ hu=>cases hu with | d _ _ _ hu=>cases hu with
   | none a cap=>exact⟨_,_,main _ _ _,.ofInt _ _,h⟩
   | rows b off cap _ n _ u hb hn=>subst hn;exact⟨_,_,main _ _ _,.ofInt _ _,h⟩
  .cases hu with | c _ _ hu=>cases hu with | clip _ a n _ _ hu=>cases hu with
   | none a cap=>exact⟨_,_,main _ _ _,.ofInt _ _,h⟩
   | rows b off cap _ n _ u hb hn=>subst hn;exact⟨_,_,main _ _ _,.ofInt _ _,h⟩
  .cases hu with | c _ _ hu=>cases hu with
   | os0=>exact⟨_,_,main _ _ _,.ofInt _ _,h⟩
   | osE=>exact⟨_,_,main _ _ _,.ofInt _ _,h⟩
   | os _ _ _ _ cap b _ hl hm hn hroom=>exact⟨_,_,main _ _ _,.ofInt _ _,h⟩
  .cases hu with | c _ _ hu=>cases hu;exact⟨_,_,main _ _ _,.ofInt _ _,h⟩
  .exact h.elim
 .exact hs.elim
def UU{E:Tab}(hE:aR E){c:Ctx}{w:World}{t:TypeId}{y:TY}(hy:E.ty t=some y)(hs:(match y.desc with | .slice _=>True | _=>False)){u:Value}{p:PV}{K:PV->Prop}
  (hu:bg c w u p) (h:V6 p K) (consts:Array Bool) (ty:TypeId):
  ∃r pv,(builtin .cap #[t] ty consts #[u]).run E.P w= .ok (.value r) w/\bg c w r pv/\K pv:=by
 have hd:=(hE.ty t y hy).desc;split at hs
 .rename_i e he;rw [he]at hd;unfold V6 at h;split at h
  .cases hu with | c _ _ hu=>
   cases hu;refine⟨.int .i64 0,_,?_,.ofInt _ _,h⟩;simp [builtin,Builtin.cap_,run_underlying hd,goInt]
  .exact h.elim
 .exact hs.elim
def G5{P:Program}{c:Ctx}{w:World}{i:Nat}{u:Value}{p:PV}{K:PV->Prop}(hu:bg c w u p)(h:kY p i K):Gives P c w (Instr.extract u i) K:=by
 unfold kY at h;split at h
 .replace h:=lI h;obtain⟨v,hv,hk⟩:=h
  cases hu with | tup vs _ hl hr=>
  rename_i ps;have hi:i<ps.length:=(List.getElem?_eq_some_iff.1 hv).1;have hi':i<vs.length:=by omega
  have:=hr i hi;rw [mH hv]at this;refine⟨vs.getD i undef,v,?_,this,hk⟩;simp [Instr.extract,List.getElem?_eq_getElem hi']
 .exact h.elim
def rU{E:Tab}{c:Ctx}{w:World}{t:Slots}{h:Heap}{a:Act}(A:pR E c w t h a){o:Option Operand}{d:Int}{K:Int->Prop}(hk:zu E t o d K):
  ∃n:Int,K n/\((o=none/\n=d)\/∃x k,o=some x/\a.eval x= .int k n):=by
 cases o with
 | none=>exact⟨d,hk,.inl ⟨rfl,rfl⟩⟩
 | some x=>
  obtain⟨v,hv,hk⟩:=dQ A hk;obtain⟨f,k,n,rfl,hk⟩:=jE hk;exact⟨n,hk,.inr ⟨x,k,rfl,iC hv⟩⟩
def run_sliceBound{P:Program}{w:World}{k:IntKind}{i:Int}{y:Nat}{code:BoundsCode}(h0:0<=i)(h1:i<=y):
  (Instr.sliceBound (.int k i) y code).run P w= .ok i.toNat w:=by
 simp [Instr.sliceBound,asIntOf,h0,h1]
def nX{P:Program}{w:World}{len cap:Nat}{l h:Int}{lo hi:Option Value}(hl:(lo=none/\l=0)\/∃k,lo=some (.int k l))(hh:(hi=none/\h=len)\/∃k,hi=some (.int k h))
  (h0:0<=l) (h1:l<=h) (h2:h<=len) (h3:len<=cap):(Instr.sliceBounds true len cap lo hi none).run P w= .ok (l.toNat,h.toNat,cap) w:=by
 have e1:∀k,(Instr.sliceBound (.int k h) cap .sliceAcap).run P w= .ok h.toNat w:=λk=>run_sliceBound ah ah
 have e2:∀k,(Instr.sliceBound (.int k l) h.toNat .sliceB).run P w= .ok l.toNat w:=λk=>run_sliceBound h0 ah
 rcases hl with⟨rfl,rfl⟩ | ⟨k,rfl⟩<;>rcases hh with⟨rfl,rfl⟩ | ⟨k',rfl⟩<;>simp [Instr.sliceBounds,e1]<;>first | done | simp_all
def Ml{P:Program}{w:World}{len cap:Nat}{l h:Int}{lo:Option Value}{k k':IntKind}(hl:(lo=none/\l=0)\/∃k,lo=some (.int k l))
  (h0:0<=l) (h1:l<=h) (h2:h<=cap):(Instr.sliceBounds true len cap lo (some (.int k h)) (some (.int k' h))).run P w= .ok (l.toNat,h.toNat,h.toNat) w:=by
 have e0:(Instr.sliceBound (.int k' h) cap .slice3Acap).run P w= .ok h.toNat w:=run_sliceBound ah ah;have e1:(Instr.sliceBound (.int k h) h.toNat .slice3B).run P w= .ok h.toNat w:=run_sliceBound ah ah;have e2:∀k,(Instr.sliceBound (.int k l) h.toNat .slice3C).run P w= .ok l.toNat w:=λk=>run_sliceBound h0 ah
 rcases hl with⟨rfl,rfl⟩ | ⟨k,rfl⟩<;>simp [Instr.sliceBounds,e0,e1,e2]
theorem Ee{es:List (List D)}{l h i:Nat}(hi:i<h-l):((es.take h).drop l).getD i []=es.getD (l+i) []:=by grind
def dJ.sub{K:Nat->Prop}{w:World}{a:Option Addr}{n cap sz l h m:Nat}{es:List (List D)}(hr:dJ K w (.slice a n cap) (.rows sz es))(hl:l<=h)(hh:h<=es.length)(hm:h<=m)
  (b':Option Addr) (hb:b'=if m=l then a else a.map (·.add (l*sz))):dJ K w (.slice b' (h-l) (m-l)) (.rows sz ((es.take h).drop l)):=by
 by_cases he:l=h
 .simp_all [Nat.sub_self,none]
 .have hlt:l<h:=by omega
  cases hr with
  | none=>simp at hh;omega
  | rows b off _ _ _ _ u hb0 hn hcap hc hl' hrr=>
   have hne:¬m=l:=by omega
   rw [hb,if_neg hne];simp only [Option.map_some,addr_add];have hlen:((es.take h).drop l).length=h-l:=by simp;omega
   refine .rows b (off+l*sz) (m-l) sz (h-l) _ (λi j=>u (l+i) j) hb0 (by simp;omega) ah ?_ ?_ ?_
   all_goals grind [Nat.add_mul,Ee,gd]
def dJ.Wh{K:Nat->Prop}{w:World}{u:Value}{sz:Nat}{es:List (List D)}(hu:dJ K w u (.rows sz es)):∃a n cap,u= .slice a n cap/\n=es.length/\n<=cap:=by
 cases hu with
 | none a cap=>grind
 | rows b off cap _ n _ u hb hn hcap=>grind
def Mq{E:Tab}(hE:aR E){c:Ctx}{w:World}{t:Slots}{h:Heap}{ac:Act}(A:pR E c w t h ac){ty:TypeId}{u:Value}{p:PV}{lo hi mx:Option Operand}{K:PV->Prop}
  (hu:bg c w u p) (hk:uW E t ty p lo hi mx K):Gives E.P c w (Instr.sliceAt ty u (lo.map ac.eval) (hi.map ac.eval) (mx.map ac.eval)) K:=by
 replace hk:=aO hk;obtain⟨y,hy,hk⟩:=hk
 split at hk
 .rename_i e he
  replace hk:=aO hk;obtain⟨z,hz,hk⟩:=hk
  have hun:=(hE.ty ty y hy).desc;rw [he]at hun
  replace hk:=rU A hk;obtain⟨l,hk,hlo⟩:=hk
  have UW:(lo.map ac.eval=none/\l=0)\/∃k,lo.map ac.eval=some (.int k l):=by grind
  split at hk
  .rename_i f sz es;obtain⟨hsz,hk⟩:=hk
   replace hk:=rU A hk;obtain⟨hh,hk,hhi⟩:=hk
   obtain⟨h0,h1,h2,hk⟩:=hk;have OV:(hi.map ac.eval=none/\hh=es.length)\/∃k,hi.map ac.eval=some (.int k hh):=by grind
   cases hu with | c _ _ hu=>cases hu with | d _ _ _ hu=>
   obtain⟨a,n,cap,rfl,hn,hcap⟩:=hu.Wh
   have hsub:∀m b',hh.toNat<=m->m<=cap->b'=(if m=l.toNat then a else a.map (·.add (l.toNat*z.size)))->
     dJ (c.K f) w (.slice b' (hh.toNat-l.toNat) (m-l.toNat)) (.rows sz ((es.take hh.toNat).drop l.toNat)):=by
    intro m b' hm1 hm2 hb';by_cases he0:es=[]
    .subst he0;have:((([]:List (List D)).take hh.toNat).drop l.toNat)=[]:=by simp
     rw [this];have hz0:hh.toNat-l.toNat=0:=by simp at h2;omega
     rw [hz0];exact .none _ _ _
    .have:=hsz he0;subst this;exact hu.sub ah ah hm1 b' hb'
   cases mx with
   | none=>
    simp only at hk;refine⟨_,_,?_,.c _ _ (.d f _ _ (hsub cap _ ah (Nat.le_refl _) rfl)),hk⟩;have hb:=nX (P:=E.P) (w:=w) (len:=n) (cap:=cap) UW (by rw [hn];exact OV) h0 h1 ah hcap;simp [Instr.sliceAt,run_underlying hun,Instr.slice,hb,run_sizeOf hE hz]
   | some mo=>
    simp only at hk
    replace hk:=rU A hk;obtain⟨m,⟨hs,hmh,hk⟩,hmx⟩:=hk
    subst hmh;rcases hmx with⟨h',_⟩ | ⟨x,k,hx,hxe⟩
    .cases h'
    .cases hx;rcases hhi with⟨rfl,_⟩ | ⟨x',k',rfl,hx'⟩
     .simp at hs
     .have hb:=Ml (P:=E.P) (w:=w) (len:=n) (cap:=cap) (k:=k') (k':=k) UW h0 h1 ah;refine⟨_,_,?_,.c _ _ (.clip f _ _ _ _ (hsub m.toNat _ (Nat.le_refl _) ah rfl)),hk⟩;simp [Instr.sliceAt,run_underlying hun,Instr.slice,hxe,hx',hb,run_sizeOf hE hz]
  .rename_i b sz lo0 n;obtain⟨rfl,hmx,hk⟩:=hk;subst hmx
   replace hk:=rU A hk;obtain⟨hh,hk,hhi⟩:=hk
   obtain⟨h0,h1,h2,hk⟩:=hk;have OV:(hi.map ac.eval=none/\hh=n)\/∃k,hi.map ac.eval=some (.int k hh):=by grind
   cases hu with | c _ _ hu=>cases hu with
   | os0 a _ _ hl hm=>
    have hl0:l=0:=by omega
    have hh0:hh=0:=by omega
    subst hl0;subst hh0;have hb:=nX (P:=E.P) (w:=w) (len:=0) (cap:=0) UW OV h0 h1 ah (Nat.le_refl _);refine⟨.slice a 0 0,_,?_,.c _ _ (.os0 a b z.size hl hm),by simpa using hk⟩;simp at hb;simp [Instr.sliceAt,run_underlying hun,Instr.slice,hb,run_sizeOf hE hz]
   | osE a _ _ _ bb hl hm=>
    have hl0:l=0:=by omega
    have hh0:hh=0:=by omega
    subst hl0;subst hh0;have hb:=nX (P:=E.P) (w:=w) (len:=0) (cap:=0) UW OV h0 h1 ah (Nat.le_refl _);refine⟨.slice a 0 0,_,?_,.c _ _ (.osE a b z.size lo0 bb hl hm),by simpa using hk⟩;simp at hb;simp [Instr.sliceAt,run_underlying hun,Instr.slice,hb,run_sizeOf hE hz]
   | os _ _ _ _ cap bb oo hl hm hn hroom=>
    have hb:=nX (P:=E.P) (w:=w) (len:=n) (cap:=cap) UW OV h0 h1 h2 hn;by_cases hc:cap=l.toNat
    .subst hc;have hz0:hh.toNat-l.toNat=0:=by omega
     refine⟨.slice (some ⟨bb,oo+lo0*z.size,none⟩) 0 0,_,?_,.c _ _ (.osE _ b z.size (lo0+l.toNat) bb hl (iA hm)),by simp_all⟩;simp [Instr.sliceAt,run_underlying hun,Instr.slice,hb,run_sizeOf hE hz,hz0]
    .refine⟨.slice (some ⟨bb,oo+(lo0+l.toNat)*z.size,none⟩) (hh.toNat-l.toNat) (cap-l.toNat),_,?_,.c _ _ (.os b z.size _ _ _ bb oo hl hm ah ?_),hk⟩
     .simp [Instr.sliceAt,run_underlying hun,Instr.slice,hb,run_sizeOf hE hz,hc,addr_add,Nat.add_mul,Nat.add_assoc]
     grind
  .obtain⟨hmx,hk⟩:=hk;subst hmx
   replace hk:=rU A hk;obtain⟨hh,hk,hhi⟩:=hk
   obtain⟨rfl,rfl,hk⟩:=hk;have OV:(hi.map ac.eval=none/\(0:Int)=(0:Nat))\/∃k,hi.map ac.eval=some (.int k 0):=by grind
   cases hu with | c _ _ hu=>cases hu with | nil=>
   have hb:=nX (P:=E.P) (w:=w) (len:=0) (cap:=0) UW OV ah ah ah (Nat.le_refl _);refine⟨.slice none 0 0,_,?_,.c _ _ .nil,hk⟩;simp at hb;simp [Instr.sliceAt,run_underlying hun,Instr.slice,hb,run_sizeOf hE hz]
  .exact hk.elim
 .exact hk.elim
def bB.cells{c:Ctx}{w:World}{v:Value}{x:Cell}(h:bB c w v x):v.cells= #[v]:=by
 cases h with
 | d f _ x h=>cases h<;>rfl
 | nil=>rfl
 | clip=>rfl
 | os0=>rfl
 | osE=>rfl
 | os=>rfl
 | ptr=>rfl
 | rp=>rfl
 | fn=>rfl
 | np=>rfl
def bg.cells{c:Ctx}{w:World}{v:Value}{p:PV}(h:bg c w v p)(hn:(aI p).length≠0):F2 (bB c w) v.cells.toList (aI p):=by
 cases h with
 | c _ x h=>rw [h.cells];exact .cons h .nil
 | agg vs cs h=>simpa [Value.cells,aI]using h
 | tup=>simp [aI]at hn
def x9(l:List Value):∀(vs:List Value) (off k:Nat),off+k+vs.length<=l.length->
  (vs.zipIdx k).foldl (λ(cs:List Value) (x:Value×Nat)=>cs.set (off+x.2) x.1) l=l.take (off+k)++vs++l.drop (off+k+vs.length)
 | [],off,k,h=>by simp
 | v::vs,off,k,h=>by
  simp only [List.length_cons]at h;rw [List.zipIdx_cons,List.foldl_cons];have hs:=x9 (l.set (off+k) v) vs off (k+1) (by simp;omega)
  grind [List.take_add_one,List.take_set_of_le,List.getElem?_set_self,List.drop_set_of_lt]
def foldl_toList(cells:Array Value)(l:List (Value×Nat))(off:Nat):
  (l.foldl (λ(cs:Array Value) (x:Value×Nat)=>cs.setIfInBounds (off+x.2) x.1) cells).toList=l.foldl (λ(cs:List Value) (x:Value×Nat)=>cs.set (off+x.2) x.1) cells.toList:=by
 induction l generalizing cells with
 | nil=>rfl
 | cons x l ih=>simp_all
def Ef{E:Tab}{c:Ctx}{w:World}{t:Slots}{h:Heap}{a:Act}(A:pR E c w t h a)(place:Nat->Option (Nat×Nat)):
  ∀(parts:List (Nat×Operand)) (cs:List Cell) (vs:Array Value) (K:List Cell->Prop),F2 (bB c w) vs.toList cs->jW E t place parts cs K->
   ∃(vs':Array Value) (cs':List Cell),Instr.fill place vs (parts.map λx=>(x.1,a.eval x.2))=some vs'/\F2 (bB c w) vs'.toList cs'/\K cs'
 | [],cs,vs,K,hr,hk=>⟨vs,cs,rfl,hr,hk⟩
 | (i,x)::rest,cs,vs,K,hr,hk=>by
  unfold jW at hk;cases hp:place i with
  | none=>simp_all
  | some os=>
   obtain⟨off,size⟩:=os;rw [hp]at hk
   replace hk:=dQ A hk;obtain⟨v,hv,hl,hs,ho,hk⟩:=hk
   have hc:=hv.cells (by rw [hl];exact hs);have hcl:=hc.length;have hvl:=hr.length;have hlen:(a.eval x).cells.size=size:=by simp_all
   have hnew:F2 (bB c w) ((a.eval x).cells.zipIdx.foldl (λ(cs:Array Value) (x:Value×Nat)=>cs.setIfInBounds (off+x.2) x.1) vs).toList (splice cs (aI v) off):=by
    rw [<-Array.foldl_toList,foldl_toList,Array.toList_zipIdx];rw [x9 _ _ off 0 ah];unfold splice;refine((hr.take _).append hc).append ?_;rw [Nat.add_zero,hcl];exact hr.drop _
   obtain⟨vs',cs',h1,h2,h3⟩:=Ef A place rest _ _ K hnew hk
   grind [Instr.fill]
def IE{E:Tab}(hE:aR E):∀(F:List Field),(∀ft∈F.map (λf=>(f.offset,f.type)),(E.ty ft.2).isSome=true)->
  ∃places,F.mapM (λf=>(E.P.info? f.type).map λi=>(f.offset,i.size))=some places/\∀i,places[i]? =lD E (F.map (λf=>(f.offset,f.type))) i
 | [],_=>⟨[],rfl,λi=>by simp [lD]⟩
 | f::F,h=>by
  obtain⟨places,hp,hi⟩:=IE hE F (λft hm=>h ft (by simp_all));obtain⟨z,hz⟩:=Option.isSome_iff_exists.1 (h (f.offset,f.type) (by simp));obtain⟨inf,qH,hs,_⟩:=(hE.ty _ z hz).info;refine⟨(f.offset,z.size)::places,by simp_all,λi=> ?_⟩
  grind [lD]
def Mr{E:Tab}(hE:aR E){c:Ctx}{w:World}{t:Slots}{h:Heap}{a:Act}(A:pR E c w t h a){ty:TypeId}{parts:Array (Nat×Operand)}{K:PV->Prop}
  (hk:jX E t ty parts.toList K):Gives E.P c w (Instr.build ty (parts.map λ(i,x)=>(i,a.eval x))) K:=by
 replace hk:=aO hk;obtain⟨y,hy,hk⟩:=hk
 split at hk
 .rename_i fs he;obtain⟨hty,hk⟩:=hk;have hok:=hE.ty ty y hy;have hd:=hok.desc;rw [he]at hd;obtain⟨F,hun,hF⟩:=hd;obtain⟨inf,qH,_,_,z,hz,hzero⟩:=hok.info;obtain⟨places,hp,hpl⟩:=IE hE F.toList (by grind);rw [hF]at hpl;obtain⟨vs',cs',h1,h2,h3⟩:=Ef A (lD E fs) parts.toList y.zero z.cells _ (hzero c w) hk;refine⟨.agg vs',.agg cs',?_,?_,h3⟩
  .refine run_build w ty _ vs' ?_;simp only [Program.built,qH,hun,hz,hp];simp_all
  .have:=bg.agg (c:=c) (w:=w) vs'.toList cs' h2;simpa using this
 .exact hk.elim
def Eh{E:Tab}{c:Ctx}{w:World}{t:Slots}{h:Heap}{a:Act}(A:pR E c w t h a):
  ∀(xs:List Operand) (K:List Cell->Prop),uD E t xs K->∃ys,ys.length=xs.length/\(∀i,i<ys.length->bB c w ((xs.map a.eval).getD i undef) (ys.getD i default))/\K ys
 | [],K,hk=>⟨[],rfl,λi hi=>by simp at hi,hk⟩
 | x::r,K,hk=>by
  unfold uD at hk
  replace hk:=dQ A hk;obtain⟨v,hv,hk⟩:=hk
  generalize hu:a.eval x=u at hv;split at hk
  .rename_i y;obtain⟨ys,hl,hr,hk⟩:=Eh A r _ hk;cases hv with | c _ _ hv=>grind
  .exact hk.elim
theorem uY{E:Tab}(hE:aR E){c:Ctx}{w:World}{t:Slots}{h:Heap}{a:Act}(A:pR E c w t h a)(o:Oper){K:PV->Prop}(hk:aH E o.op t h K):
  ∃u pv,(execOp a.eval o).run E.P w= .ok (.value u) w/\bg c w u pv/\K pv:=by
 have lift:∀(s:Sem Value) (K:PV->Prop),Gives E.P c w s K->∃u pv,((do pure (Next.value (<-s)):Sem Next)).run E.P w= .ok (.value u) w/\bg c w u pv/\K pv:=by
  rintro s K ⟨u,pv,h1,h2,h3⟩;exact⟨u,pv,by simp [h1],h2,h3⟩
 cases ho:o.op<;>rw [ho]at hk<;>simp only [aH]at hk
 case move x=>
  replace hk:=dQ A hk;simp_all [execOp]
 case assign x=>
  replace hk:=dQ A hk;simp_all [execOp]
 case pick cd x y=>
  replace hk:=dQ A hk;obtain⟨v,hv,hk⟩:=hk
  obtain⟨f,b,rfl,hk⟩:=xY hk;have hb:=jv hv;cases b with
  | true=>
   obtain⟨v',hv',hk⟩:=dQ A (hk.1 rfl);exact⟨_,v',by simp [execOp,ho,hb,asBool],hv',hk⟩
  | false=>
   obtain⟨v',hv',hk⟩:=dQ A (hk.2 rfl);exact⟨_,v',by simp [execOp,ho,hb,asBool],hv',hk⟩
 case load ty p=>
  replace hk:=dQ A hk;obtain⟨v,hv,hk⟩:=hk
  have:=lift _ _ (Ec hE A.heap hv hk)
  grind [execOp]
 case nilCheck x=>
  replace hk:=dQ A hk;obtain⟨v,hv,hk⟩:=hk
  exact UO ho rfl hv hk
 case binOp op ty x y yt=>
  replace hk:=dQ A hk;obtain⟨u,hu,hk⟩:=hk
  replace hk:=dQ A hk;obtain⟨v,hv,hk⟩:=hk
  have:=lift _ _ (UQ hE hu hv hk x y)
  grind [execOp]
 case unOp op ty x=>
  replace hk:=dQ A hk;obtain⟨u,hu,hk⟩:=hk
  have:=lift _ _ (Wd (P:=E.P) hu hk)
  grind [execOp]
 case convert s d x=>
  replace hk:=dQ A hk;obtain⟨u,hu,hk⟩:=hk
  have:=lift _ _ (OU hE hu hk)
  grind [execOp]
 case fieldAddr s x f=>
  replace hk:=dQ A hk;obtain⟨u,hu,hk⟩:=hk
  have:=lift _ _ (Dn hE hu hk)
  grind [execOp]
 case field s x f=>
  replace hk:=dQ A hk;obtain⟨u,hu,hk⟩:=hk
  have:=lift _ _ (Mk hE hu hk)
  grind [execOp]
 case indexAddr ty x i=>
  replace hk:=dQ A hk;obtain⟨u,hu,hk⟩:=hk
  replace hk:=dQ A hk;obtain⟨v,hv,hk⟩:=hk
  have:=lift _ _ (Dp hE hu hv hk)
  grind [execOp]
 case slice ty x lo hi mx=>
  replace hk:=dQ A hk;obtain⟨u,hu,hk⟩:=hk
  have:=lift _ _ (Mq hE A hu hk)
  grind [execOp]
 case extract x i=>
  replace hk:=dQ A hk;obtain⟨u,hu,hk⟩:=hk
  have:=lift _ _ (G5 (P:=E.P) hu hk)
  grind [execOp]
 case build ty parts=>
  have:=lift _ _ (Mr hE A hk)
  grind [execOp]
 case makeFunc fn first caps=>
  split at hk
  .rename_i g;obtain⟨rfl,hk⟩:=hk;obtain⟨ys,hl,hr,hk⟩:=Eh A _ _ hk;refine⟨.func (.func g) #[] (caps.map a.eval),_,by simp [execOp,ho,Instr.makeFunc],.c _ _ ?_,hk⟩;have:=bB.fn (c:=c) (w:=w) g (caps.toList.map a.eval) ys (by simp [hl]) hr;have e:(caps.toList.map a.eval).toArray=caps.map a.eval:=by grind
   rwa [e]at this
  .exact hk.elim
 case call cl=>
  unfold lT at hk;obtain⟨callee,args,argTypes⟩:=cl;obtain⟨args⟩:=args;obtain⟨argTypes⟩:=argTypes;split at hk
  .rename_i hb;simp only at hb;subst hb;split at hk
   .rename_i x ty h1 h2;simp only at h1 h2;subst h1;subst h2
    replace hk:=aO hk;obtain⟨y,hy,hs,hk⟩:=hk
    replace hk:=dQ A hk;obtain⟨u,hu,hk⟩:=hk
    obtain⟨r,pv,h1,h2,h3⟩:=UR hE hy hs hu hk (#[x].map λ| .const _=>true | _=>false) o.type
    grind [execOp,resolve,invoke]
   .exact hk.elim
  .rename_i hb;simp only at hb;subst hb;split at hk
   .rename_i x ty h1 h2;simp only at h1 h2;subst h1;subst h2
    replace hk:=aO hk;obtain⟨y,hy,hs,hk⟩:=hk
    replace hk:=dQ A hk;obtain⟨u,hu,hk⟩:=hk
    obtain⟨r,pv,h1,h2,h3⟩:=UU hE hy hs hu hk (#[x].map λ| .const _=>true | _=>false) o.type
    grind [execOp,resolve,invoke]
   .exact hk.elim
  .rename_i hb;simp only at hb;subst hb;split at hk
   .rename_i x y h1;simp only at h1;subst h1
    replace hk:=dQ A hk;obtain⟨u,hu,hk⟩:=hk
    replace hk:=dQ A hk;obtain⟨v,hv,hk⟩:=hk
    replace hk:=jE hk;obtain⟨_,k,m,rfl,hk⟩:=hk
    replace hk:=jE hk;obtain⟨_,k',n,rfl,hk⟩:=hk
    refine⟨_,_,?_,.ofInt _ _,hk⟩;simp [execOp,ho,resolve,invoke,builtin,Builtin.min_,iC hu,iC hv,Builtin.min2]
   .exact hk.elim
  .rename_i hb;simp only at hb;subst hb;split at hk
   .rename_i x y h1;simp only at h1;subst h1
    replace hk:=dQ A hk;obtain⟨u,hu,hk⟩:=hk
    replace hk:=dQ A hk;obtain⟨v,hv,hk⟩:=hk
    replace hk:=jE hk;obtain⟨_,k,m,rfl,hk⟩:=hk
    replace hk:=jE hk;obtain⟨_,k',n,rfl,hk⟩:=hk
    refine⟨_,_,?_,.ofInt _ _,hk⟩;simp [execOp,ho,resolve,invoke,builtin,Builtin.max_,iC hu,iC hv,Builtin.max2]
   .exact hk.elim
  .exact hk.elim
 all_goals exact hk.elim
theorem ay(m:Nat)(o:dx)(h:Heap):look ((m,o)::h) m=some o:=by simp [look]
theorem aj{m l:Nat}(o:dx)(h:Heap)(hne:m≠l):look ((m,o)::h) l=look h l:=by simp [look,hne]
def upd{α:Type}(μ:Nat->Option α)(l:Nat)(b:Option α):Nat->Option α:=λx=>if x=l then b else μ x
def Ctx.nameAt(c:Ctx)(p:Option (Nat×Nat)):Ctx:={c with ν:=upd c.ν c.n p,n:=c.n+1}
abbrev Ctx.name(c:Ctx)(b:Option Nat):Ctx:=c.nameAt (b.map λx=>(x,0))
def lV(c:Ctx)(p:Option (Nat×Nat)):(c.nameAt p).μ=upd c.μ c.n (p.map (·.1)):=by
 funext x;simp only [Ctx.μ,Ctx.nameAt,upd];split<;>rfl
def ji(c:Ctx)(b:Option Nat):(c.name b).μ=upd c.μ c.n b:=by
 rw [lV];cases b<;>rfl
def Ctx.wK(c:Ctx)(p:Option (Nat×Nat)):CLe c (c.nameAt p):=
 ⟨λ_ _ h=>h,Nat.le_succ _,λl hl=>by simp only [Ctx.nameAt,upd];grind⟩
def Ctx.keep(c:Ctx)(f:Bool)(b:Option Nat):Ctx:={c with K:=λg x=>c.K g x\/(some x=b/\(g=true->f=true))}
def Ctx.oZ(c:Ctx)(b:Option Nat):CLe c (c.name b):=c.wK _
def Ctx.Sy(c:Ctx)(f:Bool)(b:Option Nat):CLe c (c.keep f b):=⟨λ_ _ h=> .inl h,Nat.le_refl _,λ_ _=>rfl⟩
def Ei{w w':World}(h:∀(b:Nat) (c:Array Value) (E:TypeId) (fr:Nat×Nat),w.heap[b]? =some (.cells c E fr)->∃c' fr',w'.heap[b]? =some (.cells c' E fr')/\c'.size=c.size):World.jV w w':=by
 rintro b m ⟨c,E,fr,hb,hm⟩;obtain⟨c',fr',hb',hs⟩:=h b c E fr hb;exact⟨c',E,fr',hb',ah⟩
theorem alloc_old{w:World}{o:Go.Obj}{b:Nat}(hb:b<w.heap.size):(w.alloc o).heap[b]? =w.heap[b]? :=RowKit.Below.heap_alloc w o b hb
def kE(w:World)(o:Go.Obj):(w.alloc o).heap[w.heap.size]? =some o:=by
 show(w.heap.push o)[w.heap.size]? =_;simp
def lt_of_some{w:World}{b:Nat}{o:Go.Obj}(h:w.heap[b]? =some o):b<w.heap.size:=(Array.getElem?_eq_some_iff.1 h).1
def qM(w:World)(o:Go.Obj):World.jV w (w.alloc o):=
 Ei λb c E fr h=>⟨c,fr,by rw [alloc_old (lt_of_some h)];exact h,rfl⟩
def gq.mono{c c':Ctx}{w w':World}{l:Nat}{o:dx}(hc:CLe c c')(hw:∀f b,c.K f b->w'.heap[b]? =w.heap[b]?)(hs:World.jV w w')(hl:l<c.n)
  (hb:∀b,o.live->c.μ l=some b->w'.heap[b]? =w.heap[b]?) (h:gq c w l o):gq c' w' l o:=by
 cases o with
 | box cs=>
  obtain⟨b,vs,E,hm,hx,hr⟩:=h;exact⟨b,vs,E,(hc.ν l hl).trans hm,(hb b trivial (iA hm)).trans hx,F2.mono (λ_ _ h=>h.mono hc hw hs) hr⟩
 | rows f sz es=>
  simp only [gq]at h ⊢;rw [hc.ν l hl];cases hm:c.ν l with
  | none=>simp_all
  | some p=>
   rw [hm]at h;obtain⟨cells,E,hx,hr⟩:=h;refine⟨cells,E,(hb p.1 trivial (iA hm)).trans hx,λi hi=>⟨(hr i hi).1,λj hj=> ?_⟩⟩;obtain⟨v,hv,hd⟩:=(hr i hi).2 j hj;exact⟨v,hv,hd.mono (hc.K f) (hw f)⟩
 | grid sz cs=>
  simp only [gq]at h ⊢;rw [hc.ν l hl];cases hm:c.ν l with
  | none=>simp_all
  | some p=>
   rw [hm]at h;obtain⟨cells,E,hx,hr⟩:=h;refine⟨cells,E,(hb p.1 trivial (iA hm)).trans hx,λi hi=>⟨(hr i hi).1,λj hj=> ?_⟩⟩;obtain⟨v,hv,hd⟩:=(hr i hi).2 j hj;exact⟨v,hv,hd.mono hc hw hs⟩
 | gone=>trivial
def gq.lt{c:Ctx}{w:World}{l b:Nat}{o:dx}(h:gq c w l o)(ho:o.live)(hm:c.μ l=some b):b<w.heap.size:=by
 cases o with
 | box cs=>obtain⟨b',vs,E,hm',hx,_⟩:=h;rw [iA hm']at hm;cases hm;exact lt_of_some hx
 | rows f sz es=>
  obtain⟨o,ho⟩:=adw hm;simp only [gq,ho]at h;obtain⟨cells,E,hx,_⟩:=h;exact lt_of_some hx
 | grid sz cs=>
  obtain⟨o,ho⟩:=adw hm;simp only [gq,ho]at h;obtain⟨cells,E,hx,_⟩:=h;exact lt_of_some hx
 | gone=>exact ho.elim
def bC.new{c:Ctx}{w w':World}{h:Heap}(H:bC c w h){b:Option Nat}{o:dx}(hb:∀x,b=some x->x=w.heap.size)(hs:World.jV w w')
  (hold:∀x,x<w.heap.size->w'.heap[x]? =w.heap[x]?) (hsz:w.heap.size<=w'.heap.size) (ho:gq (c.name b) w' c.n o):bC (c.name b) w' ((c.n,o)::h) where
 obj:=by
  intro l o' hl;by_cases e:c.n=l
  .subst e;rw [ay]at hl;cases hl;exact⟨Nat.lt_succ_self _,ho⟩
  .rw [aj _ _ e]at hl;obtain⟨h1,h2⟩:=H.obj l o' hl;refine⟨Nat.lt_succ_of_lt h1,h2.mono (c.oZ b) (λf x hx=>hold x (H.low f x hx)) hs h1 (λx hlv hx=>hold x (h2.lt hlv hx))⟩
 inj:=by
  intro l o1 l' o2 x h1 hl1 h2 hl2 hm1 hm2;by_cases e:c.n=l<;>by_cases e':c.n=l'
  .omega
  .exfalso;subst e;rw [aj _ _ e']at h2;have hlt:=(H.obj l' o2 h2).1;simp only [ji,upd,if_true]at hm1;have hx:=hb x hm1;have:c.μ l'=some x:=by simpa [ji,upd,show l'≠c.n by omega]using hm2
   have:=(H.obj l' o2 h2).2.lt hl2 this;omega
  .exfalso;subst e';rw [aj _ _ e]at h1;have hlt:=(H.obj l o1 h1).1;simp only [ji,upd,if_true]at hm2;have hx:=hb x hm2;have:c.μ l=some x:=by simpa [ji,upd,show l≠c.n by omega]using hm1
   have:=(H.obj l o1 h1).2.lt hl1 this;omega
  .rw [aj _ _ e]at h1;rw [aj _ _ e']at h2;have a1:c.μ l=some x:=by simpa [ji,upd,show l≠c.n from λh=>e h.symm]using hm1
   have a2:c.μ l'=some x:=by simpa [ji,upd,show l'≠c.n from λh=>e' h.symm]using hm2
   exact H.inj l o1 l' o2 x h1 hl1 h2 hl2 a1 a2
 own:=by
  rintro f x ⟨l,o',hl,hlv,hm⟩ hk;by_cases e:c.n=l
  .subst e;simp only [ji,upd,if_true]at hm;have:=hb x hm;have:=H.low f x hk;omega
  .rw [aj _ _ e]at hl;have a1:c.μ l=some x:=by simpa [ji,upd,show l≠c.n from λh=>e h.symm]using hm
   exact H.own f x ⟨l,o',hl,hlv,a1⟩ hk
 low:=λf x hk=>Nat.lt_of_lt_of_le (H.low f x hk) hsz
 sub:=H.sub
def Grow.new{c:Ctx}{w w':World}{h:Heap}{b:Option Nat}{o:dx}(hb:∀x,b=some x->x=w.heap.size)(hs:World.jV w w')
  (hold:∀x,x<w.heap.size->w'.heap[x]? =w.heap[x]?) (hsz:w.heap.size<=w'.heap.size) (h1:w'.os=w.os) (h2:w'.tape=w.tape) (h3:w'.output=w.output):
  Grow c w h (c.name b) w' ((c.n,o)::h) where
 le:=c.oZ b
 size:=hsz
 stays:=hs
 kept:=λx hx _=>hold x hx
 uT:=λ_ _ hk=> .inl hk
 oV:=by
  rintro x ⟨l,o',hl,hlv,hm⟩;by_cases e:c.n=l
  .simp_all [ji,upd,if_true,Nat.le_refl]
  .rw [aj _ _ e]at hl;exact .inl ⟨l,o',hl,hlv,by simpa [ji,upd,show l≠c.n from λh=>e h.symm]using hm⟩
 os:=h1
 tape:=h2
 output:=h3
def bC.write{c:Ctx}{w w':World}{h:Heap}(H:bC c w h){l b:Nat}{o o':dx}(hl:look h l=some o)(hlv:o.live)(hm:c.μ l=some b)
  (hold:∀x,x≠b->w'.heap[x]? =w.heap[x]?) (hsz:w'.heap.size=w.heap.size) (hs:World.jV w w') (ho:gq c w' l o'):bC c w' ((l,o')::h) where
 obj:=by
  intro k o1 hk;by_cases e:l=k
  .subst e;rw [ay]at hk;cases hk;exact⟨(H.obj l o hl).1,ho⟩
  .rw [aj _ _ e]at hk;obtain⟨h1,h2⟩:=H.obj k o1 hk;refine⟨h1,h2.mono (.refl c) (λf x hx=>hold x (λe'=> ?_)) hs h1 (λx hx1 hx2=>hold x (λe'=> ?_))⟩
   .subst e';exact H.own f x ⟨l,o,hl,hlv,hm⟩ hx
   .subst e';exact e (H.inj l o k o1 x hl hlv hk hx1 hm hx2)
 inj:=by
  intro k o1 k' o2 x h1 hl1 h2 hl2 hm1 hm2;have fix:∀k o1,look ((l,o')::h) k=some o1->o1.live->∃o2,look h k=some o2/\o2.live:=by grind [aj]
  obtain⟨p1,q1,r1⟩:=fix k o1 h1 hl1;obtain⟨p2,q2,r2⟩:=fix k' o2 h2 hl2;exact H.inj k p1 k' p2 x q1 r1 q2 r2 hm1 hm2
 own:=by
  rintro f x ⟨k,o1,hk,hk1,hx⟩ hkk;by_cases e:l=k
  .subst e;exact H.own f x ⟨l,o,hl,hlv,hx⟩ hkk
  .rw [aj _ _ e]at hk;exact H.own f x ⟨k,o1,hk,hk1,hx⟩ hkk
 low:=λf x hk=>by rw [hsz];exact H.low f x hk
 sub:=H.sub
def Grow.write{c:Ctx}{w w':World}{h:Heap}{l b:Nat}{o o':dx}(hl:look h l=some o)(hlv:o.live)(hm:c.μ l=some b)
  (hold:∀x,x≠b->w'.heap[x]? =w.heap[x]?) (hsz:w'.heap.size=w.heap.size) (hs:World.jV w w') (h1:w'.os=w.os) (h2:w'.tape=w.tape) (h3:w'.output=w.output):
  Grow c w h c w' ((l,o')::h) where
 le:= .refl c
 size:=by omega
 stays:=hs
 kept:=λx _ hn=>hold x (λe=>hn ⟨l,o,hl,hlv,by rw [e];exact hm⟩)
 uT:=λ_ _ hk=> .inl hk
 oV:=by
  rintro x ⟨k,o1,hk,hk1,hx⟩;by_cases e:l=k
  .subst e;exact .inl ⟨l,o,hl,hlv,hx⟩
  .rw [aj _ _ e]at hk;exact .inl ⟨k,o1,hk,hk1,hx⟩
 os:=h1
 tape:=h2
 output:=h3
def bC.give{c:Ctx}{w:World}{h:Heap}(H:bC c w h){l:Nat}{o:dx}(f:Bool)(hl:look h l=some o)(hlv:o.live):bC (c.keep f (c.μ l)) w ((l,.gone)::h) where
 obj:=by
  intro k o1 hk;by_cases e:l=k
  .subst e;rw [ay]at hk;cases hk;exact⟨(H.obj l o hl).1,trivial⟩
  .rw [aj _ _ e]at hk;obtain⟨h1,h2⟩:=H.obj k o1 hk;exact⟨h1,h2.mono (c.Sy f _) (λ_ _ _=>rfl) (.refl w) h1 (λ_ _ _=>rfl)⟩
 inj:=by
  intro k o1 k' o2 x h1 hl1 h2 hl2 hm1 hm2;by_cases e:l=k
  .subst e;rw [ay]at h1;cases h1;exact hl1.elim
  .by_cases e':l=k'
   .subst e';rw [ay]at h2;cases h2;exact hl2.elim
   .rw [aj _ _ e]at h1;rw [aj _ _ e']at h2;exact H.inj k o1 k' o2 x h1 hl1 h2 hl2 hm1 hm2
 own:=by
  rintro g x ⟨k,o1,hk,hk1,hx⟩ hkk;by_cases e:l=k
  .subst e;rw [ay]at hk;cases hk;exact hk1.elim
  .rw [aj _ _ e]at hk;rcases hkk with hkk | ⟨hkk,_⟩
   .exact H.own g x ⟨k,o1,hk,hk1,hx⟩ hkk
   .exact e (H.inj l o k o1 x hl hlv hk hk1 hkk.symm hx)
 low:=by
  rintro g x (hk | ⟨hk,_⟩)
  .exact H.low g x hk
  .exact(H.obj l o hl).2.lt hlv hk.symm
 sub:=by
  rintro x (hk | ⟨hk,hf⟩)
  .exact .inl (H.sub x hk)
  .exact .inr ⟨hk,λh=>by cases h⟩
theorem Grow.give{c:Ctx}{w:World}{h:Heap}{l:Nat}{o:dx}(f:Bool)(hl:look h l=some o)(hlv:o.live):Grow c w h (c.keep f (c.μ l)) w ((l,.gone)::h) where
 le:=c.Sy f _
 size:=Nat.le_refl _
 stays:= .refl w
 kept:=λ_ _ _=>rfl
 uT:=by
  rintro g x (hk | ⟨hk,_⟩)
  .exact .inl hk
  .exact .inr (.inr ⟨l,o,hl,hlv,hk.symm⟩)
 oV:=by
  rintro x ⟨k,o1,hk,hk1,hx⟩;by_cases e:l=k
  .subst e;rw [ay]at hk;cases hk;exact hk1.elim
  .rw [aj _ _ e]at hk;exact .inl ⟨k,o1,hk,hk1,hx⟩
 os:=rfl
 tape:=rfl
 output:=rfl
def oH.grow{E:Tab}{c c':Ctx}{w w':World}{h h':Heap}(r:bC c w h)(g:Grow c w h c' w' h')(G:oH E c w):oH E c' w':=by
 intro x d hd;obtain⟨h1,u,h2,h3⟩:=G x d hd;exact⟨g.le.K _ _ h1,u,by rw [qL (g.ro r false x h1)];exact h2,h3.mono (g.le.K false) (g.ro r false)⟩
def nm(n k:Nat):Nat:=n+k
def Ej{n a b:Nat}:(nm n a=nm n b)=(a=b):=by simp [nm]
theorem Wi{n a b:Nat}:nm (nm n a) b=nm n (a+b):=by simp [nm,Nat.add_assoc]
def zw(h:Heap)(x:Cell)(K:Bool->D->Heap->Prop):Prop:=
 match x with
 | .d f x=>K (f || x.bY) x h
 | .nil=>∃sz,K true (.rows sz []) h
 | .clip f sz es=>K f (.rows sz es) h
 | .os l sz lo n=>bZ (look h l) λo=>match o with
  | .rows f sz' es=>sz=sz'/\lo+n<=es.length/\K f (.rows sz ((es.drop lo).take n)) ((l,.gone)::h)
  | _=>False
 | _=>False
def lJ(h:Heap):List Cell->(Bool->List D->Heap->Prop)->Prop
 | [],K=>K true [] h
 | x::r,K=>zw h x λf d h'=>lJ h' r λg ds h''=>K (f&&g) (d::ds) h''
def uZ(E:Tab)(t:Slots)(sz:Nat):Heap->List (Nat×Operand)->(Bool->List (List D)->Heap->Prop)->Prop
 | h,[],K=>K true [] h
 | h,(_,x)::r,K=>aB (ev E t x) λv=>(aI v).length=sz/\lJ h (aI v) λf ds h'=>uZ E t sz h' r λg dss h''=>K (f&&g) (ds::dss) h''
def nK(k:IntKind):List (List D)->Option (List Int)
 | []=>some []
 | [.int k' n]::r=>if k=k' then(match nK k r with | some l=>some (n::l) | none=>none)else none
 | _=>none
def ir(d:iU)(es:List (List D)):List (List D):=
 match d with
 | .int k=>match nK k es with | some xs=>xs.map (ic k) | none=>es
 | _=>es
inductive ZD:List Cell->List D->Prop
 | nil:ZD [] []
 | d (f:Bool) (x:D) {r:List Cell} {ds:List D}:ZD r ds->ZD (.d f x::r) (x::ds)
 | nl (sz:Nat) {r:List Cell} {ds:List D}:ZD r ds->ZD (.nil::r) (.rows sz []::ds)
def gX:Nat:=1073741824
def cB(row ds:List D)(j:Nat):List D:=row.take j++ds++row.drop (j+ds.length)
def dO(h:Heap)(y:TY)(p v:PV)(K:Heap->Prop):Prop:=
 (aI v).length=y.size/\y.size≠0/\
 match p with
 | .c (.ptr l sz i j)=>bZ (look h l) λo=>match o with
  | .box cs=>i=0/\j+(aI v).length<=cs.length/\K ((l,.box (splice cs (aI v) j))::h)
  | .rows f sz' es=>sz=sz'/\i<es.length/\lJ h (aI v) λg ds h'=>look h' l=some (.rows f sz' es)/\j+ds.length<=sz/\
   ∀row,es[i]? =some row->K ((l,.rows (f&&g) sz (es.set i (if j=0/\ds.length=sz then ds else cB row ds j)))::h')
  | .grid sz' cs=>sz=sz'/\D9 cs[i]? λrow=>j+(aI v).length<=sz/\K ((l,.grid sz (cs.set i (splice row (aI v) j)))::h)
  | .gone=>False
 | _=>False
def rV(d:iU)(v:PV):Prop:=match d,v with | .int _,.c (.d _ (.int _ _))=>True | .slice _,.c (.d _ (.int _ _))=>False | .slice _,_=>True | _,_=>False
def Ms(h:Heap)(zd:List D)(v:PV)(K:Bool->Nat->List (List D)->Prop):Prop:=
 match v with
 | .c .nil=>K true 0 []
 | .c (.d f (.rows sz es))=>K f sz es
 | .c (.clip f sz es)=>K f sz es
 | .c (.os l sz lo n)=>bZ (look h l) λo=>match o with
  | .rows f sz' es=>sz=sz'/\lo+n<=es.length/\K f sz ((es.drop lo).take n)
  | _=>False
 | .c (.d _ (.int _ n))=>0<=n/\n<=gX/\K true zd.length (List.replicate n.toNat zd)
 | _=>False
def nY(ds:List (List D)):Bool:=ds.all λr=>r.all D.bY
def vg(h:Heap)(n k:Nat)(z:TY)(a:PV)(f2:Bool)(ds:List (List D))(K:PV->Heap->Nat->Prop):Prop:=
  match a with
  | .c .nil=>ds.length<=gX/\K (.c (.os (nm n k) z.size 0 ds.length)) ((nm n k,.rows f2 z.size ds)::h) (k+1)
  | .c (.os l sz lo m)=>bZ (look h l) λo=>match o with
    | .rows f1 sz1 es=>lo+m<=es.length/\sz=sz1/\sz=z.size/\m+ds.length<=gX/\
        K (.c (.os (nm n k) z.size 0 (m+ds.length))) ((nm n k,.rows (f1&&f2) z.size ((es.drop lo).take m++ds))::(l,.gone)::h) (k+1)
    | _=>False
  | .c (.clip f1 sz es) => (es ≠ [] -> sz = z.size) /\ (ds = [] -> es = []) /\ es.length + ds.length <= gX /\
        K (.c (.os (nm n k) z.size 0 (es.length+ds.length))) ((nm n k,.rows (f1&&f2) z.size (es++ds))::h) (k+1)
  | _=>False
def wL(h:Heap)(n k:Nat)(z:TY)(a b:PV)(K:PV->Heap->Nat->Prop):Prop:=
 ∃zd,ZD z.zero zd/\z.size≠0/\z.bytes<=1024/\Ms h zd b λf0 sz2 ds=>(ds≠ []->sz2=z.size)/\vg h n k z a (f0 || nY ds) ds K
def vk(h:Heap)(zd:List D)(z:TY)(v:PV)(K:Heap->Prop):Prop:=
 match v with
 | .c .nil=>K h
 | .c (.os l sz lo n)=>bZ (look h l) λo=>match o with
  | .rows f sz' es=>sz=sz'/\sz=z.size/\z.size≠0/\lo+n<=es.length/\K ((l,.rows f sz (es.take lo++List.replicate n zd++es.drop (lo+n)))::h)
  | _=>False
 | _=>False
def aX(E:Tab)(op:Op)(t:Slots)(h:Heap)(n k:Nat)(K:PV->Heap->Nat->Prop):Prop:=
 match op with
 | .alloc ty=>aD (E.ty ty) λy=>y.zero≠ []/\K (.c (.ptr (nm n k) y.size 0 0)) ((nm n k,.box y.zero)::h) (k+1)
 | .box _ x=>aB (ev E t x) λv=>(aI v).length≠0/\K (.c (.ptr (nm n k) (aI v).length 0 0)) ((nm n k,.box (aI v))::h) (k+1)
 | .buildSlice ty len parts=>aD (E.ty ty) λy=>match y.desc with
  | .slice e=>aD (E.ty e) λz=>z.size≠0/\parts.toList.map (·.1)=List.range len/\len*z.size<=16777216/\
    uZ E t z.size h parts.toList λf es h'=>K (.c (.os (nm n k) z.size 0 len)) ((nm n k,.rows f z.size (ir z.desc es))::h') (k+1)
  | _=>False
 | .makeSlice ty l c=>aD (E.ty ty) λy=>match y.desc with
  | .slice e=>aD (E.ty e) λz=>∃zd,ZD z.zero zd/\aB (ev E t l) λlv=>aB (ev E t c) λcv=>jQ lv λ_ m=>jQ cv λ_ m'=>
    z.size≠0/\z.bytes<=1024/\m'=m/\0<=m/\m<=gX/\K (.c (.os (nm n k) z.size 0 m.toNat)) ((nm n k,.rows true z.size (List.replicate m.toNat zd))::h) (k+1)
  | _=>False
 | .store ty p x=>aD (E.ty ty) λy=>aB (ev E t p) λpv=>aB (ev E t x) λv=>dO h y pv v λh'=>K (.tup []) h' k
 | .call c=>match c.callee,c.args.toList,c.argTypes.toList with
  | .builtin .append,[a,b],ty::ty2=>aD (E.ty ty) λy=>match y.desc with
   | .slice e=>aD (E.ty e) λz=>aB (ev E t a) λav=>aB (ev E t b) λbv=>
     (match ty2 with | [t2]=>aD (E.ty t2) λy2=>rV y2.desc bv | _=>False)/\
     wL h n k z av bv K
   | _=>False
  | .builtin .clear,[a],[ty]=>aD (E.ty ty) λy=>match y.desc with
   | .slice e=>aD (E.ty e) λz=>∃zd,ZD z.zero zd/\aB (ev E t a) λav=>vk h zd z av λh'=>K (.tup []) h' k
   | _=>False
  | _,_,_=>False
 | _=>False
def Turns(P:Program)(c:Ctx)(w:World)(h:Heap)(n:Nat)(s:Sem Next)(K:PV->Heap->Nat->Prop):Prop:=
 ∃nx u c' w' h' k' pv,s.run P w= .ok nx w'/\(nx= .value u\/(nx= .skip/\u=undef))/\Grow c w h c' w' h'/\bC c' w' h'/\c'.n=nm n k'/\bg c' w' u pv/\K pv h' k'
theorem dJ.flag{c:Ctx}{w:World}(hs:∀b,c.K true b->c.K false b){v:Value}{x:D}{f g:Bool}(h:dJ (c.K f) w v x):dJ (c.K (f&&g)) w v x:=by
 refine h.mono' (λb hb=> ?_);cases f<;>cases g<;>first | exact hb | exact hs b hb
def dJ.Wj{c:Ctx}{w:World}(hs:∀b,c.K true b->c.K false b){v:Value}{x:D}{f g:Bool}(h:dJ (c.K g) w v x):dJ (c.K (f&&g)) w v x:=by
 refine h.mono' (λb hb=> ?_);cases f<;>cases g<;>first | exact hb | exact hs b hb
def dA.ab4{K:Nat->Prop}{w:World}{cells:Array Value}{sz:Nat}{es:List (List D)}(h:dA K w cells sz es):
  ∃u:Nat->Nat->Value,∀i j,i<es.length->j<sz->cells[i*sz+j]? =some (u i j)/\dJ K w (u i j) (gd es i j):=by
 have hu:∀i j,∃u,i<es.length->j<sz->cells[i*sz+j]? =some u/\dJ K w u (gd es i j):=by
  intro i j;by_cases hi:i<es.length
  .by_cases hj:j<sz
   .obtain⟨v,hv⟩:=(h i hi).2 j hj;simp_all
   .exact⟨undef,λ_ h=>absurd h hj⟩
  .exact⟨undef,λh=>absurd h hi⟩
 exact⟨λi j=>Classical.choose (hu i j),λi j hi hj=>Classical.choose_spec (hu i j) hi hj⟩
def vo{c:Ctx}{w:World}{h:Heap}(H:bC c w h){v:Value}{x:Cell}{K:Bool->D->Heap->Prop}(hv:bB c w v x)(hk:zw h x K):
  ∃c' h' f d,Grow c w h c' w h'/\bC c' w h'/\c'.n=c.n/\dJ (c'.K f) w v d/\K f d h':=by
 unfold zw at hk;split at hk
 .rename_i f x;cases hv with | d _ _ _ hd=>
  refine⟨c,h,f || x.bY,x,.refl _ _ _,H,rfl,?_,hk⟩;cases hs:x.bY with
  | true=>exact hd.bY _ hs
  | false=>simpa using hd
 .cases hv with | nil=>
  obtain⟨sz,hk⟩:=hk;exact⟨c,h,true,_,.refl _ _ _,H,rfl,.none _ _ _,hk⟩
 .rename_i f sz es;cases hv with | clip _ a n _ _ hd=>
  exact⟨c,h,f,_,.refl _ _ _,H,rfl,hd,hk⟩
 .rename_i l sz lo n
  replace hk:=jY hk;obtain⟨o,ho,hk⟩:=hk
  split at hk
  .rename_i f sz' es;obtain⟨rfl,hlen,hk⟩:=hk;have hg:=Grow.give (c:=c) (w:=w) (h:=h) f ho (by trivial);have hH:=H.give f ho (by trivial);refine⟨_,_,f,_,hg,hH,rfl,?_,hk⟩;have hro:=(H.obj l _ ho).2;cases hv with
   | os0 a _ _ hl hm=>rw [List.take_zero];exact .none _ _ _
   | osE a _ _ _ b hl hm=>rw [List.take_zero];exact .none _ _ _
   | os _ _ _ _ cap b oo hl hm hn hroom=>
    simp only [gq,hm]at hro;obtain⟨cells,E,hb,hrow⟩:=hro;obtain⟨u,hu⟩:=hrow.ab4;have hlen':((es.drop lo).take n).length=n:=by simp;omega
    have hg:∀i,i<n->((es.drop lo).take n).getD i []=es.getD (lo+i) []:=by grind
    refine .rows b (oo+lo*sz) cap sz n _ (λi j=>u (lo+i) j) ?_ hlen'.symm hn ?_ ?_ ?_
    .exact .inr ⟨(iA hm).symm,λh=>h⟩
    .intro i j hi hj;rw [hlen']at hi;have h1:=(hu (lo+i) j ah hj).1;rw [jw hb];simpa only [mG,Nat.add_mul,Nat.add_assoc]using h1
    .intro i hi;rw [hlen']at hi;rw [hg i hi];exact(hrow (lo+i) ah).1
    .intro i j hi hj;rw [hlen']at hi;unfold gd;rw [hg i hi];exact((hu (lo+i) j ah hj).2).mono' (λx hx=> .inl hx)
  .exact hk.elim
 .exact hk.elim
def kF{w:World}:∀(cs:List Cell) {c:Ctx} {h:Heap} (_:bC c w h) {vs:List Value} {K:Bool->List D->Heap->Prop} (_:F2 (bB c w) vs cs) (_:lJ h cs K),
  ∃c' h' f ds,Grow c w h c' w h'/\bC c' w h'/\c'.n=c.n/\F2 (dJ (c'.K f) w) vs ds/\K f ds h'
 | [],c,h,H,vs,K,hv,hk=>by
  cases hv;exact⟨c,h,true,[],.refl _ _ _,H,rfl,.nil,hk⟩
 | x::r,c,h,H,vs,K,hv,hk=>by
  cases hv with | @cons v _ vs _ h1 h2=>
  obtain⟨c1,h1',f,d,g1,H1,n1,d1,hk⟩:=vo H h1 hk;obtain⟨c2,h2',g,ds,g2,H2,n2,d2,hk⟩:=kF r H1 (F2.mono (λ_ _ h=>h.grow H g1) h2) hk;refine⟨c2,h2',f&&g,d::ds,g1.trans g2,H2,n2.trans n1,.cons ?_ (F2.mono (λ_ _ h=>h.Wj H2.sub) d2),hk⟩;exact(d1.mono' (g2.le.K f)).flag H2.sub
def bB.oneCell{c:Ctx}{w:World}{v:Value}{x:Cell}(h:bB c w v x):v.oneCell'=true:=by
 cases h with
 | d f _ x h=>cases h<;>rfl
 | _=>rfl
def dJ.oneCell{K:Nat->Prop}{w:World}{v:Value}{x:D}(h:dJ K w v x):v.oneCell'=true:=by cases h<;>rfl
def F2.all{α β:Type}{R:α->β->Prop}{p:α->Prop}(h:∀a b,R a b->p a){l:List α}{m:List β}(hl:F2 R l m):∀a∈l,p a:=by
 induction hl with
 | nil=>simp_all
 | cons h1 _ ih=>grind
def kG{w:World}{b:Nat}{old cs:Array Value}{t:TypeId}{fr:Nat×Nat}(hb:w.heap[b]? =some (.cells old t fr))(hs:cs.size=old.size):World.jV w (w.setRow b cs):=
 Ei λx c E f h=>by
  by_cases e:x=b
  .subst e;rw [hb]at h;cases h;exact⟨cs,fr,setRow_heap w x old cs t fr hb,hs⟩
  grind [setRow_other]
def size_setRow(w:World)(b:Nat)(cs:Array Value):(w.setRow b cs).heap.size=w.heap.size:=by simp [World.setRow]
def dA.mono{K K':Nat->Prop}{w w':World}{cells:Array Value}{sz:Nat}{es:List (List D)}(hK:∀b,K b->K' b)(hw:∀b,K b->w'.heap[b]? =w.heap[b]?)
  (h:dA K w cells sz es):dA K' w' cells sz es:=λi hi=>
 ⟨(h i hi).1,λj hj=>let⟨v,hv,hd⟩:=(h i hi).2 j hj;⟨v,hv,hd.mono hK hw⟩⟩
def xI{es:List (List D)}{i:Nat}{x:List D}(h:i<es.length):(es.set i x).getD i []=x:=by simp_all
def getD_set_ne{es:List (List D)}{i j:Nat}{x:List D}(h:i≠j):(es.set i x).getD j []=es.getD j []:=by simp_all
def tu(l vs:List Value)(o q:Nat)(h:o+vs.length<=l.length):(l.take o++vs++l.drop (o+vs.length))[q]? =if o<=q/\q<o+vs.length then vs[q-o]? else l[q]? :=by grind [List.append_assoc,List.getElem?_append_left,List.getElem?_take_of_lt,List.getElem?_append_right,List.length_take,Nat.min_eq_left]
def Mv(row ds:List D)(j q:Nat)(h:j+ds.length<=row.length):(cB row ds j).getD q default=if j<=q/\q<j+ds.length then ds.getD (q-j) default else row.getD q default:=by grind [cB,List.getD,List.append_assoc,List.getElem?_append_left,List.getElem?_take_of_lt,List.getElem?_append_right,List.length_take,Nat.min_eq_left]
def dA.store{K:Nat->Prop}{w:World}{cells:Array Value}{sz i j:Nat}{es:List (List D)}{vs:List Value}{ds:List D}(h:dA K w cells sz es)(hi:i<es.length)(hd:F2 (dJ K w) vs ds)
  (hj:j+ds.length<=sz) (hsz:i*sz+j+vs.length<=cells.size):
  dA K w (cells.toList.take (i*sz+j)++vs++cells.toList.drop (i*sz+j+vs.length)).toArray sz (es.set i (if j=0/\ds.length=sz then ds else cB (es.getD i []) ds j)):=by
 have hlen:=hd.length;have hrow:(es.getD i []).length=sz:=(h i hi).1;intro i' hi';rw [List.length_set]at hi';by_cases e:i=i'
 .subst e;rw [xI hi];have hwhole:(if j=0/\ds.length=sz then ds else cB (es.getD i []) ds j)=cB (es.getD i []) ds j:=by grind [cB,List.drop_eq_nil_of_le]
  rw [hwhole];refine⟨by grind [cB,List.length_append,List.length_take,List.length_drop],λq hq=> ?_⟩;have hgd:gd (es.set i (cB (es.getD i []) ds j)) i q=(cB (es.getD i []) ds j).getD q default:=by
   unfold gd;rw [xI hi]
  rw [hgd,Mv _ _ _ _ ah];simp only [List.getElem?_toArray];rw [tu _ _ _ _ (by simpa using hsz)];by_cases hin:j<=q/\q<j+ds.length
  .rw [if_pos ah,if_pos hin];have hx:ds[q-j]? =some (ds.getD (q-j) default):=by grind
   obtain⟨v,hv,hr⟩:=hd.get hx
   grind
  .rw [if_neg ah,if_neg hin];have:=(h i hi).2 q hq;simpa [gd]using this
 .rw [getD_set_ne e];refine⟨(h i' hi').1,λq hq=> ?_⟩;have hgd:gd (es.set i (if j=0/\ds.length=sz then ds else cB (es.getD i []) ds j)) i' q=gd es i' q:=by
   unfold gd;rw [getD_set_ne e]
  rw [hgd];simp only [List.getElem?_toArray];rw [tu _ _ _ _ (by simpa using hsz),if_neg ?_]
  .simpa using(h i' hi').2 q hq
  .intro hh;rcases Nat.lt_or_gt_of_ne e with hlt | hlt
   .have:(i+1)*sz<=i'*sz:=Nat.mul_le_mul_right _ hlt
    grind
   .have:(i'+1)*sz<=i*sz:=Nat.mul_le_mul_right _ hlt
    grind
def gW.store{c:Ctx}{w w':World}{cells:Array Value}{sz i j:Nat}{cs:List (List Cell)}{row:List Cell}{vs:List Value}{ds:List Cell}(h:gW c w cells sz cs)(hrow:cs[i]? =some row)
  (hd:F2 (bB c w') vs ds) (hj:j+vs.length<=sz) (hfit:i*sz+j+vs.length<=cells.size) (hmono:∀a x,bB c w a x->bB c w' a x):
  gW c w' (cells.toList.take (i*sz+j)++vs++cells.toList.drop (i*sz+j+vs.length)).toArray sz (cs.set i (splice row ds j)):=by
 have hi:i<cs.length:=(List.getElem?_eq_some_iff.1 hrow).1;have hg:cs.getD i []=row:=by simp [List.getD,hrow]
 have hlen:=hd.length;have hrl:row.length=sz:=by have:=(h i hi).1;rwa [hg]at this
 have sp:∀q,(splice row ds j)[q]? =if j<=q/\q<j+ds.length then ds[q-j]? else row[q]? :=λq=>by
  unfold splice;have hq:j+ds.length<=row.length:=by omega
  have h1:(row.take j).length=j:=by simp;omega
  by_cases c1:q<j
  .rw [List.append_assoc,List.getElem?_append_left ah,List.getElem?_take_of_lt c1,if_neg ah]
  .by_cases c2:q<j+ds.length
   .rw [List.getElem?_append_left (by simp;omega),List.getElem?_append_right ah,h1,if_pos ah]
   .rw [List.getElem?_append_right (by simp;omega),List.getElem?_drop,if_neg ah]
    congr 1;simp;omega
 have spl:(splice row ds j).length=sz:=by unfold splice;simp;omega
 intro i' hi';rw [List.length_set]at hi';by_cases e:i=i'
 .subst e;have hg2:(cs.set i (splice row ds j)).getD i []=splice row ds j:=by simp [List.getD,hi]
  refine⟨by rw [hg2];exact spl,λq hq=> ?_⟩;obtain⟨v,hv,hr⟩:=(h i hi).2 q hq;have key:=tu cells.toList vs (i*sz+j) (i*sz+q) (by simpa using hfit);unfold gc at hr ⊢;rw [hg]at hr;rw [hg2];by_cases hb:j<=q/\q<j+ds.length
  .have hlt:q-j<ds.length:=by omega
   obtain⟨u,hu,hru⟩:=hd.get (List.getElem?_eq_getElem hlt);refine⟨u,?_,?_⟩
   .rw [List.getElem?_toArray,key,if_pos ah,show i*sz+q- (i*sz+j)=q-j by omega];exact hu
   .have:(splice row ds j).getD q default=ds[q-j]:=by simp [List.getD,sp,hb,hlt]
    rw [this];exact hru
  .refine⟨v,?_,?_⟩
   .rw [List.getElem?_toArray,key,if_neg ah];simpa using hv
   .have:(splice row ds j).getD q default=row.getD q default:=by
     simp only [List.getD,sp,if_neg hb]
    rw [this];exact hmono _ _ hr
 .have hg2:(cs.set i (splice row ds j)).getD i' []=cs.getD i' []:=by simp [List.getD,e]
  obtain⟨h1,h2⟩:=h i' hi';refine⟨by rw [hg2];exact h1,λq hq=> ?_⟩;obtain⟨v,hv,hr⟩:=h2 q hq;have key:=tu cells.toList vs (i*sz+j) (i'*sz+q) (by simpa using hfit);refine⟨v,?_,?_⟩
  .rw [List.getElem?_toArray,key,if_neg ?_]; · simpa using hv
   rcases Nat.lt_or_gt_of_ne e with c1 | c1
   .have:(i+1)*sz<=i'*sz:=Nat.mul_le_mul_right _ c1;rw [Nat.add_mul]at this;omega
   .have:(i'+1)*sz<=i*sz:=Nat.mul_le_mul_right _ c1;rw [Nat.add_mul]at this;omega
  .unfold gc at hr ⊢;rw [hg2];exact hmono _ _ hr
def nZ{cells:Array Value}{o k:Nat}{vs:List Value}(h:o+k<=cells.size):
  from_ (cells.toList.take (o+k)++vs++cells.toList.drop (o+k+vs.length)).toArray o=((from_ cells o).toList.take k++vs++(from_ cells o).toList.drop (k+vs.length)).toArray:=by
 have h1:o<=(cells.toList.take (o+k)).length:=by simp;omega
 have h2:(cells.toList.take (o+k)).drop o=(cells.toList.drop o).take k:=by rw [List.drop_take];congr 1;omega
 unfold from_;simp only [List.append_assoc];rw [List.drop_append_of_le_length h1,h2,List.drop_drop,Nat.add_assoc]
def jF{cells:Array Value}{o:Nat}:(from_ cells o).size=cells.size-o:=by simp [from_]
def Mw{E:Tab}(hE:aR E){c:Ctx}{w:World}{h:Heap}{n k:Nat}(H:bC c w h)(hn:c.n=nm n k){t:TypeId}{y:TY}(hy:E.ty t=some y){u v:Value}{p q:PV}{K:PV->Heap->Nat->Prop}
  (hu:bg c w u p) (hv:bg c w v q) (hk:dO h y p q λh'=>K (.tup []) h' k):Turns E.P c w h n (do Instr.storeAt t u v;pure .skip) K:=by
 obtain⟨hsz,hne,hk⟩:=hk;have hcells:=hv.cells ah;have hcl:=hcells.length;have h1c:∀x∈v.cells.toList,x.oneCell'=true:=hcells.all (λ_ _ h=>h.oneCell);have tup:∀(c:Ctx) (w:World),bg c w undef (.tup []):=λc w=> .tup [] [] rfl (λi hi=>by simp at hi)
 have run:∀(b o:Nat) (old:Array Value) (e:TypeId),w.heap[b]? =some (.cells old e (0,0))->o+v.cells.toList.length<=old.size->u= .pointer (some ⟨b,o,none⟩)->
   ((do Instr.storeAt t u v;pure .skip):Sem Next).run E.P w= .ok .skip (w.setRow b (old.toList.take o++v.cells.toList++old.toList.drop (o+v.cells.toList.length)).toArray):=by
  intro b o old e hb hl he;have:=run_storeCells_at E.P b o e v.cells.toList 0 old w hb (by simpa using hl) h1c;simp_all [Instr.storeAt,Instr.sureAddr,storeVar,run_sizeOf]
 split at hk
 .rename_i l sz i j
  replace hk:=jY hk;obtain⟨o,ho,hk⟩:=hk
  cases hu with | c _ _ hu=>cases hu with | ptr _ _ _ _ b oo hl hm=>
  split at hk
  .rename_i cs;obtain⟨rfl,hlen,hk⟩:=hk;obtain⟨b',vs,e,hm',hb,hr⟩:=(H.obj l _ ho).2;rw [hm]at hm';cases hm';have hvl:=hr.length;have hsame:(vs.take j++v.cells.toList++vs.drop (j+v.cells.toList.length)).toArray.size=vs.toArray.size:=by grind
   have hr':=run b j vs.toArray e hb (by simp_all) (by simp);simp only []at hr';have hst:=kG hb hsame;have hro:∀f x,c.K f x->(w.setRow b (vs.take j++v.cells.toList++vs.drop (j+v.cells.toList.length)).toArray).heap[x]? =w.heap[x]? :=
    λf x hx=>setRow_other _ _ _ _ (λe'=>H.own f b ⟨l,_,ho,trivial,iA hm⟩ (e'▸hx))
   have hmono:∀a x,bB c w a x->bB c (w.setRow b (vs.take j++v.cells.toList++vs.drop (j+v.cells.toList.length)).toArray) a x:=λa x hx=>hx.mono (.refl c) hro hst
   refine⟨.skip,undef,c,_,_,k,.tup [],hr',.inr ⟨rfl,rfl⟩,Grow.write ho trivial (iA hm) (λx hx=>setRow_other _ _ _ _ hx) (size_setRow _ _ _) hst rfl rfl rfl,
    H.write ho trivial (iA hm) (λx hx=>setRow_other _ _ _ _ hx) (size_setRow _ _ _) hst ?_,hn,tup _ _,hk⟩
   refine⟨b,_,e,hm,setRow_heap w b _ _ e _ hb,?_⟩;unfold splice;refine F2.append (F2.append (F2.mono hmono (hr.take j)) (F2.mono hmono hcells)) ?_;have h4:=F2.mono hmono (hr.drop (j+v.cells.toList.length));simp_all
  .rename_i f sz' es;obtain⟨rfl,hi,hk⟩:=hk;obtain⟨c',h',g,ds,hg,H',hn',hd,Sz,hj,hk⟩:=kF _ H hcells hk;have hlc:l<c.n:=(H.obj l _ ho).1;have hm':c'.ν l=some (b,oo):=(hg.le.ν l hlc).trans hm;have hro:=(H'.obj l _ Sz).2;simp only [gq,hm']at hro;obtain⟨cells,e,hb,hrow⟩:=hro;have Mx:i*sz+j+v.cells.toList.length<=(from_ cells oo).size:=by
    have hdl:=hd.length;have:=(hrow i hi).2 (sz-1) ah
    grind
   have hfit:oo+(i*sz+j)+v.cells.toList.length<=cells.size:=by rw [jF]at Mx;omega
   have hr':=run b (oo+(i*sz+j)) cells e hb hfit rfl;have hsame:(cells.toList.take (oo+(i*sz+j))++v.cells.toList++cells.toList.drop (oo+(i*sz+j)+v.cells.toList.length)).toArray.size=cells.size:=by grind
   have hst:=kG hb hsame;have hro:∀f x,c'.K f x->(w.setRow b (cells.toList.take (oo+(i*sz+j))++v.cells.toList++cells.toList.drop (oo+(i*sz+j)+v.cells.toList.length)).toArray).heap[x]? =w.heap[x]? :=
    λf x hx=>setRow_other _ _ _ _ (λe'=>H'.own f b ⟨l,_,Sz,trivial,iA hm'⟩ (e'▸hx))
   have hG:Grow c' w h' c' _ _:=Grow.write (o':= .rows (f&&g) sz (es.set i (if j=0/\ds.length=sz then ds else cB (es.getD i []) ds j))) Sz trivial (iA hm') (λx hx=>setRow_other _ _ _ _ hx) (size_setRow _ _ _) hst rfl rfl rfl;refine⟨.skip,undef,c',_,_,k,.tup [],hr',.inr ⟨rfl,rfl⟩,hg.trans hG,?_,hn'.trans hn,tup _ _,hk (es.getD i []) (by simp_all)⟩;refine H'.write Sz trivial (iA hm') (λx hx=>setRow_other _ _ _ _ hx) (size_setRow _ _ _) hst ?_;simp only [gq,hm'];refine⟨_,e,setRow_heap w b _ _ e _ hb,?_⟩
   have h3:=(dA.mono (K':=c'.K (f&&g)) (w':=w) (λx hx=>by cases f<;>cases g<;>first | exact hx | exact H'.sub x hx) (λ_ _=>rfl) hrow).store hi
    (F2.mono (λ_ _ h=>h.Wj (f:=f) H'.sub) hd) hj Mx
   rw [nZ ah];exact h3.mono (λ_ h=>h) (hro (f&&g))
  .rename_i sz' cs;obtain⟨rfl,hk⟩:=hk;cases hrw:cs[i]? with
   | none=>rw [hrw]at hk;exact hk.elim
   | some row=>
   rw [hrw]at hk;obtain⟨hj,hk⟩:=hk;have hi:i<cs.length:=(List.getElem?_eq_some_iff.1 hrw).1;have hro:=(H.obj l _ ho).2;simp only [gq,hm]at hro;obtain⟨cells,e,hb,hrow⟩:=hro;have Mx:i*sz+j+v.cells.toList.length<=(from_ cells oo).size:=by
    obtain⟨x,hx,_⟩:=(hrow i hi).2 (sz-1) ah;have:=(Array.getElem?_eq_some_iff.1 hx).1;omega
   have hfit:oo+(i*sz+j)+v.cells.toList.length<=cells.size:=by rw [jF]at Mx;omega
   have hr':=run b (oo+(i*sz+j)) cells e hb hfit rfl;have hsame:(cells.toList.take (oo+(i*sz+j))++v.cells.toList++cells.toList.drop (oo+(i*sz+j)+v.cells.toList.length)).toArray.size=cells.size:=by grind
   have hst:=kG hb hsame;have hro:∀f x,c.K f x->(w.setRow b (cells.toList.take (oo+(i*sz+j))++v.cells.toList++cells.toList.drop (oo+(i*sz+j)+v.cells.toList.length)).toArray).heap[x]? =w.heap[x]? :=
    λf x hx=>setRow_other _ _ _ _ (λe'=>H.own f b ⟨l,_,ho,trivial,iA hm⟩ (e'▸hx))
   have hmono:∀a x,bB c w a x->bB c (w.setRow b (cells.toList.take (oo+(i*sz+j))++v.cells.toList++cells.toList.drop (oo+(i*sz+j)+v.cells.toList.length)).toArray) a x:=λa x hx=>hx.mono (.refl c) hro hst
   refine⟨.skip,undef,c,_,_,k,.tup [],hr',.inr ⟨rfl,rfl⟩,Grow.write ho trivial (iA hm) (λx hx=>setRow_other _ _ _ _ hx) (size_setRow _ _ _) hst rfl rfl rfl,
    H.write ho trivial (iA hm) (λx hx=>setRow_other _ _ _ _ hx) (size_setRow _ _ _) hst ?_,hn,tup _ _,hk⟩
   simp only [gq,hm];refine⟨_,e,setRow_heap w b _ _ e _ hb,?_⟩;rw [nZ ah];exact gW.store hrow hrw (F2.mono hmono hcells) ah Mx hmono
  .exact hk.elim
 .exact hk.elim
def lW{P:Program}{c:Ctx}{w w1:World}{h:Heap}{n k:Nat}(H:bC c w h)(hn:c.n=nm n k){s:Sem Next}{u:Value}{cells:Array Value}{e:TypeId}{o:dx}{pv:PV}{K:PV->Heap->Nat->Prop}
  (hrun:s.run P w= .ok (.value u) w1) (hw:w1.heap=(w.alloc (.cells cells e)).heap) (hw2:w1.os=w.os) (hw3:w1.tape=w.tape) (hw4:w1.output=w.output)
  (ho:World.jV w w1->(∀x,x<w.heap.size->w1.heap[x]? =w.heap[x]?)->w1.heap[w.heap.size]? =some (.cells cells e (0,0))->gq (c.name (some w.heap.size)) w1 c.n o)
  (hu:w1.heap[w.heap.size]? =some (.cells cells e (0,0))->bg (c.name (some w.heap.size)) w1 u pv) (hk:K pv ((nm n k,o)::h) (k+1)):Turns P c w h n s K:=by
 have hs:World.jV w w1:=λb m hb=>by
  have:=qM w (.cells cells e) b m hb;obtain⟨c',E,fr,h1,h2⟩:=this;exact⟨c',E,fr,by rw [hw];exact h1,h2⟩
 have hold:∀x,x<w.heap.size->w1.heap[x]? =w.heap[x]? :=λx hx=>by grind [alloc_old]
 have hnew:w1.heap[w.heap.size]? =some (.cells cells e (0,0)):=by rw [hw];exact kE w _
 have hsz:w.heap.size<=w1.heap.size:=by rw [hw];simp
 refine⟨.value u,u,c.name (some w.heap.size),_,(c.n,o)::h,k+1,pv,hrun,.inl rfl,Grow.new (λx hx=>(Option.some.inj hx).symm) hs hold hsz hw2 hw3 hw4,
  H.new (λx hx=>(Option.some.inj hx).symm) hs hold hsz (ho hs hold hnew),?_,hu hnew,?_⟩
 .show c.n+1=_;rw [hn];rfl
 simp_all
def MC{c:Ctx}{w w':World}{h:Heap}(H:bC c w h){vs:List Value}{cs:List Cell}{e:TypeId}(hr:F2 (bB c w) vs cs)(hs:World.jV w w')
  (hold:∀x,x<w.heap.size->w'.heap[x]? =w.heap[x]?) (hnew:w'.heap[w.heap.size]? =some (.cells vs.toArray e (0,0))):gq (c.name (some w.heap.size)) w' c.n (.box cs):=
 ⟨w.heap.size,vs,e,by simp [Ctx.nameAt,upd],hnew,F2.mono (λ_ _ hx=>hx.mono (c.oZ _) (λf b hb=>hold b (H.low f b hb)) hs) hr⟩
def SA{c:Ctx}{w:World}{b sz m:Nat}(hm:c.n=m):bg (c.name (some b)) w (.pointer (some ⟨b,0,none⟩)) (.c (.ptr m sz 0 0)):=by
 subst hm;have:=bB.ptr (c:=c.name (some b)) (w:=w) c.n sz 0 0 b 0 (Nat.lt_succ_self _) (by simp [Ctx.nameAt,upd]);exact .c _ _ (by simpa using this)
def ME{E:Tab}(hE:aR E){c:Ctx}{w:World}{h:Heap}{n k:Nat}(H:bC c w h)(hn:c.n=nm n k){t:TypeId}{K:PV->Heap->Nat->Prop}
  (hk:aD (E.ty t) λy=>y.zero≠ []/\K (.c (.ptr (nm n k) y.size 0 0)) ((nm n k,.box y.zero)::h) (k+1)):Turns E.P c w h n (do pure (Next.value (<-Instr.alloc t true (.tuple #[])))) K:=by
 replace hk:=aO hk;obtain⟨y,hy,hz,hk⟩:=hk
 obtain⟨inf,qH,hs,_,z,hzz,hzr⟩:=(hE.ty t y hy).info;refine lW H hn (cells:=z.cells) (e:=t) (w1:=w.alloc (.cells z.cells t)) (o:= .box y.zero) (u:= .pointer (some ⟨w.heap.size,0,none⟩)) ?_ rfl rfl rfl rfl ?_ (λ_=>SA hn) hk
 .simp [Instr.alloc,zeroValue,typeInfo,qH,hzz,newVar,newRow]
 .intro hst hold hnew;have hr:=hzr c w;exact MC H (vs:=z.cells.toList) hr hst hold (by simpa using hnew)
def MF{P:Program}{c:Ctx}{w:World}{h:Heap}{n k:Nat}(H:bC c w h)(hn:c.n=nm n k){t:TypeId}{v:Value}{p:PV}{K:PV->Heap->Nat->Prop}(hv:bg c w v p)
  (hl:(aI p).length≠0) (hk:K (.c (.ptr (nm n k) (aI p).length 0 0)) ((nm n k,.box (aI p))::h) (k+1)):Turns P c w h n (do pure (Next.value (<-Instr.box t v))) K:=by
 refine lW H hn (cells:=v.cells) (e:=t) (w1:=w.alloc (.cells v.cells t)) (o:= .box (aI p)) (u:= .pointer (some ⟨w.heap.size,0,none⟩)) ?_ rfl rfl rfl rfl ?_ (λ_=>SA hn) hk
 .simp [Instr.box,newVar,newRow]
 .intro hst hold hnew;exact MC H (vs:=v.cells.toList) (hv.cells hl) hst hold (by simpa using hnew)
def zy{E:Tab}{a:Act}{t:Slots}{w:World}{sz:Nat}:∀(ps:List (Nat×Operand)) {c:Ctx} {h:Heap} (_:∀i v,aA t i=some v->∃u,a.tmps[i]? =some u/\bg c w u v) (_:oH E c w) (_:bC c w h)
  {K:Bool->List (List D)->Heap->Prop} (_:sz≠0) (_:uZ E t sz h ps K),
  ∃c' h' f dss,Grow c w h c' w h'/\bC c' w h'/\c'.n=c.n/\F2 (λ(v:Value) (ds:List D)=>ds.length=sz/\F2 (dJ (c'.K f) w) v.cells.toList ds) (ps.map λx=>a.eval x.2) dss/\K f dss h'
 | [],c,h,hs,G,H,K,hsz,hk=>⟨c,h,true,[],.refl _ _ _,H,rfl,.nil,hk⟩
 | (i,x)::r,c,h,hs,G,H,K,hsz,hk=>by
  unfold uZ at hk;obtain⟨v,hv,hl,hk⟩:=dQ (a:=a) (w:=w) (c:=c) (h:=h) ⟨hs,H,G⟩ hk;have hc:=hv.cells ah;obtain⟨c1,h1,f,ds,g1,H1,n1,d1,hk⟩:=kF _ H hc hk;have hs1:∀i v,aA t i=some v->∃u,a.tmps[i]? =some u/\bg c1 w u v:=λi v hi=>let⟨u,h1,h2⟩:=hs i v hi;⟨u,h1,h2.grow H g1⟩
  obtain⟨c2,h2,g,dss,g2,H2,n2,d2,hk⟩:=zy r hs1 (G.grow H g1) H1 hsz hk;refine⟨c2,h2,f&&g,ds::dss,g1.trans g2,H2,n2.trans n1,.cons ⟨?_,?_⟩ ?_,hk⟩
  .rw [<-d1.length,hc.length,hl]
  .exact F2.mono (λ_ _ h=>(h.mono' (g2.le.K f)).flag H2.sub) d1
  .exact F2.mono (λ_ _ h=>⟨h.1,F2.mono (λ_ _ h=>h.Wj H2.sub) h.2⟩) d2
def El(sz:Nat):∀(vs:List Value) (m:Nat) (pre post:List Value),(∀v∈vs,v.cells.size=sz)->pre.length=m*sz->post.length=vs.length*sz->
  Instr.fill (λi=>some (i*sz,sz)) (pre++post).toArray ((List.range' m vs.length).zip vs)=some (pre++(vs.flatMap λv=>v.cells.toList)).toArray
 | [],m,pre,post,_,_,hp=>by simp_all [Instr.fill]
 | v::vs,m,pre,post,hv,hpre,hp=>by
  have hsz:v.cells.size=sz:=hv v (by simp);simp only [List.length_cons,List.range'_succ,List.zip_cons_cons,Instr.fill];have hp':post.length=vs.length*sz+sz:=by grind
  rw [if_neg (by grind)];have h1:(v.cells.zipIdx.foldl (λ(cs:Array Value) (x:Value×Nat)=>cs.setIfInBounds (m*sz+x.2) x.1) (pre++post).toArray)=((pre++v.cells.toList)++post.drop sz).toArray:=by
   apply Array.ext';rw [<-Array.foldl_toList,foldl_toList,Array.toList_zipIdx];rw [x9 _ _ (m*sz) 0 (by grind)];simp_all [Nat.add_zero,List.take_left',List.drop_append]
  rw [h1];have ih:=El sz vs (m+1) (pre++v.cells.toList) (post.drop sz) (λx hx=>hv x (by simp [hx])) (by grind) (by simp;omega);rw [ih];simp
theorem flat_get{sz:Nat}:∀(vs:List (List Value)) (_:∀v∈vs,v.length=sz) (i j:Nat) (_:i<vs.length) (_:j<sz),(vs.flatten)[i*sz+j]? =(vs.getD i [])[j]?
 | v::vs,h,0,j,_,hj=>by grind
 | v::vs,h,i+1,j,hi,hj=>by
  have hv:v.length=sz:=h v (by simp);simp only [List.flatten_cons];rw [List.getElem?_append_right (by grind),hv,show(i+1)*sz+j-sz=i*sz+j by grind];have:=flat_get vs (λx hx=>h x (by simp [hx])) i j (by simpa using hi) hj;simpa using this
def OW{K:Nat->Prop}{w:World}{sz:Nat}{vs:List (List Value)}{dss:List (List D)}(h:F2 (λ(v:List Value) (ds:List D)=>ds.length=sz/\F2 (dJ K w) v ds) vs dss):dA K w vs.flatten.toArray sz dss:=by
 have hl:∀v∈vs,v.length=sz:=h.all (λa b hh=>by rw [hh.2.length];exact hh.1);have hlen:=h.length;intro i hi;have hx:dss[i]? =some (dss.getD i []):=by simp_all
 obtain⟨v,hv,h1,h2⟩:=h.get hx;refine⟨h1,λj hj=> ?_⟩;have hy:(dss.getD i [])[j]? =some (gd dss i j):=by grind [gd,List.getD]
 obtain⟨x,hx2,hx3⟩:=h2.get hy
 grind [flat_get,mH]
theorem rW{k:IntKind}:∀ {es:List (List D)} {xs:List Int},nK k es=some xs->es=xs.map (ic k)
 | [],xs,h=>by grind [nK]
 | [.int k' n]::r,xs,h=>by
  simp only [nK]at h;split at h
  .rename_i e;subst e;split at h
   .rename_i l hl;cases h;rw [rW hl];rfl
   .cases h
  .cases h
 | []::_,xs,h=>by simp [nK]at h
 | [.bool _]::_,xs,h=>by simp [nK]at h
 | [.str _]::_,xs,h=>by simp [nK]at h
 | [.rows _ _]::_,xs,h=>by simp [nK]at h
 | (_::_::_)::_,xs,h=>by simp [nK]at h
theorem MG(d:iU)(es:List (List D)):ir d es=es:=by
 unfold ir
 grind [rW]
def Bd{c:Ctx}{w:World}{b sz m q:Nat}{cells:Array Value}{e:TypeId}{fr:Nat×Nat}(cap:Nat)(hq:c.n=q)(hb:w.heap[b]? =some (.cells cells e fr))(hm:m<=cap)(hc:cap*sz<=cells.size):
  bg (c.name (some b)) w (.slice (some ⟨b,0,none⟩) m cap) (.c (.os q sz 0 m)):=by
 subst hq;have:=bB.os (c:=c.name (some b)) (w:=w) c.n sz 0 m cap b 0 (Nat.lt_succ_self _) (by simp [Ctx.nameAt,upd]) hm ⟨cells,e,fr,hb,by simpa using hc⟩;exact .c _ _ (by simpa using this)
def Bf{c:Ctx}{w w':World}{h:Heap}(H:bC c w h){cells:Array Value}{e:TypeId}{f:Bool}{sz:Nat}{es:List (List D)}(hr:dA (c.K f) w cells sz es)
  (hold:∀x,x<w.heap.size->w'.heap[x]? =w.heap[x]?) (hnew:w'.heap[w.heap.size]? =some (.cells cells e (0,0))):gq (c.name (some w.heap.size)) w' c.n (.rows f sz es):=by
 have hm:(c.name (some w.heap.size)).ν c.n=some (w.heap.size,0):=by simp [Ctx.nameAt,upd]
 simp only [gq,hm,Iz];exact⟨cells,e,hnew,hr.mono (λ_ h=>h) (λb hb=>hold b (H.low f b hb))⟩
theorem zip_map{α β γ:Type}(f:α->β)(g:α->γ)(l:List α):(l.map f).zip (l.map g)=l.map λx=>(f x,g x):=by grind
theorem Bg{E:Tab}(hE:aR E){c:Ctx}{w:World}{t:Slots}{h:Heap}{n k:Nat}{a:Act}(A:pR E c w t h a)(hn:c.n=nm n k){ty:TypeId}{len:Nat}{parts:Array (Nat×Operand)}{K:PV->Heap->Nat->Prop}
  (hk:aX E (.buildSlice ty len parts) t h n k K):Turns E.P c w h n (do pure (Next.value (<-Instr.buildSlice ty len (parts.map λ(i,x)=>(i,a.eval x))))) K:=by
 simp only [aX]at hk
 replace hk:=aO hk;obtain⟨y,hy,hk⟩:=hk
 split at hk
 .rename_i e he
  replace hk:=aO hk;obtain⟨z,hz,hsz,hidx,hbig,hk⟩:=hk
  obtain⟨c1,h1,f,dss,g1,H1,n1,hr,hk⟩:=zy (E:=E) (a:=a) (t:=t) (w:=w) (sz:=z.size) parts.toList A.slot A.glob A.heap hsz hk;rw [MG]at hk;have hun:=(hE.ty ty y hy).desc;rw [he]at hun;obtain⟨inf,qH,hs,_,zv,hzz,hzr⟩:=(hE.ty e z hz).info;have hlen:parts.toList.length=len:=by have:=congrArg List.length hidx;simpa using this
  have hdl:dss.length=len:=by rw [<-hr.length];simpa using hlen
  have hcs:∀v∈parts.toList.map (λx=>a.eval x.2),v.cells.size=z.size:=hr.all (λv ds hh=>by have:=hh.2.length;simp_all);have rX:=El z.size (parts.toList.map λx=>a.eval x.2) 0 [] ((List.range (len*z.size)).map λi=>zv.cells[i%zv.cells.size]!) hcs (by simp) (by simp_all);have Wm:((List.range' 0 (parts.toList.map λx=>a.eval x.2).length).zip (parts.toList.map λx=>a.eval x.2))=parts.toList.map λx=>(x.1,a.eval x.2):=by grind [List.range_eq_range',List.length_map,zip_map]
  rw [Wm]at rX;simp only [List.nil_append]at rX;have hzs:zv.cells.size=z.size:=by
   have h1:=(hzr c w).length;have h2:=(hE.ty e z hz).len;simp at h1;omega
  have Wn:((parts.toList.map λx=>a.eval x.2).flatMap λv=>v.cells.toList).length=len*z.size:=by
   rw [<-hlen];have:∀(l:List Value),(∀v∈l,v.cells.size=z.size)->(l.flatMap λv=>v.cells.toList).length=l.length*z.size:=by
    intro l hl
    induction l with
    | nil=>simp
    | cons x l ih=>grind
   grind
  have hg:Turns E.P c1 w h1 n (do pure (Next.value (<-Instr.buildSlice ty len (parts.map λ(i,x)=>(i,a.eval x))))) K:=by
   refine lW H1 (n1.trans hn) (cells:=((parts.toList.map λx=>a.eval x.2).flatMap λv=>v.cells.toList).toArray) (e:=e) (o:= .rows f z.size dss)
    (w1:=w.alloc (.cells ((parts.toList.map λx=>a.eval x.2).flatMap λv=>v.cells.toList).toArray e))
    (u:= .slice (some ⟨w.heap.size,0,none⟩) len len) ?_ rfl rfl rfl rfl ?_ (λhb=>Bd len (n1.trans hn) hb (Nat.le_refl _) (by simp_all)) hk
   .have OX:Instr.fill (λi=>some (i*z.size,z.size)) (Array.map (λi=>zv.cells[i%zv.cells.size]!) (Array.range (len*z.size))) (parts.toList.map λx=>(x.1,a.eval x.2))=
      some ((parts.toList.map λx=>a.eval x.2).flatMap λv=>v.cells.toList).toArray:=by
     rw [<-rX];congr 1;grind
    have hbig':¬16777216<len*z.size:=by omega
    by_cases h0:len*z.size=0
    .have hl0:len=0:=by grind [Nat.mul_eq_zero,absurd]
     subst hl0;have hp0:parts= #[]:=by simp_all
     subst hp0;simp [Instr.buildSlice,run_underlying hun,run_sizeOf hE hz,Instr.fill,newRow]
     grind
    .simp [Instr.buildSlice,run_underlying hun,run_sizeOf hE hz,hbig',h0,zeroValue,typeInfo,qH,hzz,newRow];rw [OX];simp
   .intro hst hold hnew;refine Bf H1 ?_ hold hnew;have:((parts.toList.map λx=>a.eval x.2).flatMap λv=>v.cells.toList)=((parts.toList.map λx=>a.eval x.2).map λv=>v.cells.toList).flatten:=by simp [List.flatMap]
    rw [this];refine OW ?_
    clear rX Wm hcs this hk Wn hnew hdl
    generalize parts.toList.map (λx=>a.eval x.2)=vs at hr
    induction hr with
    | nil=>exact .nil
    | cons hh _ ih=>exact .cons hh ih
  obtain⟨nx,u,c',w',h',k',pv,q1,q2,q3,q4,q5,q6,q7⟩:=hg;exact⟨nx,u,c',w',h',k',pv,q1,q2,g1.trans q3,q4,q5,q6,q7⟩
 .exact hk.elim
def OY:Ctx:={K:=λ_ _=>False,ν:=λ_=>none,n:=0}
def Bh{w:World}{cs:List Cell}{vs:List Value}{zd:List D}(h:F2 (bB OY w) vs cs)(hz:ZD cs zd):F2 (dJ (λ_=>False) w) vs zd:=by
 induction hz generalizing vs with
 | nil=>cases h;exact .nil
 | d f x _ ih=>cases h with | cons h1 h2=>cases h1 with | d _ _ _ h1=>exact .cons h1 (ih h2)
 | nl sz _ ih=>cases h with | cons h1 h2=>cases h1 with | nil=>exact .cons (.none _ _ _) (ih h2)
def rowAt_zero{K:Nat->Prop}{w:World}{zv:Array Value}{zd:List D}{sz m N:Nat}(hz:F2 (dJ (λ_=>False) w) zv.toList zd)(hs:zv.size=sz)(hN:m*sz<=N):
  dA K w ((Array.range N).map λi=>zv[i%zv.size]!) sz (List.replicate m zd):=by
 intro i hi;rw [List.length_replicate]at hi;have hg:(List.replicate m zd).getD i []=zd:=by simp_all
 have hl:=hz.length;refine⟨by simp_all,λj hj=> ?_⟩;have hgd:gd (List.replicate m zd) i j=zd.getD j default:=by unfold gd;rw [hg]
 have hx:zd[j]? =some (zd.getD j default):=by simp_all
 obtain⟨v,hv,hr⟩:=hz.get hx;refine⟨v,?_,by rw [hgd];exact hr.mono' (λ_ h=>h.elim)⟩;have hlt:i*sz+j<N:=by
  have:(i+1)*sz<=m*sz:=Nat.mul_le_mul_right _ hi
  grind
 grind [Nat.mul_comm,Nat.mul_add_mod,Nat.mod_eq_of_lt,Array.getElem?_eq_some_iff,Array.getElem!_eq_getD]
theorem Dq{E:Tab}(hE:aR E){c:Ctx}{w:World}{t:Slots}{h:Heap}{n k:Nat}{a:Act}(A:pR E c w t h a)(hn:c.n=nm n k){ty:TypeId}{l cp:Operand}{K:PV->Heap->Nat->Prop}
  (hk:aX E (.makeSlice ty l cp) t h n k K):Turns E.P c w h n (do pure (Next.value (<-Instr.makeSlice ty (a.eval l) (a.eval cp)))) K:=by
 simp only [aX]at hk
 replace hk:=aO hk;obtain⟨y,hy,hk⟩:=hk
 split at hk
 .rename_i e he
  replace hk:=aO hk;obtain⟨z,hz,hk⟩:=hk
  obtain⟨zd,hzd,hk⟩:=hk
  replace hk:=dQ A hk;obtain⟨u1,hu1,hk⟩:=hk
  replace hk:=dQ A hk;obtain⟨u2,hu2,hk⟩:=hk
  replace hk:=jE hk;obtain⟨_,k1,m,rfl,hk⟩:=hk
  replace hk:=jE hk;obtain⟨_,k2,m',rfl,hk⟩:=hk
  obtain⟨hsz,hby,hmm,h0,hmax,hk⟩:=hk;subst m';rw [iC hu1,iC hu2];have hun:=(hE.ty ty y hy).desc;rw [he]at hun;obtain⟨inf,qH,hs,hb,zv,hzz,hzr⟩:=(hE.ty e z hz).info;have hzs:zv.cells.size=z.size:=by
   have h1:=(hzr c w).length;have h2:=(hE.ty e z hz).len;simp at h1;omega
  have hm:m<=1073741824:=hmax;have hwrap:IntKind.i64.wrap m=m:=IntWalk.i64_in _ ah;have hbig:¬(inf.bytes:Int)*m>281474976710656:=by
   rw [hb];have h1:(z.bytes:Int)*m<=1024*m:=Int.mul_le_mul_of_nonneg_right ah h0;omega
  refine lW A.heap hn (cells:=(Array.range (m.toNat*z.size)).map λi=>zv.cells[i%zv.cells.size]!) (e:=e) (o:= .rows true z.size (List.replicate m.toNat zd))
   (w1:=w.alloc (.cells ((Array.range (m.toNat*z.size)).map λi=>zv.cells[i%zv.cells.size]!) e))
   (u:= .slice (some ⟨w.heap.size,0,none⟩) m.toNat m.toNat) ?_ rfl rfl rfl rfl ?_ (λhb=>Bd m.toNat hn hb (Nat.le_refl _) (by simp)) hk
  .by_cases hm0:m.toNat=0
   .have:m=0:=by omega
    subst this;have e0:∀f:Nat->Value,Array.map f (Array.range 0)= #[]:=by simp_all
    simp [Instr.makeSlice,run_underlying hun,asInt,asIntOf,typeInfo,qH,hwrap,run_sizeOf hE hz,newRow,e0]
   .have hne:m.toNat*z.size≠0:=Nat.mul_ne_zero hm0 hsz;have h1:¬m<0:=by omega
    simp [Instr.makeSlice,run_underlying hun,asInt,asIntOf,typeInfo,qH,hwrap,run_sizeOf hE hz,newRow,zeroValue,hzz,h1,hbig,hne]
  .intro hst hold hnew;refine Bf A.heap (rowAt_zero (Bh (hzr OY w) hzd) hzs (Nat.le_refl _)) hold hnew
 .exact hk.elim
def bC.rename{c:Ctx}{w:World}{h:Heap}(H:bC c w h){l b q:Nat}{o o':dx}(hl:look h l=some o)(hlv:o.live)(hm:c.μ l=some b)(ho:gq (c.nameAt (some (b,q))) w c.n o'):
  bC (c.nameAt (some (b,q))) w ((c.n,o')::(l,.gone)::h) where
 obj:=by
  intro x o1 hx;by_cases e:c.n=x
  .subst e;rw [ay]at hx;cases hx;exact⟨Nat.lt_succ_self _,ho⟩
  .rw [aj _ _ e]at hx;by_cases e':l=x
   .subst e';rw [ay]at hx;cases hx;exact⟨Nat.lt_succ_of_lt (H.obj l o hl).1,trivial⟩
   .rw [aj _ _ e']at hx;obtain⟨h1,h2⟩:=H.obj x o1 hx;exact⟨Nat.lt_succ_of_lt h1,h2.mono (c.wK _) (λ_ _ _=>rfl) (.refl w) h1 (λ_ _ _=>rfl)⟩
 inj:=by
  intro x o1 x' o2 y h1 hl1 h2 hl2 hm1 hm2;have old:∀z oz,c.n≠z->look ((c.n,o')::(l,.gone)::h) z=some oz->oz.live->z≠l/\look h z=some oz/\(c.nameAt (some (b,q))).μ z=c.μ z:=by
   intro z oz hz h1 h2;rw [aj _ _ hz]at h1;by_cases e:l=z
   .subst e;rw [ay]at h1;cases h1;exact h2.elim
   .rw [aj _ _ e]at h1;exact⟨λh=>e h.symm,h1,by simp [lV,upd,show z≠c.n from λh=>hz h.symm]⟩
  by_cases e:c.n=x<;>by_cases e':c.n=x'
  .omega
  .exfalso;obtain⟨p1,p2,p3⟩:=old x' o2 e' h2 hl2;subst e;have:y=b:=by simpa [lV,upd]using hm1.symm
   subst this;rw [p3]at hm2;exact p1 (H.inj x' o2 l o y p2 hl2 hl hlv hm2 hm)
  .exfalso;obtain⟨p1,p2,p3⟩:=old x o1 e h1 hl1;subst e';have:y=b:=by simpa [lV,upd]using hm2.symm
   subst this;rw [p3]at hm1;exact p1 (H.inj x o1 l o y p2 hl1 hl hlv hm1 hm)
  .obtain⟨p1,p2,p3⟩:=old x o1 e h1 hl1;obtain⟨q1,q2,q3⟩:=old x' o2 e' h2 hl2;rw [p3]at hm1;rw [q3]at hm2;exact H.inj x o1 x' o2 y p2 hl1 q2 hl2 hm1 hm2
 own:=by
  rintro f x ⟨z,oz,h1,h2,h3⟩ hk;by_cases e:c.n=z
  .subst e;have:x=b:=by simp_all [lV,upd]
   subst this;exact H.own f x ⟨l,o,hl,hlv,hm⟩ hk
  .rw [aj _ _ e]at h1;by_cases e':l=z
   .subst e';rw [ay]at h1;cases h1;exact h2.elim
   .rw [aj _ _ e']at h1;exact H.own f x ⟨z,oz,h1,h2,by simpa [lV,upd,show z≠c.n from λh=>e h.symm]using h3⟩ hk
 low:=H.low
 sub:=H.sub
theorem Grow.rename{c:Ctx}{w:World}{h:Heap}{l b q:Nat}{o o':dx}(hl:look h l=some o)(hlv:o.live)(hm:c.μ l=some b):Grow c w h (c.nameAt (some (b,q))) w ((c.n,o')::(l,.gone)::h) where
 le:=c.wK _
 size:=Nat.le_refl _
 stays:= .refl w
 kept:=λ_ _ _=>rfl
 uT:=λ_ _ h=> .inl h
 oV:=by
  rintro x ⟨z,oz,h1,h2,h3⟩;by_cases e:c.n=z
  .subst e;have:x=b:=by simp_all [lV,upd]
   subst this;exact .inl ⟨l,o,hl,hlv,hm⟩
  .rw [aj _ _ e]at h1;by_cases e':l=z
   .subst e';rw [ay]at h1;cases h1;exact h2.elim
   .rw [aj _ _ e']at h1;exact .inl ⟨z,oz,h1,h2,by simpa [lV,upd,show z≠c.n from λh=>e h.symm]using h3⟩
 os:=rfl
 tape:=rfl
 output:=rfl
theorem Grow.forget{c:Ctx}{w:World}{h:Heap}{l:Nat}:Grow c w h c w ((l,.gone)::h) where
 le:= .refl c
 size:=Nat.le_refl _
 stays:= .refl w
 kept:=λ_ _ _=>rfl
 uT:=λ_ _ h=> .inl h
 oV:=by
  rintro x ⟨z,oz,h1,h2,h3⟩;by_cases e':l=z
  .subst e';rw [ay]at h1;cases h1;exact h2.elim
  .rw [aj _ _ e']at h1;exact .inl ⟨z,oz,h1,h2,h3⟩
 os:=rfl
 tape:=rfl
 output:=rfl
def bC.forget{c:Ctx}{w:World}{h:Heap}(H:bC c w h){l:Nat}{o:dx}(hl:look h l=some o):bC c w ((l,.gone)::h) where
 obj:=by
  intro x o1 hx;by_cases e':l=x
  .subst e';rw [ay]at hx;cases hx;exact⟨(H.obj l o hl).1,trivial⟩
  .rw [aj _ _ e']at hx;exact H.obj x o1 hx
 inj:=by
  intro x o1 x' o2 y h1 hl1 h2 hl2 hm1 hm2;by_cases e:l=x
  .subst e;rw [ay]at h1;cases h1;exact hl1.elim
  .by_cases e':l=x'
   .subst e';rw [ay]at h2;cases h2;exact hl2.elim
   .rw [aj _ _ e]at h1;rw [aj _ _ e']at h2;exact H.inj x o1 x' o2 y h1 hl1 h2 hl2 hm1 hm2
 own:=by
  rintro f x ⟨z,oz,h1,h2,h3⟩ hk;by_cases e':l=z
  .subst e';rw [ay]at h1;cases h1;exact h2.elim
  .rw [aj _ _ e']at h1;exact H.own f x ⟨z,oz,h1,h2,h3⟩ hk
 low:=H.low
 sub:=H.sub
def dA.append{K:Nat->Prop}{w:World}{c1 c2 rest:List Value}{sz:Nat}{es1 es2:List (List D)}(h1:dA K w c1.toArray sz es1)(l1:c1.length=es1.length*sz)
  (h2:dA K w c2.toArray sz es2):dA K w (c1++c2++rest).toArray sz (es1++es2):=by
 intro i hi;rw [List.length_append]at hi;by_cases hlt:i<es1.length
 .have hg:(es1++es2).getD i []=es1.getD i []:=by simp_all
  obtain⟨a1,a2⟩:=h1 i hlt
  grind [gd,List.getElem?_eq_some_iff,List.append_assoc,List.getElem?_append_left]
 .have hi2:i-es1.length<es2.length:=by omega
  have hg:(es1++es2).getD i []=es2.getD (i-es1.length) []:=by simp_all
  obtain⟨a1,a2⟩:=h2 _ hi2;refine⟨by rw [hg];exact a1,λj hj=> ?_⟩;obtain⟨v,hv,hd⟩:=a2 j hj;refine⟨v,?_,by grind [gd]⟩;simp only [List.getElem?_toArray]at hv ⊢;have hx:(i-es1.length)*sz+j<c2.length:=(List.getElem?_eq_some_iff.1 hv).1;have he:i*sz+j=c1.length+((i-es1.length)*sz+j):=by
   rw [l1,<-Nat.add_assoc,<-Nat.add_mul];congr 2;omega
  grind
def pU{K:Nat->Prop}{w:World}{cells:Array Value}{sz lo n:Nat}{es:List (List D)}(h:dA K w cells sz es)(hn:lo+n<=es.length):
  dA K w ((cells.toList.drop (lo*sz)).take (n*sz)).toArray sz ((es.drop lo).take n):=by
 intro i hi;have hi':i<n:=by simp at hi;omega
 have hg:((es.drop lo).take n).getD i []=es.getD (lo+i) []:=by grind
 obtain⟨a1,a2⟩:=h (lo+i) ah;refine⟨by rw [hg];exact a1,λj hj=> ?_⟩;obtain⟨v,hv,hd⟩:=a2 j hj;refine⟨v,?_,by grind [gd]⟩;have hlt:i*sz+j<n*sz:=by
  have:(i+1)*sz<=n*sz:=Nat.mul_le_mul_right _ hi'
  grind
 grind
def tC{K:Nat->Prop}{w:World}{cells:Array Value}{sz:Nat}{es:List (List D)}(h:dA K w cells sz es)(hs:sz≠0):es.length*sz<=cells.size:=by
 by_cases he:es.length=0
 .simp_all
 .obtain⟨v,hv,_⟩:=(h (es.length-1) ah).2 (sz-1) ah;obtain⟨h1,_⟩:=Array.getElem?_eq_some_iff.1 hv;have:es.length*sz=(es.length-1)*sz+sz:=by
   rw [show es.length=es.length-1+1 by omega,Nat.add_mul];simp
  omega
def DL(P:Program)(K:Nat->Prop)(w:World)(u:Value)(sz:Nat)(ds:List (List D)):Prop:=
 ∃(a:Option Addr) (cap:Nat) (cells:List Value),u= .slice a ds.length cap/\(∀w1:World,w1.heap=w.heap->(Builtin.firstCells sz ds.length u).run P w1= .ok cells.toArray w1)/\cells.length=ds.length*sz/\dA K w cells.toArray sz ds/\
  (∀v∈cells,v.oneCell'=true)
theorem yc{w w1:World}(h:w1.heap=w.heap)(b:Addr):w1.cell? b=w.cell? b:=by unfold World.cell?;rw [h]
theorem lX{P:Program}{K:Nat->Prop}{w:World}{a:Option Addr}{cap sz:Nat}:DL P K w (.slice a 0 cap) sz []:=by
 refine⟨a,cap,[],rfl,λw1 _=> ?_,by simp,λi hi=>by simp at hi,by simp⟩;cases a<;>simp [Builtin.firstCells,loadCells,loadCellsFrom]
def pq{K:Nat->Prop}{w:World}{cells:List Value}{sz:Nat}{ds:List (List D)}(hl:cells.length=ds.length*sz)(h:dA K w cells.toArray sz ds):∀v∈cells,v.oneCell'=true:=by
 intro v hv;obtain⟨q,hq,rfl⟩:=List.mem_iff_getElem.1 hv;have hs:0<sz:=by grind
 have hi:q/sz<ds.length:=by rw [Nat.div_lt_iff_lt_mul hs];omega
 obtain⟨v,hv,hd⟩:=(h (q/sz) hi).2 (q%sz) (Nat.mod_lt _ hs);have he:q/sz*sz+q%sz=q:=by rw [Nat.mul_comm];exact Nat.div_add_mod q sz
 rw [he]at hv;simp [hq]at hv;rw [hv];exact hd.oneCell
def yg{P:Program}{K:Nat->Prop}{w:World}{u:Value}{sz s2:Nat}{ds:List (List D)}(h:dJ K w u (.rows s2 ds))(hs:ds≠ []->s2=sz):DL P K w u sz ds:=by
 cases h with
 | none a cap=>exact lX
 | rows b off cap _ n _ uu hb hn hcap hc hl hr=>
  subst hn;by_cases he:ds=[]
  .subst he;exact lX
  .have:=hs he;subst this;have hpos:0<ds.length:=List.length_pos_iff.2 he;refine⟨some ⟨b,off,none⟩,cap,(List.range (ds.length*s2)).map λq=>uu (q/s2) (q%s2),rfl,?_,by simp,?_,?_⟩
   .intro w1 hw1;have:=run_loadCells_list (P:=P) w1 ⟨b,off,none⟩ ((List.range (ds.length*s2)).map λq=>uu (q/s2) (q%s2)) (λj v hj=>by grind [Option.map_eq_some_iff,List.getElem?_eq_some_iff,Nat.eq_zero_or_pos,addr_add,yc,Nat.div_lt_iff_lt_mul,Nat.mod_lt,Nat.add_assoc,Nat.mul_comm,Nat.div_add_mod]);simpa [Builtin.firstCells]using this
   .intro i hi;refine⟨hl i hi,λj hj=>⟨uu i j,?_,hr i j hi hj⟩⟩;have hlt:i*s2+j<ds.length*s2:=by
     have:(i+1)*s2<=ds.length*s2:=Nat.mul_le_mul_right _ hi
     grind
    have h1:(i*s2+j)/s2=i:=by grind [Nat.mul_comm,Nat.mul_add_div,Nat.div_eq_of_lt]
    grind [Nat.mul_comm,Nat.mul_add_mod,Nat.mod_eq_of_lt]
   .refine pq (K:=K) (w:=w) (sz:=s2) (ds:=ds) (by simp) ?_;intro i hi;refine⟨hl i hi,λj hj=>⟨uu i j,?_,hr i j hi hj⟩⟩;have hlt:i*s2+j<ds.length*s2:=by
     have:(i+1)*s2<=ds.length*s2:=Nat.mul_le_mul_right _ hi
     grind
    have h1:(i*s2+j)/s2=i:=by grind [Nat.mul_comm,Nat.mul_add_div,Nat.div_eq_of_lt]
    grind [Nat.mul_comm,Nat.mul_add_mod,Nat.mod_eq_of_lt]
theorem IG{P:Program}{K:Nat->Prop}{w:World}{b oo sz lo n cap:Nat}{cells:Array Value}{e:TypeId}{fr:Nat×Nat}{es:List (List D)}(hb:w.heap[b]? =some (.cells cells e fr))(hr:dA K w (from_ cells oo) sz es)
  (hs:sz≠0) (hn:lo+n<=es.length) (w1:World) (hw1:w1.heap=w.heap):
  (Builtin.firstCells sz n (.slice (some ⟨b,oo+lo*sz,none⟩) n cap)).run P w1= .ok (((from_ cells oo).toList.drop (lo*sz)).take (n*sz)).toArray w1:=by
 have hsize:=tC hr hs;have hle:(lo+n)*sz<=es.length*sz:=Nat.mul_le_mul_right _ hn;rw [Nat.add_mul]at hle;rw [jF]at hsize;have hd:(from_ cells oo).toList.drop (lo*sz)=cells.toList.drop (oo+lo*sz):=by simp [from_,List.drop_drop]
 rw [hd];have hcl:((cells.toList.drop (oo+lo*sz)).take (n*sz)).length=n*sz:=by simp;omega
 grind [run_loadCells_list,addr_add,yc,jw,Builtin.firstCells]
def MH{P:Program}{K:Nat->Prop}{w:World}{b oo sz lo n cap:Nat}{cells:Array Value}{e:TypeId}{fr:Nat×Nat}{es:List (List D)}(hb:w.heap[b]? =some (.cells cells e fr))(hr:dA K w (from_ cells oo) sz es)
  (hs:sz≠0) (hn:lo+n<=es.length):DL P K w (.slice (some ⟨b,oo+lo*sz,none⟩) n cap) sz ((es.drop lo).take n):=by
 have hsize:=tC hr hs;have hle:(lo+n)*sz<=es.length*sz:=Nat.mul_le_mul_right _ hn;rw [Nat.add_mul]at hle;have hlen:((es.drop lo).take n).length=n:=by simp;omega
 have hcl:(((from_ cells oo).toList.drop (lo*sz)).take (n*sz)).length=n*sz:=by simp;omega
 refine⟨some ⟨b,oo+lo*sz,none⟩,cap,((from_ cells oo).toList.drop (lo*sz)).take (n*sz),by rw [hlen],λw1 hw1=> ?_,by simp_all,pU hr hn,?_⟩
 .grind [IG]
 .exact pq (by simp_all) (pU hr hn)
theorem II(newLen:Nat):∀(r c:Nat),Builtin.growBy newLen r c<=max c (2*newLen+192)
 | 0,c=>by simp [Builtin.growBy];omega
 | r+1,c=>by
  unfold Builtin.growBy;split
  .omega
  .have:=II newLen r (c+(c+768)/4);omega
def nextslicecap_le{newLen oldCap:Nat}(h:oldCap<newLen):Builtin.nextslicecap newLen oldCap<=2*newLen+512:=by grind [Builtin.nextslicecap,II]
inductive JH (E:Tab) (w:World) (t2 e:TypeId) (z:TY) (x:Value) (n:Nat) (cells:List Value):Prop
 | slice (y2:TY) (e2:TypeId) (a:Option Addr) (cap:Nat):E.ty t2=some y2->y2.desc= .slice e2->x= .slice a n cap->
  (∀w1:World,w1.heap=w.heap->(Builtin.firstCells z.size n x).run E.P w1= .ok cells.toArray w1)->JH E w t2 e z x n cells
 | zeros (y2:TY) (k k':IntKind) (zv:Value) (inf:TypeInfo):E.ty t2=some y2->y2.desc= .int k->x= .int k' n->n<=gX->E.P.info? e=some inf->inf.bytes=z.bytes->inf.zero=some zv->
  cells=(List.range (n*zv.cells.size)).map (λi=>zv.cells[i%zv.cells.size]!)->zv.cells.size=z.size->JH E w t2 e z x n cells
def qY{E:Tab}(hE:aR E){w:World}{ty t2 e:TypeId}{z:TY}{x:Value}{n:Nat}{cells:List Value}(hun:E.P.underlying ty=some (.slice e))(hz:E.ty e=some z)(hs:z.size≠0)(hby:z.bytes<=1024)
  (hx:JH E w t2 e z x n cells) {base:Option Addr} {sLen sCap:Nat} (hfit:sLen+n<=sCap):
  (Builtin.append_ #[ty,t2] ty #[.slice base sLen sCap,x]).run E.P w=
   ((match base with | some a=>storeCells (a.add (sLen*z.size)) cells | none=>pure ():Sem Unit).run E.P w).andThen λ_ w'=> .ok (.slice base (sLen+n) sCap) w':=by
 cases hx with
 | slice y2 e2 a cap h1 h2 hx hread=>
  have hd:=(hE.ty t2 y2 h1).desc;rw [h2]at hd;have hd':E.P.underlying t2=some (.slice e2):=hd;subst hx;have:=hread w rfl;simp [Builtin.append_,run_underlying hun,run_sizeOf hE hz,run_underlying hd',Builtin.lenOf,hfit,this];cases base<;>simp
 | zeros y2 k k' zv inf h1 h2 hx hmax hi hb hzv hc hzs=>
  have hd:=(hE.ty t2 y2 h1).desc;rw [h2]at hd;have hd':E.P.underlying t2=some (.int k):=hd;subst hx;have hm:n<=1073741824:=hmax;have hwrap:IntKind.i64.wrap (n:Int)=n:=IntWalk.i64_in _ ah;have h0:¬(n:Int)<0:=by omega
  have hbig:¬(281474976710656:Int)< (n:Int)*(z.bytes:Int):=by
   have h1:(n:Int)*(z.bytes:Int)<=(n:Int)*1024:=Int.mul_le_mul_of_nonneg_left ah ah;omega
  simp [Builtin.append_,run_underlying hun,run_sizeOf hE hz,run_underlying hd',asInt,asIntOf,hwrap,h0,typeInfo,hi,hb,hbig,hfit,zeroValue,hzv];have hz2:(Builtin.zeroCells zv.cells n).toList=cells:=by subst hc;simp [Builtin.zeroCells]
  rw [hz2];by_cases hn0:n=0
  .have hc0:cells=[]:=by simp_all
   subst hc0;rw [if_pos (by simp_all)];cases base<;>simp
  .rw [if_neg (Nat.mul_ne_zero hn0 hs)];cases base<;>simp
theorem run_append_grow{E:Tab}(hE:aR E){w:World}{ty t2 e:TypeId}{z:TY}{x:Value}{n:Nat}{cells old:List Value}(hun:E.P.underlying ty=some (.slice e))(hz:E.ty e=some z)(hs:z.size≠0)(hby:z.bytes<=1024)
  (hx:JH E w t2 e z x n cells) {base:Option Addr} {sLen sCap:Nat} (hfit:sCap<sLen+n) (hmax:sLen+n<=gX) (hol:old.length=sLen*z.size) (hcl:cells.length=n*z.size)
  (hold:∀w1:World,w1.heap=w.heap->(Builtin.firstCells z.size sLen (.slice base sLen sCap)).run E.P w1= .ok old.toArray w1):
  ∃newCap rest,sLen+n<=newCap/\newCap*z.size<=(old++cells++rest).length/\(Builtin.append_ #[ty,t2] ty #[.slice base sLen sCap,x]).run E.P w=
   .ok (.slice (some ⟨w.heap.size,0,none⟩) (sLen+n) newCap) {w.alloc (.cells (old++cells++rest).toArray e)with drawn:=w.drawn+1}:=by
 have hm:sLen+n<=1073741824:=hmax;obtain⟨inf,qH,his,hib,zv,hzv,hzr⟩:=(hE.ty e z hz).info;have hnc:=nextslicecap_le hfit;have hb1:¬281474976710656<Builtin.nextslicecap (sLen+n) sCap*z.bytes:=by
  have h1:Builtin.nextslicecap (sLen+n) sCap*z.bytes<=(2*(sLen+n)+512)*1024:=Nat.mul_le_mul hnc hby;omega
 have hnf:¬sLen+n<=sCap:=by omega
 have hzs:zv.cells.size=z.size:=by
  have h1:=(hzr OY w).length;have h2:=(hE.ty e z hz).len;simp at h1;omega
 have hmx:¬(9223372036854775807:Int)< (sLen:Int)+(n:Int):=by omega
 generalize hq:(Question.appendCap (sLen+n) sCap e).cut (w.tape w.drawn (Question.appendCap (sLen+n) sCap e))=q;have ak7:sLen+n<=q:=by rw [<-hq];simp [Question.cut]
 have SB:(Question.appendCap (sLen+n) sCap e).forced=false:=rfl;refine⟨q,(Builtin.zeroCells zv.cells (q- (sLen+n))).toList,ak7,?_,?_⟩
 .simp [Builtin.zeroCells,hol,hcl,hzs];rw [<-Nat.add_mul,<-Nat.add_mul]
  grind
 .have adx:=hold w.drew rfl;cases hx with
  | slice y2 e2 a cap h1 h2 hx hread=>
   have hd:=(hE.ty t2 y2 h1).desc;rw [h2]at hd;have hd':E.P.underlying t2=some (.slice e2):=hd;subst hx;have afa:=hread w.drew rfl;simp [Builtin.append_,run_underlying hun,run_sizeOf hE hz,run_underlying hd',Builtin.lenOf,hnf,typeInfo,qH,hib,hb1,hmx,SB,hq,adx,afa,zeroValue,hzv,newRow];have ea:old.toArray++(cells.toArray++Builtin.zeroCells zv.cells (q- (sLen+n)))=(old++(cells++(Builtin.zeroCells zv.cells (q- (sLen+n))).toList)).toArray:=by simp_all
   rw [ea];rfl
  | zeros y2 k k' zv' inf' h1 h2 hx aib hi hb aic hc hzs'=>
   have hd:=(hE.ty t2 y2 h1).desc;rw [h2]at hd;have hd':E.P.underlying t2=some (.int k):=hd;subst hx;rw [qH]at hi;cases hi;rw [hzv]at aic;cases aic;have hm2:n<=1073741824:=aib;have hwrap:IntKind.i64.wrap (n:Int)=n:=IntWalk.i64_in _ ah;have h0:¬(n:Int)<0:=by omega
   have hbig:¬(281474976710656:Int)< (n:Int)*(z.bytes:Int):=by
    have h1:(n:Int)*(z.bytes:Int)<=(n:Int)*1024:=Int.mul_le_mul_of_nonneg_left ah ah;omega
   have hz2:Builtin.zeroCells zv.cells n=cells.toArray:=by grind [Array.ext',Builtin.zeroCells]
   simp [Builtin.append_,run_underlying hun,run_sizeOf hE hz,run_underlying hd',asInt,asIntOf,hwrap,h0,typeInfo,qH,hib,hbig,hnf,hb1,hmx,SB,hq,adx,zeroValue,hzv,newRow,hz2];have ea:old.toArray++(cells.toArray++Builtin.zeroCells zv.cells (q- (sLen+n)))=(old++(cells++(Builtin.zeroCells zv.cells (q- (sLen+n))).toList)).toArray:=by simp_all
   by_cases hn0:n=0
   .have hc0:cells=[]:=by simp_all
    rw [if_pos (by simp_all)];rw [hc0]at ea ⊢;have eb:old.toArray++Builtin.zeroCells zv.cells (q- (sLen+n))=(old++([]++(Builtin.zeroCells zv.cells (q- (sLen+n))).toList)).toArray:=by rw [<-ea];simp
    rw [eb];rfl
   .rw [if_neg (Nat.mul_ne_zero hn0 hs),ea];rfl
theorem yh{P:Program}{c:Ctx}{w:World}{h:Heap}{n k:Nat}(H:bC c w h)(hn:c.n=nm n k){s:Sem Next}{a:Option Addr}{f:Bool}{sz:Nat}{K:PV->Heap->Nat->Prop}
  (hrun:s.run P w= .ok (.value (.slice a 0 0)) w) (hk:K (.c (.os (nm n k) sz 0 0)) ((nm n k,.rows f sz [])::h) (k+1)):Turns P c w h n s K:=by
 refine⟨_,_,c.name none,w,(c.n,.rows f sz [])::h,k+1,.c (.os (nm n k) sz 0 0),hrun,.inl rfl,Grow.new (λx hx=>by cases hx) (.refl w) (λ_ _=>rfl) (Nat.le_refl _) rfl rfl rfl,
  H.new (λx hx=>by cases hx) (.refl w) (λ_ _=>rfl) (Nat.le_refl _) ?_,?_,?_,?_⟩
 .simp_all [Ctx.nameAt,upd,gq]
 .show c.n+1=_;rw [hn];rfl
 .rw [<-hn];exact .c _ _ (.os0 a c.n sz (Nat.lt_succ_self _) (by simp [ji,upd]))
 simp_all
theorem Turns.after{P:Program}{c c1:Ctx}{w:World}{h h1:Heap}{n:Nat}{s:Sem Next}{K:PV->Heap->Nat->Prop}(g:Grow c w h c1 w h1)(t:Turns P c1 w h1 n s K):Turns P c w h n s K:=by
 obtain⟨nx,u,c',w',h',k',pv,q1,q2,q3,q4,q5,q6,q7⟩:=t;exact⟨nx,u,c',w',h',k',pv,q1,q2,g.trans q3,q4,q5,q6,q7⟩
theorem tH{E:Tab}(hE:aR E){c:Ctx}{w:World}{h:Heap}{n k:Nat}(H:bC c w h)(hn:c.n=nm n k){ty t2 e:TypeId}{z:TY}{x:Value}{m:Nat}{cells old:List Value}(hun:E.P.underlying ty=some (.slice e))(hz:E.ty e=some z)
  (hs:z.size≠0) (hby:z.bytes<=1024) (hx:JH E w t2 e z x m cells) {base:Option Addr} {sLen sCap:Nat} (hfit:sCap<sLen+m) (hmax:sLen+m<=gX) (hol:old.length=sLen*z.size) (hcl:cells.length=m*z.size)
  (hold:∀w1:World,w1.heap=w.heap->(Builtin.firstCells z.size sLen (.slice base sLen sCap)).run E.P w1= .ok old.toArray w1) {f1 f2:Bool} {es ds:List (List D)} (he:es.length=sLen)
  (hr1:dA (c.K f1) w old.toArray z.size es) (hr2:dA (c.K f2) w cells.toArray z.size ds) {K:PV->Heap->Nat->Prop}
  (hk:K (.c (.os (nm n k) z.size 0 (sLen+m))) ((nm n k,.rows (f1&&f2) z.size (es++ds))::h) (k+1)):
  Turns E.P c w h n (do pure (Next.value (<-Builtin.append_ #[ty,t2] ty #[.slice base sLen sCap,x]))) K:=by
 obtain⟨newCap,rest,h1,h2,hrun⟩:=run_append_grow hE hun hz hs hby hx hfit hmax hol hcl hold
 refine lW H hn (cells:=(old++cells++rest).toArray) (e:=e) (o:= .rows (f1&&f2) z.size (es++ds)) (u:= .slice (some ⟨w.heap.size,0,none⟩) (sLen+m) newCap)
  (w1:={w.alloc (.cells (old++cells++rest).toArray e)with drawn:=w.drawn+1}) (by simp [hrun]) rfl rfl rfl rfl ?_ (λhb=>Bd newCap hn hb h1 (by simpa using h2)) hk
 intro hst ho hnew;refine Bf H (dA.append ?_ (by rw [hol,he]) ?_) ho hnew
 .exact hr1.mono (λb hb=>by cases f1<;>cases f2<;>first | exact hb | exact H.sub b hb) (λ_ _=>rfl)
 .exact hr2.mono (λb hb=>by cases f1<;>cases f2<;>first | exact hb | exact H.sub b hb) (λ_ _=>rfl)
def OZ{E:Tab}(hE:aR E){c:Ctx}{w:World}{h:Heap}(H:bC c w h){t2 e:TypeId}{y2 z:TY}{u:Value}{v:PV}{zd:List D}(hy2:E.ty t2=some y2)(hz:E.ty e=some z)(hs:z.size≠0)(hzd:ZD z.zero zd)
  (hu:bg c w u v) (hty:rV y2.desc v)
  {K:Bool->Nat->List (List D)->Prop} (hk:Ms h zd v K):
  ∃f s2 ds,K f s2 ds/\((ds≠ []->s2=z.size)->∃cells,JH E w t2 e z u ds.length cells/\cells.length=ds.length*z.size/\dA (c.K f) w cells.toArray z.size ds/\(∀v∈cells,v.oneCell'=true)):=by
 have mk:∀(f:Bool) (ds:List (List D)) (e2:TypeId),y2.desc= .slice e2->DL E.P (c.K f) w u z.size ds->
   ∃cells,JH E w t2 e z u ds.length cells/\cells.length=ds.length*z.size/\dA (c.K f) w cells.toArray z.size ds/\(∀v∈cells,v.oneCell'=true):=by
  rintro f ds e2 hd ⟨a,cap,cells,h1,h2,h3,h4,h5⟩;exact⟨cells,.slice y2 e2 a cap hy2 hd h1 h2,h3,h4,h5⟩
 unfold Ms at hk;split at hk
 .cases hu with | c _ _ hu=>cases hu with | nil=>
  cases hd:y2.desc with
  | slice e2=>exact⟨true,0,[],hk,λ_=>mk true [] e2 hd lX⟩
  | _=>grind [rV]
 .rename_i f sz es;cases hu with | c _ _ hu=>cases hu with | d _ _ _ hu=>
  cases hd:y2.desc with
  | slice e2=>exact⟨f,sz,es,hk,λhs=>mk f es e2 hd (yg hu hs)⟩
  | _=>grind [rV]
 .rename_i f sz es;cases hu with | c _ _ hu=>cases hu with | clip _ a n _ _ hu=>
  cases hd:y2.desc with
  | slice e2=>exact⟨f,sz,es,hk,λhs=>mk f es e2 hd (yg hu hs)⟩
  | _=>grind [rV]
 .rename_i l sz lo n
  replace hk:=jY hk;obtain⟨o,ho,hk⟩:=hk
  split at hk
  .rename_i f sz' es;obtain⟨rfl,hlen,hk⟩:=hk;cases hd:y2.desc with
   | slice e2=>
    refine⟨f,sz,_,hk,λhsz=>mk f _ e2 hd ?_⟩;have hro:=(H.obj l _ ho).2;cases hu with | c _ _ hu=>cases hu with
    | os0 a _ _ hl hm=>rw [List.take_zero];exact lX
    | osE a _ _ _ b hl hm=>rw [List.take_zero];exact lX
    | os _ _ _ _ cap b oo hl hm hn hroom=>
     by_cases h0:n=0
     .grind [lX]
     .have hne:(es.drop lo).take n≠ []:=by
       intro he;have:=congrArg List.length he
       grind
      simp only [gq,hm]at hro;obtain⟨cells,E',hb,hrow⟩:=hro;have hs2:=hsz hne;subst hs2;exact MH hb hrow hs hlen
   | _=>grind [rV]
  .exact hk.elim
 .rename_i f k' n;obtain⟨h0,hmax,hk⟩:=hk;rw [iC hu];cases hd:y2.desc with
  | int kk=>
   obtain⟨inf,qH,his,hib,zv,hzv,hzr⟩:=(hE.ty e z hz).info;have hzs:zv.cells.size=z.size:=by
    have h1:=(hzr OY w).length;have h2:=(hE.ty e z hz).len;simp at h1;omega
   have hm:n<=1073741824:=hmax;have hcast:((List.replicate n.toNat zd).length:Int)=n:=by simp;omega
   have hrow:dA (c.K true) w ((List.range (n.toNat*zv.cells.size)).map (λi=>zv.cells[i%zv.cells.size]!)).toArray z.size (List.replicate n.toNat zd):=by
    have h1:=rowAt_zero (K:=c.K true) (w:=w) (N:=n.toNat*z.size) (m:=n.toNat) (Bh (hzr OY w) hzd) hzs (Nat.le_refl _);have h2:(Array.range (n.toNat*z.size)).map (λi=>zv.cells[i%zv.cells.size]!)=((List.range (n.toNat*zv.cells.size)).map (λi=>zv.cells[i%zv.cells.size]!)).toArray:=by grind
    simp_all
   refine⟨true,_,_,hk,λ_=>⟨(List.range (n.toNat*zv.cells.size)).map (λi=>zv.cells[i%zv.cells.size]!),.zeros y2 kk k' zv inf hy2 hd (by rw [hcast]) ah qH hib hzv (by rw [List.length_replicate]) hzs,by simp [hzs],hrow,?_⟩⟩;exact pq (K:=c.K true) (w:=w) (sz:=z.size) (ds:=List.replicate n.toNat zd) (by simp [hzs]) hrow
  | _=>grind [rV]
 .exact hk.elim
def JI{E:Tab}(hE:aR E){c:Ctx}{w:World}{h:Heap}{n k:Nat}(H:bC c w h)(hn:c.n=nm n k){ty t2 e:TypeId}{y2 z:TY}{s x:Value}{a b:PV}(hun:E.P.underlying ty=some (.slice e))(hz:E.ty e=some z)
    (hy2:E.ty t2=some y2) (hs:bg c w s a) (hx:bg c w x b)
    (hty:rV y2.desc b) {K:PV->Heap->Nat->Prop}
    (hk:wL h n k z a b K):Turns E.P c w h n (do pure (Next.value (<-Builtin.append_ #[ty,t2] ty #[s,x]))) K:=by
  unfold wL at hk;obtain⟨zd,hzd,hsz,hby,hk⟩:=hk;have hq:=OZ hE H hy2 hz hsz hzd hx hty hk
  clear hk
  obtain⟨f2,s2,ds,⟨hs2,hk⟩,hadd⟩:=hq;obtain⟨cells,hX,hcl,hr2,h1⟩:=hadd hs2;have hr2:dA (c.K (f2 || nY ds)) w cells.toArray z.size ds:=by
    cases hsc:nY ds with
    | false=>simpa using hr2
    | true=>
      intro i hi;refine⟨(hr2 i hi).1,λj hj=> ?_⟩;obtain⟨v,hv,hd⟩:=(hr2 i hi).2 j hj;refine⟨v,hv,hd.bY _ ?_⟩;have hl:=(hr2 i hi).1;have hri:ds.getD i []∈ds:=by simp_all
      have h1:=List.all_eq_true.1 hsc _ hri
      grind [gd,default,List.getD,List.getElem?_eq_getElem,List.getElem_mem,List.all_eq_true]
  generalize (f2 || nY ds)=f2 at hk hr2;unfold vg at hk;have stay:∀(base:Option Addr),ds.length=0->((do pure (Next.value (<-Builtin.append_ #[ty,t2] ty #[.slice base 0 0,x])):Sem Next)).run E.P w= .ok (.value (.slice base 0 0)) w:=by
    intro base h0;have:=qY hE (w:=w) hun hz hsz hby hX (base:=base) (sLen:=0) (sCap:=0) ah;have hc0:cells=[]:=by simp_all
    subst hc0;rw [h0]at this;cases base<;>simp [this,storeCells]
  have Bj:∀(base:Option Addr) (cap:Nat) (w1:World),(Builtin.firstCells z.size 0 (.slice base 0 cap)).run E.P w1= .ok ([]:List Value).toArray w1:=by
    intro base cap w1;cases base<;>simp [Builtin.firstCells,loadCells,loadCellsFrom]
  split at hk
  · obtain⟨hmax,hk⟩:=hk;cases hs with | c _ _ hs=>cases hs with | nil=>
    by_cases h0:ds.length=0
    · grind [List.eq_nil_of_length_eq_zero,yh]
    · have:=tH hE H hn hun hz hsz hby hX (old:=[]) (base:=none) (sLen:=0) (sCap:=0) ah ah (by simp) hcl (λw1 _=>Bj none 0 w1) (f1:=true) (f2:=f2) (es:=[]) (ds:=ds) rfl
        (λi hi=>by simp at hi) hr2 (K:=K) (by simpa using hk)
      exact this
  · rename_i l sz lo m
    replace hk:=jY hk;obtain⟨o,ho,hk⟩:=hk
    split at hk
    · rename_i f1 sz1 es;obtain⟨hm,rfl,rfl,hmax,hk⟩:=hk;have zB:=Grow.forget (c:=c) (w:=w) (h:=h) (l:=l);have Hf:=H.forget ho;have empty:∀base:Option Addr,m=0->s= .slice base 0 0->Turns E.P c w h n (do pure (Next.value (<-Builtin.append_ #[ty,t2] ty #[s,x]))) K:=by
        intro base hm0 hs0;subst hm0;subst hs0;rw [List.take_zero]at hk;by_cases h0:ds.length=0
        · grind [List.eq_nil_of_length_eq_zero,Turns.after,yh]
        · exact Turns.after zB (tH hE Hf hn hun hz hsz hby hX (old:=[]) (base:=base) (sLen:=0) (sCap:=0) ah ah (by simp) hcl (λw1 _=>Bj base 0 w1) (f1:=f1) (f2:=f2) (es:=[]) (ds:=ds) rfl
            (λi hi=>by simp at hi) hr2 (K:=K) (by simpa using hk))
      cases hs with | c _ _ hs=>cases hs with
      | os0 aa _ _ hl hmu=>simp_all
      | osE aa _ _ _ bb hl hmu=>simp_all
      | os _ _ _ _ cap bb oo hl hmu hcap hroom=>
        have hro:=(H.obj l _ ho).2;simp only [gq,hmu]at hro;obtain⟨cur,e',hb,hrow⟩:=hro;have hpart:=pU (lo:=lo) (n:=m) hrow hm;have hsize:=tC hrow hsz;have hml:(lo+m)*z.size<=es.length*z.size:=Nat.mul_le_mul_right _ hm;rw [Nat.add_mul]at hml;have htl:((es.drop lo).take m).length=m:=by simp;omega
        have hsz0:(from_ cur oo).size=cur.size-oo:=jF;have hdl:(from_ cur oo).toList.drop (lo*z.size)=(from_ cur (oo+lo*z.size)).toList:=by simp [from_,List.drop_drop]
        by_cases hfit:m+ds.length<=cap
        ·
          obtain⟨c2,E2,fr2,hb2,Wp⟩:=hroom;rw [hb]at hb2;cases hb2;have O1:(m+ds.length)*z.size<=cap*z.size:=Nat.mul_le_mul_right _ ah;rw [Nat.add_mul]at O1;rw [Nat.add_mul]at Wp;generalize hB:oo+lo*z.size=B at*;have hin:B+m*z.size+cells.length<=cur.size:=by rw [hcl];omega
          have hst:=run_storeCells_at E.P bb (B+m*z.size) e' cells 0 cur w hb (by simpa using hin) h1;have hrun:=qY hE (w:=w) hun hz hsz hby hX (base:=some ⟨bb,B,none⟩) (sLen:=m) (sCap:=cap) hfit;simp only [addr_add,Nat.add_zero]at hrun hst;rw [hst]at hrun;simp only [Result.andThen_ok]at hrun;have hsame:(cur.toList.take (B+m*z.size)++cells++cur.toList.drop (B+m*z.size+cells.length)).toArray.size=cur.size:=by grind
          have zC:=kG hb hsame;have hother:∀x,x≠bb->(w.setRow bb (cur.toList.take (B+m*z.size)++cells++cur.toList.drop (B+m*z.size+cells.length)).toArray).heap[x]? =w.heap[x]? :=λx hx=>setRow_other _ _ _ _ hx
          have afb:∀f x,c.K f x->(w.setRow bb (cur.toList.take (B+m*z.size)++cells++cur.toList.drop (B+m*z.size+cells.length)).toArray).heap[x]? =w.heap[x]? :=
            λf x hx=>hother x (λe'=>H.own f bb ⟨l,_,ho,trivial,iA hmu⟩ (e'▸hx))
          have JJ:dA (c.K (f1&&f2)) (w.setRow bb (cur.toList.take (B+m*z.size)++cells++cur.toList.drop (B+m*z.size+cells.length)).toArray)
              (from_ (cur.toList.take (B+m*z.size)++cells++cur.toList.drop (B+m*z.size+cells.length)).toArray B) z.size ((es.drop lo).take m++ds):=by
            rw [nZ ah];have hp:dA (c.K f1) w ((from_ cur B).toList.take (m*z.size)).toArray z.size ((es.drop lo).take m):=by rw [<-hdl];exact hpart
            have hB2:(from_ cur B).size=cur.size-B:=jF;refine(dA.append (sz:=z.size) (hp.mono (λb hb=> ?_) (λ_ _=>rfl)) (by rw [htl,List.length_take,Array.length_toList];omega) (hr2.mono (λb hb=> ?_) (λ_ _=>rfl))).mono (λ_ h=>h) (afb (f1&&f2))
            · cases f1<;>cases f2<;>first | exact hb | exact H.sub b hb
            · cases f1<;>cases f2<;>first | exact hb | exact H.sub b hb
          have hheap:=setRow_heap w bb cur (cur.toList.take (B+m*z.size)++cells++cur.toList.drop (B+m*z.size+cells.length)).toArray e' (0,0) hb;have g1:Grow c w h c _ ((l,.rows true z.size [])::h):=Grow.write ho trivial (iA hmu) hother (size_setRow _ _ _) zC rfl rfl rfl;have H1:bC c _ ((l,.rows true z.size [])::h):=H.write ho trivial (iA hmu) hother (size_setRow _ _ _) zC (by
            simp only [gq,hmu];exact⟨_,e',hheap,λi hi=>by cases hi⟩)
          have hl1:look ((l,.rows true z.size [])::h) l=some (.rows true z.size []):=ay _ _ _;have Wq:(c.nameAt (some (bb,B))).ν c.n=some (bb,B):=by simp [Ctx.nameAt,upd]
          have H2:=H1.rename hl1 trivial (iA hmu) (q:=B) (o':= .rows (f1&&f2) z.size ((es.drop lo).take m++ds)) (by simp only [gq,Wq];exact⟨_,e',hheap,JJ⟩);have g2:=Grow.rename (w:=w.setRow bb (cur.toList.take (B+m*z.size)++cells++cur.toList.drop (B+m*z.size+cells.length)).toArray) (q:=B) (o':= .rows (f1&&f2) z.size ((es.drop lo).take m++ds)) hl1 trivial (iA hmu)
          have hdrop:∀x,look ((c.n,dx.rows (f1&&f2) z.size ((es.drop lo).take m++ds))::(l,.gone)::(l,.rows true z.size [])::h) x=
              look ((c.n,dx.rows (f1&&f2) z.size ((es.drop lo).take m++ds))::(l,.gone)::h) x:=by grind [look]
          refine⟨.value (.slice (some ⟨bb,B,none⟩) (m+ds.length) cap),_,c.nameAt (some (bb,B)),_,(c.n,.rows (f1&&f2) z.size ((es.drop lo).take m++ds))::(l,.gone)::h,k+1,.c (.os (nm n k) z.size 0 (m+ds.length)),by(simp only [Sem.run_bind,hrun,Result.andThen_ok,Sem.run_pure];rfl),.inl rfl,?_,?_,?_,?_,?_⟩
          · have g3:=g1.trans g2;exact {g3 with oV:=λb hb=>g3.oV b (by obtain⟨x,o,p1,p2,p3⟩:=hb;exact⟨x,o,by simp_all,p2,p3⟩)}
          · exact { obj := λx o hx => H2.obj x o (by simp_all)
                    inj:=λx o x' o' b p1 p2 p3 p4 p5 p6=>H2.inj x o x' o' b (by simp_all) p2 (by simp_all) p4 p5 p6
                    own:=λf b hb=>H2.own f b (by obtain⟨x,o,p1,p2,p3⟩:=hb;exact⟨x,o,by simp_all,p2,p3⟩)
                    low:=H2.low
                    sub:=H2.sub}
          · show c.n+1=_;rw [hn];rfl
          · have:=bB.os (c:=c.nameAt (some (bb,B))) (w:=w.setRow bb (cur.toList.take (B+m*z.size)++cells++cur.toList.drop (B+m*z.size+cells.length)).toArray) c.n z.size 0 (m+ds.length) cap bb B (Nat.lt_succ_self _) Wq hfit ⟨_,e',(0,0),hheap,by rw [hsame,Nat.zero_add];omega⟩;rw [<-hn];exact .c _ _ (by simpa using this)
          · rw [hn];exact hk
        · refine Turns.after zB (tH hE Hf hn hun hz hsz hby hX (old:=((from_ cur oo).toList.drop (lo*z.size)).take (m*z.size)) (base:=some ⟨bb,oo+lo*z.size,none⟩) (sLen:=m) (sCap:=cap) ah ah (by rw [List.length_take,List.length_drop,Array.length_toList];omega) hcl ?_
            (f1:=f1) (f2:=f2) (es:=(es.drop lo).take m) (ds:=ds) htl hpart hr2 (K:=K) hk)
          exact λw1 hw1=>IG hb hrow hsz ah w1 hw1
    · exact hk.elim
  · rename_i f1 sz es;obtain⟨hse,hde,hmax,hk⟩:=hk;cases hs with | c _ _ hs=>cases hs with | clip _ aa nn _ _ hs=>
    by_cases h0:ds.length=0
    · have hd0:ds=[]:=List.eq_nil_of_length_eq_zero h0;have he0:=hde hd0;subst hd0;subst he0;have hnn:nn=0:=by cases hs with | none=>rfl | rows _ _ _ _ _ _ _ _ hn'=>simpa using hn'
      grind [yh]
    · obtain⟨a1,am5,cs1,q1,q2,q3,q4,q5⟩:=yg (P:=E.P) hs hse
      grind [tH]
  · exact hk.elim
def JK(c:Ctx)(w:World):bg c w undef (.tup []):= .tup [] [] rfl (λi hi=>by simp at hi)
def MI{E:Tab}(hE:aR E){c:Ctx}{w:World}{h:Heap}{n k:Nat}(H:bC c w h)(hn:c.n=nm n k){ty e tr:TypeId}{z:TY}{u:Value}{v:PV}{zd:List D}(hun:E.P.underlying ty=some (.slice e))(hz:E.ty e=some z)
    (hzd:ZD z.zero zd) (hu:bg c w u v) {K:PV->Heap->Nat->Prop} (hk:vk h zd z v λh'=>K (.tup []) h' k):Turns E.P c w h n (do pure (Next.value (<-Builtin.clear_ #[ty] tr #[u]))) K:=by
  obtain⟨inf,qH,his,hib,zv,hzv,hzr⟩:=(hE.ty e z hz).info;have hzs:zv.cells.size=z.size:=by
    have h1:=(hzr OY w).length;have h2:=(hE.ty e z hz).len;simp at h1;omega
  unfold vk at hk;split at hk
  · cases hu with | c _ _ hu=>cases hu with | nil=>
    exact⟨_,_,c,w,h,k,.tup [],by simp [Builtin.clear_,run_underlying hun];rfl,.inl rfl,.refl _ _ _,H,hn,JK c w,hk⟩
  · rename_i l sz lo m
    replace hk:=jY hk;obtain⟨o,ho,hk⟩:=hk
    split at hk
    · rename_i f sz' es;obtain⟨rfl,rfl,hsz,hlen,hk⟩:=hk;have hnone:∀a,m=0->u= .slice a 0 0\/(∃cap,u= .slice a 0 cap)->Turns E.P c w h n (do pure (Next.value (<-Builtin.clear_ #[ty] tr #[u]))) K:=by
        intro a hm hu';subst hm;have he:es.take lo++List.replicate 0 zd++es.drop (lo+0)=es:=by simp
        rw [he]at hk;have hro:=H.obj l _ ho;have hrun:((do pure (Next.value (<-Builtin.clear_ #[ty] tr #[u])):Sem Next)).run E.P w= .ok (.value (.tuple #[])) w:=by
          rcases hu' with rfl | ⟨cap,rfl⟩<;>(cases a<;>simp [Builtin.clear_,run_underlying hun])
        have same:∀x,look ((l,dx.rows f z.size es)::h) x=look h x:=by grind [ay,aj]
        refine⟨_,_,c,w,_,k,.tup [],hrun,.inl rfl,?_,?_,hn,JK c w,hk⟩
        · exact {(Grow.refl c w h)with oV:=λb hb=>by obtain⟨x,o,p1,p2,p3⟩:=hb;exact .inl ⟨x,o,by simp_all,p2,p3⟩}
        · exact { obj := λx o hx => H.obj x o (by simp_all)
                  inj:=λx o x' o' b p1 p2 p3 p4 p5 p6=>H.inj x o x' o' b (by simp_all) p2 (by simp_all) p4 p5 p6
                  own:=λf b hb=>H.own f b (by obtain⟨x,o,p1,p2,p3⟩:=hb;exact⟨x,o,by simp_all,p2,p3⟩)
                  low:=H.low
                  sub:=H.sub}
      cases hu with | c _ _ hu=>cases hu with
      | os0 aa _ _ hl hmu=>simp_all
      | osE aa _ _ _ bb hl hmu=>simp_all
      | os _ _ _ _ cap bb oo hl hmu hcap hroom=>
        by_cases hm0:m=0
        · subst hm0;exact hnone _ rfl (.inr ⟨cap,rfl⟩)
        · · have hro := (H.obj l _ ho).2;simp only [gq,hmu]at hro;obtain⟨cur,e',hb,hrow⟩:=hro;have hsize:=tC hrow hsz;rw [jF]at hsize;have hle:(lo+m)*z.size<=es.length*z.size:=Nat.mul_le_mul_right _ hlen;rw [Nat.add_mul]at hle;have hzl:(Builtin.zeroCells zv.cells m).toList.length=m*z.size:=by simp [Builtin.zeroCells,hzs]
            have hmp:0<m*z.size:=Nat.mul_pos ah ah;have ady:dA (c.K f) w (Builtin.zeroCells zv.cells m).toList.toArray z.size (List.replicate m zd):=by
              have h1:=rowAt_zero (K:=c.K f) (w:=w) (N:=m*z.size) (m:=m) (Bh (hzr OY w) hzd) hzs (Nat.le_refl _)
              grind [Array.range,Builtin.zeroCells,Array.ext']
            have hst:=run_storeCells_at E.P bb (oo+lo*z.size) e' (Builtin.zeroCells zv.cells m).toList 0 cur w hb (by rw [hzl];omega) (pq (by simp [hzl]) ady);simp only [Nat.add_zero]at hst
            have hrun:((do pure (Next.value (<-Builtin.clear_ #[ty] tr #[.slice (some ⟨bb,oo+lo*z.size,none⟩) m cap])):Sem Next)).run E.P w=
                .ok (.value (.tuple #[])) (w.setRow bb (cur.toList.take (oo+lo*z.size)++(Builtin.zeroCells zv.cells m).toList++cur.toList.drop (oo+lo*z.size+(Builtin.zeroCells zv.cells m).toList.length)).toArray):=by simp_all [absurd,Builtin.clear_,run_underlying,zeroValue,typeInfo]
            rw [hzl]at hrun;have hsame:(cur.toList.take (oo+lo*z.size)++(Builtin.zeroCells zv.cells m).toList++cur.toList.drop (oo+lo*z.size+m*z.size)).toArray.size=cur.size:=by grind
            have zC:=kG hb hsame;have hother:∀x,x≠bb->(w.setRow bb (cur.toList.take (oo+lo*z.size)++(Builtin.zeroCells zv.cells m).toList++cur.toList.drop (oo+lo*z.size+m*z.size)).toArray).heap[x]? =w.heap[x]? :=λx hx=>setRow_other _ _ _ _ hx
            refine⟨_,_,c,_,_,k,.tup [],hrun,.inl rfl,Grow.write ho trivial (iA hmu) hother (size_setRow _ _ _) zC rfl rfl rfl,H.write ho trivial (iA hmu) hother (size_setRow _ _ _) zC ?_,hn,JK _ _,hk⟩;simp only [gq,hmu];refine⟨_,e',setRow_heap w bb _ _ e' _ hb,?_⟩;have p1:=pU (lo:=0) (n:=lo) hrow ah;have p3:=pU (lo:=lo+m) (n:=es.length- (lo+m)) hrow ah;rw [List.drop_zero]at p1;have e3:(es.drop (lo+m)).take (es.length- (lo+m))=es.drop (lo+m):=List.take_of_length_le (by simp);rw [e3]at p3;simp only [Nat.zero_mul,List.drop_zero]at p1;have htl:(es.take lo).length=lo:=by simp;omega
            have a1:=dA.append (rest:=[]) p1 (by rw [htl,List.length_take,Array.length_toList,jF];omega) ady;rw [List.append_nil]at a1;have a2:=dA.append (rest:=((from_ cur oo).toList.drop ((lo+m)*z.size)).drop ((es.length- (lo+m))*z.size)) a1 (by
              rw [List.length_append,List.length_append,htl,List.length_replicate,hzl,List.length_take,Array.length_toList,jF,Nat.add_mul];omega) p3
            have ak8:(from_ cur oo).toList.take (lo*z.size)++(Builtin.zeroCells zv.cells m).toList++((from_ cur oo).toList.drop ((lo+m)*z.size)).take ((es.length- (lo+m))*z.size)++((from_ cur oo).toList.drop ((lo+m)*z.size)).drop ((es.length- (lo+m))*z.size)=
                (from_ cur oo).toList.take (lo*z.size)++(Builtin.zeroCells zv.cells m).toList++(from_ cur oo).toList.drop (lo*z.size+m*z.size):=by
              rw [List.append_assoc _ _ (List.drop _ _),List.take_append_drop,Nat.add_mul]
            have fs:=nZ (cells:=cur) (o:=oo) (k:=lo*z.size) (vs:=(Builtin.zeroCells zv.cells m).toList) ah;rw [hzl]at fs;rw [ak8,<-fs]at a2;exact a2.mono (λ_ h=>h) (λb hb'=>hother b (λe'=>H.own f bb ⟨l,_,ho,trivial,iA hmu⟩ (e'▸hb')))
    · exact hk.elim
  · exact hk.elim
def CG{E:Tab}(hE:aR E){c:Ctx}{w:World}{t:Slots}{h:Heap}{n k:Nat}{a:Act}(A:pR E c w t h a)(hn:c.n=nm n k)(o:Oper){K:PV->Heap->Nat->Prop}(hk:aX E o.op t h n k K):
  Turns E.P c w h n (execOp a.eval o) K:=by
 cases ho:o.op<;>rw [ho]at hk
 case alloc ty=>
  have:=ME hE A.heap hn hk
  grind [execOp]
 case box ty x=>
  simp only [aX]at hk
  replace hk:=dQ A hk;obtain⟨v,hv,hl,hk⟩:=hk
  have:=MF (P:=E.P) (t:=ty) A.heap hn hv hl hk
  grind [execOp]
 case buildSlice ty len parts=>grind [Bg,execOp]
 case makeSlice ty l cp=>grind [Dq,execOp]
 case store ty p x=>
  simp only [aX]at hk
  replace hk:=aO hk;obtain⟨y,hy,hk⟩:=hk
  replace hk:=dQ A hk;obtain⟨pv,hp,hk⟩:=hk
  replace hk:=dQ A hk;obtain⟨v,hv,hk⟩:=hk
  have:=Mw hE A.heap hn hy hp hv hk
  grind [execOp]
 case call cl=>
  obtain⟨callee,⟨args⟩,⟨argTypes⟩⟩:=cl;simp only [aX]at hk;split at hk
  .rename_i x y ty ty2
   replace hk:=aO hk;obtain⟨yy,hy,hk⟩:=hk
   split at hk
   .rename_i e he
    replace hk:=aO hk;obtain⟨z,hz,hk⟩:=hk
    replace hk:=dQ A hk;obtain⟨av,ha,hk⟩:=hk
    replace hk:=dQ A hk;obtain⟨bv,hb,hty,hk⟩:=hk
    have hun:=(hE.ty ty yy hy).desc;rw [he]at hun;split at hty
    .rename_i t2
     replace hty:=aO hty;obtain⟨y2,hy2,hty⟩:=hty
     have:=JI hE A.heap hn hun hz hy2 ha hb hty hk
     grind [execOp,pure,Builtin.append_,resolve,invoke,builtin]
    .exact hty.elim
   .exact hk.elim
  .rename_i x ty
   replace hk:=aO hk;obtain⟨yy,hy,hk⟩:=hk
   split at hk
   .rename_i e he
    replace hk:=aO hk;obtain⟨z,hz,hk⟩:=hk
    obtain⟨zd,hzd,hk⟩:=hk
    replace hk:=dQ A hk;obtain⟨av,ha,hk⟩:=hk
    have hun:=(hE.ty ty yy hy).desc;rw [he]at hun;have:=MI hE (tr:=ty) A.heap hn hun hz hzd ha hk
    grind [execOp,pure,Builtin.clear_,resolve,invoke,builtin]
   .exact hk.elim
  .exact hk.elim
 all_goals exact hk.elim
def vw(E:Tab)(t:Slots)(sz:Nat):List (Nat×Operand)->(List (List Cell)->Prop)->Prop
 | [],K=>K []
 | (_,x)::r,K=>aB (ev E t x) λv=>(aI v).length=sz/\vw E t sz r λcs=>K (aI v::cs)
def vB(h:Heap)(n k sz0:Nat)(a:PV)(ds:List (List Cell))(K:PV->Heap->Nat->Prop):Prop:=
 match a with
 | .c .nil=>ds.length<=gX/\K (.c (.os (nm n k) sz0 0 ds.length)) ((nm n k,.grid sz0 ds)::h) (k+1)
 | .c (.os l sz lo m)=>bZ (look h l) λo=>match o with
  | .grid sz1 cs=>lo=0/\m<=cs.length/\sz=sz0/\sz1=sz0/\m+ds.length<=gX/\
   K (.c (.os (nm n k) sz0 0 (m+ds.length))) ((nm n k,.grid sz0 (cs.take m++ds))::(l,.gone)::h) (k+1)
  | _=>False
 | _=>False
def MJ(h:Heap)(sz:Nat)(v:PV)(K:List (List Cell)->Prop):Prop:=
 match v with
 | .c (.os l sz2 lo n)=>bZ (look h l) λo=>match o with
  | .grid sz3 ds=>sz2=sz/\sz3=sz/\lo=0/\n=ds.length/\n≠0/\K ds
  | _=>False
 | _=>False
def O4:iU->Prop | .slice _=>True | _=>False
def nG(E:Tab)(op:Op)(t:Slots)(h:Heap)(n k:Nat)(K:PV->Heap->Nat->Prop):Prop:=
 match op with
 | .makeSlice ty l c=>aD (E.ty ty) λy=>match y.desc with
  | .slice e=>aD (E.ty e) λz=>aB (ev E t l) λlv=>aB (ev E t c) λcv=>jQ lv λ_ m=>jQ cv λ_ m'=>
    z.size≠0/\z.bytes<=1024/\m'=m/\0<=m/\m<=gX/\K (.c (.os (nm n k) z.size 0 m.toNat)) ((nm n k,.grid z.size (List.replicate m.toNat z.zero))::h) (k+1)
  | _=>False
 | .buildSlice ty len parts=>aD (E.ty ty) λy=>match y.desc with
  | .slice e=>aD (E.ty e) λz=>z.size≠0/\parts.toList.map (·.1)=List.range len/\len*z.size<=16777216/\
    vw E t z.size parts.toList λcs=>K (.c (.os (nm n k) z.size 0 len)) ((nm n k,.grid z.size cs)::h) (k+1)
  | _=>False
 | .call c=>match c.callee,c.args.toList,c.argTypes.toList with
  | .builtin .append,[a,b],[ty,t2]=>aD (E.ty ty) λy=>match y.desc with
   | .slice e=>aD (E.ty e) λz=>aD (E.ty t2) λy2=>aB (ev E t a) λav=>aB (ev E t b) λbv=>
     O4 y2.desc/\z.size≠0/\z.bytes<=1024/\MJ h z.size bv λds=>vB h n k z.size av ds K
   | _=>False
  | _,_,_=>False
 | _=>False
def gW.mono{c c':Ctx}{w w':World}{cells:Array Value}{sz:Nat}{cs:List (List Cell)}(hm:∀a x,bB c w a x->bB c' w' a x)(h:gW c w cells sz cs):gW c' w' cells sz cs:=
 λi hi=>⟨(h i hi).1,λj hj=>let⟨v,h1,h2⟩:=(h i hi).2 j hj;⟨v,h1,hm _ _ h2⟩⟩
def CJ{c:Ctx}{w:World}{cells:Array Value}{sz:Nat}{es:List (List Cell)}(h:gW c w cells sz es)(hs:sz≠0):es.length*sz<=cells.size:=by
 by_cases he:es.length=0
 .simp_all
 .obtain⟨v,hv,_⟩:=(h (es.length-1) ah).2 (sz-1) ah;obtain⟨h1,_⟩:=Array.getElem?_eq_some_iff.1 hv;have:es.length*sz=(es.length-1)*sz+sz:=by
   rw [show es.length=es.length-1+1 by omega,Nat.add_mul];simp
  omega
def gW.append{c:Ctx}{w:World}{c1 c2 rest:List Value}{sz:Nat}{es1 es2:List (List Cell)}(h1:gW c w c1.toArray sz es1)(l1:c1.length=es1.length*sz)
  (h2:gW c w c2.toArray sz es2):gW c w (c1++c2++rest).toArray sz (es1++es2):=by
 intro i hi;rw [List.length_append]at hi;by_cases hlt:i<es1.length
 .have hg:(es1++es2).getD i []=es1.getD i []:=by simp_all
  obtain⟨a1,a2⟩:=h1 i hlt
  grind [gc,List.getElem?_eq_some_iff,List.append_assoc,List.getElem?_append_left]
 .have hi2:i-es1.length<es2.length:=by omega
  have hg:(es1++es2).getD i []=es2.getD (i-es1.length) []:=by simp_all
  obtain⟨a1,a2⟩:=h2 _ hi2;refine⟨by rw [hg];exact a1,λj hj=> ?_⟩;obtain⟨v,hv,hd⟩:=a2 j hj;refine⟨v,?_,by grind [gc]⟩;simp only [List.getElem?_toArray]at hv ⊢;have hx:(i-es1.length)*sz+j<c2.length:=(List.getElem?_eq_some_iff.1 hv).1;have he:i*sz+j=c1.length+((i-es1.length)*sz+j):=by
   rw [l1,<-Nat.add_assoc,<-Nat.add_mul];congr 2;omega
  grind
def CK{c:Ctx}{w:World}{cells:Array Value}{sz n:Nat}{es:List (List Cell)}(h:gW c w cells sz es)(hn:n<=es.length):
  gW c w (cells.toList.take (n*sz)).toArray sz (es.take n):=by
 intro i hi;have hi':i<n:=by simp at hi;omega
 have hg:(es.take n).getD i []=es.getD i []:=by grind
 obtain⟨a1,a2⟩:=h i ah;refine⟨by rw [hg];exact a1,λj hj=> ?_⟩;obtain⟨v,hv,hd⟩:=a2 j hj;refine⟨v,?_,by grind [gc]⟩;have hlt:i*sz+j<n*sz:=by
  have:(i+1)*sz<=n*sz:=Nat.mul_le_mul_right _ hi'
  grind
 grind
def JL{c:Ctx}{w:World}{cells:List Value}{sz:Nat}{ds:List (List Cell)}(hl:cells.length=ds.length*sz)(h:gW c w cells.toArray sz ds):∀v∈cells,v.oneCell'=true:=by
 intro v hv;obtain⟨q,hq,rfl⟩:=List.mem_iff_getElem.1 hv;have hs:0<sz:=by grind
 have hi:q/sz<ds.length:=by rw [Nat.div_lt_iff_lt_mul hs];omega
 obtain⟨v,hv,hd⟩:=(h (q/sz) hi).2 (q%sz) (Nat.mod_lt _ hs);have he:q/sz*sz+q%sz=q:=by rw [Nat.mul_comm];exact Nat.div_add_mod q sz
 rw [he]at hv;simp [hq]at hv;rw [hv];exact hd.oneCell
def MK{c:Ctx}{w:World}{sz:Nat}{vs:List (List Value)}{dss:List (List Cell)}(h:F2 (λ(v:List Value) (ds:List Cell)=>ds.length=sz/\F2 (bB c w) v ds) vs dss):gW c w vs.flatten.toArray sz dss:=by
 have hl:∀v∈vs,v.length=sz:=h.all (λa b hh=>by rw [hh.2.length];exact hh.1);have hlen:=h.length;intro i hi;have hx:dss[i]? =some (dss.getD i []):=by simp_all
 obtain⟨v,hv,h1,h2⟩:=h.get hx;refine⟨h1,λj hj=> ?_⟩;have hy:(dss.getD i [])[j]? =some (gc dss i j):=by grind [gc,List.getD]
 obtain⟨x,hx2,hx3⟩:=h2.get hy
 grind [flat_get,mH]
def Bn{c:Ctx}{w w':World}{h:Heap}(H:bC c w h){cells:Array Value}{e:TypeId}{sz:Nat}{es:List (List Cell)}(hr:gW c w cells sz es)(hs:World.jV w w')
  (hold:∀x,x<w.heap.size->w'.heap[x]? =w.heap[x]?) (hnew:w'.heap[w.heap.size]? =some (.cells cells e (0,0))):gq (c.name (some w.heap.size)) w' c.n (.grid sz es):=by
 have hm:(c.name (some w.heap.size)).ν c.n=some (w.heap.size,0):=by simp [Ctx.nameAt,upd]
 simp only [gq,hm,Iz];exact⟨cells,e,hnew,hr.mono λ_ _ hx=>hx.mono (c.oZ _) (λf b hb=>hold b (H.low f b hb)) hs⟩
def zD{E:Tab}{a:Act}{t:Slots}{w:World}{c:Ctx}{h:Heap}(A:pR E c w t h a){sz:Nat}(hsz:sz≠0):∀(ps:List (Nat×Operand)) {K:List (List Cell)->Prop} (_:vw E t sz ps K),
  ∃dss,F2 (λ(v:Value) (ds:List Cell)=>ds.length=sz/\F2 (bB c w) v.cells.toList ds) (ps.map λx=>a.eval x.2) dss/\K dss
 | [],K,hk=>⟨[],.nil,hk⟩
 | (i,x)::r,K,hk=>by
  unfold vw at hk;obtain⟨v,hv,hl,hk⟩:=dQ A hk;have hc:=hv.cells ah;obtain⟨dss,d2,hk⟩:=zD A hsz r hk;exact⟨aI v::dss,.cons ⟨hl,hc⟩ d2,hk⟩
def CQ{P:Program}{w:World}{b base sz n cap:Nat}{cells:Array Value}{e:TypeId}{fr:Nat×Nat}(hb:w.heap[b]? =some (.cells cells e fr))(hsz:base+n*sz<=cells.size)(w1:World)(hw1:w1.heap=w.heap):
  (Builtin.firstCells sz n (.slice (some ⟨b,base,none⟩) n cap)).run P w1= .ok ((cells.toList.drop base).take (n*sz)).toArray w1:=by
 have hcl:((cells.toList.drop base).take (n*sz)).length=n*sz:=by simp;omega
 grind [run_loadCells_list,addr_add,yc,jw,Builtin.firstCells]
def O5{P:Program}{c:Ctx}{w:World}{h:Heap}(H:bC c w h){sz:Nat}{u:Value}{v:PV}(hsz:sz≠0)(hu:bg c w u v){K:List (List Cell)->Prop}(hk:MJ h sz v K):
  ∃(ds:List (List Cell)) (cells:List Value) (a:Option Addr) (cap:Nat),u= .slice a ds.length cap/\(∀w1:World,w1.heap=w.heap->(Builtin.firstCells sz ds.length u).run P w1= .ok cells.toArray w1)/\
   cells.length=ds.length*sz/\gW c w cells.toArray sz ds/\(∀v∈cells,v.oneCell'=true)/\ds≠ []/\K ds:=by
 unfold MJ at hk;split at hk
 .rename_i l sz2 lo n
  replace hk:=jY hk;obtain⟨o,ho,hk⟩:=hk
  split at hk
  .rename_i sz3 ds;obtain⟨rfl,rfl,rfl,hnl,hn,hk⟩:=hk;have hro:=(H.obj l _ ho).2;cases hu with | c _ _ hu=>cases hu with
   | os0 a _ _ hl hm=>exact absurd rfl hn
   | osE a _ _ _ b hl hm=>exact absurd rfl hn
   | os _ _ _ _ cap b oo hl hm hc hroom=>
    subst hnl;simp only [gq,hm]at hro;obtain⟨cur,e,hb,hrow⟩:=hro;have hsize:=CJ hrow hsz;rw [jF]at hsize;have hle:oo+ds.length*sz3<=cur.size:=by
     have:0<ds.length*sz3:=Nat.mul_pos ah ah;omega
    have hg:=CK hrow (Nat.le_refl _);rw [List.take_length]at hg;have he:(from_ cur oo).toList=cur.toList.drop oo:=by simp [from_]
    rw [he]at hg;have hcl:((cur.toList.drop oo).take (ds.length*sz3)).length=ds.length*sz3:=by simp;omega
    refine⟨ds,(cur.toList.drop oo).take (ds.length*sz3),_,cap,rfl,λw1 hw1=> ?_,hcl,hg,JL hcl hg,λe=>hn (by rw [e];rfl),hk⟩;have:=CQ (P:=P) (cap:=cap) hb hle w1 hw1;simpa using this
  .exact hk.elim
 .exact hk.elim
def pV{E:Tab}(hE:aR E){c:Ctx}{w:World}{h:Heap}{n k:Nat}(H:bC c w h)(hn:c.n=nm n k){ty t2 e:TypeId}{z:TY}{x:Value}{m:Nat}{cells old:List Value}(hun:E.P.underlying ty=some (.slice e))(hz:E.ty e=some z)
  (hs:z.size≠0) (hby:z.bytes<=1024) (hx:JH E w t2 e z x m cells) {base:Option Addr} {sLen sCap:Nat} (hfit:sCap<sLen+m) (hmax:sLen+m<=gX) (hol:old.length=sLen*z.size) (hcl:cells.length=m*z.size)
  (hold:∀w1:World,w1.heap=w.heap->(Builtin.firstCells z.size sLen (.slice base sLen sCap)).run E.P w1= .ok old.toArray w1) {es ds:List (List Cell)} (he:es.length=sLen)
  (hr1:gW c w old.toArray z.size es) (hr2:gW c w cells.toArray z.size ds) {K:PV->Heap->Nat->Prop}
  (hk:K (.c (.os (nm n k) z.size 0 (sLen+m))) ((nm n k,.grid z.size (es++ds))::h) (k+1)):
  Turns E.P c w h n (do pure (Next.value (<-Builtin.append_ #[ty,t2] ty #[.slice base sLen sCap,x]))) K:=by
 obtain⟨newCap,rest,h1,h2,hrun⟩:=run_append_grow hE hun hz hs hby hx hfit hmax hol hcl hold
 refine lW H hn (cells:=(old++cells++rest).toArray) (e:=e) (o:= .grid z.size (es++ds)) (u:= .slice (some ⟨w.heap.size,0,none⟩) (sLen+m) newCap)
  (w1:={w.alloc (.cells (old++cells++rest).toArray e)with drawn:=w.drawn+1}) (by simp [hrun]) rfl rfl rfl rfl ?_ (λhb=>Bd newCap hn hb h1 (by simpa using h2)) hk
 intro hst ho hnew;exact Bn H (gW.append hr1 (by rw [hol,he]) hr2) hst ho hnew
def G6{E:Tab}(hE:aR E){c:Ctx}{w:World}{h:Heap}{n k:Nat}(H:bC c w h)(hn:c.n=nm n k){ty t2 e:TypeId}{y2 z:TY}{s x:Value}{a b:PV}(hun:E.P.underlying ty=some (.slice e))(hz:E.ty e=some z)
    (hy2:E.ty t2=some y2) (hs:bg c w s a) (hx:bg c w x b) (hsl:O4 y2.desc) (hsz:z.size≠0) (hby:z.bytes<=1024) {K:PV->Heap->Nat->Prop}
    (hk0:MJ h z.size b λds=>vB h n k z.size a ds K):Turns E.P c w h n (do pure (Next.value (<-Builtin.append_ #[ty,t2] ty #[s,x]))) K:=by
  obtain⟨ds,cells,ad,cap2,hxe,hread,hcl,hr2,h1,hne,hk⟩:=O5 (P:=E.P) H hsz hx hk0
  clear hk0
  obtain⟨e2,hd2⟩:∃e2,y2.desc= .slice e2:=by
    unfold O4 at hsl;split at hsl
    · exact⟨_,by assumption⟩
    · exact hsl.elim
  have hX:JH E w t2 e z x ds.length cells:= .slice y2 e2 ad cap2 hy2 hd2 hxe hread;have hpos:0<ds.length:=List.length_pos_iff.2 hne;have Bj:∀(base:Option Addr) (cap:Nat) (w1:World),(Builtin.firstCells z.size 0 (.slice base 0 cap)).run E.P w1= .ok ([]:List Value).toArray w1:=by
    intro base cap w1;cases base<;>simp [Builtin.firstCells,loadCells,loadCellsFrom]
  unfold vB at hk;split at hk
  · obtain⟨hmax,hk⟩:=hk;cases hs with | c _ _ hs=>cases hs with | nil=>
    exact pV hE H hn hun hz hsz hby hX (old:=[]) (base:=none) (sLen:=0) (sCap:=0) ah ah (by simp) hcl (λw1 _=>Bj none 0 w1) (es:=[]) (ds:=ds) rfl
      (λi hi=>by simp at hi) hr2 (K:=K) (by simpa using hk)
  · rename_i l sz lo m
    replace hk:=jY hk;obtain⟨o,ho,hk⟩:=hk
    split at hk
    · rename_i sz1 es;obtain⟨rfl,hm,rfl,rfl,hmax,hk⟩:=hk;have zB:=Grow.forget (c:=c) (w:=w) (h:=h) (l:=l);have Hf:=H.forget ho;have empty:∀base:Option Addr,m=0->s= .slice base 0 0->Turns E.P c w h n (do pure (Next.value (<-Builtin.append_ #[ty,t2] ty #[s,x]))) K:=by
        intro base hm0 hs0;subst hm0;subst hs0;rw [List.take_zero]at hk
        exact Turns.after zB (pV hE Hf hn hun hz hsz hby hX (old:=[]) (base:=base) (sLen:=0) (sCap:=0) ah ah (by simp) hcl (λw1 _=>Bj base 0 w1) (es:=[]) (ds:=ds) rfl
            (λi hi=>by simp at hi) hr2 (K:=K) (by simpa using hk))
      cases hs with | c _ _ hs=>cases hs with
      | os0 aa _ _ hl hmu=>exact empty aa rfl rfl
      | osE aa _ _ _ bb hl hmu=>exact empty aa rfl rfl
      | os _ _ _ _ cap bb oo hl hmu hcap hroom=>
        have hro:=(H.obj l _ ho).2;simp only [gq,hmu]at hro;obtain⟨cur,e',hb,hrow⟩:=hro;have hpart:=CK hrow hm;have hsize:=CJ hrow hsz;have hml:m*z.size<=es.length*z.size:=Nat.mul_le_mul_right _ hm;have htl:(es.take m).length=m:=by simp;omega
        have hsz0:(from_ cur oo).size=cur.size-oo:=jF;have hdl:(from_ cur oo).toList=cur.toList.drop oo:=by simp [from_]
        simp only [Nat.zero_mul,Nat.add_zero,Nat.zero_add]at hroom ⊢;have ak9:m=0\/oo+m*z.size<=cur.size:=by
          by_cases h0:m=0
          · exact .inl h0
          · have:0<m*z.size:=Nat.mul_pos ah ah;omega
        by_cases hfit:m+ds.length<=cap
        · obtain⟨c2,E2,fr2,hb2,Wp⟩:=hroom;rw [hb]at hb2;cases hb2;have O1:(m+ds.length)*z.size<=cap*z.size:=Nat.mul_le_mul_right _ ah;rw [Nat.add_mul]at O1;have hin:oo+m*z.size+cells.length<=cur.size:=by rw [hcl];omega
          have hst:=run_storeCells_at E.P bb (oo+m*z.size) e' cells 0 cur w hb (by simpa using hin) h1;have hrun:=qY hE (w:=w) hun hz hsz hby hX (base:=some ⟨bb,oo,none⟩) (sLen:=m) (sCap:=cap) hfit;simp only [addr_add,Nat.add_zero]at hrun hst;rw [hst]at hrun;simp only [Result.andThen_ok]at hrun;generalize IJ:(cur.toList.take (oo+m*z.size)++cells++cur.toList.drop (oo+m*z.size+cells.length)).toArray=nc at hrun;have hsame:nc.size=cur.size:=by rw [<-IJ];grind
          have zC:=kG hb hsame;have hother:∀x,x≠bb->(w.setRow bb nc).heap[x]? =w.heap[x]? :=λx hx=>setRow_other _ _ _ _ hx
          have afb:∀f x,c.K f x->(w.setRow bb nc).heap[x]? =w.heap[x]? :=
            λf x hx=>hother x (λe'=>H.own f bb ⟨l,_,ho,trivial,iA hmu⟩ (e'▸hx))
          have hheap:=setRow_heap w bb cur nc e' (0,0) hb;have Wq:(c.nameAt (some (bb,oo))).ν c.n=some (bb,oo):=by simp [Ctx.nameAt,upd]
          have hmono:∀a x,bB c w a x->bB (c.nameAt (some (bb,oo))) (w.setRow bb nc) a x:=λa x hx=>hx.mono (c.wK _) afb zC
          have JJ:gW (c.nameAt (some (bb,oo))) (w.setRow bb nc) (from_ nc oo) z.size (es.take m++ds):=by
            have hfs:=nZ (cells:=cur) (o:=oo) (k:=m*z.size) (vs:=cells) ah;rw [IJ]at hfs;rw [hfs];exact(gW.append (sz:=z.size) hpart (by rw [htl,List.length_take,Array.length_toList];omega) hr2).mono hmono
          have g1:Grow c w h c _ ((l,.grid z.size [])::h):=Grow.write ho trivial (iA hmu) hother (size_setRow _ _ _) zC rfl rfl rfl;have H1:bC c _ ((l,.grid z.size [])::h):=H.write ho trivial (iA hmu) hother (size_setRow _ _ _) zC (by
            simp only [gq,hmu];exact⟨_,e',hheap,λi hi=>by cases hi⟩)
          have hl1:look ((l,.grid z.size [])::h) l=some (.grid z.size []):=ay _ _ _;have H2:=H1.rename hl1 trivial (iA hmu) (q:=oo) (o':= .grid z.size (es.take m++ds)) (by simp only [gq,Wq];exact⟨_,e',hheap,JJ⟩);have g2:=Grow.rename (w:=w.setRow bb nc) (q:=oo) (o':= .grid z.size (es.take m++ds)) hl1 trivial (iA hmu)
          have hdrop:∀x,look ((c.n,dx.grid z.size (es.take m++ds))::(l,.gone)::(l,.grid z.size [])::h) x=
              look ((c.n,dx.grid z.size (es.take m++ds))::(l,.gone)::h) x:=by grind [look]
          refine⟨.value (.slice (some ⟨bb,oo,none⟩) (m+ds.length) cap),_,c.nameAt (some (bb,oo)),_,(c.n,.grid z.size (es.take m++ds))::(l,.gone)::h,k+1,.c (.os (nm n k) z.size 0 (m+ds.length)),by(simp only [Sem.run_bind,hrun,Result.andThen_ok,Sem.run_pure];rfl),.inl rfl,?_,?_,?_,?_,?_⟩
          · have g3:=g1.trans g2;exact {g3 with oV:=λb hb=>g3.oV b (by obtain⟨x,o,p1,p2,p3⟩:=hb;exact⟨x,o,by simp_all,p2,p3⟩)}
          · exact { obj := λx o hx => H2.obj x o (by simp_all)
                    inj:=λx o x' o' b p1 p2 p3 p4 p5 p6=>H2.inj x o x' o' b (by simp_all) p2 (by simp_all) p4 p5 p6
                    own:=λf b hb=>H2.own f b (by obtain⟨x,o,p1,p2,p3⟩:=hb;exact⟨x,o,by simp_all,p2,p3⟩)
                    low:=H2.low
                    sub:=H2.sub}
          · show c.n+1=_;rw [hn];rfl
          · have:=bB.os (c:=c.nameAt (some (bb,oo))) (w:=w.setRow bb nc) c.n z.size 0 (m+ds.length) cap bb oo (Nat.lt_succ_self _) Wq hfit ⟨_,e',(0,0),hheap,by rw [hsame,Nat.zero_add];omega⟩;rw [<-hn];exact .c _ _ (by simpa using this)
          · rw [hn];exact hk
        · refine Turns.after zB (pV hE Hf hn hun hz hsz hby hX (old:=(cur.toList.drop oo).take (m*z.size)) (base:=some ⟨bb,oo,none⟩) (sLen:=m) (sCap:=cap) ah ah (by rw [List.length_take,List.length_drop,Array.length_toList];omega) hcl ?_
            (es:=es.take m) (ds:=ds) htl (by rw [<-hdl];exact hpart) hr2 (K:=K) hk)
          intro w1 hw1;rcases ak9 with h0 | h0
          · subst h0;have:=Bj (some ⟨bb,oo,none⟩) cap w1;simpa using this
          · exact CQ hb h0 w1 hw1
    · exact hk.elim
  · exact hk.elim
def ML{E:Tab}(hE:aR E){c:Ctx}{w:World}{t:Slots}{h:Heap}{n k:Nat}{a:Act}(A:pR E c w t h a)(hn:c.n=nm n k)(o:Oper){K:PV->Heap->Nat->Prop}(hk:nG E o.op t h n k K):
  Turns E.P c w h n (execOp a.eval o) K:=by
 cases ho:o.op<;>rw [ho]at hk
 case makeSlice ty l cp=>
  have goal:Turns E.P c w h n (do pure (Next.value (<-Instr.makeSlice ty (a.eval l) (a.eval cp)))) K:=by
   simp only [nG]at hk
   replace hk:=aO hk;obtain⟨y,hy,hk⟩:=hk
   split at hk
   .rename_i e he
    replace hk:=aO hk;obtain⟨z,hz,hk⟩:=hk
    replace hk:=dQ A hk;obtain⟨u1,hu1,hk⟩:=hk
    replace hk:=dQ A hk;obtain⟨u2,hu2,hk⟩:=hk
    replace hk:=jE hk;obtain⟨_,k1,m,rfl,hk⟩:=hk
    replace hk:=jE hk;obtain⟨_,k2,m',rfl,hk⟩:=hk
    obtain⟨hsz,hby,hmm,h0,hmax,hk⟩:=hk;subst m';rw [iC hu1,iC hu2];have hun:=(hE.ty ty y hy).desc;rw [he]at hun;obtain⟨inf,qH,hs,hb,zv,hzz,hzr⟩:=(hE.ty e z hz).info;have hzs:zv.cells.size=z.size:=by
     have h1:=(hzr c w).length;have h2:=(hE.ty e z hz).len;simp at h1;omega
    have hm:m<=1073741824:=hmax;have hwrap:IntKind.i64.wrap m=m:=IntWalk.i64_in _ ah;have hbig:¬(inf.bytes:Int)*m>281474976710656:=by
     rw [hb];have h1:(z.bytes:Int)*m<=1024*m:=Int.mul_le_mul_of_nonneg_right ah h0;omega
    refine lW A.heap hn (cells:=(Array.range (m.toNat*z.size)).map λi=>zv.cells[i%zv.cells.size]!) (e:=e) (o:= .grid z.size (List.replicate m.toNat z.zero))
     (w1:=w.alloc (.cells ((Array.range (m.toNat*z.size)).map λi=>zv.cells[i%zv.cells.size]!) e))
     (u:= .slice (some ⟨w.heap.size,0,none⟩) m.toNat m.toNat) ?_ rfl rfl rfl rfl ?_ (λhb=>Bd m.toNat hn hb (Nat.le_refl _) (by simp)) hk
    .by_cases hm0:m.toNat=0
     .have:m=0:=by omega
      subst this;have e0:∀f:Nat->Value,Array.map f (Array.range 0)= #[]:=by simp_all
      simp [Instr.makeSlice,run_underlying hun,asInt,asIntOf,typeInfo,qH,hwrap,run_sizeOf hE hz,newRow,e0]
     .have hne:m.toNat*z.size≠0:=Nat.mul_ne_zero hm0 hsz;have h1:¬m<0:=by omega
      simp [Instr.makeSlice,run_underlying hun,asInt,asIntOf,typeInfo,qH,hwrap,run_sizeOf hE hz,newRow,zeroValue,hzz,h1,hbig,hne]
    .intro hst hold hnew;refine Bn A.heap ?_ hst hold hnew;intro i hi;have hi':i<m.toNat:=by simpa using hi
     have hg:(List.replicate m.toNat z.zero).getD i []=z.zero:=by simp [List.getD,hi']
     refine⟨by rw [hg];exact(hE.ty e z hz).len,λj hj=> ?_⟩;have hlz:=(hE.ty e z hz).len;have hx:z.zero[j]? =some (z.zero.getD j default):=by simp [List.getD,List.getElem?_eq_getElem (show j<z.zero.length by omega)]
     obtain⟨v,hv,hr⟩:=(hzr c w).get hx;refine⟨v,?_,by unfold gc;rw [hg];exact hr⟩;have hlt:i*z.size+j<m.toNat*z.size:=by
      have:(i+1)*z.size<=m.toNat*z.size:=Nat.mul_le_mul_right _ hi'
      grind
     grind [Nat.mul_comm,Nat.mul_add_mod,Nat.mod_eq_of_lt,Array.getElem?_eq_some_iff,Array.getElem!_eq_getD]
   .exact hk.elim
  grind [execOp]
 case buildSlice ty len parts=>
  have goal:Turns E.P c w h n (do pure (Next.value (<-Instr.buildSlice ty len (parts.map λ(i,x)=>(i,a.eval x))))) K:=by
   simp only [nG]at hk
   replace hk:=aO hk;obtain⟨y,hy,hk⟩:=hk
   split at hk
   .rename_i e he
    replace hk:=aO hk;obtain⟨z,hz,hsz,hidx,hbig,hk⟩:=hk
    obtain⟨dss,hr,hk⟩:=zD A hsz parts.toList hk;have hun:=(hE.ty ty y hy).desc;rw [he]at hun;obtain⟨inf,qH,hs,_,zv,hzz,hzr⟩:=(hE.ty e z hz).info;have hlen:parts.toList.length=len:=by have:=congrArg List.length hidx;simpa using this
    have hdl:dss.length=len:=by rw [<-hr.length];simpa using hlen
    have hcs:∀v∈parts.toList.map (λx=>a.eval x.2),v.cells.size=z.size:=hr.all (λv ds hh=>by have:=hh.2.length;simp_all);have rX:=El z.size (parts.toList.map λx=>a.eval x.2) 0 [] ((List.range (len*z.size)).map λi=>zv.cells[i%zv.cells.size]!) hcs (by simp) (by simp_all);have Wm:((List.range' 0 (parts.toList.map λx=>a.eval x.2).length).zip (parts.toList.map λx=>a.eval x.2))=parts.toList.map λx=>(x.1,a.eval x.2):=by grind [List.range_eq_range',List.length_map,zip_map]
    rw [Wm]at rX;simp only [List.nil_append]at rX;have hzs:zv.cells.size=z.size:=by
     have h1:=(hzr c w).length;have h2:=(hE.ty e z hz).len;simp at h1;omega
    have Wn:((parts.toList.map λx=>a.eval x.2).flatMap λv=>v.cells.toList).length=len*z.size:=by
     rw [<-hlen];have:∀(l:List Value),(∀v∈l,v.cells.size=z.size)->(l.flatMap λv=>v.cells.toList).length=l.length*z.size:=by
      intro l hl
      induction l with
      | nil=>simp
      | cons x l ih=>grind
     grind
    refine lW A.heap hn (cells:=((parts.toList.map λx=>a.eval x.2).flatMap λv=>v.cells.toList).toArray) (e:=e) (o:= .grid z.size dss)
     (w1:=w.alloc (.cells ((parts.toList.map λx=>a.eval x.2).flatMap λv=>v.cells.toList).toArray e))
     (u:= .slice (some ⟨w.heap.size,0,none⟩) len len) ?_ rfl rfl rfl rfl ?_ (λhb=>Bd len hn hb (Nat.le_refl _) (by simp_all)) hk
    .have OX:Instr.fill (λi=>some (i*z.size,z.size)) (Array.map (λi=>zv.cells[i%zv.cells.size]!) (Array.range (len*z.size))) (parts.toList.map λx=>(x.1,a.eval x.2))=
       some ((parts.toList.map λx=>a.eval x.2).flatMap λv=>v.cells.toList).toArray:=by
      rw [<-rX];congr 1;grind
     have hbig':¬16777216<len*z.size:=by omega
     by_cases h0:len*z.size=0
     .have hl0:len=0:=by grind [Nat.mul_eq_zero,absurd]
      subst hl0;have hp0:parts= #[]:=by simp_all
      subst hp0;simp [Instr.buildSlice,run_underlying hun,run_sizeOf hE hz,Instr.fill,newRow]
      grind
     .simp [Instr.buildSlice,run_underlying hun,run_sizeOf hE hz,hbig',h0,zeroValue,typeInfo,qH,hzz,newRow];rw [OX];simp
    .intro hst hold hnew;refine Bn A.heap ?_ hst hold hnew;have:((parts.toList.map λx=>a.eval x.2).flatMap λv=>v.cells.toList)=((parts.toList.map λx=>a.eval x.2).map λv=>v.cells.toList).flatten:=by simp [List.flatMap]
     rw [this];refine MK ?_
     clear rX Wm hcs this hk Wn hnew hdl
     generalize parts.toList.map (λx=>a.eval x.2)=vs at hr
     induction hr with
     | nil=>exact .nil
     | cons hh _ ih=>exact .cons hh ih
   .exact hk.elim
  grind [execOp]
 case call cl=>
  obtain⟨callee,⟨args⟩,⟨argTypes⟩⟩:=cl;simp only [nG]at hk;split at hk
  .rename_i x y ty t2
   replace hk:=aO hk;obtain⟨yy,hy,hk⟩:=hk
   split at hk
   .rename_i e he
    replace hk:=aO hk;obtain⟨z,hz,hk⟩:=hk
    replace hk:=aO hk;obtain⟨y2,hy2,hk⟩:=hk
    replace hk:=dQ A hk;obtain⟨av,hav,hk⟩:=hk
    replace hk:=dQ A hk;obtain⟨bv,hbv,hsl,hsz,hby,hk⟩:=hk
    have hun:=(hE.ty ty yy hy).desc;rw [he]at hun;have:=G6 hE A.heap hn hun hz hy2 hav hbv hsl hsz hby hk
    grind [execOp,pure,Builtin.append_,resolve,invoke,builtin]
   .exact hk.elim
  .exact hk.elim
 all_goals exact hk.elim
def Ws(E:Tab)(op:Op)(t:Slots)(h:Heap)(n k:Nat)(K:PV->Heap->Nat->Prop):Prop:=aX E op t h n k K\/nG E op t h n k K
def CS{E:Tab}(hE:aR E){c:Ctx}{w:World}{t:Slots}{h:Heap}{n k:Nat}{a:Act}(A:pR E c w t h a)(hn:c.n=nm n k)(o:Oper){K:PV->Heap->Nat->Prop}(hk:Ws E o.op t h n k K):
 Turns E.P c w h n (execOp a.eval o) K:=hk.elim (CG hE A hn o) (ML hE A hn o)
structure St where
 t:Slots
 h:Heap
 n:Nat
 k:Nat
 m:Nat
abbrev Trans:=List PV->Heap->Nat->(PV->Heap->Nat->Prop)->Prop
abbrev fO:=FuncId->Option Trans
def dOK(m:Nat):Option Nat->Prop | none=>True | some d=>d<m
def St.put(s:St)(d:Option Nat)(v:Option PV):St:=match d with | none=>s | some d=> {s with t:=(d,v)::s.t}
def iK(E:Tab)(t:Slots):List Operand->(List PV->Prop)->Prop
 | [],K=>K []
 | x::r,K=>aB (ev E t x) λv=>iK E t r λvs=>K (v::vs)
def jf(o:Option Trans)(K:Trans->Prop):Prop:=match o with | some v=>K v | none=>False
def fnA(v:PV)(K:FuncId->List Cell->Prop):Prop:=match v with | .c (.fn g cs)=>K g cs | _=>False
def jy(E:Tab)(G:fO)(f:Operand)(args:List Operand)(s:St)(K:PV->Heap->Nat->Prop):Prop:=
 aB (ev E s.t f) λfv=>fnA fv λg cs=>iK E s.t args λvs=>jf (G g) λR=>R (vs++cs.map .c) s.h (nm s.n s.k) λr h' j=>K r h' (s.k+j)
def bQ:Op->Nat
 | .alloc _ | .box .. | .buildSlice .. | .makeSlice .. | .store .. =>1
 | .call {callee:= .builtin b,.. }=>match b with | .append | .clear=>1 | _=>0
 | .call {callee:= .value _,.. }=>2
 | _=>0
def dw(E:Tab)(G:fO)(op:Op)(s:St)(K:PV->Heap->Nat->Prop):Prop:=
 match op with
 | .call c=>match c.callee with | .value f=>jy E G f c.args.toList s K | _=>False
 | _=>False
def Em(E:Tab)(G:fO)(o:Oper)(s:St)(K:St->Prop):Prop:=
 dOK s.m o.dst/\match bQ o.op with
 | 0=>aH E o.op s.t s.h λv=>K (s.put o.dst (some v))
 | 1=>Ws E o.op s.t s.h s.n s.k λv h k=>K (St.put {s with h:=h,k:=k} o.dst (some v))
 | _=>dw E G o.op s λv h k=>K (St.put {s with h:=h,k:=k} o.dst (some v))
def gslot(ops:List Oper)(j:Nat):Option Nat:=(ops[j]?).bind (·.dst)
def vC(d:Option Nat)(K:Nat->Prop):Prop:=match d with | some d=>K d | none=>False
def nL(v:Option PV)(want:Bool)(T F:Prop):Prop:=match v with | some (.c (.d _ (.bool b)))=>xG (b==want) T F | some (.tup [])=>F | _=>False
def nC:PV:= .tup []
def pW{v:Option PV}{want:Bool}{T F:Prop}(h:nL v want T F):(∃f b,v=some (.c (.d f (.bool b)))/\(b=want->T)/\(b≠want->F))\/(v=some nC/\F):=by
 unfold nL at h;split at h
 .rename_i f b;exact .inl ⟨f,b,rfl,λe=>h.1 (by simp [e]),λe=>h.2 (by simpa using e)⟩
 .exact .inr ⟨rfl,h⟩
 .exact h.elim
theorem fG{f b want:Bool}{T F:Prop}(h1:b=want->T)(h2:b≠want->F):nL (some (.c (.d f (.bool b)))) want T F:=
 ⟨λe=>h1 (by simpa using e),λe=>h2 (by simpa using e)⟩
def nM(E:Tab)(G:fO)(ops:List Oper)(o:Oper)(s:St)(K:St->Prop):Prop:=
 match o.guard with
 | none=>Em E G o s K
 | some (j,want)=>dOK s.m o.dst/\vC (gslot ops j) λd=>nL (aA s.t d) want (Em E G o s K) (K (s.put o.dst (some nC)))
def aF(E:Tab)(G:fO)(ops:List Oper):List Oper->(St->Prop)->St->Prop
 | [],K,s=>K s
 | o::r,K,s=>nM E G ops o s λs'=>aF E G ops r K s'
structure jR(E:Tab)(s:St)(c:Ctx)(w:World)(a:Act):Prop where
 abs:pR E c w s.t s.h a
 n:c.n=nm s.n s.k
 defers:a.defers=[]
 size:a.tmps.size=s.m
def Post(Q:Value->World->Prop):Ending->World->Prop
 | .returned v,w=>Q v w
 | .outgrown,_=>False
 | .panicked _,_=>False
def Enters(P:Program)(f:FuncId):Prop:=∀args w,(callFunc f args).run P w= .ok (.enter f args) w
structure aK(E:Tab)(f:FuncId)(R:Trans):Prop where
 enters:Enters E.P f
 calls:∀args h n K,R args h n K->∀c w vs,c.n=n->F2 (bg c w) vs args->bC c w h->oH E c w->
  Calls E.P f vs.toArray w (Post λv w'=>∃c' r h' j,Grow c w h c' w' h'/\bC c' w' h'/\c'.n=nm n j/\bg c' w' v r/\K r h' j)
def jZ(E:Tab)(G:fO):Prop:=∀f R,G f=some R->aK E f R
def vD(E:Tab)(c0:Ctx)(w0:World)(h0:Heap)(Q:Exit->St->Prop):Exit->Act->World->Prop
 | .outgrown,_,_=>False
 | .panic _,_,_=>False
 | .goto _,_,_=>False
 | .normal,a,w=>∃c s,Grow c0 w0 h0 c w s.h/\jR E s c w a/\Q .normal s
 | .ret,a,w=>∃c s,Grow c0 w0 h0 c w s.h/\jR E s c w a/\Q .ret s
 | .exit i,a,w=>∃c s,Grow c0 w0 h0 c w s.h/\jR E s c w a/\Q (.exit i) s
theorem jG{t:Slots}{d i:Nat}{v:Option PV}:aA ((d,v)::t) i=if d=i then v else aA t i:=rfl
theorem jR.put{E:Tab}{s:St}{c:Ctx}{w:World}{a:Act}(A:jR E s c w a){d:Option Nat}(hd:dOK s.m d){u:Value}{v:PV}(hv:bg c w u v):jR E (s.put d (some v)) c w (a.put d u):=by
 cases d with
 | none=>exact A
 | some d=>
  refine⟨⟨λi x hx=> ?_,A.abs.heap,A.abs.glob⟩,A.n,A.defers,by simp [Act.put,St.put,A.size]⟩;simp only [St.put,jG]at hx;have hlt:d<a.tmps.size:=by rw [A.size];exact hd
  by_cases e:d=i
  .grind [Act.put]
  .rw [if_neg e]at hx;obtain⟨u',h1,h2⟩:=A.abs.slot i x hx
   grind [Act.put,Array.getElem?_setIfInBounds_ne]
def jR.grow{E:Tab}{s:St}{c c':Ctx}{w w':World}{a:Act}{h':Heap}{k':Nat}(A:jR E s c w a)(g:Grow c w s.h c' w' h')(H:bC c' w' h')(hn:c'.n=nm s.n k'):jR E {s with h:=h',k:=k'} c' w' a:=
 ⟨⟨λi x hx=>let⟨u,h1,h2⟩:=A.abs.slot i x hx;⟨u,h1,h2.grow A.abs.heap g⟩,H,A.abs.glob.grow A.abs.heap g⟩,hn,A.defers,A.size⟩
def vE{E:Tab}{c:Ctx}{w:World}{t:Slots}{h:Heap}{a:Act}(A:pR E c w t h a):
  ∀(xs:List Operand) (K:List PV->Prop),iK E t xs K->∃ps,F2 (bg c w) (xs.map a.eval) ps/\K ps
 | [],K,hk=>⟨[],.nil,hk⟩
 | x::r,K,hk=>by
  unfold iK at hk;obtain⟨v,hv,hk⟩:=dQ A hk;obtain⟨ps,hp,hk⟩:=vE A r _ hk;exact⟨v::ps,.cons hv hp,hk⟩
theorem En{E:Tab}(hE:aR E){G:fO}(hG:jZ E G){c0:Ctx}{w0:World}{h0:Heap}{Q:Exit->St->Prop}{s:St}{c:Ctx}{w:World}{a:Act}(A:jR E s c w a)(g0:Grow c0 w0 h0 c w s.h)(o:Oper)
  {K:St->Prop} {next:Act->World->Prop} (hnext:∀s' c' w' a',jR E s' c' w' a'->Grow c0 w0 h0 c' w' s'.h->K s'->next a' w') (hk:Em E G o s K):
  o.wp E.P a w next (vD E c0 w0 h0 Q):=by
 obtain⟨hd,hk⟩:=hk;split at hk
 .obtain⟨u,pv,hrun,hrel,hk⟩:=uY hE A.abs o hk;unfold Oper.wp;rw [hrun,Oper.upon_value];exact hnext _ _ _ _ (A.put hd hrel) (by cases o.dst<;>exact g0) hk
 .obtain⟨nx,u,c',w',h',k',pv,hrun,hnx,hg,H',hn',hrel,hk⟩:=CS hE A.abs A.n o hk;have A':=(A.grow hg H' hn').put (d:=o.dst) (s:={s with h:=h',k:=k'}) hd hrel;have g':=g0.trans hg;unfold Oper.wp;rw [hrun];rcases hnx with rfl | ⟨rfl,rfl⟩
  .rw [Oper.upon_value];exact hnext _ _ _ _ A' (by cases o.dst<;>exact g') hk
  .rw [Oper.upon_skip];exact hnext _ _ _ _ A' (by cases o.dst<;>exact g') hk
 .unfold dw at hk;split at hk
  .rename_i cl ho;split at hk
   .rename_i f hf;obtain⟨callee,⟨args⟩,argTypes⟩:=cl;simp only at hf;subst hf;obtain⟨fv,hfv,hk⟩:=dQ A.abs hk;unfold fnA at hk;generalize hfe:a.eval f=fu at hfv;split at hk
    .rename_i gid cs;obtain⟨ps,hps,hk⟩:=vE A.abs _ _ hk;cases hR:G gid with
     | none=>rw [hR]at hk;exact hk.elim
     | some R=>
     rw [hR]at hk;simp only [jf]at hk;cases hfv with | c _ _ hfv=>cases hfv with | fn _ JM _ hl hc=>
     have hcap:F2 (bg c w) JM (cs.map .c):=F2.sZ (by simp [hl]) (λi x y hx hy=>by
      simp only [List.getElem?_map,Option.map_eq_some_iff]at hy;obtain⟨y',hy',rfl⟩:=hy;have hi:i<cs.length:=(List.getElem?_eq_some_iff.1 hy').1;have:=hc i hi;rw [mH hx,mH hy']at this;exact .c _ _ this)
     have hok:=hG gid R hR;have O6:=hok.calls _ _ _ _ hk c w (args.map a.eval++JM) A.n (hps.append hcap) A.abs.heap A.abs.glob;have hrun:(execOp a.eval o).run E.P w= .ok (.enter gid (args.map a.eval++JM).toArray) w:=by
      have h1:=hok.enters (args.map a.eval++JM).toArray w
      grind [execOp,resolve,Deferred.ofValue,invoke]
     unfold Oper.wp;rw [hrun,Oper.upon_enter];refine O6.mono ?_;intro e w' he;cases e with
     | returned v=>
      obtain⟨c',r,h',j,hg,H',hn',hrel,hk⟩:=he;have hn2:c'.n=nm s.n (s.k+j):=by rw [hn',Wi]
      have A':=(A.grow hg H' hn2).put (d:=o.dst) (s:={s with h:=h',k:=s.k+j}) hd hrel;exact hnext _ _ _ _ A' (by cases o.dst<;>exact g0.trans hg) hk
     | panicked ch=>exact he.elim
     | outgrown=>exact he.elim
    .exact hk.elim
   .exact hk.elim
  .exact hk.elim
theorem yj{ops:Array Oper}{tmps:Array Value}{j d:Nat}{b want:Bool}(hg:gslot ops.toList j=some d)(hu:tmps[d]? =some (.bool b)):(yielded ops tmps j==some want)=(b==want):=by grind [bind,gslot,yielded]
theorem tJ{E:Tab}(hE:aR E){G:fO}(hG:jZ E G){c0:Ctx}{w0:World}{h0:Heap}{Q:Exit->St->Prop}(ops:Array Oper):
  ∀(l:List Oper) {s:St} {c:Ctx} {w:World} {a:Act} (_:jR E s c w a) (_:Grow c0 w0 h0 c w s.h),aF E G ops.toList l (Q .normal) s->wpList E.P ops (vD E c0 w0 h0 Q) l a w
 | [],s,c,w,a,A,g0,hk=>wpList_nil ⟨c,s,g0,A,hk⟩
 | o::r,s,c,w,a,A,g0,hk=>by
  refine wpList_step λnext hnext=> ?_
  have hn:∀s' c' w' a',jR E s' c' w' a'->Grow c0 w0 h0 c' w' s'.h->aF E G ops.toList r (Q .normal) s'->next a' w':=λs' c' w' a' A' g' hk'=>hnext _ _ (tJ hE hG ops r A' g' hk')
  unfold aF nM at hk;split at hk
  .grind [Region.wanted,En]
  .rename_i j want hgd;obtain⟨hdk,hk⟩:=hk;unfold vC at hk;split at hk
   .rename_i d hd;rcases pW hk with⟨f,b,hl,hT,hF⟩ | ⟨hl,hF⟩
    .obtain⟨u,hu,hr⟩:=A.abs.slot d _ hl;have:=jv hr;subst this;have hw:Region.wanted o (yielded ops a.tmps)=(b==want):=by grind [Region.wanted,yj]
     rw [hw];by_cases hb:b=want
     .grind [En]
     .rw [if_neg (by simp [hb])];exact hn _ _ _ _ (A.put hdk (JK _ _)) (by cases o.dst<;>exact g0) (hF hb)
    .obtain⟨u,hu,hr⟩:=A.abs.slot d _ hl;have hj:(ops[j]?).bind (·.dst)=some d:=by simpa [gslot]using hd
     have hun:∀b,u≠ .bool b:=by
      intro b e;subst e;cases hr
     have hw:Region.wanted o (yielded ops a.tmps)=false:=by grind [Region.wanted,yielded]
     rw [if_neg (by rw [hw];simp)];exact hn _ _ _ _ (A.put hdk (JK _ _)) (by cases o.dst<;>exact g0) hF
   .exact hk.elim
def Weak(E:Tab)(s s':St):Prop:=∀c w a,jR E s c w a->∃c',Grow c w s.h c' w s'.h/\jR E s' c' w a
def Weak.refl(E:Tab)(s:St):Weak E s s:=λc _ _ A=>⟨c,.refl _ _ _,A⟩
def zF(K:St->Prop)(Q:Exit->St->Prop):Exit->St->Prop
 | .normal,s=>K s
 | e,s=>Q e s
def O7(id:Nat)(Q:Exit->St->Prop):Exit->St->Prop
 | .exit i,s=>if i=id then Q .normal s else Q (.exit i) s
 | e,s=>Q e s
def Wt(E:Tab)(W:(Exit->St->Prop)->St->Prop)(Q:Exit->St->Prop)(s:St):Prop:=
 ∃(I:Nat->St->Prop) (n0:Nat),(∃s1,Weak E s s1/\I n0 s1)/\
  ∀n s1,I n s1->W (zF (λs2=>∃n' s3,n'<n/\Weak E s2 s3/\I n' s3) Q) s1
abbrev jI:=Nat->Array Oper->(St->Prop)->St->Prop
def aw(E:Tab)(G:fO)(dr:jI):Code->(Exit->St->Prop)->St->Prop
 | .skip,Q,s=>Q .normal s
 | .region id ops draw,Q,s=>if draw=true then dr id ops (Q .normal) s else aF E G ops.toList ops.toList (Q .normal) s
 | .seq a b,Q,s=>aw E G dr a (zF (aw E G dr b Q) Q) s
 | .cond c x y,Q,s=>aB (ev E s.t c) λv=>uU v λb=>xG b (aw E G dr x Q s) (aw E G dr y Q s)
 | .block id b,Q,s=>aw E G dr b (O7 id Q) s
 | .loop b,Q,s=>Wt E (aw E G dr b) Q s
 | .exit id,Q,s=>Q (.exit id) s
 | .ret,Q,s=>Q .ret s
 | _,_,_=>False
def Eo(E:Tab)(dr:jI):Prop:=∀(id:Nat) (ops:Array Oper) (Q:Exit->St->Prop) (s:St) (c0:Ctx) (w0:World) (h0:Heap) (c:Ctx) (w:World) (a:Act),jR E s c w a->Grow c0 w0 h0 c w s.h->dr id ops (Q .normal) s->
 (Code.region id ops true).wp E.P (vD E c0 w0 h0 Q) a w
def og{E:Tab}(hE:aR E){G:fO}(hG:jZ E G){dr:jI}(hD:Eo E dr):∀(code:Code) {Q:Exit->St->Prop} {s:St} {c0:Ctx} {w0:World} {h0:Heap} {c:Ctx} {w:World} {a:Act},
  jR E s c w a->Grow c0 w0 h0 c w s.h->aw E G dr code Q s->code.wp E.P (vD E c0 w0 h0 Q) a w
 | .skip,Q,s,c0,w0,h0,c,w,a,A,g,hk=>wp_skip ⟨c,s,g,A,hk⟩
 | .region id ops draw,Q,s,c0,w0,h0,c,w,a,A,g,hk=>by
  unfold aw at hk;split at hk
  .rename_i hd;subst hd;exact hD id ops Q s c0 w0 h0 c w a A g hk
  grind [wp_region_list,tJ]
 | .seq x y,Q,s,c0,w0,h0,c,w,a,A,g,hk=>by
  unfold aw at hk;refine wp_seq (wp_mono (og hE hG hD x A g hk) ?_);intro e a' w' he;cases e with
  | normal=>
   obtain⟨c',s',g',A',hk'⟩:=he;exact og hE hG hD y A' g' hk'
  | exit i=>exact he
  | goto l=>exact he
  | ret=>exact he
  | panic ch=>exact he
  | outgrown=>exact he
 | .cond cd x y,Q,s,c0,w0,h0,c,w,a,A,g,hk=>by
  unfold aw at hk;obtain⟨v,hv,hk⟩:=dQ A.abs hk;obtain⟨f,b,rfl,hk⟩:=xY hk;have hb:=jv hv;refine wp_cond hb ?_;cases b with
  | true=>exact og hE hG hD x A g (hk.1 rfl)
  | false=>exact og hE hG hD y A g (hk.2 rfl)
 | .block id b,Q,s,c0,w0,h0,c,w,a,A,g,hk=>by
  unfold aw at hk;refine wp_block (wp_mono (og hE hG hD b A g hk) ?_);intro e a' w' he;cases e with
  | exit i=>
   obtain⟨c',s',g',A',hk'⟩:=he;unfold O7 at hk';simp only [Exit.inBlock];split
   .rename_i e;simp only [e,if_true]at hk';exact⟨c',s',g',A',hk'⟩
   .rename_i e;simp only [e,if_false]at hk';exact⟨c',s',g',A',hk'⟩
  | normal=>exact he
  | goto l=>exact he
  | ret=>exact he
  | panic ch=>exact he
  | outgrown=>exact he
 | .loop b,Q,s,c0,w0,h0,c,w,a,A,g,hk=>by
  unfold aw at hk;obtain⟨I,n0,⟨s1,hw,hI⟩,afc⟩:=hk;obtain⟨c1,g1,A1⟩:=hw c w a A;refine wp_loop_ghost (λn a' w'=>∃c' s',Grow c0 w0 h0 c' w' s'.h/\jR E s' c' w' a'/\I n s') n0 ⟨c1,s1,g.trans g1,A1,hI⟩ ?_;rintro n a' w' ⟨c',s',g',A',hI'⟩;refine wp_mono (og hE hG hD b A' g' (afc n s' hI')) ?_;intro e a2 w2 he;cases e with
  | normal=>
   obtain⟨c2,s2,g2,A2,n',s3,hlt,hw3,hI3⟩:=he;obtain⟨c3,g3,A3⟩:=hw3 c2 w2 a2 A2;exact⟨n',hlt,c3,s3,g2.trans g3,A3,hI3⟩
  | exit i=>exact he
  | goto l=>exact he
  | ret=>exact he
  | panic ch=>exact he
  | outgrown=>exact he
 | .exit id,Q,s,c0,w0,h0,c,w,a,A,g,hk=>wp_exit ⟨c,s,g,A,hk⟩
 | .ret,Q,s,c0,w0,h0,c,w,a,A,g,hk=>wp_ret ⟨c,s,g,A,hk⟩
 | .rangeFunc ..,_,_,_,_,_,_,_,_,_,_,hk=>by grind [aw]
 | .scope _,_,_,_,_,_,_,_,_,_,_,hk=>by grind [aw]
 | .label _,_,_,_,_,_,_,_,_,_,_,hk=>by grind [aw]
 | .goto _,_,_,_,_,_,_,_,_,_,_,hk=>by grind [aw]
 | .refuse _,_,_,_,_,_,_,_,_,_,_,hk=>by grind [aw]
def oh(E:Tab)(s:St):List ResultVar->(List PV->Prop)->Prop
 | [],K=>K []
 | .tmp t::r,K=>aB (aA s.t t) λv=>oh E s r λvs=>K (v::vs)
 | .cell t ty::r,K=>aB (aA s.t t) λp=>fF E s.h ty p λv=>oh E s r λvs=>K (v::vs)
def one(vs:List PV):PV:=match vs with | [v]=>v | vs=> .tup vs
def pX(E:Tab)(rs:List ResultVar)(n:Nat)(K:PV->Heap->Nat->Prop):Exit->St->Prop
 | .normal,s | .ret,s=>s.n=n/\oh E s rs λvs=>K (one vs) s.h s.k
 | _,_=>False
def UY(tmps:Array Value):ResultVar->Sem Value
 | .tmp t=>pure (tmps.getD t undef)
 | .cell a t=>do loadVar t (<-asAddr (tmps.getD a undef))
def vF{P:Program}{fn:Func}{tmps:Array Value}{w:World}{us:List Value}(h:(fn.results.toList.mapM (UY tmps)).run P w= .ok us w):
  (results fn tmps).run P w= .ok (if h:us.toArray.size=1 then us.toArray[0]else .tuple us.toArray) w:=by
 have e:results fn tmps=(do let vs<-fn.results.mapM (UY tmps);pure (if h:vs.size=1 then vs[0]else .tuple vs)):=by
  unfold results;congr 1
 grind [Array.mapM_eq_mapM_toList,Sem.run_bind,Sem.run_map,Result.andThen_ok,Sem.run_pure]
def rY{E:Tab}(hE:aR E){s:St}{c:Ctx}{w:World}{a:Act}(A:jR E s c w a):∀(rs:List ResultVar) (K:List PV->Prop),oh E s rs K->
  ∃vs ps,(rs.mapM (UY a.tmps)).run E.P w= .ok vs w/\F2 (bg c w) vs ps/\K ps
 | [],K,hk=>⟨[],[],by simp,.nil,hk⟩
 | .tmp t::r,K,hk=>by
  unfold oh at hk;obtain⟨v,hv,hk⟩:=lI hk;obtain⟨u,hu,hr⟩:=A.abs.slot t v hv;obtain⟨vs,ps,h1,h2,h3⟩:=rY hE A r _ hk;refine⟨u::vs,v::ps,?_,.cons hr h2,h3⟩;simp_all [UY,Array.getD_eq_getD_getElem?,List.mapM_cons,Sem.run_bind,Result.andThen_ok,Sem.run_pure]
 | .cell t ty::r,K,hk=>by
  unfold oh at hk;obtain⟨p,hp,hk⟩:=lI hk;obtain⟨u,hu,hr⟩:=A.abs.slot t p hp;obtain⟨x,pv,hx,hrel,hk⟩:=Ec hE A.abs.heap hr hk;obtain⟨vs,ps,h1,h2,h3⟩:=rY hE A r _ hk;refine⟨x::vs,pv::ps,?_,.cons hrel h2,h3⟩;have hg:a.tmps.getD t undef=u:=by simp_all
  have h0:(UY a.tmps (.cell t ty)).run E.P w= .ok x w:=by
   unfold Instr.loadAt at hx;simp only [UY,hg];cases u with
   | pointer ad=>
    cases ad with
    | none=>simp [Instr.sureAddr]at hx
    | some ad=>simpa [Instr.sureAddr,asAddr]using hx
   | _=>simp [Instr.sureAddr]at hx
  simp_all
def slotsOf:Nat->List PV->Slots
 | _,[]=> []
 | i,v::r=>(i,some v)::slotsOf (i+1) r
def dh(E:Tab)(G:fO)(dr:jI)(fn:Func)(code:Code)(args:List PV)(h:Heap)(n:Nat)(K:PV->Heap->Nat->Prop):Prop:=
 aw E G dr code (pX E fn.results.toList n K) {t:=slotsOf 0 args,h:=h,n:=n,k:=0,m:=args.length+(fn.ntmps-args.length)}
def zG:∀(ps:List PV) (j i:Nat) (v:PV),aA (slotsOf j ps) i=some v->j<=i/\ps[i-j]? =some v
 | [],j,i,v,h=>by simp [slotsOf,aA]at h
 | p::ps,j,i,v,h=>by
  simp only [slotsOf,aA]at h;split at h
  .simp_all
  .obtain⟨h1,h2⟩:=zG ps (j+1) i v h
   grind
def G7{E:Tab}(hE:aR E){G:fO}(hG:jZ E G){dr:jI}(hD:Eo E dr){f:FuncId}{fn:Func}{code:Code}(hf:E.P.funcs[f]? =some fn)(hb:fn.body=some code)(hent:Enters E.P f){R:Trans}
  (hbody:∀args h n K,R args h n K->∃K':PV->Heap->Nat->Prop,dh E G dr fn code args h n K'/\
   ∀r h' k c w v,K' r h' k->c.n=nm n k->bg c w v r->bC c w h'->∃c' r' h'' j,Grow c w h' c' w h''/\bC c' w h''/\c'.n=nm n j/\bg c' w v r'/\K r' h'' j):aK E f R where
 enters:=hent
 calls:=by
  intro args h n K hR c w vs hn hargs H Gl;obtain⟨K',hk,hfin⟩:=hbody args h n K hR;refine calls_of_wp hf hb ?_;have hlen:=hargs.length;have A:jR E {t:=slotsOf 0 args,h:=h,n:=n,k:=0,m:=args.length+(fn.ntmps-args.length)} c w {tmps:=vs.toArray++Array.replicate (fn.ntmps-vs.toArray.size) undef,defers:=[]}:=by
   refine⟨⟨λi v hv=> ?_,H,Gl⟩,by simpa [nm]using hn,rfl,by simp [hlen]⟩;obtain⟨h1,h2⟩:=zG args 0 i v hv;obtain⟨u,hu,hr⟩:=hargs.get h2
   grind
  refine wp_mono (og hE hG hD code A (.refl _ _ _) hk) ?_;intro e a' w' he
  have fin:∀c1 s1,Grow c w h c1 w' s1.h->jR E s1 c1 w' a'->oh E s1 fn.results.toList (λvs=>K' (one vs) s1.h s1.k)->s1.n=n->a'.defers=[]/\∃v,(results fn a'.tmps).run E.P w'= .ok v w'/\
    Post (λv w'=>∃c' r h' j,Grow c w h c' w' h'/\bC c' w' h'/\c'.n=nm n j/\bg c' w' v r/\K r h' j) (.returned v) w':=by
   intro c1 s1 g1 A1 hr hn1;obtain⟨us,ps,h1,h2,h3⟩:=rY hE A1 _ _ hr;refine⟨A1.defers,?_⟩;have hres:=vF h1;refine⟨_,hres,?_⟩;have hrel:bg c1 w' (if h:us.toArray.size=1 then us.toArray[0]else .tuple us.toArray) (one ps):=by
    cases h2 with
    | nil=>exact JK _ _
    | cons q1 q2=>
     cases q2 with
     | nil=>simpa [one]using q1
     | cons q3 q4=>
      have hl:=(F2.cons q1 (F2.cons q3 q4)).length;rw [dif_neg (by simp)];refine .tup _ _ hl (λi hi=> ?_);have hx:∀(l:List PV),i<l.length->l[i]? =some (l.getD i default):=λl hl=>by simp_all
      obtain⟨u,hu,hr⟩:=(F2.cons q1 (F2.cons q3 q4)).get (hx _ hi);simp_all
   obtain⟨c',r',h'',j,g',H',hn',hrel',hK⟩:=hfin _ _ _ c1 w' _ h3 (by rw [A1.n,hn1]) hrel A1.abs.heap;exact⟨c',r',h'',j,g1.trans g',H',hn',hrel',hK⟩
  cases e with
  | normal=>
   obtain⟨c1,s1,g1,A1,hn1,hr⟩:=he;exact fin c1 s1 g1 A1 hr hn1
  | ret=>
   obtain⟨c1,s1,g1,A1,hn1,hr⟩:=he;exact fin c1 s1 g1 A1 hr hn1
  | exit i=>obtain⟨_,_,_,_,hf⟩:=he;exact hf.elim
  | goto l=>exact he.elim
  | panic ch=>exact he.elim
  | outgrown=>exact he.elim
def zc:Value->Option Cell
 | .int k n=>some (.d true (.int k n))
 | .bool b=>some (.d true (.bool b))
 | .string s=>some (.d true (.str s))
 | .slice none 0 0=>some .nil
 | .pointer none=>some .np
 | _=>none
def afd{c:Ctx}{w:World}{v:Value}{x:Cell}(h:zc v=some x):bB c w v x:=by
 unfold zc at h;split at h<;>first | (cases h;done) | skip
 .cases h;exact .ofInt _ _ _
 .cases h;exact .d true _ _ (.bool _)
 .cases h;exact .d true _ _ (.str _)
 .cases h;exact .nil
 .cases h;exact .np
def zcs:List Value->Option (List Cell)
 | []=>some []
 | v::r=>match zc v,zcs r with | some x,some xs=>some (x::xs) | _,_=>none
def SE{c:Ctx}{w:World}:∀ {vs:List Value} {xs:List Cell},zcs vs=some xs->F2 (bB c w) vs xs
 | [],xs,h=>by simp [zcs]at h;subst h;exact .nil
 | v::r,xs,h=>by
  simp only [zcs]at h;split at h
  .rename_i x ys h1 h2;cases h;exact .cons (afd h1) (SE h2)
  .cases h
def dD{α:Type}(T:(α->Prop)->Prop):Prop:=∀K,T K->∃v,K v/\T (λv'=>v'=v)
def dD.const{α:Type}(v:α):dD (λK=>K v):=λ_ h=>⟨v,h,rfl⟩
def dD.no{α:Type}:dD (λ_:α->Prop=>False):=λ_ h=>h.elim
def dD.and{α:Type}{p:Prop}{T:(α->Prop)->Prop}(h:dD T):dD (λK=>p/\T K):=λK hk=>let⟨v,h1,h2⟩:=h K hk.2;⟨v,h1,hk.1,h2⟩
def dD.aB{α:Type}(o:Option PV){T:PV->(α->Prop)->Prop}(h:∀v,dD (T v)):dD (λK=>aB o λv=>T v K):=by
 cases o with
 | none=>exact .no
 | some v=>exact h v
theorem dD.aD{α:Type}(o:Option TY){T:TY->(α->Prop)->Prop}(h:∀v,dD (T v)):dD (λK=>aD o λv=>T v K):=by
 cases o with
 | none=>exact .no
 | some v=>exact h v
theorem dD.bZ{α:Type}(o:Option dx){T:dx->(α->Prop)->Prop}(h:∀v,dD (T v)):dD (λK=>bZ o λv=>T v K):=by
 cases o with
 | none=>exact .no
 | some v=>exact h v
def dD.nD{α:Type}(o:Option Cell){T:Cell->(α->Prop)->Prop}(h:∀v,dD (T v)):dD (λK=>nD o λv=>T v K):=by
 cases o with
 | none=>exact .no
 | some v=>exact h v
theorem dD.uV{α:Type}(o:Option (List Int)){T:List Int->(α->Prop)->Prop}(h:∀v,dD (T v)):dD (λK=>uV o λv=>T v K):=by
 cases o with
 | none=>exact .no
 | some v=>exact h v
def dD.uU{α:Type}(v:PV){T:Bool->(α->Prop)->Prop}(h:∀v,dD (T v)):dD (λK=>uU v λb=>T b K):=by
 intro K hk;obtain⟨f,b,rfl,hk⟩:=xY hk;exact h b K hk
def dD.jQ{α:Type}(v:PV){T:IntKind->Int->(α->Prop)->Prop}(h:∀k n,dD (T k n)):dD (λK=>jQ v λk n=>T k n K):=by
 intro K hk;unfold AE.jQ at hk;split at hk
 .exact h _ _ K hk
 .exact hk.elim
def dD.xG{α:Type}(b:Bool){T U:(α->Prop)->Prop}(h:dD T)(h':dD U):dD (λK=>xG b (T K) (U K)):=by
 cases b with
 | true=>intro K hk;obtain⟨v,h1,h2⟩:=h K (hk.1 rfl);exact⟨v,h1,⟨λ_=>h2,λe=>absurd e (by simp)⟩⟩
 | false=>intro K hk;obtain⟨v,h1,h2⟩:=h' K (hk.2 rfl);exact⟨v,h1,⟨λe=>absurd e (by simp),λ_=>h2⟩⟩
def dD.all{α β:Type}(o:Option β){p:Prop}{T:β->(α->Prop)->Prop}(hp:p->∃x,o=some x)(h:∀x,dD (T x)):dD (λK=>p/\∀x,o=some x->T x K):=by
 rintro K ⟨hq,hk⟩;obtain⟨x,hx⟩:=hp hq;obtain⟨v,h1,h2⟩:=h x K (hk x hx)
 grind
def dD.ite{α:Type}(p:Prop)[Decidable p]{T U:(α->Prop)->Prop}(h:dD T)(h':dD U):dD (λK=>if p then T K else U K):=by
 by_cases e:p
 all_goals simp_all
def UZ(f:Bool)(y:TY)(row:List D)(j:Nat):dD (nW f y row j):=by
 unfold nW;cases y.desc with
 | struct fs=>exact .and (.const _)
 | int k=>
  intro K hk
  grind
 | scalar=>exact .all _ (λh=>⟨_,List.getElem?_eq_getElem h⟩) (λx=> .const _)
 | str=>exact .all _ (λh=>⟨_,List.getElem?_eq_getElem h⟩) (λx=> .const _)
 | bool=>exact .all _ (λh=>⟨_,List.getElem?_eq_getElem h⟩) (λx=> .const _)
 | slice e=>exact .all _ (λh=>⟨_,List.getElem?_eq_getElem h⟩) (λx=> .const _)
def MN(f:Bool)(es:List (List D))(i j:Nat)(y:TY):dD (D8 f es i j y):=
 .all _ (λh=>⟨_,List.getElem?_eq_getElem h⟩) (λrow=>UZ f y row j)
def MO(cs:List Cell)(j:Nat)(y:TY):dD (mh cs j y):=by
 unfold mh;exact .ite _ (.and (.const _)) (.nD _ λ_=> .const _)
def Wu(o:dx)(sz i j:Nat)(y:TY):dD (qG o sz i j y):=by
 cases o with
 | box cs=>exact .and (MO cs j y)
 | rows f sz' es=>exact .and (MN f es i j y)
 | grid sz' cs=>
  refine .and ?_;cases cs[i]? with
  | none=>exact .no
  | some row=>exact MO row j y
 | gone=>exact .no
def Va(E:Tab)(h:Heap)(ty:TypeId)(p:PV):dD (fF E h ty p):=by
 unfold fF;refine .aD _ λy=> ?_
 split
 .exact .bZ _ λo=>Wu o _ _ _ _
 .exact MN _ _ _ _ _
 .exact .no
def Wv(p:PV):dD (Me p):=by
 intro K hk;unfold Me at hk;split at hk
 .exact⟨_,hk,rfl⟩
 .exact⟨_,hk,rfl⟩
 .exact hk.elim
def O8(op:BinOp)(k:IntKind)(x y:Int):dD (iB op k x y):=by
 cases op<;>first | exact .const _ | exact .and (.const _) | exact .no
def Ww(E:Tab)(op:BinOp)(ty:TypeId)(a b:PV):dD (mq E op ty a b):=by
 unfold mq;split
 .exact .and (O8 _ _ _ _)
 .exact .aD _ λz=> .and (by cases op<;>first | exact .const _ | exact .no)
 .exact .aD _ λz=> .and (by cases op<;>first | exact .const _ | exact .no)
 .exact .uV _ λx=> .uV _ λy=> .and (.and (by cases op<;>first | exact .const _ | exact .no))
 .exact .and (.aD _ λz=> .and (by cases op<;>first | exact .const _ | exact .no))
 .exact .and (.aD _ λz=> .and (by cases op<;>first | exact .const _ | exact .no))
 .exact .no
def ab5(op:UnOp)(a:PV):dD (unA op a):=by
 intro K hk;unfold unA at hk;split at hk
 .exact⟨_,hk,rfl⟩
 .exact⟨_,hk,rfl⟩
 .exact hk.elim
def Vb(E:Tab)(s d:TypeId)(a:PV):dD (Ea E s d a):=by
 unfold Ea;refine .aD _ λy=> ?_
 split
 .exact .aD _ λ_=> .const _
 .refine .aD _ λz=> ?_
  split
  .exact .aD _ λt=> .and (.uV _ λxs=> .const _)
  .exact .no
 .exact .no
def Ep(E:Tab)(s:TypeId)(a:PV)(f:Nat):dD (bF E s a f):=by
 unfold bF;refine .aD _ λy=> ?_
 split
 .split
  .refine .aD _ λz=> .and ?_
   split
   .exact .const _
   .exact .const _
   .exact .no
  .exact .no
 .exact .no
def O9(E:Tab)(s:TypeId)(a:PV)(f:Nat):dD (nJ E s a f):=by
 unfold nJ;refine .aD _ λy=> ?_
 split
 .split
  .refine .aD _ λz=> ?_
   split
   .exact .and (.ite _ (.const _) (.nD _ λ_=> .const _))
   .exact .no
  .exact .no
 .exact .no
def Er(E:Tab)(t:TypeId)(a ix:PV):dD (bV E t a ix):=by
 unfold bV;refine .aD _ λy=> ?_
 split
 .refine .aD _ λz=> .jQ _ λ_ i=> ?_
  split
  .exact .and (.and (.and (.const _)))
  .exact .and (.and (.and (.const _)))
  .exact .and (.and (.and (.const _)))
  .exact .no
 .exact .no
def Wx(a:PV):dD (oW a):=by
 intro K hk;unfold oW at hk;split at hk<;>first | exact⟨_,hk,rfl⟩ | exact hk.elim
def JN(a:PV)(i:Nat):dD (kY a i):=by
 unfold kY;split
 .exact .aB _ λ_=> .const _
 .exact .no
def vG{α:Type}(E:Tab)(t:Slots)(o:Option Operand)(d:Int){T:Int->(α->Prop)->Prop}(h:∀n,dD (T n)):dD (λK=>zu E t o d λn=>T n K):=by
 unfold zu;split
 .exact h _
 .exact .aB _ λ_=> .jQ _ λ_ n=>h n
def Pb(E:Tab)(t:Slots)(ty:TypeId)(a:PV)(lo hi mx:Option Operand):dD (uW E t ty a lo hi mx):=by
 unfold uW;refine .aD _ λy=> ?_
 split
 .refine .aD _ λz=>vG E t lo 0 λl=> ?_
  split
  .refine .and (vG E t hi _ λh=> .and (.and (.and ?_)));split
   .exact .const _
   .exact vG E t _ 0 λm=> .and (.and (.const _))
  .exact .and (.and (vG E t hi _ λh=> .and (.and (.and (.const _)))))
  .exact .and (vG E t hi _ λh=> .and (.and (.const _)))
  .exact .no
 .exact .no
def IK(E:Tab)(t:Slots)(pl:Nat->Option (Nat×Nat)):∀(l:List (Nat×Operand)) (cs:List Cell),dD (jW E t pl l cs)
 | [],cs=> .const _
 | (i,x)::r,cs=>by
  intro K hk;unfold jW at hk;cases hp:pl i with
  | none=>simp_all
  | some p=>
   rw [hp]at hk;obtain⟨v,hv,a1,a2,a3,hk⟩:=lI hk;obtain⟨u,h1,h2⟩:=IK E t pl r _ K hk;refine⟨u,h1,?_⟩;unfold jW;rw [hp,hv];exact⟨a1,a2,a3,h2⟩
def dD.map{α β:Type}{T:(α->Prop)->Prop}(h:dD T)(mono:∀(K K':α->Prop),(∀v,K v->K' v)->T K->T K')(f:α->β):dD (λK=>T λv=>K (f v)):=λK hk=>
 let⟨v,h1,h2⟩:=h _ hk
 ⟨f v,h1,mono _ _ (λv' e=>by rw [e]) h2⟩
def Es(E:Tab)(t:Slots)(pl:Nat->Option (Nat×Nat))(K K':List Cell->Prop)(hK:∀v,K v->K' v):∀(l:List (Nat×Operand)) (cs:List Cell),jW E t pl l cs K->jW E t pl l cs K'
 | [],cs,h=>hK _ h
 | (i,x)::r,cs,h=>by
  unfold jW at h ⊢;cases hp:pl i with
  | none=>simp_all
  | some p=>
   rw [hp]at h;cases hv:ev E t x with
   | none=>rw [hv]at h;exact h.elim
   | some v=>rw [hv]at h;exact⟨h.1,h.2.1,h.2.2.1,Es E t pl K K' hK r _ h.2.2.2⟩
def Pf(E:Tab)(t:Slots)(ty:TypeId)(l:List (Nat×Operand)):dD (jX E t ty l):=by
 unfold jX;refine .aD _ λy=> ?_
 split
 .exact .and (dD.map (IK E t _ l _) (λK K' h=>Es E t _ K K' h l _) PV.agg)
 .exact .no
def yu(E:Tab)(t:Slots):∀(l:List Operand) (K K':List Cell->Prop),(∀v,K v->K' v)->uD E t l K->uD E t l K'
 | [],K,K',h,hk=>h _ hk
 | x::r,K,K',h,hk=>by
  unfold uD at hk ⊢;cases hv:ev E t x with
  | none=>rw [hv]at hk;exact hk.elim
  | some v=>
   rw [hv]at hk;simp only [AE.aB]at hk ⊢;split at hk
   .exact yu E t r _ _ (λl hl=>h _ hl) hk
   .exact hk.elim
def IL(E:Tab)(t:Slots):∀(l:List Operand),dD (uD E t l)
 | []=> .const _
 | x::r=>by
  intro K hk;unfold uD at hk;obtain⟨v,hv,hk⟩:=lI hk;split at hk
  .rename_i y;obtain⟨u,h1,h2⟩:=IL E t r _ hk;refine⟨_,h1,?_⟩;unfold uD;rw [hv];exact yu E t r _ _ (λl hl=>by rw [hl]) h2
  .exact hk.elim
def Wy(a:PV):dD (V6 a):=by
 intro K hk
 grind [V6]
def Vd(E:Tab)(t:Slots)(c:Call):dD (lT E t c):=by
 unfold lT;split
 .split
  .exact .aD _ λy=> .and (.aB _ λv=>Wx v)
  .exact .no
 .split
  .exact .aD _ λy=> .and (.aB _ λv=>Wy v)
  .exact .no
 .split
  .exact .aB _ λa=> .aB _ λb=> .jQ _ λk m=> .jQ _ λ_ n=> .const _
  .exact .no
 .split
  .exact .aB _ λa=> .aB _ λb=> .jQ _ λk m=> .jQ _ λ_ n=> .const _
  .exact .no
 .exact .no
def Ve(E:Tab)(op:Op)(t:Slots)(h:Heap):dD (aH E op t h):=by
 cases op
 case move x=>exact .aB _ λ_=> .const _
 case assign x=>exact .aB _ λ_=> .const _
 case pick c a b=>exact .aB _ λv=> .uU _ λq=> .xG _ (.aB _ λ_=> .const _) (.aB _ λ_=> .const _)
 case load ty p=>exact .aB _ λv=>Va _ _ _ _
 case nilCheck x=>exact .aB _ λv=>Wv _
 case binOp op ty x y z=>exact .aB _ λa=> .aB _ λb=>Ww _ _ _ _ _
 case unOp op ty x=>exact .aB _ λa=>ab5 _ _
 case convert s d x=>exact .aB _ λa=>Vb _ _ _ _
 case fieldAddr s x f=>exact .aB _ λa=>Ep _ _ _ _
 case field s x f=>exact .aB _ λa=>O9 _ _ _ _
 case indexAddr ty x i=>exact .aB _ λa=> .aB _ λb=>Er _ _ _ _
 case slice ty x lo hi mx=>exact .aB _ λa=>Pb _ _ _ _ _ _ _
 case extract x i=>exact .aB _ λa=>JN _ _
 case build ty parts=>exact Pf _ _ _ _
 case call c=>exact Vd _ _ _
 case makeFunc fn first caps=>
  intro K hk;unfold aH at hk ⊢;cases fn with
  | func g=>exact dD.and (dD.map (IL E t _) (λK K' hK=>yu E t _ K K' hK) _) K hk
  | _=>exact hk.elim
 all_goals exact .no
abbrev dK:=Nat×List Nat×List Nat
abbrev Held:=Nat×Oper×Slots×Option PV
def iF:List Held->Nat->Option (Oper×Slots×Option PV)
 | [],_=>none
 | (i,x)::r,j=>if i=j then some x else iF r j
def cut(t:Slots):List Nat->Slots
 | []=> []
 | r::rs=>(r,aA t r)::cut t rs
def MQ{t:Slots}{r:Nat}{v:PV}:∀ {rs:List Nat},aA (cut t rs) r=some v->r∈rs/\aA t r=some v
 | [],h=>by simp [cut,aA]at h
 | x::rs,h=>by
  simp only [cut,aA]at h;split at h
  .simp_all
  .obtain⟨h1,h2⟩:=MQ h;simp_all
def eH(E:Tab)(ops:List Oper)(o:Oper)(t:Slots)(h:Heap)(K:Option PV->Prop):Prop:=
 match o.guard with
 | none=>aH E o.op t h λv=>K (some v)
 | some (j,want)=>vC (gslot ops j) λd=>nL (aA t d) want (aH E o.op t h λv=>K (some v)) (K (some nC))
def Eu(E:Tab)(op:Op)(t:Slots)(h:Heap):dD (λK:Option PV->Prop=>aH E op t h λv=>K (some v)):=λK hk=>
 let⟨v,h1,h2⟩:=Ve E op t h _ hk
 ⟨some v,h1,by simp_all⟩
def Vf(E:Tab)(ops:List Oper)(o:Oper)(t:Slots)(h:Heap):dD (eH E ops o t h):=by
 intro K hk;unfold eH at hk ⊢;cases hg:o.guard with
 | none=>rw [hg]at hk;exact Eu E o.op t h K hk
 | some g=>
  obtain⟨j,want⟩:=g;rw [hg]at hk;simp only at hk ⊢;cases hd:gslot ops j with
  | none=>rw [hd]at hk;exact hk.elim
  | some d=>
   rw [hd]at hk;simp only [vC]at hk ⊢;rcases pW hk with⟨f,b,hv,hT,hF⟩ | ⟨hv,hF⟩
   .rw [hv];by_cases e:b=want
    .obtain⟨v,h1,h2⟩:=Eu E o.op t h K (hT e)
     grind [fG,absurd]
    grind [nC,fG,absurd]
   .rw [hv];exact⟨some nC,hF,rfl⟩
def MR{E:Tab}(hE:aR E){c:Ctx}{w:World}{t:Slots}{h:Heap}{a:Act}(A:pR E c w t h a){ops:Array Oper}{o:Oper}{K:Option PV->Prop}(hk:eH E ops.toList o t h K):
  (Region.wanted o (yielded ops a.tmps)=true/\∃u v,(execOp a.eval o).run E.P w= .ok (.value u) w/\bg c w u v/\K (some v))\/
  (Region.wanted o (yielded ops a.tmps)=false/\K (some nC)):=by
 unfold eH at hk;split at hk
 .grind [uY,Region.wanted]
 .rename_i j want hg;cases hd:gslot ops.toList j with
  | none=>rw [hd]at hk;exact hk.elim
  | some d=>
   rw [hd]at hk;rcases pW hk with⟨f,b,hv,hT,hF⟩ | ⟨hv,hF⟩
   .obtain⟨u,hu,hr⟩:=A.slot d _ hv;have:=jv hr
    grind [Region.wanted,yielded,yj,uY]
   .obtain⟨u,hu,hr⟩:=A.slot d _ hv;refine .inr ⟨?_,hF⟩;have hj:(ops[j]?).bind (·.dst)=some d:=by simpa [gslot]using hd
    have hun:∀b,u≠ .bool b:=by
     intro b e;subst e;cases hr
    grind [Region.wanted,yielded]
def isLoad:Op->Bool | .load .. =>true | _=>false
def yw{E:Tab}{op:Op}(hl:isLoad op=false)(t:Slots)(h h':Heap):aH E op t h=aH E op t h':=by
 cases op<;>first | rfl | (simp [isLoad]at hl)
def Ph{E:Tab}{ops:List Oper}{o:Oper}(hl:isLoad o.op=false)(t:Slots)(h h':Heap):eH E ops o t h=eH E ops o t h':=by
 unfold eH;rw [yw hl t h h']
inductive ZC:Cell->Bool->D->Prop
 | d (f:Bool) (x:D):ZC (.d f x) (f || x.bY) x
 | nil (sz:Nat):ZC .nil true (.rows sz [])
 | clip (f:Bool) (sz:Nat) (es:List (List D)):ZC (.clip f sz es) f (.rows sz es)
inductive ZCs:List Cell->Bool->List D->Prop
 | nil:ZCs [] true []
 | cons {x:Cell} {r:List Cell} {f g:Bool} {d:D} {ds:List D}:ZC x f d->ZCs r g ds->ZCs (x::r) (f&&g) (d::ds)
inductive ZPs (E:Tab) (t:Slots) (sz:Nat):List (Nat×Operand)->Bool->List (List D)->Prop
 | nil:ZPs E t sz [] true []
 | cons {i:Nat} {x:Operand} {r:List (Nat×Operand)} {v:PV} {f g:Bool} {ds:List D} {es:List (List D)}:ev E t x=some v->(aI v).length=sz->ZCs (aI v) f ds->ZPs E t sz r g es->
  ZPs E t sz ((i,x)::r) (f&&g) (ds::es)
def zA(E:Tab)(op:Op)(t:Slots)(K:PV->Prop):Prop:=
 match op with
 | .buildSlice ty len parts=>aD (E.ty ty) λy=>match y.desc with
  | .slice e=>aD (E.ty e) λz=>z.size≠0/\parts.toList.map (·.1)=List.range len/\len*z.size<=16777216/\
   ∃f es,ZPs E t z.size parts.toList f es/\es.length=len/\K (.c (.clip f z.size es))
  | _=>False
 | _=>False
def afe(E:Tab)(op:Op)(t:Slots):dD (zA E op t):=by
 intro K hk;unfold zA at hk ⊢;split at hk
 .rename_i ty len parts;cases hy:E.ty ty with
  | none=>rw [hy]at hk;exact hk.elim
  | some y=>
   rw [hy]at hk;simp only [aD]at hk ⊢
   grind
 .exact hk.elim
def JO{h:Heap}{x:Cell}{f:Bool}{d:D}{K:Bool->D->Heap->Prop}(hz:ZC x f d)(hk:K f d h):zw h x K:=by
 cases hz with
 | d=>exact hk
 | nil sz=>exact⟨sz,hk⟩
 | clip=>exact hk
def Bo{h:Heap}{cs:List Cell}{f:Bool}{ds:List D}(hz:ZCs cs f ds){K:Bool->List D->Heap->Prop}(hk:K f ds h):lJ h cs K:=by
 induction hz generalizing K with
 | nil=>exact hk
 | cons h1 _ ih=>exact JO h1 (ih hk)
def Bp{E:Tab}{t:Slots}{sz:Nat}{h:Heap}{l:List (Nat×Operand)}{f:Bool}{es:List (List D)}(hz:ZPs E t sz l f es){K:Bool->List (List D)->Heap->Prop}(hk:K f es h):uZ E t sz h l K:=by
 induction hz generalizing K with
 | nil=>exact hk
 | cons h1 h2 h3 _ ih=>
  unfold uZ;rw [h1];exact⟨h2,Bo h3 (ih hk)⟩
def Ctx.wide(c:Ctx)(K:Bool->Nat->Prop):Ctx:={c with K:=K}
def bC.lt{c:Ctx}{w:World}{h:Heap}(H:bC c w h){b:Nat}(ho:fU c h b):b<w.heap.size:=by
 obtain⟨l,o,h1,h2,h3⟩:=ho;exact((H.obj l o h1).2).lt h2 h3
def side{c:Ctx}{w w':World}{h:Heap}(H:bC c w h){K:Bool->Nat->Prop}(hsz:w.heap.size<=w'.heap.size)(hk:∀b,b<w.heap.size->w'.heap[b]? =w.heap[b]?)
  (hs:World.jV w w') (h1:∀f b,c.K f b->K f b) (h2:∀f b,K f b->c.K f b\/w.heap.size<=b) (h3:∀f b,K f b->b<w'.heap.size) (h4:∀b,K true b->K false b)
  (ho:w'.os=w.os) (ht:w'.tape=w.tape) (hout:w'.output=w.output):bC (c.wide K) w' h/\Grow c w h (c.wide K) w' h:=by
 have hle:CLe c (c.wide K):=⟨h1,Nat.le_refl _,λ_ _=>rfl⟩
 refine⟨⟨λl o hl=> ?_,λl o l' o' b a1 a2 a3 a4 a5 a6=>H.inj l o l' o' b a1 a2 a3 a4 a5 a6,λf b hb hK=> ?_,h3,h4⟩,
  ⟨hle,hsz,hs,λb hb _=>hk b hb,λf b hb=>(h2 f b hb).imp id .inl,λb hb=> .inl hb,ho,ht,hout⟩⟩
 .obtain⟨a1,a2⟩:=H.obj l o hl;exact⟨a1,a2.mono hle (λf b hb=>hk b (H.low f b hb)) hs a1 (λb hlv hm=>hk b (a2.lt hlv hm))⟩
 .rcases h2 f b hK with a | a
  .exact H.own f b hb a
  .exact absurd (H.lt (c:=c) hb) ah
def bC.nil{c:Ctx}{w:World}{h:Heap}(H:bC c w h):bC c w []:=
 ⟨λl o hl=>by simp [look]at hl,λl o l' o' b hl=>by simp [look]at hl,λf b ⟨l,o,hl,_⟩=>by simp [look]at hl,H.low,H.sub⟩
theorem xJ{c:Ctx}{b:Nat}:¬fU c [] b:=λ⟨l,o,hl,_⟩=>by simp [look]at hl
theorem andThen_ok{α β:Type}{r:Result α}{f:α->World->Result β}{v:β}{w:World}(h:r.andThen f= .ok v w):∃a w1,r= .ok a w1/\f a w1= .ok v w:=by
 cases r with
 | ok a w1=>exact⟨a,w1,rfl,h⟩
 | halt h1 w1=>simp_all
def run_bind_ok{P:Program}{α β:Type}{s:Sem α}{f:α->Sem β}{w w':World}{v:β}(h:(s>>=f).run P w= .ok v w'):∃a w1,s.run P w= .ok a w1/\(f a).run P w1= .ok v w':=by
 rw [Sem.run_bind]at h;exact andThen_ok h
theorem Ew{P:Program}{ty:TypeId}{len:Nat}{parts:Array (Nat×Value)}{w w':World}{u:Value}(h:(Instr.buildSlice ty len parts).run P w= .ok u w'):∃ad,u= .slice ad len len:=by
 unfold Instr.buildSlice at h;obtain⟨d,w1,h1,h⟩:=run_bind_ok h;split at h
 .rename_i el0;obtain⟨sz,w2,h2,h⟩:=run_bind_ok h;have fin:∀(msg:String) (z:Array Value) (el:TypeId) (w3:World),(match Instr.fill (λi=>some (i*sz,sz)) ((Array.range (len*sz)).map (z[· %z.size]!)) parts.toList with | some cells=>(do pure (.slice (some (<-newRow el cells)) len len):Sem Value) | _=>stuck msg).run P w3= .ok u w'->∃ad,u= .slice ad len len:=by
   intro msg z el w3 h;split at h
   .obtain⟨ad,w4,_,h⟩:=run_bind_ok h;simp at h;grind
   simp_all
  have ala:∀(msg:String) (w3:World),(if len*sz=0 then(do let zero<-pure #[];(match Instr.fill (λi=>some (i*sz,sz)) ((Array.range (len*sz)).map (λx=>zero[x%zero.size]!)) parts.toList with | some cells=>(do pure (.slice (some (<-newRow el0 cells)) len len):Sem Value) | _=>stuck msg))else
    (do let zero<-pure (<-zeroValue el0).cells;(match Instr.fill (λi=>some (i*sz,sz)) ((Array.range (len*sz)).map (λx=>zero[x%zero.size]!)) parts.toList with | some cells=>(do pure (.slice (some (<-newRow el0 cells)) len len):Sem Value) | _=>stuck msg))).run P w3= .ok u w'->∃ad,u= .slice ad len len:=by
   intro msg w3 h;split at h
   .obtain⟨z,w4,_,h⟩:=run_bind_ok h;exact fin _ _ _ _ h
   .obtain⟨z,w4,_,h⟩:=run_bind_ok h;obtain⟨z,w5,_,h⟩:=run_bind_ok h;exact fin _ _ _ _ h
  simp only []at h;split at h
  .simp_all
  .exact ala _ _ h
 simp_all
def Vg{E:Tab}(hE:aR E){c:Ctx}{w:World}{t:Slots}{h:Heap}{a:Act}(A:pR E c w t h a)(o:Oper){K:PV->Prop}(hk:zA E o.op t K):
  ∃u c' w' v,(execOp a.eval o).run E.P w= .ok (.value u) w'/\Grow c w h c' w' h/\bC c' w' h/\c'.n=c.n/\bg c' w' u v/\K v:=by
 unfold zA at hk;split at hk
 .rename_i ty len parts ho
  replace hk:=aO hk;obtain⟨y,hy,hk⟩:=hk
  split at hk
  .rename_i e he
   replace hk:=aO hk;obtain⟨z,hz,hsz,hidx,hbig,f,es,hp,hlen,hk⟩:=hk
   .have A0:pR E c w t [] a:=⟨A.slot,A.heap.nil,A.glob⟩;have hh:aX E o.op t [] c.n 0 (λv h' k'=>v= .c (.os (nm c.n 0) z.size 0 len)/\h'=[(nm c.n 0,.rows f z.size (ir z.desc es))]):=by
     rw [ho];simp only [aX];rw [hy];show(match y.desc with | .slice e=>_ | _=>False);rw [he];simp only;rw [hz];exact⟨hsz,hidx,hbig,Bp hp ⟨rfl,rfl⟩⟩
    obtain⟨nx,u,c1,w1,h1,k1,pv,hrun,hnx,g1,H1,n1,hrel,rfl,rfl⟩:=CG hE A0 (by simp [nm]) o hh;cases hrel with | c _ _ hrel=>
    have hgv:zw [(nm c.n 0,dx.rows f z.size (ir z.desc es))] (.os (nm c.n 0) z.size 0 len) (λg d _=>g=f/\d= .rows z.size (ir z.desc es)):=by grind [ir,MG,List.take_of_length_le,zw,look,bZ]
    obtain⟨c2,h2,g,d,g2,H2,n2,hd,rfl,rfl⟩:=vo H1 hrel hgv;have g12:=g1.trans g2
    obtain⟨R,G⟩:=side (c:=c) (w:=w) (w':=w1) (h:=h) A.heap (K:=c2.K) g12.size (λb hb=>g12.kept b hb xJ) g12.stays g12.le.K
     (λf b hb=>by rcases g12.uT f b hb with a | a | a;all_goals grind [absurd,xJ]) H2.low H2.sub g12.os g12.tape g12.output
    have alb:nx= .value u:=by
     rcases hnx with h | ⟨_,h⟩
     .exact h
     .subst h;cases hrel
    subst alb;have hcap:∃ad,u= .slice ad len len:=by
     have he:execOp a.eval o=(do pure (Next.value (<-Instr.buildSlice ty len (parts.map λ(i,x)=>(i,a.eval x))))):=by simp [execOp,ho]
     rw [he]at hrun;obtain⟨u',w2,h1,h2⟩:=run_bind_ok hrun;simp at h2
     grind [Ew]
    obtain⟨ad,rfl⟩:=hcap;exact⟨_,_,w1,_,hrun,G,R,rfl,.c _ _ (.clip _ _ _ _ _ (by rw [MG]at hd;exact hd)),hk⟩
  .exact hk.elim
 .exact hk.elim
def G8{E:Tab}(hE:aR E){c:Ctx}{w:World}{h:Heap}(H:bC c w h)(o:Oper){ty:TypeId}(ho:o.op= .alloc ty){y:TY}(hy:E.ty ty=some y)(ev:Operand->Value):
  ∃w' vs Et,(execOp ev o).run E.P w= .ok (.value (.pointer (some ⟨w.heap.size,0,none⟩))) w'/\Grow c w h c w' h/\bC c w' h/\
   w'.heap[w.heap.size]? =some (.cells vs Et (0,0))/\∀c w,F2 (bB c w) vs.toList y.zero:=by
 obtain⟨inf,qH,hs,_,z,hzz,hzr⟩:=(hE.ty ty y hy).info;refine⟨w.alloc (.cells z.cells ty),z.cells,ty,?_,?_,?_,kE _ _,hzr⟩
 .simp_all [execOp,Instr.alloc,zeroValue,typeInfo,newVar,newRow]
 .have:=(side (w':=w.alloc (.cells z.cells ty)) H (K:=c.K) (Nat.le_of_lt (lt_of_some (kE _ _))) (λb hb=>alloc_old hb) (qM _ _) (λ_ _ h=>h) (λ_ _ h=> .inl h)
   (λf b hb=>Nat.lt_of_lt_of_le (H.low f b hb) (Nat.le_of_lt (lt_of_some (kE _ _)))) H.sub rfl rfl rfl).2
  exact this
 .have:=(side (w':=w.alloc (.cells z.cells ty)) H (K:=c.K) (Nat.le_of_lt (lt_of_some (kE _ _))) (λb hb=>alloc_old hb) (qM _ _) (λ_ _ h=>h) (λ_ _ h=> .inl h)
   (λf b hb=>Nat.lt_of_lt_of_le (H.low f b hb) (Nat.le_of_lt (lt_of_some (kE _ _)))) H.sub rfl rfl rfl).1
  exact this
def bC.reg{c:Ctx}{w:World}{h:Heap}(H:bC c w h){b:Nat}{o:dx}(hO:gq (c.name (some b)) w c.n o)(hno:¬fU c h b)(hk:∀f,¬c.K f b):
  bC (c.name (some b)) w ((c.n,o)::h):=by
 have hμ:(c.name (some b)).μ c.n=some b:=by simp [ji,upd]
 have hne:∀l o,look h l=some o->c.n≠l:=λl o hl e=>by have:=(H.obj l o hl).1;omega
 have am6:∀l o,look h l=some o->(c.name (some b)).μ l=c.μ l:=λl o hl=>(c.oZ (some b)).μ l (H.obj l o hl).1
 refine⟨λl o' hl=> ?_,λl o1 l' o2 x a1 a2 a3 a4 a5 a6=> ?_,λf x ⟨l,o',a1,a2,a3⟩ hK=> ?_,H.low,H.sub⟩
 .by_cases e:c.n=l
  .subst e;rw [ay]at hl;cases hl;exact⟨Nat.lt_succ_self _,hO⟩
  .rw [aj o h e]at hl;obtain⟨p,q⟩:=H.obj l o' hl;exact⟨Nat.lt_succ_of_lt p,q.mono (c.oZ _) (λ_ _ _=>rfl) (.refl _) p (λ_ _ _=>rfl)⟩
 .by_cases e:c.n=l
  .by_cases e':c.n=l'
   .omega
   .exfalso;subst e;rw [hμ]at a5;cases a5;rw [aj o h e']at a3;exact hno ⟨l',o2,a3,a4,by simp_all⟩
  .rw [aj o h e]at a1;by_cases e':c.n=l'
   .exfalso;subst e';rw [hμ]at a6;cases a6;exact hno ⟨l,o1,a1,a2,by simp_all⟩
   .rw [aj o h e']at a3;exact H.inj l o1 l' o2 x a1 a2 a3 a4 (by simp_all) (by simp_all)
 .by_cases e:c.n=l
  .subst e;rw [hμ]at a3;cases a3;exact hk f hK
  .rw [aj o h e]at a1;exact H.own f x ⟨l,o',a1,a2,by simp_all⟩ hK
def Grow.reg{c0 c:Ctx}{w0 w:World}{h0 h:Heap}(g:Grow c0 w0 h0 c w h)(H:bC c w h){b:Nat}{o:dx}(hb:w0.heap.size<=b):Grow c0 w0 h0 (c.name (some b)) w ((c.n,o)::h) where
 le:=g.le.trans (c.oZ _)
 size:=g.size
 stays:=g.stays
 kept:=g.kept
 uT:=g.uT
 oV:=λx ⟨l,o',a1,a2,a3⟩=>by
  by_cases e:c.n=l
  .simp_all [ji,upd]
  .rw [aj o h e]at a1;exact g.oV x ⟨l,o',a1,a2,by rw [<-(c.oZ (some b)).μ l (H.obj l o' a1).1];exact a3⟩
 os:=g.os
 tape:=g.tape
 output:=g.output
def Grow.drawn(c:Ctx)(w:World)(h:Heap)(d:Nat):Grow c w h c {w with drawn:=d} h:=
 ⟨.refl c,Nat.le_refl _,λ_ _ hx=>hx,λ_ _ _=>rfl,λ_ _ h=> .inl h,λ_ h=> .inl h,rfl,rfl,rfl⟩
def bC.drawn{c:Ctx}{w:World}{h:Heap}(H:bC c w h)(d:Nat):bC c {w with drawn:=d} h:=
 ⟨λl o hl=>let⟨p,q⟩:=H.obj l o hl;⟨p,q.mono (w:=w) (w':={w with drawn:=d}) (.refl c) (λ_ _ _=>rfl) (λ_ _ hx=>hx) p (λ_ _ _=>rfl)⟩,H.inj,H.own,H.low,H.sub⟩
def xu(E:Tab)(G:fO)(o:Oper)(t:Slots)(s:St)(K:PV->Heap->Nat->Prop):Prop:=
 match bQ o.op with
 | 1=>Ws E o.op t s.h s.n s.k K
 | _=>dw E G o.op {s with t:=t} K
theorem Pj{E:Tab}(hE:aR E){G:fO}(hG:jZ E G){Q:Exit->Act->World->Prop}{s:St}{t:Slots}{c:Ctx}{w:World}{a:Act}(A:pR E c w t s.h a)(hn:c.n=nm s.n s.k)(o:Oper)
  {K:PV->Heap->Nat->Prop} {next:Act->World->Prop} (hnext:∀u v c' w' h' k',Grow c w s.h c' w' h'->bC c' w' h'->c'.n=nm s.n k'->bg c' w' u v->K v h' k'->next (a.put o.dst u) w')
  (hk:xu E G o t s K):o.wp E.P a w next Q:=by
 unfold xu at hk;split at hk
 .obtain⟨nx,u,c',w',h',k',pv,hrun,hnx,hg,H',hn',hrel,hk⟩:=CS hE A hn o hk
  grind [Oper.wp,Oper.upon_value,Oper.upon_skip]
 .unfold dw at hk;split at hk
  .rename_i cl ho;split at hk
   .rename_i f hf;obtain⟨callee,⟨args⟩,argTypes⟩:=cl;simp only at hf;subst hf;obtain⟨fv,hfv,hk⟩:=dQ A hk;unfold fnA at hk;generalize hfe:a.eval f=fu at hfv;split at hk
    .rename_i gid cs;obtain⟨ps,hps,hk⟩:=vE A _ _ hk;cases hR:G gid with
     | none=>rw [hR]at hk;exact hk.elim
     | some R=>
     rw [hR]at hk;simp only [jf]at hk;cases hfv with | c _ _ hfv=>cases hfv with | fn _ JM _ hl hc=>
     have hcap:F2 (bg c w) JM (cs.map .c):=F2.sZ (by simp [hl]) (λi x y hx hy=>by
      simp only [List.getElem?_map,Option.map_eq_some_iff]at hy;obtain⟨y',hy',rfl⟩:=hy;have hi:i<cs.length:=(List.getElem?_eq_some_iff.1 hy').1;have:=hc i hi;rw [mH hx,mH hy']at this;exact .c _ _ this)
     have hok:=hG gid R hR;have O6:=hok.calls _ _ _ _ hk c w (args.map a.eval++JM) hn (hps.append hcap) A.heap A.glob;have hrun:(execOp a.eval o).run E.P w= .ok (.enter gid (args.map a.eval++JM).toArray) w:=by
      have h1:=hok.enters (args.map a.eval++JM).toArray w
      grind [execOp,resolve,Deferred.ofValue,invoke]
     unfold Oper.wp;rw [hrun,Oper.upon_enter];refine O6.mono ?_;intro e w' he;cases e with
     | returned v=>
      obtain⟨c',r,h',j,hg,H',hn',hrel,hk⟩:=he
      grind [Wi]
     | panicked ch=>exact he.elim
     | outgrown=>exact he.elim
    .exact hk.elim
   .exact hk.elim
  .exact hk.elim
def MU(P:Program)(ty:TypeId):Prop:=∃k e,P.underlying ty=some (.map k e)/\P.underlying k=some (.int .i64)/\∃inf:TypeInfo,P.info? e=some inf/\inf.zero=some (.bool false)
theorem run_makeMap{P:Program}{w:World}{ty:TypeId}:(Instr.makeMap ty none).run P w= .ok (.map (some w.heap.size)) (w.alloc (.map #[] 0)):=by
 simp [Instr.makeMap,Result.andThen]
theorem vH{k:Int}:∀(es:List MapEntry) (i:Nat),(∀e∈es,∃n,e.key= .int .i64 n)->
  ∃r,Instr.findNow (.int .i64) (.int .i64 k) es i=some r/\((r=none/\∀e∈es,e.key≠ .int .i64 k)\/∃j v e,r=some (j,v)/\e∈es/\e.key= .int .i64 k/\e.val=v)
 | [],i,_=>⟨none,rfl,.inl ⟨rfl,λe h=>by cases h⟩⟩
 | x::es,i,h=>by
  obtain⟨n,hn⟩:=h x (by simp);obtain⟨r,h1,h2⟩:=vH (k:=k) es (i+1) (λe he=>h e (by simp [he]))
  grind [Instr.findNow,Instr.sameNow]
theorem isKey(k:Int):MapKept.IsKey (.int .i64) (.int .i64 k):=by simp [MapKept.IsKey]
theorem JQ{P:Program}{w:World}{t:TypeId}{inf:TypeInfo}(h:P.info? t=some inf)(hz:inf.zero=some (.bool false)):(zeroValue t).run P w= .ok (.bool false) w:=by
 simp [zeroValue,typeInfo,h,hz,Result.andThen]
theorem Pk{P:Program}{w:World}{ty:TypeId}(ht:MU P ty){b:Nat}{es:Array MapEntry}{clk:Nat}(hb:w.heap[b]? =some (.map es clk)){k:Int}{v:Value}(hk:∀e∈es.toList,∃n,e.key= .int .i64 n)(hn:∀e∈es.toList,e.key≠ .int .i64 k):
  (Instr.mapUpdate ty (.map (some b)) (.int .i64 k) v).run P w= .ok () {w with heap:=w.heap.setIfInBounds b (.map (es.push {key:= .int .i64 k,val:=v,born:=clk}) (clk+1))}:=by
 obtain⟨kt,et,h1,h2,inf,h3,h4⟩:=ht;obtain⟨r,g1,g2⟩:=vH (k:=k) es.toList 0 hk;have hr:r=none:=by grind
 subst hr;simp [Instr.mapUpdate,run_underlying h1,MapKept.run_getObj_map hb,MapKept.run_checkKey h2 (isKey k),MapKept.run_findKey h2 g1,MapKept.run_setObj_map _ hb,Result.andThen]
theorem Pm{P:Program}{w:World}{ty:TypeId}(ht:MU P ty){b:Nat}{es:Array MapEntry}{clk:Nat}(hb:w.heap[b]? =some (.map es clk)){k:Int}(hk:∀e∈es.toList,∃n,e.key= .int .i64 n):
  ∃u,(Instr.lookup ty (.map (some b)) (.int .i64 k) false).run P w= .ok u w/\((u= .bool false/\∀e∈es.toList,e.key≠ .int .i64 k)\/∃e∈es.toList,e.key= .int .i64 k/\e.val=u):=by
 obtain⟨kt,et,h1,h2,inf,h3,h4⟩:=ht;obtain⟨r,g1,g2⟩:=vH (k:=k) es.toList 0 hk;rcases g2 with⟨rfl,g⟩ | ⟨j,v,e,rfl,a2,a3,a4⟩
 .refine⟨.bool false,?_,.inl ⟨rfl,g⟩⟩;simp [Instr.lookup,run_underlying h1,MapKept.run_getObj_map hb,MapKept.run_checkKey h2 (isKey k),MapKept.run_findKey h2 g1,Result.andThen,JQ h3 h4]
 .refine⟨v,?_,.inr ⟨e,a2,a3,a4⟩⟩;simp [Instr.lookup,run_underlying h1,MapKept.run_getObj_map hb,MapKept.run_checkKey h2 (isKey k),MapKept.run_findKey h2 g1,Result.andThen]
class aQ where
 l:List Nat
 m:List Nat
variable [aQ]
def alc(parts:Array (Nat×Operand)):Bool:=match parts.toList with | [(_,.tmp t)]=>aQ.l.contains t | _=>false
def nS:Operand->Bool | .tmp t=>aQ.m.contains t | _=>false
def mapD:Nat:=aQ.m.getD 0 0
def Vh:Nat:=aQ.m.getD 1 0
def kindOf(op:Op):Nat:=match op with | .alloc _=>2 | .buildSlice _ _ parts=>if alc parts then 3 else 1 | .makeMap .. =>1 | .insert .. =>1 | .lookup .. =>1 | .move x=>if nS x then 1 else 0 | op=>if bQ op=0 then 0 else 3
def CU(o:Oper):Option (Int×Nat):=match o.op with | .insert _ _ (.const (.int .i64 k)) (.tmp r)=>some (k,r) | _=>none
def nN(ops:List Oper):List (Int×Nat):=ops.filterMap CU
def Ey(t:Slots)(k:Int):List (Int×Nat)->(Bool->Prop)->Prop
 | [],K=>K false
 | (k',r)::rest,K=>∃f b,aA t r=some (.c (.d f (.bool b)))/\if k=k' then K b else Ey t k rest K
def zM(E:Tab)(ops:List Oper)(op:Op)(t:Slots)(K:Option PV->Prop):Prop:=match op with
 | .makeMap .. =>K none
 | .insert _ _ _ v=>(match v with | .tmp r=>∃p,aA t r=some p | _=>False)/\K none
 | .move x=>nS x=true/\K none
 | .lookup _ _ (.tmp q) _=>∃f n,aA t q=some (.c (.d f (.int .i64 n)))/\Ey t n (nN ops) λb=>K (some (.c (.d true (.bool b))))
 | op=>zA E op t λv=>K (some v)
theorem Ez(t:Slots)(k:Int):∀(l:List (Int×Nat)),dD (Ey t k l)
 | [],_,h=>⟨false,h,rfl⟩
 | (k',r)::rest,K,h=>by
  obtain⟨f,b,h1,h2⟩:=h;by_cases e:k=k'
  .rw [if_pos e]at h2;exact⟨b,h2,f,b,h1,by rw [if_pos e]⟩
  .rw [if_neg e]at h2;obtain⟨v,h3,h4⟩:=Ez t k rest K h2;exact⟨v,h3,f,b,h1,by simp_all⟩
def EA:Op->Bool
 | .makeMap .. =>false | .insert .. =>false | .move _=>false
 | .lookup _ _ q _=>match q with | .tmp _=>false | _=>true
 | _=>true
theorem zH{E:Tab}{ops:List Oper}{op:Op}(h:EA op=true){t:Slots}{K:Option PV->Prop}:zM E ops op t K=zA E op t λv=>K (some v):=by
 cases op
 case makeMap=>cases h
 case insert=>cases h
 case move=>cases h
 case lookup a b q d=>cases q<;>first | rfl | cases h
 all_goals rfl
theorem aff(E:Tab)(ops:List Oper)(op:Op)(t:Slots):dD (zM E ops op t):=by
 intro K hk;by_cases hp:EA op=true
 .rw [zH hp]at hk;obtain⟨v,h1,h2⟩:=afe _ _ _ _ hk
  grind [zH]
 .cases op
  case makeMap=>exact⟨none,hk,rfl⟩
  case insert=>exact⟨none,hk.2,hk.1,rfl⟩
  case move x=>exact⟨none,hk.2,hk.1,rfl⟩
  case lookup a b q d=>
   cases q with
   | tmp q=>
    obtain⟨f,n,h1,h2⟩:=hk;obtain⟨b,h3,h4⟩:=Ez t n _ _ h2;exact⟨_,h3,f,n,h1,by simp_all⟩
   | _=>exact absurd rfl hp
  all_goals exact absurd rfl hp
def bK(ops:List Oper)(i:Nat):Nat:=match ops[i]? with | some o=>kindOf o.op | none=>4
def MV(o:Option Oper)(K:Oper->Prop):Prop:=match o with | some v=>K v | none=>False
def jS(E:Tab)(ops:List Oper)(h:Heap)(hs:List Held):List Nat->Prop
 | []=>True
 | j::r=>(match iF hs j with | some (o,t,v)=>eH E ops o t h (λv'=>v'=v) | none=>False)/\jS E ops h hs r
def aZ(E:Tab)(G:fO)(ops:List Oper):List dK->List Held->(St->Prop)->St->Prop
 | [],_,K,s=>K s
 | (i,rs,cs)::r,hs,K,s=>MV ops[i]? λo=>dOK s.m o.dst/\match kindOf o.op with
  | 0=>eH E ops o (cut s.t rs) s.h λv=>aZ E G ops r ((i,o,cut s.t rs,v)::hs) K (s.put o.dst v)
  | 1=>zM E ops o.op (cut s.t rs) λv=>aZ E G ops r hs K (s.put o.dst v)
  | 2=>aX E o.op [] s.h s.n s.k λv h k=>aZ E G ops r hs K (St.put {s with h:=h,k:=k} o.dst (some v))
  | _=>match o.guard with
   | none=>xu E G o (cut s.t rs) s λv h k=>jS E ops h hs cs/\aZ E G ops r hs K (St.put {s with h:=h,k:=k} o.dst (some v))
   | some (j,want)=>vC (gslot ops j) λd=>nL (aA (cut s.t rs) d) want
    (xu E G o (cut s.t rs) s λv h k=>jS E ops h hs cs/\aZ E G ops r hs K (St.put {s with h:=h,k:=k} o.dst (some v)))
    (aZ E G ops r hs K (s.put o.dst (some nC)))
def zI(ops:List Oper)(i:Nat):Bool:=match ops[i]? with | some o=>o.guard.isSome | none=>true
def loadAt(ops:List Oper)(i:Nat):Bool:=match ops[i]? with | some o=>isLoad o.op | none=>true
def ab6(ops:List Oper)(anc:Nat->Nat->Bool)(pre:List Nat)(i:Nat)(rs:List Nat):Bool:=
 (List.range ops.length).all λj=>match gslot ops j with
  | none=>true
  | some d=> !rs.contains d || j==i || (if pre.contains j then anc i j else anc j i)
def CV(ops:List Oper)(anc:Nat->Nat->Bool)(i:Nat):List dK->Bool
 | []=>true
 | (q,_,_)::r=>if bK ops q=2 then CV ops anc i r else bK ops q==3&&anc q i
def uE(ops:List Oper)(anc:Nat->Nat->Bool):List Nat->Option Nat->List dK->Bool
  | _,_,[]=>true
  | pre,lm,(i,rs,cs)::r=>
    decide (i<ops.length)&& !pre.contains i&&ab6 ops anc pre i rs&&
    (bK ops i==2 || (match lm with | none=>true | some q=>anc i q))&&
    (match bK ops i with
     | 0=>true
     | 1=>true
     | 2=>CV ops anc i r&& (gslot ops i).isSome
     | 3=>pre.all λj=> !loadAt ops j || anc i j || cs.contains j
     | _=>false)&&
    (bK ops i==0 || bK ops i==3 || !zI ops i)&&
    uE ops anc (i::pre) (if bK ops i==3 then some i else lm) r
def Wz(acc:List Nat)(es:List Edge):Nat:=es.foldl (λs e=>if Region.binds .any e then s ||| 2^e.on ||| acc.getD e.on 0 else s) 0
def JR:List Oper->List Nat->List Nat
 | [],acc=>acc
 | o::r,acc=>JR r (acc++ [Wz acc o.after.toList])
def masks(ops:List Oper):List Nat:=JR ops []
def mD(m:List Nat)(i j:Nat):Bool:=(m.getD i 0).testBit j
def ab7(ops:List Oper):Bool:=(List.range ops.length).all λi=>match ops[i]? with
 | some o=>o.after.toList.all λe=> !Region.binds .any e || decide (e.on<i)
 | none=>true
def dG(ops:List Oper):Bool:=(List.range ops.length).all λi=>(List.range ops.length).all λj=>
 i==j || (match gslot ops i,gslot ops j with | some d,some e=>d !=e | _,_=>true)
def JU(ops:List Oper)(ord:List dK):Bool:=
 ab7 ops&&dG ops&& ((List.range ops.length).all λi=>(ord.map (·.1)).contains i)&&uE ops (mD (masks ops)) [] none ord
inductive Reach (ops:List Oper):Nat->Nat->Prop
 | one {i j:Nat} {o:Oper} {e:Edge}:ops[i]? =some o->e∈o.after.toList->Region.binds .any e=true->e.on=j->Reach ops i j
 | step {i j:Nat} {o:Oper} {e:Edge}:ops[i]? =some o->e∈o.after.toList->Region.binds .any e=true->Reach ops e.on j->Reach ops i j
theorem EB{acc:List Nat}{j:Nat}:∀(es:List Edge) (s:Nat),(es.foldl (λs e=>if Region.binds .any e then s ||| 2^e.on ||| acc.getD e.on 0 else s) s).testBit j=true->
  s.testBit j=true\/∃e∈es,Region.binds .any e=true/\(e.on=j\/(acc.getD e.on 0).testBit j=true)
 | [],s,h=> .inl h
 | e::es,s,h=>by
  simp only [List.foldl_cons]at h;rcases EB es _ h with h1 | ⟨e',h1,h2,h3⟩
  all_goals grind
theorem xK(ops:List Oper):∀(r:List Oper) (acc:List Nat) (pre:List Oper),pre++r=ops->pre.length=acc.length->
  (∀i j,(acc.getD i 0).testBit j=true->Reach ops i j)->∀i j,((JR r acc).getD i 0).testBit j=true->Reach ops i j
 | [],acc,pre,h1,h2,h3=>h3
 | o::r,acc,pre,h1,h2,h3=>by
  refine xK ops r _ (pre++ [o]) (by simp [h1]) (by simp [h2]) ?_;intro i j hb;rw [List.getD_eq_getElem?_getD]at hb;by_cases hi:i<acc.length
  .grind
  .rw [List.getElem?_append_right ah]at hb;by_cases hi':i=acc.length
   .subst hi';simp only [Nat.sub_self,List.getElem?_cons_zero,Option.getD_some]at hb;have ho:ops[acc.length]? =some o:=by grind
    rcases EB _ _ hb with h0 | ⟨e,he,hbd,h0⟩
    .simp at h0
    .rcases h0 with h0 | h0
     .exact .one ho he hbd h0
     .exact .step ho he hbd (h3 _ _ h0)
   grind
theorem lY{ops:List Oper}{i j:Nat}(h:mD (masks ops) i j=true):Reach ops i j:=
 xK ops ops [] [] rfl rfl (λi j h=>by simp at h) i j h
def Lst(l:Array Bool)(i:Nat):Prop:=l.getD i false=true
def Closed(ops:List Oper)(l:Array Bool):Prop:=∀i o,Lst l i->ops[i]? =some o->∀e∈o.after.toList,Region.binds .any e=true->Lst l e.on
theorem om{ops:List Oper}{l:Array Bool}(hc:Closed ops l){i j:Nat}(h:Reach ops i j)(hd:∀o,ops[i]? =some o->∀e∈o.after.toList,Region.binds .any e=true->Lst l e.on):Lst l j:=by
 induction h with
 | one h1 h2 h3 h4=>grind
 | step h1 h2 h3 _ ih=>exact ih (λo ho=>hc _ o (hd _ h1 _ h2 h3) ho)
theorem rZ{ops:List Oper}{l:Array Bool}(hc:Closed ops l){i j:Nat}(h:Reach ops i j)(hi:Lst l i):Lst l j:=
 om hc h λo ho=>hc i o hi ho
def qZ(ops:List Oper)(i:Nat):Bool:=match ops[i]? with | some o=>(match o.op with | .makeMap .. =>true | _=>false) | none=>false
def vI(ops:List Oper)(i:Nat):Bool:=match ops[i]? with | some o=>(match o.op with | .insert .. =>true | _=>false) | none=>false
def Bq(ops:List Oper)(i:Nat):Bool:=match ops[i]? with | some o=>(match o.op with | .move x=>nS x | _=>false) | none=>false
def JV(P:Program)(ty:TypeId):Bool:=match P.underlying ty with
 | some (.map k e)=>(match P.underlying k with | some (.int .i64)=>true | _=>false)&& (match P.info? e with | some i=>(match i.zero with | some (.bool false)=>true | _=>false) | none=>false)
 | _=>false
theorem IQ{P:Program}{ty:TypeId}(h:JV P ty=true):MU P ty:=by
 unfold JV at h;split at h
 .rename_i k e h1;rw [Bool.and_eq_true]at h;obtain⟨h2,h3⟩:=h;refine⟨k,e,h1,?_,?_⟩
  all_goals grind
 .cases h
def Vi(ops:List Oper)(anc:Nat->Nat->Bool)(p:Nat->Bool)(i:Nat):Bool:=(List.range ops.length).any λm=>p m&&anc i m
theorem SF{ops:List Oper}{p:Nat->Bool}{i:Nat}(h:Vi ops (mD (masks ops)) p i=true):∃m,p m=true/\Reach ops i m:=by grind [Vi,List.any_eq_true,lY]
def MW(P:Program)(ops:List Oper)(anc:Nat->Nat->Bool)(i:Nat)(o:Oper):Bool:=match o.op with
 | .makeMap _ r=>r.isNone&&o.dst==some mapD
 | .insert ty x k v=>match x,k,v with
  | .tmp x,.const (.int .i64 _),.tmp r=>x==mapD&&o.dst.isNone&&JV P ty&&Vi ops anc (qZ ops) i&& (List.range ops.length).all λj=>gslot ops j !=some r || anc i j
  | _,_,_=>false
 | .lookup ty x q ok=>match x,q with
  | .tmp x,.tmp _=>x==Vh&& !ok&&JV P ty&&Vi ops anc (qZ ops) i&&Vi ops anc (Bq ops) i&& (List.range ops.length).all λj=> !vI ops j || anc i j
  | _,_=>false
 | .move x=> !nS x || ((match x with | .tmp x=>x==mapD | _=>false)&&o.dst==some Vh&&Vi ops anc (qZ ops) i)
 | _=>true
def JW(P:Program)(ops:List Oper):Bool:=((List.range ops.length).all λi=>match ops[i]? with | some o=>MW P ops (mD (masks ops)) i o | none=>true)&&decide ((nN ops).map Prod.fst).Nodup
structure ru(P:Program)(ops:List Oper):Prop where
 mkm:∀(i:Nat) o ty r,ops[i]? =some o->o.op= .makeMap ty r->r=none/\o.dst=some mapD
 ins:∀(i:Nat) o ty x k v,ops[i]? =some o->o.op= .insert ty x k v->o.dst=none/\∃n r,x= .tmp mapD/\k= .const (.int .i64 n)/\v= .tmp r/\MU P ty/\(∃m,qZ ops m=true/\Reach ops i m)/\∀j,gslot ops j=some r->Reach ops i j
 lk:∀(i:Nat) o ty x q ok,ops[i]? =some o->o.op= .lookup ty x q ok->ok=false/\x= .tmp Vh/\(∃q',q= .tmp q')/\MU P ty/\(∃m,qZ ops m=true/\Reach ops i m)/\(∃m,Bq ops m=true/\Reach ops i m)/\∀j,vI ops j=true->Reach ops i j
 mv:∀(i:Nat) o x,ops[i]? =some o->o.op= .move x->nS x=true->x= .tmp mapD/\o.dst=some Vh/\∃m,qZ ops m=true/\Reach ops i m
 nd:((nN ops).map Prod.fst).Nodup
theorem Vj{α:Type}{l:List α}{i:Nat}{x:α}(h:l[i]? =some x):i<l.length:=(List.getElem?_eq_some_iff.1 h).1
theorem WA{ops:List Oper}{j:Nat}(h:vI ops j=true):j<ops.length:=by grind [vI,Vj]
theorem WE{ops:List Oper}{j r:Nat}(h:gslot ops j=some r):j<ops.length:=by grind [Nat.lt_or_ge,gslot,List.getElem?_eq_none]
theorem Vk{P:Program}{ops:List Oper}(h:JW P ops=true):ru P ops:=by
 unfold JW at h;rw [Bool.and_eq_true,decide_eq_true_eq,List.all_eq_true]at h;obtain⟨h,hnd⟩:=h;have key:∀(i:Nat) o,ops[i]? =some o->MW P ops (mD (masks ops)) i o=true:=λi o ho=>by grind
 refine⟨λi o ty r ho hop=> ?_,λi o ty x k v ho hop=> ?_,λi o ty x q ok ho hop=> ?_,λi o x ho hop hs=> ?_,hnd⟩
 .grind [MW,Option.isNone_iff_eq_none]
 .have:=key i o ho;unfold MW at this
  grind [Option.isNone_iff_eq_none,IQ,SF,List.all_eq_true,WE,lY]
 all_goals grind [MW,Bool.not_eq_true',IQ,SF,List.all_eq_true,WA,lY,Bool.not_true]
end Go.AE
namespace Go.AE
open Go
variable [aQ]
def Src(ops:List Oper)(s0:St)(pre:List Nat)(val:Nat->Option PV)(i r:Nat)(v:PV):Prop:=
 (∃j,gslot ops j=some r/\j∈pre/\Reach ops i j/\val j=some v)\/(aA s0.t r=some v/\∀j,gslot ops j=some r->j=i\/Reach ops j i)
def pY(ops:List Oper)(j:Nat)(k:Int)(r:Nat):Prop:=∃o ty x,ops[j]? =some o/\o.op= .insert ty x (.const (.int .i64 k)) (.tmp r)
structure MP(ops:List Oper)(L:Array Bool)(c:Ctx)(w:World)(h:Heap)(a:Act)(n0 b:Nat):Prop where
 slot:a.tmps[mapD]? =some (.map (some b))
 obj:∃es clk,w.heap[b]? =some (.map es clk)/\(∀e∈es.toList,∃j k r,pY ops j k r/\Lst L j/\e.key= .int .i64 k/\a.tmps[r]? =some e.val)/\
  ∀j k r,pY ops j k r->Lst L j->∃e∈es.toList,e.key= .int .i64 k/\a.tmps[r]? =some e.val
 no:¬fU c h b
 nk:∀f,¬c.K f b
 ge:n0<=b
 mv:∀j,Bq ops j=true->Lst L j->a.tmps[Vh]? =some (.map (some b))
def Br(ops:List Oper)(L:Array Bool)(c:Ctx)(w:World)(h:Heap)(a:Act)(n0:Nat):Prop:=∀m,qZ ops m=true->Lst L m->∃b,MP ops L c w h a n0 b
structure DI(E:Tab)(G:fO)(ops:Array Oper)(K:St->Prop)(s0:St)(c0:Ctx)(w0:World)(h0:Heap)
    (pre:List Nat) (lm:Option Nat) (suf:List dK) (s:St) (hs:List Held) (val:Nat->Option PV) (pb:Nat->Nat)
    (L:Array Bool) (c:Ctx) (w:World) (a:Act):Prop where
  run:aZ E G ops.toList suf hs K s
  chk:uE ops.toList (mD (masks ops.toList)) pre lm suf=true
  cov:∀i,i<ops.size->i∈pre\/i∈suf.map (·.1)
  done:∀i,i∈pre->2<=bK ops.toList i->Lst L i
  only:∀i,Lst L i->i∈pre\/bK ops.toList i=2
  closed:Closed ops.toList L
  size:L.size=ops.size
  s1:∀j r v,gslot ops.toList j=some r->Lst L j->j∈pre->val j=some v->∃u,a.tmps[r]? =some u/\bg c w u v
  s2:∀r v,(∀j,gslot ops.toList j=some r->¬Lst L j)->aA s0.t r=some v->∃u,a.tmps[r]? =some u/\bg c w u v
  t1:∀j r,gslot ops.toList j=some r->j∈pre->aA s.t r=val j
  t2:∀r,(∀j,gslot ops.toList j=some r->j∉pre)->aA s.t r=aA s0.t r
  pend:∀i,i∈pre->¬Lst L i->∃o t,ops.toList[i]? =some o/\dOK s.m o.dst/\(∀r v,aA t r=some v->Src ops.toList s0 pre val i r v)/\
     ((kindOf o.op=0/\iF hs i=some (o,t,val i)/\eH E ops.toList o t s.h (λv'=>v'=val i))\/(kindOf o.op=1/\o.guard=none/\zM E ops.toList o.op t (λv=>val i=v)))
  sj:∀i,Lst L i->i∉pre->∃(o:Oper) (ty:TypeId) (y:TY) (d:Nat) (vs:Array Value) (Et:TypeId),ops.toList[i]? =some o/\o.op= .alloc ty/\E.ty ty=some y/\o.dst=some d/\
     a.tmps[d]? =some (.pointer (some ⟨pb i,0,none⟩))/\w.heap[pb i]? =some (.cells vs Et (0,0))/\(∀c w,F2 (bB c w) vs.toList y.zero)/\¬fU c s.h (pb i)/\(∀f,¬c.K f (pb i))/\w0.heap.size<=pb i
  dist:∀i j,Lst L i->i∉pre->Lst L j->j∉pre->pb i=pb j->i=j
  heap:bC c w s.h
  glob:oH E c w
  grow:Grow c0 w0 h0 c w s.h
  cn:c.n=nm s.n s.k
  defers:a.defers=[]
  oq:a.tmps.size=s.m
  sn:s.n=s0.n
  sm:s.m=s0.m
  ms:ru E.P ops.toList
  mp:Br ops.toList L c w s.h a w0.heap.size
theorem bE{L:Array Bool}{i j:Nat}(hi:i<L.size):Lst (L.setIfInBounds i true) j↔j=i\/Lst L j:=by
 unfold Lst;simp only [Array.getD_eq_getD_getElem?,Array.getElem?_setIfInBounds]
 grind
theorem mI{ops:List Oper}(h:dG ops=true){i j d e:Nat}(hi:gslot ops i=some d)(hj:gslot ops j=some e)(hne:i≠j):d≠e:=by
 have li:i<ops.length:=by grind [Nat.lt_or_ge,gslot,List.getElem?_eq_none]
 have lj:j<ops.length:=by grind [Nat.lt_or_ge,gslot,List.getElem?_eq_none]
 unfold dG at h;rw [List.all_eq_true]at h;have h1:=h i (List.mem_range.2 li)
 grind
theorem bN{ops:List Oper}{i:Nat}{o:Oper}(h:ops[i]? =some o):gslot ops i=o.dst:=by simp [gslot,h]
theorem vJ{a:Act}{d:Nat}{u:Value}(h:d<a.tmps.size):(a.put (some d) u).tmps[d]? =some u:=by simp [Act.put,h]
theorem qb{a:Act}{o:Option Nat}{r:Nat}{u:Value}(h:∀d,o=some d->d≠r):(a.put o u).tmps[r]? =a.tmps[r]? :=by
 cases o with
 | none=>rfl
 | some d=>simp [Act.put,Array.getElem?_setIfInBounds_ne (h d rfl)]
theorem EC{a:Act}{o:Option Nat}{u:Value}:(a.put o u).tmps.size=a.tmps.size:=by
 cases o with
 | none=>rfl
 | some d=>simp [Act.put]
theorem put_defers{a:Act}{o:Option Nat}{u:Value}:(a.put o u).defers=a.defers:=by cases o<;>rfl
def CW:Op->Bool | .makeMap .. =>true | .insert .. =>true | .move x=>nS x | _=>false
theorem ab8{ops:List Oper}{i:Nat}{o:Oper}(ho:ops[i]? =some o)(h:CW o.op=false):qZ ops i=false/\vI ops i=false/\Bq ops i=false:=by
 unfold qZ vI Bq
 grind [CW]
theorem ED{op:Op}(h:kindOf op≠1):CW op=false:=by
 unfold CW
 grind [absurd,kindOf,nS]
theorem ab9{ops:List Oper}{m:Nat}(h:qZ ops m=true):∃o ty r,ops[m]? =some o/\o.op= .makeMap ty r:=by grind [qZ]
theorem SG{ops:List Oper}{m:Nat}(h:Bq ops m=true):∃o x,ops[m]? =some o/\o.op= .move x/\nS x=true:=by grind [Bq]
theorem zJ{ops:List Oper}{j:Nat}{k:Int}{r:Nat}(h:pY ops j k r):vI ops j=true:=by
 obtain⟨o,ty,x,h1,h2⟩:=h
 grind [vI]
theorem ru.gD{P:Program}{ops:List Oper}(S:ru P ops){m:Nat}(h:qZ ops m=true):gslot ops m=some mapD:=by
 obtain⟨o,ty,r,h1,h2⟩:=ab9 h;rw [bN h1];exact(S.mkm m o ty r h1 h2).2
theorem ru.gE{P:Program}{ops:List Oper}(S:ru P ops){m:Nat}(h:Bq ops m=true):gslot ops m=some Vh:=by
 obtain⟨o,x,h1,h2,h3⟩:=SG h;rw [bN h1];exact(S.mv m o x h1 h2 h3).2.1
theorem ru.reads{P:Program}{ops:List Oper}(S:ru P ops){j:Nat}{k:Int}{r:Nat}(h:pY ops j k r){i:Nat}(hi:gslot ops i=some r):Reach ops j i:=by
 obtain⟨o,ty,x,h1,h2⟩:=h;obtain⟨_,n,r',_,_,e,_,_,hr⟩:=S.ins j o ty x _ _ h1 h2;simp_all
theorem MP.keep{P:Program}{ops:List Oper}{L:Array Bool}{c c':Ctx}{w w':World}{h h':Heap}{a:Act}{n0 b i:Nat}{o:Oper}{u:Value}(M:MP ops L c w h a n0 b)(S:ru P ops)(hap:dG ops=true)(hc:Closed ops L)(hi:i<L.size)
  (ho:ops[i]? =some o) (hnl:¬Lst L i) (h1:qZ ops i=false) (h2:vI ops i=false) (h3:Bq ops i=false) {m:Nat} (hm:qZ ops m=true) (hb:∀x,w.heap[b]? =some x->w'.heap[b]? =some x) (hno:¬fU c' h' b) (hnk:∀f,¬c'.K f b):
  MP ops (L.setIfInBounds i true) c' w' h' (a.put o.dst u) n0 b:=by
 have off:∀j r,gslot ops j=some r->j≠i->(a.put o.dst u).tmps[r]? =a.tmps[r]? :=λj r hj hne=>qb (λd hd e=>mI hap ((bN ho).trans hd) hj (Ne.symm hne) e)
 have am7:∀j k r,pY ops j k r->Lst L j->(a.put o.dst u).tmps[r]? =a.tmps[r]? :=λj k r hj hl=>qb (λd hd e=>hnl (rZ hc (S.reads hj ((bN ho).trans (hd.trans (congrArg some e)))) hl))
 have old:∀ {j:Nat},Lst (L.setIfInBounds i true) j->j≠i->Lst L j:=λhl hne=>((bE hi).1 hl).resolve_left hne
 have ne:∀ {p:Nat->Bool} {j:Nat},p i=false->p j=true->j≠i:=λe1 e2 e=>by simp_all
 obtain⟨es,clk,e1,e2,e3⟩:=M.obj;refine⟨by rw [off m _ (S.gD hm) (ne h1 hm)];exact M.slot,⟨es,clk,hb _ e1,λe he=> ?_,λj k r hj hl=> ?_⟩,hno,hnk,M.ge,λj hj hl=> ?_⟩
 .grind [bE]
 .grind [zJ]
 .have hne:=ne h3 hj;rw [off j _ (S.gE hj) hne];exact M.mv j hj (old hl hne)
section
variable {E:Tab} {G:fO} {ops:Array Oper} {K:St->Prop} {s0:St} {c0:Ctx} {w0:World} {h0:Heap} {pre:List Nat} {lm:Option Nat} {suf:List dK} {s:St} {hs:List Held}
 {val:Nat->Option PV} {pb:Nat->Nat} {L:Array Bool} {c:Ctx} {w:World} {a:Act}
theorem Closed.set{ops:List Oper}{L:Array Bool}(h:Closed ops L){i:Nat}{o:Oper}(ho:ops[i]? =some o)(hi:i<L.size)(hd:∀e∈o.after.toList,Region.binds .any e=true->Lst L e.on):Closed ops (L.setIfInBounds i true):=by
 intro j o' hj ho' e he hb;rw [bE hi]at hj ⊢;rcases hj with rfl | hj
 .simp_all
 .exact .inr (h j o' hj ho' e he hb)
theorem DI.src(D:DI E G ops K s0 c0 w0 h0 pre lm suf s hs val pb L c w a){i:Nat}{o:Oper}(ho:ops.toList[i]? =some o)(hn:¬Lst L i)(hd:∀e∈o.after.toList,Region.binds .any e=true->Lst L e.on)
  {t:Slots} (ht:∀r v,aA t r=some v->Src ops.toList s0 pre val i r v) (h:Heap) (H:bC c w h):pR E c w t h a:=by
 refine⟨λr v hv=> ?_,H,D.glob⟩;rcases ht r v hv with⟨j,h1,h2,h3,h4⟩ | ⟨h1,h2⟩
 .exact D.s1 j r v h1 (om D.closed h3 (λo' ho'=>by simp_all)) h2 h4
 .exact D.s2 r v (λj hj hl=>by
   rcases h2 j hj with rfl | hr
   .exact hn hl
   .exact hn (rZ D.closed hr hl)) h1
theorem DI.rd(D:DI E G ops K s0 c0 w0 h0 pre lm suf s hs val pb L c w a){i:Nat}{rs:List Nat}(hi:i∉pre)(h:ab6 ops.toList (mD (masks ops.toList)) pre i rs=true)(r:Nat)(v:PV)(hv:aA (cut s.t rs) r=some v):
  Src ops.toList s0 pre val i r v:=by
 obtain⟨hr,hv⟩:=MQ hv;unfold ab6 at h;rw [List.all_eq_true]at h;have key:∀j,gslot ops.toList j=some r->j=i\/(if pre.contains j then mD (masks ops.toList) i j else mD (masks ops.toList) j i)=true:=by grind [Nat.lt_or_ge,gslot,List.getElem?_eq_none,Bool.not_eq_true']
 by_cases e:∃j,gslot ops.toList j=some r/\j∈pre
 .obtain⟨j,h1,h2⟩:=e;refine .inl ⟨j,h1,h2,?_,by rw [<-D.t1 j r h1 h2];exact hv⟩
  grind [absurd,lY]
 .have hnw:∀j,gslot ops.toList j=some r->j∉pre:=λj hj hp=>e ⟨j,hj,hp⟩
  refine .inr ⟨by rw [<-D.t2 r hnw];exact hv,λj hj=> ?_⟩
  grind [lY]
theorem wM{c c':Ctx}{w w':World}{h h':Heap}(g:Grow c w h c' w' h'){b:Nat}{x:Go.Obj}(hb:w.heap[b]? =some x)(hno:¬fU c h b)(hk:∀f,¬c.K f b):
  w'.heap[b]? =some x/\¬fU c' h' b/\∀f,¬c'.K f b:=by
 have hlt:=lt_of_some hb;refine⟨(g.kept b hlt hno).trans hb,λho=> ?_,λf hf=> ?_⟩
 .rcases g.oV b ho with h | h
  .exact hno h
  .omega
 .rcases g.uT f b hf with h | h | h
  all_goals grind
theorem Br.keep{P:Program}{ops:List Oper}{L:Array Bool}{c c':Ctx}{w w':World}{h h':Heap}{a:Act}{n0 i:Nat}{o:Oper}{u:Value}(I:Br ops L c w h a n0)(S:ru P ops)(hap:dG ops=true)(hc:Closed ops L)(hi:i<L.size)
  (ho:ops[i]? =some o) (hnl:¬Lst L i) (hmo:CW o.op=false) (g:Grow c w h c' w' h'):Br ops (L.setIfInBounds i true) c' w' h' (a.put o.dst u) n0:=λm hm hl=>by
 obtain⟨h1,h2,h3⟩:=ab8 ho hmo;have hne:m≠i:=λe=>by simp_all
 obtain⟨b,M⟩:=I m hm (((bE hi).1 hl).resolve_left hne);obtain⟨es,clk,e1,_⟩:=M.obj;obtain⟨k1,k2,k3⟩:=wM g e1 M.no M.nk;exact⟨b,M.keep S hap hc hi ho hnl h1 h2 h3 hm (λx hx=>by simp_all) k2 k3⟩
theorem DI.SH(D:DI E G ops K s0 c0 w0 h0 pre lm suf s hs val pb L c w a)(hap:dG ops.toList=true){i:Nat}{o:Oper}(ho:ops.toList[i]? =some o)(hp:i∈pre)(hd:∀e∈o.after.toList,Region.binds .any e=true->Lst L e.on)
  (hm:dOK s.m o.dst) {c':Ctx} {w':World} (hV:∀ {u:Value} {v:PV},bg c w u v->bg c' w' u v)
  (hP:∀ {b:Nat} {vs:Array Value} {Et:TypeId} {fr:Nat×Nat},w.heap[b]? =some (.cells vs Et fr)->¬fU c s.h b->(∀f,¬c.K f b)->w'.heap[b]? =some (.cells vs Et fr)/\¬fU c' s.h b/\∀f,¬c'.K f b)
  (hG:oH E c' w') (hgr:Grow c0 w0 h0 c' w' s.h) (H:bC c' w' s.h) (hn:c'.n=c.n) {u:Value} (hu:∀v,val i=some v->bg c' w' u v) (hmp:Br ops.toList (L.setIfInBounds i true) c' w' s.h (a.put o.dst u) w0.heap.size):
  DI E G ops K s0 c0 w0 h0 pre lm suf s hs val pb (L.setIfInBounds i true) c' w' (a.put o.dst u):=by
 have hi:i<L.size:=by rw [D.size];grind
 have hoff:∀j r,gslot ops.toList j=some r->j≠i->(a.put o.dst u).tmps[r]? =a.tmps[r]? :=λj r hj hne=>qb (λd hd e=>mI hap ((bN ho).trans hd) hj (Ne.symm hne) e)
 exact {
  run:=D.run,chk:=D.chk,cov:=D.cov
  done:=λj h1 h2=>(bE hi).2 (.inr (D.done j h1 h2))
  only:=λj hj=>by
   rcases(bE hi).1 hj with rfl | hj
   .exact .inl hp
   .exact D.only j hj
  closed:=D.closed.set ho hi hd
  size:=by simp [D.size]
  s1:=λj r v h1 h2 h3 h4=>by
   by_cases e:j=i
   .subst e;rw [bN ho]at h1;refine⟨u,?_,hu v h4⟩;rw [h1]at hm ⊢;exact vJ (by rw [D.oq];exact hm)
   .obtain⟨u',a1,a2⟩:=D.s1 j r v h1 (((bE hi).1 h2).resolve_left e) h3 h4
    grind
  s2:=λr v h1 h2=>by
   obtain⟨u',a1,a2⟩:=D.s2 r v (λj hj hl=>h1 j hj ((bE hi).2 (.inr hl))) h2;exact⟨u',by rw [qb (λd hd e=>h1 i (by rw [bN ho,hd,e]) ((bE hi).2 (.inl rfl)))];exact a1,hV a2⟩
  t1:=D.t1,t2:=D.t2
  pend:=λj h1 h2=>D.pend j h1 (λhl=>h2 ((bE hi).2 (.inr hl)))
  sj:=λj h1 h2=>by
   have hji:j≠i:=λe=>h2 (e▸hp)
   obtain⟨o',ty,y,d,vs,Et,p1,p2,p3,p4,p5,p6,p7,p8,p9,p10⟩:=D.sj j (((bE hi).1 h1).resolve_left hji) h2;obtain⟨q1,q2,q3⟩:=hP p6 p8 p9;exact⟨o',ty,y,d,vs,Et,p1,p2,p3,p4,by rw [hoff j d ((bN p1).trans p4) hji];exact p5,q1,p7,q2,q3,p10⟩
  dist:=λj k h1 h2 h3 h4=>D.dist j k (((bE hi).1 h1).resolve_left (λe=>h2 (e▸hp))) h2 (((bE hi).1 h3).resolve_left (λe=>h4 (e▸hp))) h4
  heap:=H
  glob:=hG
  grow:=hgr
  cn:=hn.trans D.cn
  defers:=by rw [put_defers];exact D.defers
  oq:=by rw [EC];exact D.oq
  sn:=D.sn,sm:=D.sm,ms:=D.ms,mp:=hmp}
theorem DI.JX(D:DI E G ops K s0 c0 w0 h0 pre lm suf s hs val pb L c w a)(hap:dG ops.toList=true){i:Nat}{o:Oper}(ho:ops.toList[i]? =some o)(hp:i∈pre)(hd:∀e∈o.after.toList,Region.binds .any e=true->Lst L e.on)
  (hm:dOK s.m o.dst) {c':Ctx} {w':World} (g:Grow c w s.h c' w' s.h) (H:bC c' w' s.h) (hn:c'.n=c.n) {u:Value} (hu:∀v,val i=some v->bg c' w' u v) (hmp:Br ops.toList (L.setIfInBounds i true) c' w' s.h (a.put o.dst u) w0.heap.size):
  DI E G ops K s0 c0 w0 h0 pre lm suf s hs val pb (L.setIfInBounds i true) c' w' (a.put o.dst u):=
 D.SH hap ho hp hd hm (λh=>h.grow D.heap g) (λh1 h2 h3=>wM g h1 h2 h3) (D.glob.grow D.heap g) (D.grow.trans g) H hn hu hmp
theorem DI.listed(D:DI E G ops K s0 c0 w0 h0 pre lm suf s hs val pb L c w a)(hap:dG ops.toList=true){i:Nat}{o:Oper}(ho:ops.toList[i]? =some o)(hp:i∈pre)(hnl:¬Lst L i)(hmo:CW o.op=false)(hd:∀e∈o.after.toList,Region.binds .any e=true->Lst L e.on)
  (hm:dOK s.m o.dst) {c':Ctx} {w':World} (g:Grow c w s.h c' w' s.h) (H:bC c' w' s.h) (hn:c'.n=c.n) {u:Value} (hu:∀v,val i=some v->bg c' w' u v):
  DI E G ops K s0 c0 w0 h0 pre lm suf s hs val pb (L.setIfInBounds i true) c' w' (a.put o.dst u):=
 D.JX hap ho hp hd hm g H hn hu (D.mp.keep D.ms hap D.closed (by rw [D.size];grind) ho hnl hmo g)
theorem DI.made(D:DI E G ops K s0 c0 w0 h0 pre lm suf s hs val pb L c w a)(hap:dG ops.toList=true){i:Nat}{o:Oper}(ho:ops.toList[i]? =some o)(hp:i∉pre)(hnl:¬Lst L i)(hd:∀e∈o.after.toList,Region.binds .any e=true->Lst L e.on)
  {d:Nat} (hdst:o.dst=some d) (hm:d<s.m) {ty:TypeId} (hop:o.op= .alloc ty) {y:TY} (hy:E.ty ty=some y) {w':World} (g:Grow c w s.h c w' s.h) (H:bC c w' s.h) {vs:Array Value} {Et:TypeId}
  (hb:w'.heap[w.heap.size]? =some (.cells vs Et (0,0))) (hz:∀c w,F2 (bB c w) vs.toList y.zero):
  DI E G ops K s0 c0 w0 h0 pre lm suf s hs val (λj=>if j=i then w.heap.size else pb j) (L.setIfInBounds i true) c w' (a.put o.dst (.pointer (some ⟨w.heap.size,0,none⟩))):=by
 have hi:i<L.size:=by rw [D.size];grind
 have hoff:∀j r u,gslot ops.toList j=some r->j≠i->(a.put o.dst u).tmps[r]? =a.tmps[r]? :=λj r u hj hne=>qb (λd hd e=>mI hap ((bN ho).trans hd) hj (Ne.symm hne) e)
 have hpb:∀j,Lst L j->j∉pre->pb j<w.heap.size:=λj h1 h2=>by
  obtain⟨_,_,_,_,_,_,_,_,_,_,_,p6,_⟩:=D.sj j h1 h2;exact lt_of_some p6
 exact {
  run:=D.run,chk:=D.chk,cov:=D.cov
  done:=λj h1 h2=>(bE hi).2 (.inr (D.done j h1 h2))
  only:=λj hj=>by
   rcases(bE hi).1 hj with rfl | hj
   .grind [bK,kindOf]
   .exact D.only j hj
  closed:=D.closed.set ho hi hd
  size:=by simp [D.size]
  s1:=λj r v h1 h2 h3 h4=>by
   have e:j≠i:=λe=>hp (e▸h3)
   obtain⟨u',a1,a2⟩:=D.s1 j r v h1 (((bE hi).1 h2).resolve_left e) h3 h4;exact⟨u',by grind,a2.grow D.heap g⟩
  s2:=λr v h1 h2=>by
   obtain⟨u',a1,a2⟩:=D.s2 r v (λj hj hl=>h1 j hj ((bE hi).2 (.inr hl))) h2;exact⟨u',by rw [qb (λd hd e=>h1 i (by rw [bN ho,hd,e]) ((bE hi).2 (.inl rfl)))];exact a1,a2.grow D.heap g⟩
  t1:=D.t1,t2:=D.t2
  pend:=λj h1 h2=>D.pend j h1 (λhl=>h2 ((bE hi).2 (.inr hl)))
  sj:=λj h1 h2=>by
   by_cases e:j=i
   .subst e;simp only [if_true];refine⟨o,ty,y,d,vs,Et,ho,hop,hy,hdst,?_,hb,hz,λho'=> ?_,λf hf=> ?_,D.grow.size⟩
    .rw [hdst];exact vJ (by rw [D.oq];exact hm)
    .exact absurd (D.heap.lt ho') (Nat.lt_irrefl _)
    .exact absurd (D.heap.low f _ hf) (Nat.lt_irrefl _)
   .obtain⟨o',ty,y,d,vs,Et,p1,p2,p3,p4,p5,p6,p7,p8,p9,p10⟩:=D.sj j (((bE hi).1 h1).resolve_left e) h2;obtain⟨q1,q2,q3⟩:=wM g p6 p8 p9;simp only [e,if_false];exact⟨o',ty,y,d,vs,Et,p1,p2,p3,p4,by rw [hoff j d _ ((bN p1).trans p4) e];exact p5,q1,p7,q2,q3,p10⟩
  dist:=λj k h1 h2 h3 h4 he=>by
   by_cases e:j=i
   .grind [bE]
   .by_cases e':k=i
    .grind [bE]
    .simp only [e,e',if_false]at he;exact D.dist j k (((bE hi).1 h1).resolve_left e) h2 (((bE hi).1 h3).resolve_left e') h4 he
  heap:=H
  glob:=D.glob.grow D.heap g
  grow:=D.grow.trans g
  cn:=D.cn
  defers:=by rw [put_defers];exact D.defers
  oq:=by rw [EC];exact D.oq
  sn:=D.sn,sm:=D.sm,ms:=D.ms
  mp:=D.mp.keep D.ms hap D.closed hi ho hnl (by rw [hop];rfl) g}
end
end Go.AE
namespace Go.AE
open Go
variable [aQ]
theorem Pn{s:St}{d:Option Nat}{v:Option PV}:(s.put d v).h=s.h/\(s.put d v).n=s.n/\(s.put d v).k=s.k/\(s.put d v).m=s.m:=by cases d<;>exact⟨rfl,rfl,rfl,rfl⟩
theorem wN{s:St}{o:Option Nat}{v:Option PV}{r:Nat}(h:∀d,o=some d->d≠r):aA (s.put o v).t r=aA s.t r:=by
 cases o with
 | none=>rfl
 | some d=>grind [St.put,jG]
theorem Bt{s:St}{d:Nat}{v:Option PV}:aA (s.put (some d) v).t d=v:=by simp [St.put,jG]
theorem Vm{E:Tab}{h:Heap}{l0:Nat}{ob:dx}(hl:look h l0=none){ty:TypeId}{p:PV}{K:PV->Prop}(hk:fF E h ty p K):fF E ((l0,ob)::h) ty p K:=by
 unfold fF at hk ⊢;cases hy:E.ty ty with
 | none=>rw [hy]at hk;exact hk.elim
 | some y=>
  rw [hy]at hk;simp only [aD]at hk ⊢;split
  .rename_i l sz i j;simp only at hk;by_cases e:l0=l
   .subst e;rw [hl]at hk;exact hk.elim
   grind [aj]
  all_goals simp_all
theorem IU{E:Tab}{h:Heap}{l0:Nat}{ob:dx}(hl:look h l0=none){op:Op}{t:Slots}{K:PV->Prop}(hk:aH E op t h K):aH E op t ((l0,ob)::h) K:=by
 by_cases hld:isLoad op=false
 .rw [<-yw hld t h];exact hk
 .cases op<;>first | (exact absurd rfl hld) | skip
  rename_i ty p;simp only [aH]at hk ⊢;obtain⟨v,hv,hk⟩:=lI hk;rw [hv];exact Vm hl hk
theorem Vn{E:Tab}{ops:List Oper}{o:Oper}{h:Heap}{l0:Nat}{ob:dx}(hl:look h l0=none){t:Slots}{K:Option PV->Prop}(hk:eH E ops o t h K):eH E ops o t ((l0,ob)::h) K:=by
 unfold eH at hk ⊢;split at hk
 .exact IU hl hk
 .rename_i j want hg;cases hd:gslot ops j with
  | none=>rw [hd]at hk;exact hk.elim
  | some d=>
   rw [hd]at hk;simp only [vC]at hk ⊢;rcases pW hk with⟨f,b,hv,hT,hF⟩ | ⟨hv,hF⟩
   .grind [fG,IU]
   .rw [hv];exact hF
theorem MX{i j:Nat}{x:Oper×Slots×Option PV}{hs:List Held}(h:i≠j):iF ((i,x)::hs) j=iF hs j:=by simp [iF,h]
section
variable {E:Tab} {G:fO} {ops:Array Oper} {K:St->Prop} {s0:St} {c0:Ctx} {w0:World} {h0:Heap} {pre:List Nat} {lm:Option Nat} {suf:List dK} {s:St} {hs:List Held}
 {val:Nat->Option PV} {pb:Nat->Nat} {L:Array Bool} {c:Ctx} {w:World} {a:Act}
structure aie(ops:List Oper)(pre:List Nat)(lm:Option Nat)(i:Nat)(rs cs:List Nat)(r:List dK):Prop where
 lt:i<ops.length
 new:i∉pre
 rd:ab6 ops (mD (masks ops)) pre i rs=true
 after:bK ops i=2\/∀q,lm=some q->mD (masks ops) i q=true
 two:bK ops i=2->CV ops (mD (masks ops)) i r=true/\(gslot ops i).isSome=true
 three:bK ops i=3->∀j∈pre,loadAt ops j=true->mD (masks ops) i j=true\/j∈cs
 guard:bK ops i≠0->bK ops i≠3->zI ops i=false
 rest:uE ops (mD (masks ops)) (i::pre) (if bK ops i=3 then some i else lm) r=true
theorem mJ{ops:List Oper}{pre:List Nat}{lm:Option Nat}{i:Nat}{rs cs:List Nat}{r:List dK}(h:uE ops (mD (masks ops)) pre lm ((i,rs,cs)::r)=true):aie ops pre lm i rs cs r:=by
 unfold uE at h;simp only [Bool.and_eq_true,decide_eq_true_eq,Bool.not_eq_true',Bool.or_eq_true,beq_iff_eq]at h;obtain⟨⟨⟨⟨⟨⟨h1,h2⟩,h3⟩,h4⟩,h5⟩,h6⟩,h7⟩:=h;refine⟨h1,by simpa using h2,h3,h4.imp id (λh q hq=>by simp_all),λhk=> ?_,λhk j hj hl=> ?_,λhk hk3=> ?_,h7⟩
 all_goals grind
theorem Src.mono{ops:List Oper}{s0:St}{pre:List Nat}{val:Nat->Option PV}{i r:Nat}{v:PV}{n:Nat}(hn:n∉pre)(x:Option PV)(h:Src ops s0 pre val i r v):Src ops s0 (n::pre) (λj=>if j=n then x else val j) i r v:=by
 rcases h with⟨j,h1,h2,h3,h4⟩ | h
 .exact .inl ⟨j,h1,List.mem_cons_of_mem _ h2,h3,by grind⟩
 .exact .inr h
theorem DI.push{i:Nat}{rs cs:List Nat}{r:List dK}(D:DI E G ops K s0 c0 w0 h0 pre lm ((i,rs,cs)::r) s hs val pb L c w a)(hap:dG ops.toList=true){o:Oper}(ho:ops.toList[i]? =some o)(hk:bK ops.toList i<=1)
  (hm:dOK s.m o.dst) (v:Option PV) (hs':List Held) (hrun:aZ E G ops.toList r hs' K (s.put o.dst v)) (hh:∀j,j≠i->iF hs' j=iF hs j)
  (hc:(kindOf o.op=0/\iF hs' i=some (o,cut s.t rs,v)/\eH E ops.toList o (cut s.t rs) s.h (λv'=>v'=v))\/(kindOf o.op=1/\o.guard=none/\zM E ops.toList o.op (cut s.t rs) (λv'=>v=v'))):
  DI E G ops K s0 c0 w0 h0 (i::pre) (if bK ops.toList i=3 then some i else lm) r (s.put o.dst v) hs' (λj=>if j=i then v else val j) pb L c w a:=by
 have C:=mJ D.chk;have hnl:¬Lst L i:=λhl=>(D.only i hl).elim C.new (λh=>by omega)
 obtain⟨ph,pn,pk,pm⟩:= @Pn _ s o.dst v
 exact {
  run:=hrun
  chk:=C.rest
  cov:=λj hj=>by
   rcases D.cov j hj with h | h
   all_goals grind
  done:=λj h1 h2=>by
   rcases List.mem_cons.1 h1 with rfl | h1
   .omega
   .exact D.done j h1 h2
  only:=λj hj=>(D.only j hj).imp (List.mem_cons_of_mem _) id
  closed:=D.closed,size:=D.size
  s1:=λj x v' h1 h2 h3 h4=>by
   have e:j≠i:=λe=>hnl (e▸h2)
   simp only [e,if_false]at h4;exact D.s1 j x v' h1 h2 ((List.mem_cons.1 h3).resolve_left e) h4
  s2:=D.s2
  t1:=λj x h1 h2=>by
   by_cases e:j=i
   .grind [bN,Bt]
   .rw [if_neg e,wN (λd hd e'=>mI hap ((bN ho).trans hd) h1 (Ne.symm e) e')];exact D.t1 j x h1 ((List.mem_cons.1 h2).resolve_left e)
  t2:=λx h1=>by
   rw [wN (λd hd e'=>h1 i (by rw [bN ho,hd,e']) (by simp))];exact D.t2 x (λj hj hp=>h1 j hj (List.mem_cons_of_mem _ hp))
  pend:=λj h1 h2=>by
   by_cases e:j=i
   .subst e;refine⟨o,cut s.t rs,ho,by rw [pm];exact hm,λx v' hv=>Src.mono C.new v (D.rd C.new C.rd x v' hv),?_⟩;simp_all
   .obtain⟨o',t,p1,p2,p3,p4⟩:=D.pend j ((List.mem_cons.1 h1).resolve_left e) h2;refine⟨o',t,p1,by rw [pm];exact p2,λx v' hv=>Src.mono C.new v (p3 x v' hv),?_⟩;simp_all
  sj:=λj h1 h2=>by rw [ph];exact D.sj j h1 (λhp=>h2 (List.mem_cons_of_mem _ hp))
  dist:=λj k h1 h2 h3 h4=>D.dist j k h1 (λhp=>h2 (List.mem_cons_of_mem _ hp)) h3 (λhp=>h4 (List.mem_cons_of_mem _ hp))
  heap:=by rw [ph];exact D.heap
  glob:=D.glob
  grow:=by rw [ph];exact D.grow
  cn:=by rw [pn,pk];exact D.cn
  defers:=D.defers
  oq:=by rw [pm];exact D.oq
  sn:=by rw [pn];exact D.sn
  sm:=by rw [pm];exact D.sm
  ms:=D.ms
  mp:=by rw [ph];exact D.mp}
theorem zK{ops:List Oper}{i:Nat}{o:Oper}(h:ops[i]? =some o):bK ops i=kindOf o.op:=by simp [bK,h]
theorem DI.adv(hap:dG ops.toList=true):∀(suf:List dK) {pre:List Nat} {lm:Option Nat} {s:St} {hs:List Held} {val:Nat->Option PV},DI E G ops K s0 c0 w0 h0 pre lm suf s hs val pb L c w a->
  ∃pre' lm' Vo s' hs' val',DI E G ops K s0 c0 w0 h0 pre' lm' Vo s' hs' val' pb L c w a/\∀i rs cs r,Vo=(i,rs,cs)::r->2<=bK ops.toList i
 | [],pre,lm,s,hs,val,D=>⟨pre,lm,[],s,hs,val,D,λ_ _ _ _ h=>by cases h⟩
 | (i,rs,cs)::r,pre,lm,s,hs,val,D=>by
  have C:=mJ D.chk;by_cases hk:2<=bK ops.toList i
  .exact⟨pre,lm,_,s,hs,val,D,λi' _ _ _ h=>by cases h;exact hk⟩
  .have hrun:=D.run;unfold aZ at hrun;cases ho:ops.toList[i]? with
   | none=>rw [ho]at hrun;exact hrun.elim
   | some o=>
    rw [ho]at hrun;obtain⟨hm,hrun⟩:=hrun;have hko:=zK ho;split at hrun
    .rename_i h0;obtain⟨v,hv,he⟩:=Vf _ _ _ _ _ _ hrun;exact DI.adv hap r (D.push hap ho ah hm v _ hv (λj hj=>MX (Ne.symm hj)) (.inl ⟨h0,by simp [iF],he⟩))
    .rename_i h0;obtain⟨v,hv,he⟩:=aff _ _ _ _ _ hrun;have hg:=C.guard ah ah;have hg':o.guard=none:=by simpa [zI,ho]using hg
     refine DI.adv hap r (D.push hap ho ah hm v _ hv (λj hj=>rfl) (.inr ⟨h0,hg',?_⟩));have:(λv'=>v=v')=(λv'=>v'=v):=by funext x;simp [eq_comm]
     rw [this];exact he
    .omega
    .rename_i h1 h2 h3;have:kindOf o.op=0\/kindOf o.op=1:=by omega
     rcases this with h | h
     .exact absurd h h1
     .exact absurd h h2
end
end Go.AE
namespace Go.AE
open Go
variable [aQ]
section
variable {E:Tab} {G:fO} {ops:Array Oper} {K:St->Prop} {s0:St} {c0:Ctx} {w0:World} {h0:Heap} {pre:List Nat} {lm:Option Nat} {suf:List dK} {s:St} {hs:List Held}
 {val:Nat->Option PV} {pb:Nat->Nat} {L:Array Bool} {c:Ctx} {w:World} {a:Act}
theorem DI.reg{i:Nat}{rs cs:List Nat}{r:List dK}(D:DI E G ops K s0 c0 w0 h0 pre lm ((i,rs,cs)::r) s hs val pb L c w a)(hap:dG ops.toList=true)(hk:bK ops.toList i=2)(hl:Lst L i):
  ∃s' val' c',DI E G ops K s0 c0 w0 h0 (i::pre) lm r s' hs val' pb L c' w a:=by
 have C:=mJ D.chk;obtain⟨o,ty,y,d,vs,Et,ho,hop,hy,hdst,hu,hb,hz,hno,hnk,hge⟩:=D.sj i hl C.new;have hrun:=D.run;unfold aZ at hrun;rw [ho]at hrun;obtain⟨hm,hrun⟩:=hrun;have h2:kindOf o.op=2:=by grind [zK]
 rw [h2]at hrun;simp only [aX,hop,hy,aD]at hrun;obtain⟨hz0,hrun⟩:=hrun;have hrest:uE ops.toList (mD (masks ops.toList)) (i::pre) lm r=true:=by have:=C.rest;simp_all
 rw [<-D.cn]at hrun;obtain⟨ph,pn,pk,pm⟩:= @Pn _ {s with h:=(c.n,.box y.zero)::s.h,k:=s.k+1} o.dst (some (.c (.ptr c.n y.size 0 0)));have hle:=c.oZ (some (pb i));have hO:gq (c.name (some (pb i))) w c.n (.box y.zero):=⟨pb i,vs.toList,Et,by simp [Ctx.nameAt,upd],hb,hz _ _⟩;have H':=D.heap.reg hO hno hnk;have hfresh:look s.h c.n=none:=by
  cases hx:look s.h c.n with
  | none=>rfl
  | some ob=>exact absurd (D.heap.obj _ _ hx).1 (Nat.lt_irrefl _)
 have mono:∀ {u:Value} {v:PV},bg c w u v->bg (c.name (some (pb i))) w u v:=λh=>h.mono hle (λ_ _ _=>rfl) (.refl _)
 refine⟨_,λj=>if j=i then some (.c (.ptr c.n y.size 0 0))else val j,c.name (some (pb i)),{
  run:=hrun
  chk:=hrest
  cov:=λj hj=>by
   rcases D.cov j hj with h | h
   all_goals grind
  done:=λj h1 h2=>by
   rcases List.mem_cons.1 h1 with rfl | h1
   .exact hl
   .exact D.done j h1 h2
  only:=λj hj=>(D.only j hj).imp (List.mem_cons_of_mem _) id
  closed:=D.closed,size:=D.size
  s1:=λj x v' h1 h2 h3 h4=>by
   by_cases e:j=i
   .subst e;simp only [if_true,Option.some.injEq]at h4;subst h4;rw [bN ho,hdst]at h1;cases h1;refine⟨_,hu,?_⟩;have:=bB.ptr (c:=c.name (some (pb j))) (w:=w) c.n y.size 0 0 (pb j) 0 (Nat.lt_succ_self _) (by simp [Ctx.nameAt,upd]);exact .c _ _ (by simpa using this)
   .simp only [e,if_false]at h4;obtain⟨u,a1,a2⟩:=D.s1 j x v' h1 h2 ((List.mem_cons.1 h3).resolve_left e) h4;simp_all
  s2:=λx v' h1 h2=>let⟨u,a1,a2⟩:=D.s2 x v' h1 h2;⟨u,a1,mono a2⟩
  t1:=λj x h1 h2=>by
   by_cases e:j=i
   .grind [bN,Bt]
   .rw [if_neg e,wN (λd hd e'=>mI hap ((bN ho).trans hd) h1 (Ne.symm e) e')];exact D.t1 j x h1 ((List.mem_cons.1 h2).resolve_left e)
  t2:=λx h1=>by
   rw [wN (λd hd e'=>h1 i (by rw [bN ho,hd,e']) (by simp))];exact D.t2 x (λj hj hp=>h1 j hj (List.mem_cons_of_mem _ hp))
  pend:=λj h1 h2=>by
   have e:j≠i:=λe=>h2 (e▸hl)
   obtain⟨o',t,p1,p2,p3,p4⟩:=D.pend j ((List.mem_cons.1 h1).resolve_left e) h2;refine⟨o',t,p1,by rw [pm];exact p2,λx v' hv=>Src.mono C.new _ (p3 x v' hv),?_⟩
   grind [Vn]
  sj:=λj h1 h2=>by
   have e:j≠i:=λe=>h2 (e▸List.mem_cons_self)
   obtain⟨o',ty,y',d,vs,Et,p1,p2,p3,p4,p5,p6,p7,p8,p9,p10⟩:=D.sj j h1 (λhp=>h2 (List.mem_cons_of_mem _ hp));refine⟨o',ty,y',d,vs,Et,p1,p2,p3,p4,p5,p6,p7,?_,p9,p10⟩;rw [ph];rintro⟨l,ob,b1,b2,b3⟩;by_cases e':c.n=l
   .subst e';have:(c.name (some (pb i))).μ c.n=some (pb i):=by simp [ji,upd]
    rw [this]at b3;exact e (D.dist j i h1 (λhp=>h2 (List.mem_cons_of_mem _ hp)) hl C.new (Option.some.inj b3).symm)
   .rw [aj _ _ e']at b1;exact p8 ⟨l,ob,b1,b2,by rw [<-hle.μ l (D.heap.obj l ob b1).1];exact b3⟩
  dist:=λj k h1 h2 h3 h4=>D.dist j k h1 (λhp=>h2 (List.mem_cons_of_mem _ hp)) h3 (λhp=>h4 (List.mem_cons_of_mem _ hp))
  heap:=by rw [ph];exact H'
  glob:=D.glob
  grow:=by rw [ph];exact D.grow.reg D.heap hge
  cn:=by
   rw [pn,pk];show c.n+1=nm s.n (s.k+1);rw [D.cn];simp [nm,Nat.add_assoc]
  defers:=D.defers
  oq:=by rw [pm];exact D.oq
  sn:=by rw [pn];exact D.sn
  sm:=by rw [pm];exact D.sm
  ms:=D.ms
  mp:=λm hm hlm=>by
   obtain⟨b,M⟩:=D.mp m hm hlm;obtain⟨es,clk,e1,e2⟩:=M.obj;refine⟨b,⟨M.slot,⟨es,clk,e1,e2⟩,?_,M.nk,M.ge,M.mv⟩⟩;rw [ph];rintro⟨l,ob,b1,b2,b3⟩;by_cases e':c.n=l
   .subst e';have:(c.name (some (pb i))).μ c.n=some (pb i):=by simp [ji,upd]
    simp_all
   .rw [aj _ _ e']at b1;exact M.no ⟨l,ob,b1,b2,by rw [<-hle.μ l (D.heap.obj l ob b1).1];exact b3⟩}⟩
theorem SK{E:Tab}{ops:List Oper}{h:Heap}{hs:List Held}{j:Nat}:∀ {cs:List Nat},jS E ops h hs cs->j∈cs->∀ {o:Oper} {t:Slots} {v:Option PV},iF hs j=some (o,t,v)->eH E ops o t h (λv'=>v'=v)
 | [],_,hj,_,_,_,_=>by cases hj
 | x::cs,hr,hj,o,t,v,hf=>by
  rcases List.mem_cons.1 hj with rfl | hj
  .have:=hr.1;simp_all
  .exact SK hr.2 hj hf
theorem DI.step{i:Nat}{rs cs:List Nat}{r:List dK}(D:DI E G ops K s0 c0 w0 h0 pre lm ((i,rs,cs)::r) s hs val pb L c w a)
  (hap:dG ops.toList=true) (hk:bK ops.toList i=3) {o:Oper} (ho:ops.toList[i]? =some o) (hd:∀e∈o.after.toList,Region.binds .any e=true->Lst L e.on) (hm:dOK s.m o.dst)
  {u:Value} {v:PV} {c':Ctx} {w':World} {h':Heap} {k':Nat} (g:Grow c w s.h c' w' h') (H:bC c' w' h') (hn:c'.n=nm s.n k') (hrel:bg c' w' u v)
  (hld:∀j o' t,j∈pre->¬Lst L j->ops.toList[j]? =some o'->isLoad o'.op=true->iF hs j=some (o',t,val j)->eH E ops.toList o' t s.h (λv'=>v'=val j)->eH E ops.toList o' t h' (λv'=>v'=val j))
  (hrun:aZ E G ops.toList r hs K (St.put {s with h:=h',k:=k'} o.dst (some v))):
  DI E G ops K s0 c0 w0 h0 (i::pre) (if bK ops.toList i=3 then some i else lm) r (St.put {s with h:=h',k:=k'} o.dst (some v)) hs (λj=>if j=i then some v else val j) pb (L.setIfInBounds i true) c' w' (a.put o.dst u):=by
 have C:=mJ D.chk;have hnl:¬Lst L i:=λhl=>(D.only i hl).elim C.new (λh=>by omega)
 have hi:i<L.size:=by rw [D.size];simpa using C.lt
 obtain⟨ph,pn,pk,pm⟩:= @Pn _ {s with h:=h',k:=k'} o.dst (some v);have hoff:∀j r u,gslot ops.toList j=some r->j≠i->(a.put o.dst u).tmps[r]? =a.tmps[r]? :=λj r u hj hne=>qb (λd hd e=>mI hap ((bN ho).trans hd) hj (Ne.symm hne) e)
 exact {
  run:=hrun
  chk:=C.rest
  cov:=λj hj=>by
   rcases D.cov j hj with h | h
   all_goals grind
  done:=λj h1 h2=>(bE hi).2 (by
   rcases List.mem_cons.1 h1 with rfl | h1
   .exact .inl rfl
   .exact .inr (D.done j h1 h2))
  only:=λj hj=>by
   rcases(bE hi).1 hj with rfl | hj
   .simp_all
   .exact(D.only j hj).imp (List.mem_cons_of_mem _) id
  closed:=D.closed.set ho hi hd
  size:=by simp [D.size]
  s1:=λj x v' h1 h2 h3 h4=>by
   by_cases e:j=i
   .subst e;simp only [if_true,Option.some.injEq]at h4;subst h4;rw [bN ho]at h1;refine⟨u,?_,hrel⟩;rw [h1]at hm ⊢;exact vJ (by rw [D.oq];exact hm)
   .simp only [e,if_false]at h4;obtain⟨u',a1,a2⟩:=D.s1 j x v' h1 (((bE hi).1 h2).resolve_left e) ((List.mem_cons.1 h3).resolve_left e) h4;exact⟨u',by grind,a2.grow D.heap g⟩
  s2:=λx v' h1 h2=>by
   obtain⟨u',a1,a2⟩:=D.s2 x v' (λj hj hl=>h1 j hj ((bE hi).2 (.inr hl))) h2;exact⟨u',by rw [qb (λd hd e=>h1 i (by rw [bN ho,hd,e]) ((bE hi).2 (.inl rfl)))];exact a1,a2.grow D.heap g⟩
  t1:=λj x h1 h2=>by
   by_cases e:j=i
   .grind [bN,Bt]
   .rw [if_neg e,wN (λd hd e'=>mI hap ((bN ho).trans hd) h1 (Ne.symm e) e')];exact D.t1 j x h1 ((List.mem_cons.1 h2).resolve_left e)
  t2:=λx h1=>by
   rw [wN (λd hd e'=>h1 i (by rw [bN ho,hd,e']) (by simp))];exact D.t2 x (λj hj hp=>h1 j hj (List.mem_cons_of_mem _ hp))
  pend:=λj h1 h2=>by
   have e:j≠i:=λe=>h2 ((bE hi).2 (.inl e))
   have hnj:¬Lst L j:=λhl=>h2 ((bE hi).2 (.inr hl))
   have hjp:=(List.mem_cons.1 h1).resolve_left e;obtain⟨o',t,p1,p2,p3,p4⟩:=D.pend j hjp hnj;refine⟨o',t,p1,by rw [pm];exact p2,λx v' hv=>Src.mono C.new _ (p3 x v' hv),?_⟩;simp only [e,if_false];rw [ph];rcases p4 with⟨q1,q2,q3⟩ | q
   .refine .inl ⟨q1,q2,?_⟩;by_cases hlo:isLoad o'.op=true
    .simp_all
    .show eH E ops.toList o' t h' _;rw [<-Ph (by simpa using hlo) t s.h h'];exact q3
   .exact .inr q
  sj:=λj h1 h2=>by
   have e:j≠i:=λe=>h2 (e▸List.mem_cons_self)
   obtain⟨o',ty,y',d,vs,Et,p1,p2,p3,p4,p5,p6,p7,p8,p9,p10⟩:=D.sj j (((bE hi).1 h1).resolve_left e) (λhp=>h2 (List.mem_cons_of_mem _ hp));obtain⟨q1,q2,q3⟩:=wM g p6 p8 p9;exact⟨o',ty,y',d,vs,Et,p1,p2,p3,p4,by rw [hoff j d u ((bN p1).trans p4) e];exact p5,q1,p7,by rw [ph];exact q2,q3,p10⟩
  dist:=λj k h1 h2 h3 h4=>by
   have e:j≠i:=λe=>h2 (e▸List.mem_cons_self)
   have e':k≠i:=λe=>h4 (e▸List.mem_cons_self)
   exact D.dist j k (((bE hi).1 h1).resolve_left e) (λhp=>h2 (List.mem_cons_of_mem _ hp)) (((bE hi).1 h3).resolve_left e') (λhp=>h4 (List.mem_cons_of_mem _ hp))
  heap:=by rw [ph];exact H
  glob:=D.glob.grow D.heap g
  grow:=by rw [ph];exact D.grow.trans g
  cn:=by simp_all
  defers:=by rw [put_defers];exact D.defers
  oq:=by rw [EC,pm];exact D.oq
  sn:=by rw [pn];exact D.sn
  sm:=by rw [pm];exact D.sm
  ms:=D.ms
  mp:=by rw [ph];exact D.mp.keep D.ms hap D.closed hi ho hnl (ED (by grind [zK])) g}
theorem DI.mut(hE:aR E)(hG:jZ E G){Q:Exit->Act->World->Prop}{i:Nat}{rs cs:List Nat}{r:List dK}(D:DI E G ops K s0 c0 w0 h0 pre lm ((i,rs,cs)::r) s hs val pb L c w a)
  (hap:dG ops.toList=true) (hk:bK ops.toList i=3) {o:Oper} (ho:ops.toList[i]? =some o) (hd:∀e∈o.after.toList,Region.binds .any e=true->Lst L e.on) {next:Act->World->Prop} (hm:dOK s.m o.dst)
  (hrun:xu E G o (cut s.t rs) s λv h k=>jS E ops.toList h hs cs/\aZ E G ops.toList r hs K (St.put {s with h:=h,k:=k} o.dst (some v)))
  (hnext:∀lm' s' val' c' w' u,DI E G ops K s0 c0 w0 h0 (i::pre) lm' r s' hs val' pb (L.setIfInBounds i true) c' w' (a.put o.dst u)->next (a.put o.dst u) w'):o.wp E.P a w next Q:=by
 have C:=mJ D.chk;have hnl:¬Lst L i:=λhl=>(D.only i hl).elim C.new (λh=>by omega)
 have A:=D.src ho hnl hd (D.rd C.new C.rd) s.h D.heap;refine Pj hE hG A D.cn o ?_ hrun;rintro u v c' w' h' k' g H hn hrel ⟨hck,hrun⟩;refine hnext _ _ _ c' w' u (D.step hap hk ho hd hm g H hn hrel (λj o' t hjp hnj p1 hlo q2 q3=> ?_) hrun);rcases C.three hk j hjp (by grind [loadAt])with hx | hx
 .exact absurd (om D.closed (lY hx) (λo'' ho'=>by simp_all)) hnj
 .exact SK hck hx q2
theorem SN{ops:List Oper}{anc:Nat->Nat->Bool}{q:Nat}:∀ {suf:List dK} {pre:List Nat} {lm:Option Nat},uE ops (mD (masks ops)) pre lm suf=true->q∈suf.map (·.1)->q∉pre
 | [],_,_,_,hq=>by cases hq
 | (i,rs,cs)::r,pre,lm,h,hq=>by
  have C:=mJ h;simp only [List.map_cons,List.mem_cons]at hq;rcases hq with rfl | hq
  .exact C.new
  .exact λhp=>SN (anc:=anc) C.rest hq (List.mem_cons_of_mem _ hp)
theorem DN{ops:List Oper}{i:Nat}(hk:bK ops i≠2):∀ {suf:List dK} {pre:List Nat} {lm:Option Nat},uE ops (mD (masks ops)) pre lm suf=true->i∈suf.map (·.1)->
  (∃q,q∈suf.map (·.1)/\bK ops q=3/\mD (masks ops) i q=true)\/∀q,lm=some q->mD (masks ops) i q=true
 | [],_,_,_,hq=>by cases hq
 | (x,rs,cs)::r,pre,lm,h,hq=>by
  have C:=mJ h;simp only [List.map_cons,List.mem_cons]at hq;rcases hq with rfl | hq
  .exact .inr (C.after.resolve_left hk)
  .rcases DN hk C.rest hq with⟨q,h1,h2,h3⟩ | h1
   all_goals grind
theorem IV{ops:List Oper}{i:Nat}(hk:bK ops i<=1):∀ {suf:List dK} {pre:List Nat} {lm:Option Nat},uE ops (mD (masks ops)) pre lm suf=true->i∈suf.map (·.1)->(∀x rs cs r,suf=(x,rs,cs)::r->bK ops x=2\/bK ops x=3)->
  ∃q,q∈suf.map (·.1)/\bK ops q=3/\mD (masks ops) i q=true
 | [],_,_,_,hq,_=>by cases hq
 | (x,rs,cs)::r,pre,lm,h,hq,hh=>by
  have C:=mJ h;simp only [List.map_cons,List.mem_cons]at hq ⊢;have hx:=hh x rs cs r rfl;have hne:i≠x:=λe=>by subst e;omega
  have hq:=hq.resolve_left hne;rcases hx with hx | hx
  .have hn:=(C.two hx).1;have hr:∀y rs cs r',r=(y,rs,cs)::r'->bK ops y=2\/bK ops y=3:=λy rs cs r' e=>by grind [CV]
   obtain⟨q,h1,h2,h3⟩:=IV hk C.rest hq hr
   grind
  .rcases DN ah C.rest hq with⟨q,h1,h2,h3⟩ | h1
   all_goals grind
theorem MZ{ops:List Oper}{i x:Nat}(hk:bK ops i=3):∀ {r:List dK} {pre:List Nat} {lm:Option Nat},uE ops (mD (masks ops)) pre lm r=true->i∈r.map (·.1)->CV ops (mD (masks ops)) x r=true->
  mD (masks ops) i x=true\/∃q,q∈r.map (·.1)/\bK ops q=3/\mD (masks ops) i q=true
 | [],_,_,_,hq,_=>by cases hq
 | (y,rs,cs)::r,pre,lm,h,hq,hn=>by
  have C:=mJ h;simp only [List.map_cons,List.mem_cons]at hq ⊢;unfold CV at hn;split at hn
  .rename_i hy;have hq:=hq.resolve_left (λe=>by subst e;omega);rcases MZ hk C.rest hq hn with h1 | ⟨q,h1,h2,h3⟩
   all_goals grind
  .simp only [Bool.and_eq_true,beq_iff_eq]at hn;rcases hq with rfl | hq
   .exact .inl hn.2
   .rcases DN ah C.rest hq with⟨q,h1,h2,h3⟩ | h1
    all_goals grind
end
end Go.AE
namespace Go.AE
open Go
variable [aQ]
theorem SQ{ops:List Oper}{j:Nat}{k:Int}{r:Nat}(h:pY ops j k r):(k,r)∈nN ops:=by
 obtain⟨o,ty,x,h1,h2⟩:=h;unfold nN;rw [List.mem_filterMap];exact⟨o,List.mem_of_getElem? h1,by unfold CU;rw [h2]⟩
theorem WG{o:Oper}{k:Int}{r:Nat}(h:CU o=some (k,r)):∃ty x,o.op= .insert ty x (.const (.int .i64 k)) (.tmp r):=by grind [CU]
theorem acd{ops:List Oper}{k:Int}{r:Nat}(h:(k,r)∈nN ops):∃j,pY ops j k r:=by
 unfold nN at h;rw [List.mem_filterMap]at h;obtain⟨o,h1,h2⟩:=h;obtain⟨j,h3⟩:=List.mem_iff_getElem?.1 h1;obtain⟨ty,x,e⟩:=WG h2;exact⟨j,o,ty,x,h3,e⟩
theorem EF:∀ {ops:List Oper} {i j:Nat} {k:Int} {r r':Nat},((nN ops).map Prod.fst).Nodup->pY ops i k r->pY ops j k r'->i=j/\r=r'
 | [],i,_,_,_,_,_,h,_=>by obtain⟨o,ty,x,h1,_⟩:=h;simp at h1
 | o::ops,i,j,k,r,r',hn,h,h'=>by
  have hh:∀ {j:Nat} {r:Nat},pY (o::ops) (j+1) k r->pY ops j k r:=λ⟨o',ty,x,a,b⟩=>⟨o',ty,x,by simpa using a,b⟩
  have h0:∀ {r:Nat},pY (o::ops) 0 k r->CU o=some (k,r):=λ⟨o',ty,x,a,b⟩=>by grind [CU]
  have tail:((nN ops).map Prod.fst).Nodup:=by grind [nN,CU,List.filterMap_cons_none,List.filterMap_cons_some,List.nodup_cons]
  have clash:∀ {j:Nat} {r r':Nat},CU o=some (k,r)->pY ops j k r'->False:=λe hj=>by
   unfold nN at hn;rw [List.filterMap_cons_some e,List.map_cons]at hn;exact(List.nodup_cons.1 hn).1 (List.mem_map.2 ⟨_,SQ hj,rfl⟩)
  cases i with
  | zero=>
   cases j with
   | zero=>grind
   | succ j=>grind
  | succ i=>
   cases j with
   | zero=>grind
   | succ j=>
    obtain⟨e1,e2⟩:=EF tail (hh h) (hh h');omega
theorem EG{t:Slots}{n:Int}:∀ {l:List (Int×Nat)} {K:Bool->Prop},Ey t n l K->(K false/\∀r,(n,r)∉l)\/∃r f b,(n,r)∈l/\aA t r=some (.c (.d f (.bool b)))/\K b
 | [],K,h=> .inl ⟨h,λr hr=>by cases hr⟩
 | (k',r)::rest,K,h=>by
  obtain⟨f,b,h1,h2⟩:=h;by_cases e:n=k'
  .grind
  .rw [if_neg e]at h2;rcases EG h2 with⟨a1,a2⟩ | ⟨r',f',b',a1,a2,a3⟩
   all_goals grind
section
variable {E:Tab} {G:fO} {ops:Array Oper} {K:St->Prop} {s0:St} {c0:Ctx} {w0:World} {h0:Heap} {pre:List Nat} {lm:Option Nat} {suf:List dK} {s:St} {hs:List Held}
 {val:Nat->Option PV} {pb:Nat->Nat} {L:Array Bool} {c:Ctx} {w:World} {a:Act}
theorem DI.one(D:DI E G ops K s0 c0 w0 h0 pre lm suf s hs val pb L c w a)(hap:dG ops.toList=true){i m:Nat}(hi:qZ ops.toList i=true)(hm:qZ ops.toList m=true):m=i:=by
 by_cases e:m=i
 .exact e
 .exact absurd rfl (mI hap (D.ms.gD hm) (D.ms.gD hi) e)
theorem zL{a:Act}{r:Nat}{u:Value}(h:a.tmps[r]? =some u):a.eval (.tmp r)=u:=by
 simp [Act.eval,h]
theorem DI.mkM(D:DI E G ops K s0 c0 w0 h0 pre lm suf s hs val pb L c w a)(hap:dG ops.toList=true){i:Nat}{o:Oper}(ho:ops.toList[i]? =some o)(hp:i∈pre)(hnl:¬Lst L i)(hd:∀e∈o.after.toList,Region.binds .any e=true->Lst L e.on)
  (hm:dOK s.m o.dst) {ty:TypeId} {r:Option Operand} (hop:o.op= .makeMap ty r) (hv:val i=none):∃u w',(execOp a.eval o).run E.P w= .ok (.value u) w'/\DI E G ops K s0 c0 w0 h0 pre lm suf s hs val pb (L.setIfInBounds i true) c w' (a.put o.dst u):=by
 have S:=D.ms;obtain⟨rfl,hdst⟩:=S.mkm i o ty r ho hop;have hi:i<L.size:=by rw [D.size];grind
 have hmi:qZ ops.toList i=true:=by grind [qZ]
 have sd:=side (w':=w.alloc (.map #[] 0)) D.heap (K:=c.K) (Nat.le_of_lt (lt_of_some (kE _ _))) (λb hb=>alloc_old hb) (qM _ _) (λ_ _ h=>h) (λ_ _ h=> .inl h)
  (λf b hb=>Nat.lt_of_lt_of_le (D.heap.low f b hb) (Nat.le_of_lt (lt_of_some (kE _ _)))) D.heap.sub rfl rfl rfl
 have no:∀j,Lst (L.setIfInBounds i true) j->j≠i->(∃m,qZ ops.toList m=true/\Reach ops.toList j m)->False:=λj hl hne ⟨m,h1,h2⟩=>by
  have:=rZ D.closed h2 (((bE hi).1 hl).resolve_left hne);rw [D.one hap hmi h1]at this;exact hnl this
 refine⟨.map (some w.heap.size),w.alloc (.map #[] 0),by simp [execOp,hop,run_makeMap],D.JX hap ho hp hd hm sd.2 sd.1 rfl (λv h=>by simp_all) λm hm' hl=> ?_⟩;have:=D.one hap hmi hm';subst this;refine⟨w.heap.size,⟨?_,⟨#[],0,kE _ _,λe he=>by simp at he,λj k r hj hl'=> ?_⟩,λho'=>absurd (D.heap.lt ho') (Nat.lt_irrefl _),λf hf=>absurd (D.heap.low f _ hf) (Nat.lt_irrefl _),D.grow.size,λj hj hl'=> ?_⟩⟩
 .rw [hdst]at hm ⊢;exact vJ (by rw [D.oq];exact hm)
 .exfalso;refine no j hl' (λe=> ?_) ?_
  .subst e;have:=zJ hj
   grind [vI]
  .obtain⟨o',ty',x',q1,q2⟩:=hj;obtain⟨_,_,_,_,_,_,_,q3,_⟩:=S.ins j o' ty' x' _ _ q1 q2;exact q3
 .exfalso;refine no j hl' (λe=> ?_) ?_
  .grind [Bq]
  .obtain⟨o',x',q1,q2,q3⟩:=SG hj;exact(S.mv j o' x' q1 q2 q3).2.2
theorem DI.mvM(D:DI E G ops K s0 c0 w0 h0 pre lm suf s hs val pb L c w a)(hap:dG ops.toList=true){i:Nat}{o:Oper}(ho:ops.toList[i]? =some o)(hp:i∈pre)(hnl:¬Lst L i)(hd:∀e∈o.after.toList,Region.binds .any e=true->Lst L e.on)
  (hm:dOK s.m o.dst) {x:Operand} (hop:o.op= .move x) (hx:nS x=true) (hv:val i=none):∃u w',(execOp a.eval o).run E.P w= .ok (.value u) w'/\DI E G ops K s0 c0 w0 h0 pre lm suf s hs val pb (L.setIfInBounds i true) c w' (a.put o.dst u):=by
 have S:=D.ms;obtain⟨rfl,hdst,m,hm1,hm2⟩:=S.mv i o x ho hop hx;have hi:i<L.size:=by rw [D.size];grind
 have hmv:Bq ops.toList i=true:=by grind [Bq]
 have hml:=om D.closed hm2 (λo' ho'=>by simp_all);obtain⟨b,M⟩:=D.mp m hm1 hml;have off:∀j r u,gslot ops.toList j=some r->j≠i->(a.put o.dst u).tmps[r]? =a.tmps[r]? :=λj r u hj hne=>qb (λd hd e=>mI hap ((bN ho).trans hd) hj (Ne.symm hne) e)
 have hmi:∀ {m},qZ ops.toList m=true->m≠i:=λh e=>by grind [qZ]
 have hii:∀ {j k r},pY ops.toList j k r->j≠i:=λh e=>by
  subst e;have:=zJ h;grind [vI]
 refine⟨.map (some b),w,by simp [execOp,hop,zL M.slot],D.JX hap ho hp hd hm (.refl _ _ _) D.heap rfl (λv h=>by simp_all) λm' hm' hl=> ?_⟩;obtain⟨es,clk,e1,e2,e3⟩:=M.obj;refine⟨b,⟨by rw [off m _ _ (S.gD hm1) (hmi hm1)];exact M.slot,⟨es,clk,e1,λe he=> ?_,λj k r hj hl'=> ?_⟩,M.no,M.nk,M.ge,λj hj hl'=> ?_⟩⟩
 .obtain⟨j,k,r,q1,q2,q3,q4⟩:=e2 e he;exact⟨j,k,r,q1,(bE hi).2 (.inr q2),q3,by rw [qb (λd hd e=>hnl (rZ D.closed (S.reads q1 ((bN ho).trans (hd.trans (congrArg some e)))) q2))];exact q4⟩
 .have hl2:=((bE hi).1 hl').resolve_left (hii hj);obtain⟨e,q1,q2,q3⟩:=e3 j k r hj hl2;exact⟨e,q1,q2,by rw [qb (λd hd e=>hnl (rZ D.closed (S.reads hj ((bN ho).trans (hd.trans (congrArg some e)))) hl2))];exact q3⟩
 .rw [hdst]at hm ⊢;exact vJ (by rw [D.oq];exact hm)
theorem DI.lkM(D:DI E G ops K s0 c0 w0 h0 pre lm suf s hs val pb L c w a)(hap:dG ops.toList=true){i:Nat}{o:Oper}(ho:ops.toList[i]? =some o)(hp:i∈pre)(hnl:¬Lst L i)(hd:∀e∈o.after.toList,Region.binds .any e=true->Lst L e.on)
  (hm:dOK s.m o.dst) {t:Slots} (A:pR E c w t s.h a) {ty:TypeId} {x:Operand} {q:Nat} {ok:Bool} (hop:o.op= .lookup ty x (.tmp q) ok) (hv:zM E ops.toList o.op t (λv=>val i=v)):∃u w',(execOp a.eval o).run E.P w= .ok (.value u) w'/\DI E G ops K s0 c0 w0 h0 pre lm suf s hs val pb (L.setIfInBounds i true) c w' (a.put o.dst u):=by
 have S:=D.ms;obtain⟨rfl,rfl,_,hty,⟨m,hm1,hm2⟩,⟨mv,hv1,hv2⟩,hins⟩:=S.lk i o ty x _ ok ho hop;have hl:∀ {j},Reach ops.toList i j->Lst L j:=λh=>om D.closed h (λo' ho'=>by simp_all)
 obtain⟨b,M⟩:=D.mp m hm1 (hl hm2);have hE:=M.mv mv hv1 (hl hv2);rw [hop]at hv;obtain⟨f,n,hq,hg⟩:=hv;obtain⟨uq,hq1,hq2⟩:=A.slot q _ hq;have:=iC hq2;subst this;obtain⟨es,clk,e1,e2,e3⟩:=M.obj;obtain⟨u,hrun,hu⟩:=Pm hty e1 (k:=n) (λe he=>by grind);have hb:∃bb,u= .bool bb/\val i=some (.c (.d true (.bool bb))):=by
  rcases EG hg with⟨g1,g2⟩ | ⟨r,f',bb,g1,g2,g3⟩
  .refine⟨false,?_,g1⟩;rcases hu with⟨hu,_⟩ | ⟨e,he,hk,_⟩
   .exact hu
   .exfalso;obtain⟨j,k,r,q1,_,q3,_⟩:=e2 e he;rw [hk]at q3;injection q3 with _ q3;subst q3;exact g2 r (SQ q1)
  .refine⟨bb,?_,g3⟩;obtain⟨j,hj⟩:=acd g1;obtain⟨e,he,hk,hr⟩:=e3 j n r hj (hl (hins j (zJ hj)));obtain⟨ur,hr1,hr2⟩:=A.slot r _ g2;have:=jv hr2;subst this;rcases hu with⟨_,hu⟩ | ⟨e',he',hk',hv'⟩
   .simp_all
   .obtain⟨j',k',r',q1,_,q3,q4⟩:=e2 e' he';rw [hk']at q3;injection q3 with _ q3;subst q3;obtain⟨_,q5⟩:=EF S.nd q1 hj;simp_all
 obtain⟨bb,rfl,hval⟩:=hb;refine⟨.bool bb,w,by simp_all [execOp,zL],D.listed hap ho hp hnl (by rw [hop];rfl) hd hm (.refl _ _ _) D.heap rfl λv h=> ?_⟩;rw [hval]at h;cases h;exact .c _ _ (.d _ _ _ (.bool _))
theorem DI.ald(D:DI E G ops K s0 c0 w0 h0 pre lm suf s hs val pb L c w a)(hap:dG ops.toList=true){i:Nat}{o:Oper}(ho:ops.toList[i]? =some o)(hp:i∈pre)(hnl:¬Lst L i)(hd:∀e∈o.after.toList,Region.binds .any e=true->Lst L e.on)
  (hm:dOK s.m o.dst) {t:Slots} (A:pR E c w t s.h a) {ty:TypeId} {x k v:Operand} (hop:o.op= .insert ty x k v) (hv:zM E ops.toList o.op t (λv=>val i=v)):∃w',(execOp a.eval o).run E.P w= .ok .skip w'/\DI E G ops K s0 c0 w0 h0 pre lm suf s hs val pb (L.setIfInBounds i true) c w' a:=by
 have S:=D.ms;obtain⟨hdst,n,r,rfl,rfl,rfl,hty,⟨m,hm1,hm2⟩,_⟩:=S.ins i o ty x k v ho hop;have hi:i<L.size:=by rw [D.size];grind
 have hml:=om D.closed hm2 (λo' ho'=>by simp_all);obtain⟨b,M⟩:=D.mp m hm1 hml;rw [hop]at hv;obtain⟨⟨p,hpr⟩,hv⟩:=hv;obtain⟨ur,hr1,_⟩:=A.slot r _ hpr;have own:pY ops.toList i n r:=⟨o,ty,_,ho,hop⟩;obtain⟨es,clk,e1,e2,e3⟩:=M.obj;have hrun:=Pk hty e1 (k:=n) (v:=ur) (λe he=>by grind) (λe he hk=>by
  obtain⟨j,k',r',q1,q2,q3,_⟩:=e2 e he;rw [hk]at q3;injection q3 with _ q3;subst q3;obtain⟨q4,_⟩:=EF S.nd q1 own;simp_all)
 generalize hw:({w with heap:=w.heap.setIfInBounds b (.map (es.push {key:= .int .i64 n,val:=ur,born:=clk}) (clk+1))}:World)=w' at hrun;refine⟨w',?_,?_⟩
 .have h1:=zL M.slot;have h2:=zL hr1;have h3:a.eval (.const (.int .i64 n))= .int .i64 n:=rfl;simp_all [execOp]
 have hbl:=lt_of_some e1;have hold:∀b',b'≠b->w'.heap[b']? =w.heap[b']? :=λb' hne=>by grind
 have hnew:w'.heap[b]? =some (.map (es.push {key:= .int .i64 n,val:=ur,born:=clk}) (clk+1)):=by grind
 have hsz:w'.heap.size=w.heap.size:=by subst hw;simp
 have hcell:∀ {b':Nat} {vs:Array Value} {Et:TypeId} {fr:Nat×Nat},w.heap[b']? =some (.cells vs Et fr)->b'≠b:=λh e=>by simp_all
 have hK:∀f b',c.K f b'->w'.heap[b']? =w.heap[b']? :=λf b' h=>hold b' (λe=>by subst e;exact M.nk f h)
 have hO:∀b',fU c s.h b'->w'.heap[b']? =w.heap[b']? :=λb' h=>hold b' (λe=>by subst e;exact M.no h)
 have hst:World.jV w w':=Ei λb' c' E' fr h=>⟨c',fr,by grind,rfl⟩
 have hos:w'.os=w.os/\w'.tape=w.tape/\w'.output=w.output:=by grind
 have DD:=D.SH (u:=undef) hap ho hp hd hm (c':=c) (w':=w') (λh=>h.mono (.refl c) hK hst) (λh1 h2 h3=>⟨by grind,h2,h3⟩)
  (λg d hg=>by
   obtain⟨h1,u,h2,h3⟩:=D.glob g d hg;exact⟨h1,u,by grind [qL],h3.mono (λ_ h=>h) (hK false)⟩)
  ⟨D.grow.le,by rw [hsz];exact D.grow.size,D.grow.stays.trans hst,λb' hb' hn=>by rw [hold b' (λe=>by have:=M.ge;omega)];exact D.grow.kept b' hb' hn,D.grow.uT,D.grow.oV,hos.1.trans D.grow.os,hos.2.1.trans D.grow.tape,hos.2.2.trans D.grow.output⟩
  ⟨λl ob hl=>by
   obtain⟨a1,a2⟩:=D.heap.obj l ob hl;exact⟨a1,a2.mono (.refl c) hK hst a1 (λb' hlv hmu=>hO b' ⟨l,ob,hl,hlv,hmu⟩)⟩,D.heap.inj,D.heap.own,λf b' hb'=>by rw [hsz];exact D.heap.low f b' hb',D.heap.sub⟩
  rfl (λv h=>by simp_all) (λm' hm' hl'=> ?_)
 .rw [hdst]at DD;exact DD
 .have hput:a.put o.dst undef=a:=by rw [hdst];rfl
  rw [hput];refine⟨b,⟨M.slot,⟨_,_,hnew,λe he=> ?_,λj k' r' hj hl2=> ?_⟩,M.no,M.nk,M.ge,λj hj hl2=> ?_⟩⟩
  .grind [Array.toList_push,List.mem_singleton,bE]
  .by_cases e:j=i
   .subst e;obtain⟨o',ty',x',q1,q2⟩:=hj;simp_all
   grind [bE,Array.toList_push]
  .have hne:j≠i:=λe=>by grind [Bq]
   exact M.mv j hj (((bE hi).1 hl2).resolve_left hne)
end
end Go.AE
