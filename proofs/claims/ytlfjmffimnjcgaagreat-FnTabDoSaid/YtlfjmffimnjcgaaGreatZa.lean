/- Part 1 of a proof: what the last part needs. No condition. -/
import Derived.WalkKit
import Derived.WalkSpells
import Derived.Deep.LoopGhost
import Derived.Orders
set_option linter.all false
set_option linter.unusedSectionVars false
set_option linter.unusedVariables false
set_option linter.unusedSimpArgs false
namespace Go.AE
open Go
inductive D where
  | int (k:IntKind) (n:Int)
  | bool (b:Bool)
  | str (s:ByteArray)
  | rows (sz:Nat) (es:List (List D))
  deriving Inhabited
def gd (es:List (List D)) (i j:Nat):D:=(es.getD i []).getD j default
def D.scal:D→Bool | .rows _ _=>false | _=>true
inductive RelD (K:Nat→Prop) (w:World):Value→D→Prop
  | int (k:IntKind) (n:Int):RelD K w (.int k n) (.int k n)
  | bool (b:Bool):RelD K w (.bool b) (.bool b)
  | str (s:ByteArray):RelD K w (.string s) (.str s)
  | none (a:Option Addr) (cap sz:Nat):RelD K w (.slice a 0 cap) (.rows sz [])
  | rows (b off cap sz n:Nat) (es:List (List D)) (u:Nat→Nat→Value):K b→n=es.length→n≤cap→
      (∀i j,i<es.length→j<sz→w.cell? ⟨b,off+i*sz+j,none⟩=some (u i j))→
      (∀i,i<es.length→(es.getD i []).length=sz)→
      (∀i j,i<es.length→j<sz→RelD K w (u i j) (gd es i j))→
      RelD K w (.slice (some ⟨b,off,none⟩) n cap) (.rows sz es)
theorem cell?_congr {w w':World} {b:Nat} (h:w'.heap[b]? =w.heap[b]?) (o:Nat):w'.cell? ⟨b,o,none⟩=w.cell? ⟨b,o,none⟩:=by
  unfold World.cell?;simp only [h]
theorem RelD.mono {K K':Nat→Prop} {w w':World} (hK:∀b,K b→K' b) (hw:∀b,K b→w'.heap[b]? =w.heap[b]?) {v:Value} {x:D}
    (h:RelD K w v x):RelD K' w' v x:=by
  induction h with
  | int k n=>exact .int k n
  | bool b=>exact .bool b
  | str s=>exact .str s
  | none a cap sz=>exact .none a cap sz
  | rows b off cap sz n es u hb hn hcap hc hl _ ih=>
    exact .rows b off cap sz n es u (hK b hb) hn hcap (fun i j hi hj=>by rw [cell?_congr (hw b hb)];exact hc i j hi hj) hl ih
theorem RelD.scal {K:Nat→Prop} (K':Nat→Prop) {w:World} {v:Value} {x:D} (hs:x.scal=true) (h:RelD K w v x):RelD K' w v x:=by
  cases h with
  | int k n=>exact .int k n
  | bool b=>exact .bool b
  | str s=>exact .str s
  | none=>simp [D.scal]at hs
  | rows=>simp [D.scal]at hs
theorem RelD.mono' {K K':Nat→Prop} {w:World} (hK:∀b,K b→K' b) {v:Value} {x:D} (h:RelD K w v x):RelD K' w v x:=
  h.mono hK (fun _ _=>rfl)
structure Ctx where
  K:Bool→Nat→Prop
  μ:Nat→Option Nat
  n:Nat
inductive Cell where
  | d (f:Bool) (x:D)
  | nil
  | clip (f:Bool) (sz:Nat) (es:List (List D))
  | os (l sz lo n:Nat)
  | ptr (l sz i j:Nat)
  | rp (f:Bool) (sz:Nat) (es:List (List D)) (i j:Nat)
  | fn (g:FuncId) (cap:List Cell)
  | np
  deriving Inhabited
def World.room (w:World) (b m:Nat):Prop:=∃c E fr,w.heap[b]? =some (.cells c E fr)∧m≤c.size
inductive RelC (c:Ctx) (w:World):Value→Cell→Prop
  | d (f:Bool) (v:Value) (x:D):RelD (c.K f) w v x→RelC c w v (.d f x)
  | nil:RelC c w (.slice none 0 0) .nil
  | clip (f:Bool) (a:Option Addr) (n sz:Nat) (es:List (List D)):RelD (c.K f) w (.slice a n n) (.rows sz es)→RelC c w (.slice a n n) (.clip f sz es)
  | os0 (a:Option Addr) (l sz:Nat):l<c.n→c.μ l=none→RelC c w (.slice a 0 0) (.os l sz 0 0)
  | osE (a:Option Addr) (l sz lo b:Nat):l<c.n→c.μ l=some b→RelC c w (.slice a 0 0) (.os l sz lo 0)
  | os (l sz lo n cap b:Nat):l<c.n→c.μ l=some b→n≤cap→World.room w b ((lo+cap)*sz)→RelC c w (.slice (some ⟨b,lo*sz,none⟩) n cap) (.os l sz lo n)
  | ptr (l sz i j b:Nat):l<c.n→c.μ l=some b→RelC c w (.pointer (some ⟨b,i*sz+j,none⟩)) (.ptr l sz i j)
  | rp (f:Bool) (b off sz:Nat) (es:List (List D)) (i j:Nat) (u:Nat→Nat→Value):c.K f b→
      (∀i j,i<es.length→j<sz→w.cell? ⟨b,off+i*sz+j,none⟩=some (u i j))→
      (∀i,i<es.length→(es.getD i []).length=sz)→
      (∀i j,i<es.length→j<sz→RelD (c.K f) w (u i j) (gd es i j))→
      i<es.length→RelC c w (.pointer (some ⟨b,off+i*sz+j,none⟩)) (.rp f sz es i j)
  | fn (g:FuncId) (vs:List Value) (cap:List Cell):vs.length=cap.length→(∀i,i<cap.length→RelC c w (vs.getD i undef) (cap.getD i default))→
      RelC c w (.func (.func g) #[] vs.toArray) (.fn g cap)
  | np:RelC c w (.pointer none) .np
structure CLe (c c':Ctx):Prop where
  K:∀f b,c.K f b→c'.K f b
  n:c.n≤c'.n
  μ:∀l,l<c.n→c'.μ l=c.μ l
theorem CLe.refl (c:Ctx):CLe c c:=⟨fun _ _ h=>h,Nat.le_refl _,fun _ _=>rfl⟩
theorem CLe.trans {a b c:Ctx} (h:CLe a b) (k:CLe b c):CLe a c:=
  ⟨fun f x hx=>k.K f x (h.K f x hx),Nat.le_trans h.n k.n,fun l hl=>(k.μ l (Nat.lt_of_lt_of_le hl h.n)).trans (h.μ l hl)⟩
def World.Stays (w w':World):Prop:=∀b m,World.room w b m→World.room w' b m
theorem RelC.mono {c c':Ctx} {w w':World} (hc:CLe c c') (hw:∀f b,c.K f b→w'.heap[b]? =w.heap[b]?) (hs:World.Stays w w') {v:Value} {x:Cell}
    (h:RelC c w v x):RelC c' w' v x:=by
  induction h with
  | d f v x h=>exact .d f v x (h.mono (hc.K f) (hw f))
  | nil=>exact .nil
  | clip f a n sz es h=>exact .clip f a n sz es (h.mono (hc.K f) (hw f))
  | os0 a l sz hl hm=>exact .os0 a l sz (Nat.lt_of_lt_of_le hl hc.n) ((hc.μ l hl).trans hm)
  | osE a l sz lo b hl hm=>exact .osE a l sz lo b (Nat.lt_of_lt_of_le hl hc.n) ((hc.μ l hl).trans hm)
  | os l sz lo n cap b hl hm hn hr=>exact .os l sz lo n cap b (Nat.lt_of_lt_of_le hl hc.n) ((hc.μ l hl).trans hm) hn (hs b _ hr)
  | ptr l sz i j b hl hm=>exact .ptr l sz i j b (Nat.lt_of_lt_of_le hl hc.n) ((hc.μ l hl).trans hm)
  | rp f b off sz es i j u hb h1 h2 h3 h4=>
    exact .rp f b off sz es i j u (hc.K f b hb) (fun i j hi hj=>by rw [cell?_congr (hw f b hb)];exact h1 i j hi hj) h2
      (fun i j hi hj=>(h3 i j hi hj).mono (hc.K f) (hw f)) h4
  | fn g vs cap hl _ ih=>exact .fn g vs cap hl ih
  | np=>exact .np
inductive F2 {α β:Type} (R:α→β→Prop):List α→List β→Prop
  | nil:F2 R [] []
  | cons {a:α} {b:β} {l:List α} {m:List β}:R a b→F2 R l m→F2 R (a::l) (b::m)
inductive PV where
  | c (x:Cell)
  | agg (cs:List Cell)
  | tup (vs:List PV)
  deriving Inhabited
inductive RelV (c:Ctx) (w:World):Value→PV→Prop
  | c (v:Value) (x:Cell):RelC c w v x→RelV c w v (.c x)
  | agg (vs:List Value) (cs:List Cell):F2 (RelC c w) vs cs→RelV c w (.agg vs.toArray) (.agg cs)
  | tup (vs:List Value) (ps:List PV):vs.length=ps.length→(∀i,i<ps.length→RelV c w (vs.getD i undef) (ps.getD i default))→RelV c w (.tuple vs.toArray) (.tup ps)
theorem F2.mono {α β:Type} {R S:α→β→Prop} (h:∀a b,R a b→S a b) {l:List α} {m:List β} (hl:F2 R l m):F2 S l m:=by
  induction hl with
  | nil=>exact .nil
  | cons h1 _ ih=>exact .cons (h _ _ h1) ih
theorem F2.length {α β:Type} {R:α→β→Prop} {l:List α} {m:List β} (hl:F2 R l m):l.length=m.length:=by
  induction hl with
  | nil=>rfl
  | cons _ _ ih=>simp [ih]
theorem F2.get {α β:Type} {R:α→β→Prop} {l:List α} {m:List β} (hl:F2 R l m) {i:Nat} {b:β} (h:m[i]? =some b):∃a,l[i]? =some a∧R a b:=by
  induction hl generalizing i with
  | nil=>simp at h
  | @cons a b' l m h1 _ ih=>
    cases i with
    | zero=>simp at h;subst h;exact⟨a,by simp,h1⟩
    | succ i=>simp at h;simpa using ih h
theorem F2.set {α β:Type} {R:α→β→Prop} {l:List α} {m:List β} (hl:F2 R l m) (i:Nat) {a:α} {b:β} (h:R a b):F2 R (l.set i a) (m.set i b):=by
  induction hl generalizing i with
  | nil=>exact .nil
  | cons h1 h2 ih=>
    cases i with
    | zero=>exact .cons h h2
    | succ i=>exact .cons h1 (ih i)
theorem F2.append {α β:Type} {R:α→β→Prop} {l l':List α} {m m':List β} (hl:F2 R l m) (hl':F2 R l' m'):F2 R (l++l') (m++m'):=by
  induction hl with
  | nil=>exact hl'
  | cons h1 _ ih=>exact .cons h1 ih
theorem F2.take {α β:Type} {R:α→β→Prop} {l:List α} {m:List β} (hl:F2 R l m) (n:Nat):F2 R (l.take n) (m.take n):=by
  induction hl generalizing n with
  | nil=>simp;exact .nil
  | cons h1 _ ih=>cases n with
    | zero=>exact .nil
    | succ n=>exact .cons h1 (ih n)
theorem F2.drop {α β:Type} {R:α→β→Prop} {l:List α} {m:List β} (hl:F2 R l m) (n:Nat):F2 R (l.drop n) (m.drop n):=by
  induction hl generalizing n with
  | nil=>simp;exact .nil
  | cons h1 h2 ih=>cases n with
    | zero=>exact .cons h1 h2
    | succ n=>exact ih n
theorem F2.of_get {α β:Type} {R:α→β→Prop}:∀ {l:List α} {m:List β},l.length=m.length→(∀(i:Nat) (a:α) (b:β),l[i]? =some a→m[i]? =some b→R a b)→F2 R l m
  | [],[],_,_=> .nil
  | a::l,b::m,h,k=> .cons (k 0 a b rfl rfl) (F2.of_get (by simpa using h) fun i x y hx hy=>k (i+1) x y (by simpa using hx) (by simpa using hy))
theorem RelV.mono {c c':Ctx} {w w':World} (hc:CLe c c') (hw:∀f b,c.K f b→w'.heap[b]? =w.heap[b]?) (hs:World.Stays w w') {v:Value} {x:PV}
    (h:RelV c w v x):RelV c' w' v x:=by
  induction h with
  | c v x h=>exact .c v x (h.mono hc hw hs)
  | agg vs cs h=>exact .agg vs cs (F2.mono (fun _ _ h=>h.mono hc hw hs) h)
  | tup vs ps hl _ ih=>exact .tup vs ps hl ih
inductive AObj where
  | box (cs:List Cell)
  | rows (f:Bool) (sz:Nat) (es:List (List D))
  | gone
  deriving Inhabited
abbrev Heap:=List (Nat×AObj)
def look:Heap→Nat→Option AObj
  | [],_=>none
  | (m,o)::t,l=>if m=l then some o else look t l
def RowAt (K:Nat→Prop) (w:World) (cells:Array Value) (sz:Nat) (es:List (List D)):Prop:=
  ∀i,i<es.length→(es.getD i []).length=sz∧∀j,j<sz→∃v,cells[i*sz+j]? =some v∧RelD K w v (gd es i j)
def RelO (c:Ctx) (w:World) (l:Nat):AObj→Prop
  | .box cs=>∃b vs E,c.μ l=some b∧w.heap[b]? =some (.cells vs.toArray E (0,0))∧F2 (RelC c w) vs cs
  | .rows f sz es=>match c.μ l with
    | none=>es=[]
    | some b=>∃cells E,w.heap[b]? =some (.cells cells E (0,0))∧RowAt (c.K f) w cells sz es
  | .gone=>True
def AObj.live:AObj→Prop
  | .gone=>False
  | _=>True
def Owned (c:Ctx) (h:Heap) (b:Nat):Prop:=∃l o,look h l=some o∧o.live∧c.μ l=some b
structure RelH (c:Ctx) (w:World) (h:Heap):Prop where
  obj:∀l o,look h l=some o→l<c.n∧RelO c w l o
  inj:∀l o l' o' b,look h l=some o→o.live→look h l'=some o'→o'.live→c.μ l=some b→c.μ l'=some b→l=l'
  own:∀f b,Owned c h b→¬c.K f b
  low:∀f b,c.K f b→b<w.heap.size
  sub:∀b,c.K true b→c.K false b
structure Grow (c:Ctx) (w:World) (h:Heap) (c':Ctx) (w':World) (h':Heap):Prop where
  le:CLe c c'
  size:w.heap.size≤w'.heap.size
  stays:World.Stays w w'
  kept:∀b,b<w.heap.size→¬Owned c h b→w'.heap[b]? =w.heap[b]?
  newK:∀f b,c'.K f b→c.K f b∨w.heap.size≤b∨Owned c h b
  newO:∀b,Owned c' h' b→Owned c h b∨w.heap.size≤b
  os:w'.os=w.os
  tape:w'.tape=w.tape
  output:w'.output=w.output
theorem World.Stays.refl (w:World):World.Stays w w:=fun _ _ h=>h
theorem World.Stays.trans {a b c:World} (h:World.Stays a b) (k:World.Stays b c):World.Stays a c:=fun x m hx=>k x m (h x m hx)
theorem Grow.refl (c:Ctx) (w:World) (h:Heap):Grow c w h c w h:=
  ⟨.refl c,Nat.le_refl _,.refl w,fun _ _ _=>rfl,fun _ _ h=> .inl h,fun _ h=> .inl h,rfl,rfl,rfl⟩
theorem Grow.trans {c c' c'':Ctx} {w w' w'':World} {h h' h'':Heap} (g:Grow c w h c' w' h') (k:Grow c' w' h' c'' w'' h''):Grow c w h c'' w'' h'' where
  le:=g.le.trans k.le
  size:=Nat.le_trans g.size k.size
  stays:=g.stays.trans k.stays
  kept:=fun b hb hn=>by
    rw [k.kept b (Nat.lt_of_lt_of_le hb g.size) (fun ho=>(g.newO b ho).elim hn (fun hge=>by omega)),g.kept b hb hn]
  newK:=fun f b hb=>by
    rcases k.newK f b hb with h1 | h1 | h1
    · exact g.newK f b h1
    · exact .inr (.inl (Nat.le_trans g.size h1))
    · rcases g.newO b h1 with h2 | h2
      · exact .inr (.inr h2)
      · exact .inr (.inl h2)
  newO:=fun b hb=>by
    rcases k.newO b hb with h1 | h1
    · exact g.newO b h1
    · exact .inr (Nat.le_trans g.size h1)
  os:=k.os.trans g.os
  tape:=k.tape.trans g.tape
  output:=k.output.trans g.output
theorem Grow.ro {c c':Ctx} {w w':World} {h h':Heap} (g:Grow c w h c' w' h') (r:RelH c w h) (f:Bool) (b:Nat) (hb:c.K f b):w'.heap[b]? =w.heap[b]? :=
  g.kept b (r.low f b hb) (fun ho=>r.own f b ho hb)
theorem RelC.grow {c c':Ctx} {w w':World} {h h':Heap} (r:RelH c w h) (g:Grow c w h c' w' h') {v:Value} {x:Cell} (hv:RelC c w v x):RelC c' w' v x:=
  hv.mono g.le (g.ro r) g.stays
theorem RelV.grow {c c':Ctx} {w w':World} {h h':Heap} (r:RelH c w h) (g:Grow c w h c' w' h') {v:Value} {x:PV} (hv:RelV c w v x):RelV c' w' v x:=
  hv.mono g.le (g.ro r) g.stays
end Go.AE
namespace Go.AE
open Go
inductive TDesc where
  | scalar
  | bool
  | int (k:IntKind)
  | slice (e:TypeId)
  | struct (fs:List (Nat×TypeId))
  deriving Inhabited
structure TY where
  desc:TDesc
  size:Nat
  bytes:Nat
  zero:List Cell
  deriving Inhabited
def TDesc.agg:TDesc→Bool | .struct _=>true | _=>false
structure Tab where
  P:Program
  ty:TypeId→Option TY
  glob:Nat→Option D
  ieq:TypeId→Option Nat
def descOK (P:Program) (t:TypeId):TDesc→Prop
  | .scalar=>∃d,P.underlying t=some d∧(∀fs,d≠ .struct fs)∧(∀n e,d≠ .array n e)
  | .bool=>P.underlying t=some .bool
  | .int k=>P.underlying t=some (.int k)
  | .slice e=>P.underlying t=some (.slice e)
  | .struct fs=>∃F:Array Field,P.underlying t=some (.struct F)∧F.toList.map (fun f=>(f.offset,f.type))=fs
structure TYok (P:Program) (t:TypeId) (y:TY):Prop where
  info:∃i,P.info? t=some i∧i.size=y.size∧i.bytes=y.bytes∧∃z,i.zero=some z∧∀c w,F2 (RelC c w) z.cells.toList y.zero
  desc:descOK P t y.desc
  len:y.zero.length=y.size
structure TabOK (E:Tab):Prop where
  ty:∀t y,E.ty t=some y→TYok E.P t y
  ieq:∀t n,E.ieq t=some n→∀(xs ys:List Int),xs.length=n→ys.length=n→∀w,
    (Op.equal t (.agg (xs.map (Value.int .i64)).toArray) (.agg (ys.map (Value.int .i64)).toArray)).run E.P w= .ok (xs==ys) w∧
    (eqGuard .eql t (.tmp 0) (.tmp 0) (.agg (xs.map (Value.int .i64)).toArray) (.agg (ys.map (Value.int .i64)).toArray)).run E.P w= .ok () w
def GlobOK (E:Tab) (c:Ctx) (w:World):Prop:=∀g d,E.glob g=some d→c.K false g∧∃u,w.cell? ⟨g,0,none⟩=some u∧RelD (c.K false) w u d
abbrev Slots:=List (Nat×Option PV)
def lookS:Slots→Nat→Option PV
  | [],_=>none
  | (m,o)::t,l=>if m=l then o else lookS t l
def ci (k:IntKind) (n:Int):PV:= .c (.d true (.int k n))
def cb (b:Bool):PV:= .c (.d true (.bool b))
def ic (k:IntKind) (n:Int):List D:=[.int k n]
def constV:Value→Option PV
  | .int k n=>some (ci k n)
  | .bool b=>some (cb b)
  | .string s=>some (.c (.d true (.str s)))
  | .slice none 0 0=>some (.c .nil)
  | .pointer none=>some (.c .np)
  | _=>none
def ev (E:Tab) (t:Slots):Operand→Option PV
  | .tmp i=>lookS t i
  | .const v=>constV v
  | .global g=>(E.glob g).map fun d=> .c (.rp false 1 [[d]] 0 0)
  | .func f=>some (.c (.fn f []))
def withV (o:Option PV) (K:PV→Prop):Prop:=match o with | some v=>K v | none=>False
def condB (b:Bool) (x y:Prop):Prop:=(b=true→x)∧(b=false→y)
def withTY (o:Option TY) (K:TY→Prop):Prop:=match o with | some v=>K v | none=>False
def withO (o:Option AObj) (K:AObj→Prop):Prop:=match o with | some v=>K v | none=>False
def withC (o:Option Cell) (K:Cell→Prop):Prop:=match o with | some v=>K v | none=>False
def boolA:PV→(Bool→Prop)→Prop
  | .c (.d _ (.bool b)),K=>K b
  | _,_=>False
def intA:PV→(IntKind→Int→Prop)→Prop
  | .c (.d _ (.int k n)),K=>K k n
  | _,_=>False
def dcell (f:Bool) (y:TY) (row:List D) (j:Nat) (K:PV→Prop):Prop:=
  match y.desc with
  | .struct _=>j+y.size≤row.length∧K (.agg (((row.drop j).take y.size).map (.d f)))
  | .int k=>(∃n,row[j]? =some (.int k n))∧∀n,row[j]? =some (.int k n)→K (ci k n)
  | _=>j<row.length∧∀x,row[j]? =some x→K (.c (.d f x))
def rowA (f:Bool) (es:List (List D)) (i j:Nat) (y:TY) (K:PV→Prop):Prop:=
  i<es.length∧∀row,es[i]? =some row→dcell f y row j K
def boxA (cs:List Cell) (j:Nat) (y:TY) (K:PV→Prop):Prop:=
  if y.desc.agg then j+y.size≤cs.length∧K (.agg ((cs.drop j).take y.size))else withC cs[j]? fun x=>K (.c x)
def objA (o:AObj) (sz i j:Nat) (y:TY) (K:PV→Prop):Prop:=
  match o with
  | .box cs=>i=0∧boxA cs j y K
  | .rows f sz' es=>sz=sz'∧rowA f es i j y K
  | .gone=>False
def loadA (E:Tab) (h:Heap) (ty:TypeId) (p:PV) (K:PV→Prop):Prop:=
  withTY (E.ty ty) fun y=>
    match p with
    | .c (.ptr l sz i j)=>withO (look h l) fun o=>objA o sz i j y K
    | .c (.rp f _ es i j)=>rowA f es i j y K
    | _=>False
def nilA:PV→(PV→Prop)→Prop
  | .c (.ptr l s i j),K=>K (.c (.ptr l s i j))
  | .c (.rp f s es i j),K=>K (.c (.rp f s es i j))
  | _,_=>False
def bitI (op:BinOp) (k:IntKind) (x y:Int):Int:=
  let a:=BitVec.ofInt k.bits x
  let b:=BitVec.ofInt k.bits y
  k.wrap (match op with | .and=>(a&&&b).toNat | .or=>(a ||| b).toNat | .xor=>(a^^^b).toNat | _=>(a&&& ~~~b).toNat:Nat)
def intBin (op:BinOp) (k:IntKind) (x y:Int) (K:PV→Prop):Prop:=
  match op with
  | .add=>K (ci k (k.wrap (x+y)))
  | .sub=>K (ci k (k.wrap (x-y)))
  | .mul=>K (ci k (k.wrap (x*y)))
  | .quo=>y≠0∧K (ci k (k.wrap (x.tdiv y)))
  | .rem=>y≠0∧K (ci k (x.tmod y))
  | .and=>K (ci k (bitI .and k x y))
  | .or=>K (ci k (bitI .or k x y))
  | .xor=>K (ci k (bitI .xor k x y))
  | .shl=>0≤y∧K (ci k (k.wrap (x*2^ (min y.toNat k.bits))))
  | .shr=>0≤y∧K (ci k (x.fdiv (2^ (min y.toNat k.bits))))
  | .eql=>K (cb (decide (x=y)))
  | .neq=>K (cb (!decide (x=y)))
  | .lss=>K (cb (decide (x<y)))
  | .leq=>K (cb (decide (x≤y)))
  | .gtr=>K (cb (decide (y<x)))
  | .geq=>K (cb (decide (y≤x)))
  | _=>False
def asInt1:Cell→Option Int
  | .d _ (.int .i64 n)=>some n
  | _=>none
def asIntsC:List Cell→Option (List Int)
  | []=>some []
  | x::r=>match asInt1 x,asIntsC r with | some n,some l=>some (n::l) | _,_=>none
def withL (o:Option (List Int)) (K:List Int→Prop):Prop:=match o with | some v=>K v | none=>False
def binA (E:Tab) (op:BinOp) (ty:TypeId) (a b:PV) (K:PV→Prop):Prop:=
  match a,b with
  | .c (.d _ (.int k x)),.c (.d _ (.int k' y))=>k=k'∧intBin op k x y K
  | .c (.d _ (.bool x)),.c (.d _ (.bool y))=>withTY (E.ty ty) fun z=>z.desc= .bool∧(match op with | .eql=>K (cb (x==y)) | .neq=>K (cb (!(x==y))) | _=>False)
  | .agg xs,.agg ys=>withL (asIntsC xs) fun x=>withL (asIntsC ys) fun y=>
      E.ieq ty=some x.length∧x.length=y.length∧(match op with | .eql=>K (cb (x==y)) | .neq=>K (cb (!(x==y))) | _=>False)
  | _,_=>False
def unA (op:UnOp) (a:PV) (K:PV→Prop):Prop:=
  match op,a with
  | .not,.c (.d _ (.bool b))=>K (cb (!b))
  | .neg,.c (.d _ (.int k n))=>K (ci k (k.wrap (0-n)))
  | _,_=>False
def convA (E:Tab) (src dst:TypeId) (a:PV) (K:PV→Prop):Prop:=
  withTY (E.ty dst) fun y=>match y.desc,a with
    | .int k,.c (.d _ (.int _ n))=>withTY (E.ty src) fun _=>K (ci k (k.wrap n))
    | _,_=>False
def fieldAddrA (E:Tab) (s:TypeId) (a:PV) (f:Nat) (K:PV→Prop):Prop:=
  withTY (E.ty s) fun y=>match y.desc with
    | .struct fs=>match fs[f]? with
      | some (off,ft)=>withTY (E.ty ft) fun z=>z.size≠0∧(match a with
        | .c (.ptr l sz i j)=>K (.c (.ptr l sz i (j+off)))
        | .c (.rp r sz es i j)=>K (.c (.rp r sz es i (j+off)))
        | _=>False)
      | none=>False
    | _=>False
def fieldA (E:Tab) (s:TypeId) (a:PV) (f:Nat) (K:PV→Prop):Prop:=
  withTY (E.ty s) fun y=>match y.desc with
    | .struct fs=>match fs[f]? with
      | some (off,ft)=>withTY (E.ty ft) fun z=>match a with
        | .agg cs=>off+z.size≤cs.length∧(if z.desc.agg then K (.agg ((cs.drop off).take z.size))else withC cs[off]? fun x=>K (.c x))
        | _=>False
      | none=>False
    | _=>False
def indexAddrA (E:Tab) (t:TypeId) (a ix:PV) (K:PV→Prop):Prop:=
  withTY (E.ty t) fun y=>match y.desc with
    | .slice e=>withTY (E.ty e) fun z=>intA ix fun _ i=>
      match a with
      | .c (.d f (.rows sz es))=>(es≠ []→sz=z.size)∧0≤i∧i<es.length∧K (.c (.rp f sz es i.toNat 0))
      | .c (.clip f sz es)=>(es≠ []→sz=z.size)∧0≤i∧i<es.length∧K (.c (.rp f sz es i.toNat 0))
      | .c (.os l sz lo n)=>sz=z.size∧0≤i∧i<n∧K (.c (.ptr l sz (lo+i.toNat) 0))
      | _=>False
    | _=>False
def lenA:PV→(PV→Prop)→Prop
  | .c (.d _ (.rows _ es)),K=>K (ci .i64 es.length)
  | .c (.clip _ _ es),K=>K (ci .i64 es.length)
  | .c (.os _ _ _ n),K=>K (ci .i64 n)
  | .c .nil,K=>K (ci .i64 0)
  | _,_=>False
def extractA (a:PV) (i:Nat) (K:PV→Prop):Prop:=
  match a with
  | .tup vs=>withV vs[i]? K
  | _=>False
def pvCells:PV→List Cell
  | .c x=> [x]
  | .agg cs=>cs
  | .tup _=> []
def optI (E:Tab) (t:Slots) (o:Option Operand) (dflt:Int) (K:Int→Prop):Prop:=
  match o with
  | none=>K dflt
  | some x=>withV (ev E t x) fun v=>intA v fun _ n=>K n
def sliceA (E:Tab) (t:Slots) (ty:TypeId) (a:PV) (lo hi mx:Option Operand) (K:PV→Prop):Prop:=
  withTY (E.ty ty) fun y=>match y.desc with
    | .slice e=>withTY (E.ty e) fun z=>optI E t lo 0 fun l=>
      match a with
      | .c (.d f (.rows sz es))=>(es≠ []→sz=z.size)∧(optI E t hi es.length fun h=>0≤l∧l≤h∧h≤es.length∧
          (match mx with
           | none=>K (.c (.d f (.rows sz ((es.take h.toNat).drop l.toNat))))
           | some _=>optI E t mx 0 fun m=>hi.isSome=true∧m=h∧K (.c (.clip f sz ((es.take h.toNat).drop l.toNat)))))
      | .c (.os b sz lo0 n)=>sz=z.size∧mx=none∧(optI E t hi n fun h=>0≤l∧l≤h∧h≤n∧K (.c (.os b sz (lo0+l.toNat) (h.toNat-l.toNat))))
      | .c .nil=>mx=none∧(optI E t hi 0 fun h=>l=0∧h=0∧K (.c .nil))
      | _=>False
    | _=>False
def splice (cs new:List Cell) (off:Nat):List Cell:=cs.take off++new++cs.drop (off+new.length)
def fillA (E:Tab) (t:Slots) (place:Nat→Option (Nat×Nat)):List (Nat×Operand)→List Cell→(List Cell→Prop)→Prop
  | [],cs,K=>K cs
  | (i,x)::rest,cs,K=>match place i with
    | none=>False
    | some (off,size)=>withV (ev E t x) fun v=>(pvCells v).length=size∧size≠0∧off+size≤cs.length∧fillA E t place rest (splice cs (pvCells v) off) K
def fieldPl (E:Tab) (fs:List (Nat×TypeId)) (i:Nat):Option (Nat×Nat):=
  match fs[i]? with
  | some (off,ft)=>match E.ty ft with | some z=>some (off,z.size) | none=>none
  | none=>none
def buildA (E:Tab) (t:Slots) (ty:TypeId) (parts:List (Nat×Operand)) (K:PV→Prop):Prop:=
  withTY (E.ty ty) fun y=>match y.desc with
    | .struct fs=>(∀ft∈fs,(E.ty ft.2).isSome=true)∧fillA E t (fieldPl E fs) parts y.zero fun cs=>K (.agg cs)
    | _=>False
def capsA (E:Tab) (t:Slots):List Operand→(List Cell→Prop)→Prop
  | [],K=>K []
  | x::r,K=>withV (ev E t x) fun v=>match v with
    | .c y=>capsA E t r fun ys=>K (y::ys)
    | _=>False
def capA:PV→(PV→Prop)→Prop
  | .c .nil,K=>K (ci .i64 0)
  | _,_=>False
def callA (E:Tab) (t:Slots) (c:Call) (K:PV→Prop):Prop:=
  match c.callee with
  | .builtin .len=>match c.args.toList,c.argTypes.toList with
    | [x],[ty]=>withTY (E.ty ty) fun y=>(match y.desc with | .slice _=>True | _=>False)∧withV (ev E t x) fun v=>lenA v K
    | _,_=>False
  | .builtin .cap=>match c.args.toList,c.argTypes.toList with
    | [x],[ty]=>withTY (E.ty ty) fun y=>(match y.desc with | .slice _=>True | _=>False)∧withV (ev E t x) fun v=>capA v K
    | _,_=>False
  | .builtin .min=>match c.args.toList with
    | [x,y]=>withV (ev E t x) fun a=>withV (ev E t y) fun b=>intA a fun k m=>intA b fun _ n=>K (ci k (if n<m then n else m))
    | _=>False
  | .builtin .max=>match c.args.toList with
    | [x,y]=>withV (ev E t x) fun a=>withV (ev E t y) fun b=>intA a fun k m=>intA b fun _ n=>K (ci k (if m<n then n else m))
    | _=>False
  | _=>False
def pureA (E:Tab) (op:Op) (t:Slots) (h:Heap) (K:PV→Prop):Prop:=
  match op with
  | .move x | .assign x=>withV (ev E t x) K
  | .pick c a b=>withV (ev E t c) fun v=>boolA v fun q=>condB q (withV (ev E t a) K) (withV (ev E t b) K)
  | .load ty p=>withV (ev E t p) fun v=>loadA E h ty v K
  | .nilCheck x=>withV (ev E t x) fun v=>nilA v K
  | .binOp op ty x y _=>withV (ev E t x) fun a=>withV (ev E t y) fun b=>binA E op ty a b K
  | .unOp op _ x=>withV (ev E t x) fun a=>unA op a K
  | .convert s d x=>withV (ev E t x) fun a=>convA E s d a K
  | .fieldAddr s x f=>withV (ev E t x) fun a=>fieldAddrA E s a f K
  | .field s x f=>withV (ev E t x) fun a=>fieldA E s a f K
  | .indexAddr ty x i=>withV (ev E t x) fun a=>withV (ev E t i) fun b=>indexAddrA E ty a b K
  | .slice ty x lo hi mx=>withV (ev E t x) fun a=>sliceA E t ty a lo hi mx K
  | .extract x i=>withV (ev E t x) fun a=>extractA a i K
  | .build ty parts=>buildA E t ty parts.toList K
  | .makeFunc fn first caps=>match fn with
    | .func g=>first= #[]∧capsA E t caps.toList fun cs=>K (.c (.fn g cs))
    | _=>False
  | .call c=>callA E t c K
  | _=>False
end Go.AE
namespace Go.AE
open Go
structure AbsT (E:Tab) (c:Ctx) (w:World) (t:Slots) (h:Heap) (a:Act):Prop where
  slot:∀i v,lookS t i=some v→∃u,a.tmps[i]? =some u∧RelV c w u v
  heap:RelH c w h
  glob:GlobOK E c w
theorem withV_some {o:Option PV} {K:PV→Prop} (h:withV o K):∃v,o=some v∧K v:=by
  cases o with
  | none=>exact h.elim
  | some v=>exact⟨v,rfl,h⟩
theorem withTY_some {o:Option TY} {K:TY→Prop} (h:withTY o K):∃v,o=some v∧K v:=by
  cases o with
  | none=>exact h.elim
  | some v=>exact⟨v,rfl,h⟩
theorem withO_some {o:Option AObj} {K:AObj→Prop} (h:withO o K):∃v,o=some v∧K v:=by
  cases o with
  | none=>exact h.elim
  | some v=>exact⟨v,rfl,h⟩
theorem withC_some {o:Option Cell} {K:Cell→Prop} (h:withC o K):∃v,o=some v∧K v:=by
  cases o with
  | none=>exact h.elim
  | some v=>exact⟨v,rfl,h⟩
theorem RelC.ofInt {c:Ctx} {w:World} (k:IntKind) (n:Int) (f:Bool):RelC c w (.int k n) (.d f (.int k n)):= .d f _ _ (.int k n)
theorem RelV.ofInt {c:Ctx} {w:World} (k:IntKind) (n:Int):RelV c w (.int k n) (ci k n):= .c _ _ (.ofInt k n true)
theorem RelV.ofBool {c:Ctx} {w:World} (b:Bool):RelV c w (.bool b) (cb b):= .c _ _ (.d true _ _ (.bool b))
theorem constV_sound {c:Ctx} {w:World} {v:Value} {p:PV} (h:constV v=some p):RelV c w v p:=by
  unfold constV at h
  split at h<;>first | (cases h) | skip
  · exact .ofInt _ _
  · exact .ofBool _
  · exact .c _ _ (.d true _ _ (.str _))
  · exact .c _ _ .nil
  · exact .c _ _ .np
theorem ev_sound {E:Tab} {c:Ctx} {w:World} {t:Slots} {h:Heap} {a:Act} (A:AbsT E c w t h a) {x:Operand} {v:PV} (hx:ev E t x=some v):
    RelV c w (a.eval x) v:=by
  cases x with
  | tmp i=>
    obtain⟨u,hu,hr⟩:=A.slot i v hx
    have:a.eval (.tmp i)=u:=by simp [Act.eval,Array.getD_eq_getD_getElem?,hu]
    rw [this];exact hr
  | const v'=>exact constV_sound hx
  | global g=>
    simp only [ev,Option.map_eq_some_iff]at hx
    obtain⟨d,hd,rfl⟩:=hx
    obtain⟨hk,u,hu,hr⟩:=A.glob g d hd
    refine .c _ _ ?_
    have:=RelC.rp (c:=c) (w:=w) false g 0 1 [[d]] 0 0 (fun _ _=>u) hk ?_ ?_ ?_ (by simp)
    · simpa [Act.eval]using this
    · intro i j hi hj
      have h1:i=0:=by simpa using hi
      have h2:j=0:=by omega
      subst h1;subst h2;simpa using hu
    · intro i hi
      have h1:i=0:=by simpa using hi
      subst h1;rfl
    · intro i j hi hj
      have h1:i=0:=by simpa using hi
      have h2:j=0:=by omega
      subst h1;subst h2;exact hr
  | func f=>
    simp only [ev,Option.some.injEq]at hx
    subst hx
    refine .c _ _ ?_
    exact RelC.fn f [] [] rfl (fun i hi=>by simp at hi)
def Gives (P:Program) (c:Ctx) (w:World) (s:Sem Value) (K:PV→Prop):Prop:=∃u pv,s.run P w= .ok u w∧RelV c w u pv∧K pv
theorem withE {E:Tab} {c:Ctx} {w:World} {t:Slots} {h:Heap} {a:Act} (A:AbsT E c w t h a) {x:Operand} {K:PV→Prop} (hx:withV (ev E t x) K):
    ∃v,RelV c w (a.eval x) v∧K v:=by
  obtain⟨v,hv,hk⟩:=withV_some hx
  exact⟨v,ev_sound A hv,hk⟩
theorem boolA_some {v:PV} {K:Bool→Prop} (h:boolA v K):∃f b,v= .c (.d f (.bool b))∧K b:=by
  unfold boolA at h
  split at h
  · exact⟨_,_,rfl,h⟩
  · exact h.elim
theorem intA_some {v:PV} {K:IntKind→Int→Prop} (h:intA v K):∃f k n,v= .c (.d f (.int k n))∧K k n:=by
  unfold intA at h
  split at h
  · exact⟨_,_,_,rfl,h⟩
  · exact h.elim
theorem rel_bool {c:Ctx} {w:World} {u:Value} {f:Bool} {b:Bool} (h:RelV c w u (.c (.d f (.bool b)))):u= .bool b:=by
  cases h with | c _ _ h=>cases h with | d _ _ _ h=>cases h;rfl
theorem rel_int {c:Ctx} {w:World} {u:Value} {f:Bool} {k:IntKind} {n:Int} (h:RelV c w u (.c (.d f (.int k n)))):u= .int k n:=by
  cases h with | c _ _ h=>cases h with | d _ _ _ h=>cases h;rfl
theorem rel_int' {c:Ctx} {w:World} {u:Value} {f:Bool} {k:IntKind} {n:Int} (h:RelC c w u (.d f (.int k n))):u= .int k n:=by
  cases h with | d _ _ _ h=>cases h;rfl
theorem addr_add (b o n:Nat):(⟨b,o,none⟩:Addr).add n=⟨b,o+n,none⟩:=by
  unfold Addr.add;split
  · rename_i h;subst h;rfl
  · rfl
theorem run_isAgg {E:Tab} (hE:TabOK E) {t:TypeId} {y:TY} (hy:E.ty t=some y) (w:World):(isAgg t).run E.P w= .ok y.desc.agg w:=by
  have hd:=(hE.ty t y hy).desc
  unfold descOK at hd
  split at hd
  · rename_i he
    obtain⟨d,hu,h1,h2⟩:=hd
    simp only [isAgg,Sem.run_bind,run_underlying hu,Result.andThen_ok,he,TDesc.agg]
    cases d<;>first | rfl | exact absurd rfl (h1 _) | exact absurd rfl (h2 _ _)
  · rename_i he;simp [isAgg,run_underlying hd,he,TDesc.agg]
  · rename_i he;simp [isAgg,run_underlying hd,he,TDesc.agg]
  · rename_i he;simp [isAgg,run_underlying hd,he,TDesc.agg]
  · rename_i he;obtain⟨F,hu,_⟩:=hd;simp [isAgg,run_underlying hu,he,TDesc.agg]
theorem run_sizeOf {E:Tab} (hE:TabOK E) {t:TypeId} {y:TY} (hy:E.ty t=some y) (w:World):(sizeOf t).run E.P w= .ok y.size w:=by
  obtain⟨i,hi,hs,_⟩:=(hE.ty t y hy).info
  simp [sizeOf,typeInfo,hi,hs]
theorem run_loadVar {E:Tab} (hE:TabOK E) {t:TypeId} {y:TY} (hy:E.ty t=some y) {w:World} {b o:Nat} (vs:List Value)
    (hv:∀j v,vs[j]? =some v→w.cell? ⟨b,o+j,none⟩=some v) (hl:vs.length=if y.desc.agg then y.size else 1):
    (loadVar t ⟨b,o,none⟩).run E.P w= .ok (if y.desc.agg then .agg vs.toArray else vs.getD 0 undef) w:=by
  simp only [loadVar,Sem.run_bind,run_isAgg hE hy,Result.andThen_ok]
  by_cases ha:y.desc.agg=true
  · simp only [ha,if_true]at hl ⊢
    simp only [Sem.run_bind,run_sizeOf hE hy,Result.andThen_ok]
    have:=run_loadCells_list (P:=E.P) (w:=w) ⟨b,o,none⟩ vs (fun j v hj=>by rw [addr_add];exact hv j v hj)
    rw [hl]at this
    simp [this]
  · have ha':y.desc.agg=false:=by simpa using ha
    simp only [ha']at hl ⊢
    cases vs with
    | nil=>simp at hl
    | cons v r=>
      have:=hv 0 v rfl
      simp at this
      simp [this]
theorem getD_of {α:Type} {l:List α} {i:Nat} {x d:α} (h:l[i]? =some x):l.getD i d=x:=by
  simp [List.getD,h]
theorem dcell_gives {E:Tab} (hE:TabOK E) {t:TypeId} {y:TY} (hy:E.ty t=some y) {c:Ctx} {w:World} {f:Bool} {b o sz j:Nat} {row:List D} {K:PV→Prop}
    (hl:row.length=sz) (u:Nat→Value) (hc:∀j,j<sz→w.cell? ⟨b,o+j,none⟩=some (u j)) (hr:∀j,j<sz→RelD (c.K f) w (u j) (row.getD j default))
    (h:dcell f y row j K):Gives E.P c w (loadVar t ⟨b,o+j,none⟩) K:=by
  have one:∀x,y.desc.agg=false→row[j]? =some x→∃u,(loadVar t ⟨b,o+j,none⟩).run E.P w= .ok u w∧RelD (c.K f) w u x:=by
    intro x ha hx
    have hj:j<sz:=by rw [←hl];exact(List.getElem?_eq_some_iff.1 hx).1
    have hrun:=run_loadVar hE hy (w:=w) (b:=b) (o:=o+j) [u j] (fun i v hi=>by
      cases i with
      | zero=>simp at hi;subst hi;exact hc j hj
      | succ i=>simp at hi) (by simp [ha])
    refine⟨u j,by simpa [ha]using hrun,?_⟩
    have:=hr j hj
    rwa [getD_of hx]at this
  unfold dcell at h
  split at h
  · rename_i fs he
    obtain⟨hlen,hk⟩:=h
    have ha:y.desc.agg=true:=by rw [he];rfl
    have hrun:=run_loadVar hE hy (w:=w) (b:=b) (o:=o+j) ((List.range y.size).map fun i=>u (j+i)) (fun i v hi=>by
      simp only [List.getElem?_map,Option.map_eq_some_iff]at hi
      obtain⟨i',hi',rfl⟩:=hi
      obtain⟨hlt,hi''⟩:=List.getElem?_eq_some_iff.1 hi'
      simp at hlt hi''
      subst hi''
      rw [Nat.add_assoc];exact hc (j+i) (by omega)) (by simp [ha])
    refine⟨_,_,hrun,?_,hk⟩
    simp only [ha,if_true]
    refine .agg _ _ (F2.of_get (by simp;omega) ?_)
    intro i x z hx hz
    simp only [List.getElem?_map,Option.map_eq_some_iff]at hx hz
    obtain⟨i',hi',rfl⟩:=hx
    obtain⟨hlt,hi''⟩:=List.getElem?_eq_some_iff.1 hi'
    simp at hlt hi''
    subst hi''
    obtain⟨z',hz',rfl⟩:=hz
    have hz2:row[j+i]? =some z':=by
      rw [List.getElem?_take_of_lt hlt,List.getElem?_drop]at hz'
      exact hz'
    have:=hr (j+i) (by omega)
    rw [getD_of hz2]at this
    exact .d f _ _ this
  · rename_i k he
    obtain⟨⟨n,hn⟩,hk⟩:=h
    obtain⟨u',hu',hr'⟩:=one _ (by rw [he];rfl) hn
    refine⟨u',_,hu',?_,hk n hn⟩
    cases hr'
    exact .ofInt k n
  · rename_i hns hni
    obtain⟨hlt,hk⟩:=h
    have ha:y.desc.agg=false:=by
      unfold TDesc.agg;split
      · rename_i fs he;exact absurd he (hns fs)
      · rfl
    have hx:row[j]? =some row[j]:=List.getElem?_eq_getElem hlt
    obtain⟨u',hu',hr'⟩:=one _ ha hx
    exact⟨u',_,hu',.c _ _ (.d f _ _ hr'),hk _ hx⟩
theorem rowA_gives {E:Tab} (hE:TabOK E) {t:TypeId} {y:TY} (hy:E.ty t=some y) {c:Ctx} {w:World} {f:Bool} {b o sz i j:Nat} {es:List (List D)} {K:PV→Prop}
    (u:Nat→Nat→Value) (hc:∀i j,i<es.length→j<sz→w.cell? ⟨b,o+i*sz+j,none⟩=some (u i j))
    (hl:∀i,i<es.length→(es.getD i []).length=sz) (hr:∀i j,i<es.length→j<sz→RelD (c.K f) w (u i j) (gd es i j))
    (h:rowA f es i j y K):Gives E.P c w (loadVar t ⟨b,o+i*sz+j,none⟩) K:=by
  obtain⟨hi,h⟩:=h
  have he:es[i]? =some (es.getD i []):=by simp [List.getD,List.getElem?_eq_getElem hi]
  exact dcell_gives hE hy (hl i hi) (u i) (fun j hj=>hc i j hi hj) (fun j hj=>hr i j hi hj) (h _ he)
theorem cell?_of {w:World} {b:Nat} {cs:Array Value} {E:TypeId} {fr:Nat×Nat} (h:w.heap[b]? =some (.cells cs E fr)) (o:Nat):w.cell? ⟨b,o,none⟩=cs[o]? :=by
  simp [World.cell?,h]
theorem boxA_gives {E:Tab} (hE:TabOK E) {t:TypeId} {y:TY} (hy:E.ty t=some y) {c:Ctx} {w:World} {b j:Nat} {vs:List Value} {cs:List Cell} {K:PV→Prop} {e:TypeId} {fr:Nat×Nat}
    (hb:w.heap[b]? =some (.cells vs.toArray e fr)) (hr:F2 (RelC c w) vs cs) (h:boxA cs j y K):Gives E.P c w (loadVar t ⟨b,j,none⟩) K:=by
  unfold boxA at h
  split at h
  · rename_i ha
    obtain⟨hlen,hk⟩:=h
    have hvl:=hr.length
    have hrun:=run_loadVar hE hy (w:=w) (b:=b) (o:=j) ((vs.drop j).take y.size) (fun i v hi=>by
      rw [cell?_of hb]
      rw [List.getElem?_take]at hi
      split at hi
      · rw [List.getElem?_drop]at hi;simpa using hi
      · cases hi) (by simp [ha];omega)
    simp only [ha,if_true]at hrun
    exact⟨_,_,hrun,.agg _ _ ((hr.drop j).take y.size),hk⟩
  · rename_i ha
    obtain⟨x,hx,hk⟩:=withC_some h
    obtain⟨v,hv,hrel⟩:=hr.get hx
    have hrun:=run_loadVar hE hy (w:=w) (b:=b) (o:=j) [v] (fun i v' hi=>by
      cases i with
      | zero=>simp at hi;subst hi;rw [cell?_of hb];simpa using hv
      | succ i=>simp at hi) (by simp [ha])
    simp only [ha]at hrun
    exact⟨_,_,by simpa using hrun,.c _ _ hrel,hk⟩
theorem objA_gives {E:Tab} (hE:TabOK E) {t:TypeId} {y:TY} (hy:E.ty t=some y) {c:Ctx} {w:World} {l sz i j b:Nat} {o:AObj} {K:PV→Prop}
    (hm:c.μ l=some b) (ho:RelO c w l o) (h:objA o sz i j y K):Gives E.P c w (loadVar t ⟨b,i*sz+j,none⟩) K:=by
  unfold objA at h
  split at h
  · rename_i cs
    obtain⟨rfl,h⟩:=h
    obtain⟨b',vs,e,hm',hb,hr⟩:=ho
    rw [hm]at hm';cases hm'
    simpa using boxA_gives hE hy hb hr h
  · rename_i f sz' es
    obtain⟨rfl,h⟩:=h
    simp only [RelO,hm]at ho
    obtain⟨cells,e,hb,hrow⟩:=ho
    have hu:∀i j,∃u,i<es.length→j<sz→w.cell? ⟨b,0+i*sz+j,none⟩=some u∧RelD (c.K f) w u (gd es i j):=by
      intro i j
      by_cases hi:i<es.length
      · by_cases hj:j<sz
        · obtain⟨v,hv,hr⟩:=(hrow i hi).2 j hj
          exact⟨v,fun _ _=>⟨by rw [cell?_of hb];simpa using hv,hr⟩⟩
        · exact⟨undef,fun _ h=>absurd h hj⟩
      · exact⟨undef,fun h=>absurd h hi⟩
    have:=rowA_gives hE hy (c:=c) (w:=w) (b:=b) (o:=0) (sz:=sz) (fun i j=>Classical.choose (hu i j)) (fun i j hi hj=>(Classical.choose_spec (hu i j) hi hj).1)
      (fun i hi=>(hrow i hi).1) (fun i j hi hj=>(Classical.choose_spec (hu i j) hi hj).2) h
    simpa using this
  · exact h.elim
theorem load_gives {E:Tab} (hE:TabOK E) {c:Ctx} {w:World} {h:Heap} (hh:RelH c w h) {t:TypeId} {u:Value} {p:PV} {K:PV→Prop} (hu:RelV c w u p)
    (hl:loadA E h t p K):Gives E.P c w (Instr.loadAt t u) K:=by
  obtain⟨y,hy,hl⟩:=withTY_some hl
  split at hl
  · rename_i l sz i j
    obtain⟨o,ho,hk⟩:=withO_some hl
    cases hu with | c _ _ hu=>cases hu with | ptr _ _ _ _ b hl' hm=>
    have:=objA_gives hE hy hm (hh.obj _ _ ho).2 hk
    simpa [Gives,Instr.loadAt,Instr.sureAddr]using this
  · rename_i f sz es i j
    cases hu with | c _ _ hu=>cases hu with | rp _ b off _ _ _ _ u hb h1 h2 h3 h4=>
    have:=rowA_gives hE hy u h1 h2 h3 hl
    simpa [Gives,Instr.loadAt,Instr.sureAddr]using this
  · exact hl.elim
end Go.AE
namespace Go.AE
open Go
theorem nil_gives {P:Program} {c:Ctx} {w:World} {ρ:Operand→Value} {o:Oper} {x:Operand} {u:Value} {p:PV} {K:PV→Prop} (ho:o.op= .nilCheck x) (hx:ρ x=u) (hu:RelV c w u p) (h:nilA p K):
    ∃u pv,(execOp ρ o).run P w= .ok (.value u) w∧RelV c w u pv∧K pv:=by
  unfold nilA at h
  split at h
  · have hu':=hu
    cases hu with | c _ _ hu=>cases hu with | ptr _ _ _ _ b hl' hm=>
    exact⟨_,_,by simp [execOp,ho,hx],hu',h⟩
  · have hu':=hu
    cases hu with | c _ _ hu=>cases hu with | rp _ b off _ _ _ _ u hb h1 h2 h3 h4=>
    exact⟨_,_,by simp [execOp,ho,hx],hu',h⟩
  · exact h.elim
theorem intBin_gives {P:Program} {c:Ctx} {w:World} {op:BinOp} {t:TypeId} {k:IntKind} {x y:Int} {K:PV→Prop} (h:intBin op k x y K):
    Gives P c w (binOp op t (.int k x) (.int k y)) K:=by
  unfold intBin at h
  split at h
  · exact⟨_,_,by simp [binOp,Op.intArith],.ofInt _ _,h⟩
  · exact⟨_,_,by simp [binOp,Op.intArith],.ofInt _ _,h⟩
  · exact⟨_,_,by simp [binOp,Op.intArith],.ofInt _ _,h⟩
  · exact⟨_,_,by simp [binOp,Op.intDiv,h.1],.ofInt _ _,h.2⟩
  · exact⟨_,_,by simp [binOp,Op.intDiv,h.1],.ofInt _ _,h.2⟩
  · exact⟨_,_,by simp [binOp,Op.intBits,bitI],.ofInt _ _,h⟩
  · exact⟨_,_,by simp [binOp,Op.intBits,bitI],.ofInt _ _,h⟩
  · exact⟨_,_,by simp [binOp,Op.intBits,bitI],.ofInt _ _,h⟩
  · have:¬y<0:=by omega
    exact⟨_,_,by simp [binOp,Op.shift,this],.ofInt _ _,h.2⟩
  · have:¬y<0:=by omega
    exact⟨_,_,by simp [binOp,Op.shift,this],.ofInt _ _,h.2⟩
  · exact⟨_,_,by simp [binOp,Op.intCmp];rfl,.ofBool _,h⟩
  · exact⟨_,_,by simp [binOp,Op.intCmp];rfl,.ofBool _,h⟩
  · exact⟨_,_,by simp [binOp,Op.intCmp],.ofBool _,h⟩
  · exact⟨_,_,by simp [binOp,Op.intCmp],.ofBool _,h⟩
  · exact⟨_,_,by simp [binOp,Op.intCmp],.ofBool _,h⟩
  · exact⟨_,_,by simp [binOp,Op.intCmp],.ofBool _,h⟩
  · exact h.elim
theorem withL_some {o:Option (List Int)} {K:List Int→Prop} (h:withL o K):∃v,o=some v∧K v:=by
  cases o with
  | none=>exact h.elim
  | some v=>exact⟨v,rfl,h⟩
theorem asIntsC_sound {c:Ctx} {w:World} {cs:List Cell} {xs:List Int} (h:asIntsC cs=some xs) {vs:List Value} (hr:F2 (RelC c w) vs cs):vs=xs.map (Value.int .i64):=by
  induction hr generalizing xs with
  | nil=>simp [asIntsC]at h;subst h;rfl
  | @cons v x vs cs h1 _ ih=>
    simp only [asIntsC]at h
    split at h
    · rename_i n l hn hl
      cases h
      have:=ih hl
      subst this
      unfold asInt1 at hn
      split at hn
      · cases hn;rw [rel_int' h1];rfl
      · cases hn
    · cases h
theorem run_equal_bool {P:Program} {t:TypeId} (ht:P.underlying t=some .bool) (a b:Bool) (w:World):(Op.equal t (.bool a) (.bool b)).run P w= .ok (a==b) w:=by
  have h:∀d,(Op.equalIn (d+1) t (.bool a) (.bool b)).run P w= .ok (a==b) w:=by
    intro d;simp [Op.equalIn,run_underlying ht]
  exact h 9999
theorem bin_gives {E:Tab} (hE:TabOK E) {c:Ctx} {w:World} {op:BinOp} {t:TypeId} {u v:Value} {p q:PV} {K:PV→Prop} (hu:RelV c w u p) (hv:RelV c w v q) (h:binA E op t p q K)
    (x y:Operand):Gives E.P c w (do eqGuard op t x y u v;binOp op t u v) K:=by
  unfold binA at h
  split at h
  · obtain⟨rfl,h⟩:=h
    rw [rel_int hu,rel_int hv]
    have hg:∀a b,(eqGuard op t x y (.int a b) v).run E.P w= .ok () w:=by
      intro a b;unfold eqGuard;cases op<;>simp
    obtain⟨r,pv,h1,h2,h3⟩:=intBin_gives (P:=E.P) (c:=c) (w:=w) (t:=t) h
    refine⟨r,pv,?_,h2,h3⟩
    have:=hg
    rw [rel_int hv]at this
    simp [this,h1]
  · replace h:=withTY_some h;obtain⟨z,hz,hd,h⟩:=h
    have hun:=(hE.ty t z hz).desc
    rw [hd]at hun
    rw [rel_bool hu,rel_bool hv]
    split at h
    · exact⟨_,_,by simp [eqGuard,binOp,run_equal_bool hun],.ofBool _,h⟩
    · exact⟨_,_,by simp [eqGuard,binOp,run_equal_bool hun],.ofBool _,h⟩
    · exact h.elim
  · replace h:=withL_some h;obtain⟨xs,hx,h⟩:=h
    replace h:=withL_some h;obtain⟨ys,hy,hi,hl,h⟩:=h
    cases hu with | agg vs cs hu=>
    cases hv with | agg vs' cs' hv=>
    rw [asIntsC_sound hx hu,asIntsC_sound hy hv]
    have key:=hE.ieq t _ hi xs ys rfl hl.symm w
    have hg:(eqGuard op t x y (.agg (xs.map (Value.int .i64)).toArray) (.agg (ys.map (Value.int .i64)).toArray)).run E.P w= .ok () w:=by
      have h2:=key.2
      unfold eqGuard at h2 ⊢
      cases op<;>simp at h2 ⊢ <;>exact h2
    split at h
    · exact⟨_,_,by simp [hg,binOp,key.1],.ofBool _,h⟩
    · exact⟨_,_,by simp [hg,binOp,key.1],.ofBool _,h⟩
    · exact h.elim
  · exact h.elim
theorem un_gives {P:Program} {c:Ctx} {w:World} {op:UnOp} {u:Value} {p:PV} {K:PV→Prop} (hu:RelV c w u p) (h:unA op p K):Gives P c w (Op.unary op u) K:=by
  unfold unA at h
  split at h
  · rw [rel_bool hu];exact⟨_,_,by simp [Op.unary],.ofBool _,h⟩
  · rw [rel_int hu];exact⟨_,_,by simp [Op.unary,Op.intArith],.ofInt _ _,h⟩
  · exact h.elim
theorem run_underlying_some {E:Tab} (hE:TabOK E) {t:TypeId} {y:TY} (hy:E.ty t=some y):∃d,E.P.underlying t=some d:=by
  have hd:=(hE.ty t y hy).desc
  unfold descOK at hd
  split at hd
  · obtain⟨d,h,_⟩:=hd;exact⟨d,h⟩
  · exact⟨_,hd⟩
  · exact⟨_,hd⟩
  · exact⟨_,hd⟩
  · obtain⟨F,h,_⟩:=hd;exact⟨_,h⟩
theorem conv_gives {E:Tab} (hE:TabOK E) {c:Ctx} {w:World} {s d:TypeId} {u:Value} {p:PV} {K:PV→Prop} (hu:RelV c w u p) (h:convA E s d p K):Gives E.P c w (convert s d u) K:=by
  replace h:=withTY_some h;obtain⟨y,hy,h⟩:=h
  split at h
  · rename_i k f k' n he
    replace h:=withTY_some h;obtain⟨z,hz,h⟩:=h
    obtain⟨d',hd'⟩:=run_underlying_some hE hz
    have hun:=(hE.ty d y hy).desc
    rw [he]at hun
    rw [rel_int hu]
    refine⟨_,_,?_,.ofInt _ _,h⟩
    simp only [convert,Sem.run_bind,run_underlying hd',run_underlying hun,Result.andThen_ok]
    cases d'<;>simp [Conv.intToInt]
  · exact h.elim
theorem run_fieldPlace {E:Tab} (hE:TabOK E) {f:Field} {z:TY} (hz:E.ty f.type=some z) (hne:z.size≠0) (b o:Nat) (w:World):
    (fieldPlace ⟨b,o,none⟩ f).run E.P w= .ok ⟨b,o+f.offset,none⟩ w:=by
  simp [fieldPlace,run_sizeOf hE hz,hne,addr_add]
theorem field_get {F:Array Field} {fs:List (Nat×TypeId)} (hF:F.toList.map (fun f=>(f.offset,f.type))=fs) {i off:Nat} {ft:TypeId} (h:fs[i]? =some (off,ft)):
    ∃f:Field,F[i]? =some f∧f.offset=off∧f.type=ft:=by
  subst hF
  simp only [List.getElem?_map,Option.map_eq_some_iff]at h
  obtain⟨f,hf,he⟩:=h
  cases he
  exact⟨f,by simpa using hf,rfl,rfl⟩
theorem fieldAddr_gives {E:Tab} (hE:TabOK E) {c:Ctx} {w:World} {s:TypeId} {i:Nat} {u:Value} {p:PV} {K:PV→Prop} (hu:RelV c w u p) (h:fieldAddrA E s p i K):
    Gives E.P c w (Instr.fieldAt s u i) K:=by
  replace h:=withTY_some h;obtain⟨y,hy,h⟩:=h
  split at h
  · rename_i fs he
    split at h
    · rename_i off ft hf
      replace h:=withTY_some h;obtain⟨z,hz,hne,h⟩:=h
      have hd:=(hE.ty s y hy).desc
      rw [he]at hd
      obtain⟨F,hun,hF⟩:=hd
      obtain⟨f,hf',rfl,rfl⟩:=field_get hF hf
      split at h
      · cases hu with | c _ _ hu=>cases hu with | ptr _ _ _ _ b hl' hm=>
        refine⟨_,_,by simp [Instr.fieldAt,run_underlying hun,hf',Instr.sureAddr,run_fieldPlace hE hz hne];rfl,.c _ _ ?_,h⟩
        rw [Nat.add_assoc]
        exact .ptr _ _ _ _ b hl' hm
      · cases hu with | c _ _ hu=>cases hu with | rp _ b o _ _ _ _ u hb h1 h2 h3 h4=>
        refine⟨_,_,by simp [Instr.fieldAt,run_underlying hun,hf',Instr.sureAddr,run_fieldPlace hE hz hne];rfl,.c _ _ ?_,h⟩
        rw [Nat.add_assoc]
        exact .rp _ b o _ _ _ _ u hb h1 h2 h3 h4
      · exact h.elim
    · exact h.elim
  · exact h.elim
theorem field_gives {E:Tab} (hE:TabOK E) {c:Ctx} {w:World} {s:TypeId} {i:Nat} {u:Value} {p:PV} {K:PV→Prop} (hu:RelV c w u p) (h:fieldA E s p i K):
    Gives E.P c w (Instr.field s u i) K:=by
  replace h:=withTY_some h;obtain⟨y,hy,h⟩:=h
  split at h
  · rename_i fs he
    split at h
    · rename_i off ft hf
      replace h:=withTY_some h;obtain⟨z,hz,h⟩:=h
      have hd:=(hE.ty s y hy).desc
      rw [he]at hd
      obtain⟨F,hun,hF⟩:=hd
      obtain⟨f,hf',rfl,rfl⟩:=field_get hF hf
      split at h
      · cases hu with | agg vs cs hu=>
        obtain⟨hlen,h⟩:=h
        have hvl:=hu.length
        split at h
        · rename_i ha
          refine⟨.agg ((vs.drop f.offset).take z.size).toArray,_,?_,.agg _ _ ((hu.drop f.offset).take z.size),h⟩
          simp [Instr.field,run_underlying hun,hf',asAgg,part,run_isAgg hE hz,ha,run_sizeOf hE hz]
        · rename_i ha
          replace h:=withC_some h;obtain⟨x,hx,hk⟩:=h
          obtain⟨v,hv,hrel⟩:=hu.get hx
          refine⟨v,_,?_,.c _ _ hrel,hk⟩
          simp [Instr.field,run_underlying hun,hf',asAgg,part,run_isAgg hE hz,ha,hv]
      · exact h.elim
    · exact h.elim
  · exact h.elim
theorem rows_index {c:Ctx} {w:World} {f:Bool} {sz i:Nat} {es:List (List D)} {a:Option Addr} {n cap:Nat} (hi:i<es.length)
    (h:RelD (c.K f) w (.slice a n cap) (.rows sz es)):n=es.length∧∃b off,a=some ⟨b,off,none⟩∧RelC c w (.pointer (some ⟨b,off+i*sz,none⟩)) (.rp f sz es i 0):=by
  cases h with
  | none=>simp at hi
  | rows b off _ _ _ _ u hb hn hcap hc hl hr=>
    refine⟨hn,b,off,rfl,?_⟩
    have:=RelC.rp (c:=c) (w:=w) f b off sz es i 0 u hb hc hl hr hi
    simpa using this
theorem indexAddr_gives {E:Tab} (hE:TabOK E) {c:Ctx} {w:World} {t:TypeId} {u v:Value} {p q:PV} {K:PV→Prop} (hu:RelV c w u p) (hv:RelV c w v q) (h:indexAddrA E t p q K):
    Gives E.P c w (Instr.indexAt t u v) K:=by
  replace h:=withTY_some h;obtain⟨y,hy,h⟩:=h
  split at h
  · rename_i e he
    replace h:=withTY_some h;obtain⟨z,hz,h⟩:=h
    replace h:=intA_some h;obtain⟨fl,k,i,rfl,h⟩:=h
    rw [rel_int hv]
    have hun:=(hE.ty t y hy).desc
    rw [he]at hun
    have main:∀(a:Option Addr) (n cap:Nat) (b off:Nat) (r:Value),a=some ⟨b,off,none⟩→0≤i→i<n→r= .pointer (some ⟨b,off+i.toNat*z.size,none⟩)→
        (Instr.indexAt t (.slice a n cap) (.int k i)).run E.P w= .ok r w:=by
      intro a n cap b off r ha h0 h1 hr
      subst ha;subst hr
      simp [Instr.indexAt,asIntOf,run_underlying hun,h0,h1,run_sizeOf hE hz,addr_add]
    split at h
    · obtain⟨hsz,h0,h1,h⟩:=h
      rename_i f sz es
      cases hu with | c _ _ hu=>cases hu with | d _ _ _ hu=>
      obtain⟨n,cap,a,rfl⟩:∃n cap a,u= .slice a n cap:=by cases hu<;>exact⟨_,_,_,rfl⟩
      have hi:i.toNat<es.length:=by omega
      obtain⟨hn,b,off,ha,hr⟩:=rows_index hi hu
      have hs:sz=z.size:=hsz (by intro e;subst e;simp at hi)
      subst hs
      exact⟨_,_,main a n cap b off _ ha h0 (by omega) rfl,.c _ _ hr,h⟩
    · obtain⟨hsz,h0,h1,h⟩:=h
      rename_i f sz es
      cases hu with | c _ _ hu=>cases hu with | clip _ a n _ _ hu=>
      have hi:i.toNat<es.length:=by omega
      obtain⟨hn,b,off,ha,hr⟩:=rows_index hi hu
      have hs:sz=z.size:=hsz (by intro e;subst e;simp at hi)
      subst hs
      exact⟨_,_,main a n n b off _ ha h0 (by omega) rfl,.c _ _ hr,h⟩
    · obtain⟨hsz,h0,h1,h⟩:=h
      rename_i l sz lo n
      subst hsz
      cases hu with | c _ _ hu=>cases hu with
      | os0=>omega
      | osE=>omega
      | os _ _ _ _ cap b hl hm hn hroom=>
        refine⟨_,_,main _ n cap b (lo*z.size) _ rfl h0 h1 rfl,.c _ _ ?_,h⟩
        have:=RelC.ptr (c:=c) (w:=w) l z.size (lo+i.toNat) 0 b hl hm
        simpa [Nat.add_mul]using this
    · exact h.elim
  · exact h.elim
theorem len_gives {E:Tab} (hE:TabOK E) {c:Ctx} {w:World} {t:TypeId} {y:TY} (hy:E.ty t=some y) (hs:(match y.desc with | .slice _=>True | _=>False)) {u:Value} {p:PV} {K:PV→Prop}
    (hu:RelV c w u p) (h:lenA p K) (consts:Array Bool) (ty:TypeId):
    ∃r pv,(builtin .len #[t] ty consts #[u]).run E.P w= .ok (.value r) w∧RelV c w r pv∧K pv:=by
  have hd:=(hE.ty t y hy).desc
  split at hs
  · rename_i e he
    rw [he]at hd
    have main:∀a n cap,(builtin .len #[t] ty consts #[.slice a n cap]).run E.P w= .ok (.value (.int .i64 n)) w:=by
      intro a n cap
      simp [builtin,Builtin.len_,run_underlying hd,goInt]
    unfold lenA at h
    split at h
    · cases hu with | c _ _ hu=>cases hu with | d _ _ _ hu=>cases hu with
      | none a cap=>exact⟨_,_,main _ _ _,.ofInt _ _,h⟩
      | rows b off cap _ n _ u hb hn=>subst hn;exact⟨_,_,main _ _ _,.ofInt _ _,h⟩
    · cases hu with | c _ _ hu=>cases hu with | clip _ a n _ _ hu=>cases hu with
      | none a cap=>exact⟨_,_,main _ _ _,.ofInt _ _,h⟩
      | rows b off cap _ n _ u hb hn=>subst hn;exact⟨_,_,main _ _ _,.ofInt _ _,h⟩
    · cases hu with | c _ _ hu=>cases hu with
      | os0=>exact⟨_,_,main _ _ _,.ofInt _ _,h⟩
      | osE=>exact⟨_,_,main _ _ _,.ofInt _ _,h⟩
      | os _ _ _ _ cap b hl hm hn hroom=>exact⟨_,_,main _ _ _,.ofInt _ _,h⟩
    · cases hu with | c _ _ hu=>cases hu;exact⟨_,_,main _ _ _,.ofInt _ _,h⟩
    · exact h.elim
  · exact hs.elim
theorem cap_gives {E:Tab} (hE:TabOK E) {c:Ctx} {w:World} {t:TypeId} {y:TY} (hy:E.ty t=some y) (hs:(match y.desc with | .slice _=>True | _=>False)) {u:Value} {p:PV} {K:PV→Prop}
    (hu:RelV c w u p) (h:capA p K) (consts:Array Bool) (ty:TypeId):
    ∃r pv,(builtin .cap #[t] ty consts #[u]).run E.P w= .ok (.value r) w∧RelV c w r pv∧K pv:=by
  have hd:=(hE.ty t y hy).desc
  split at hs
  · rename_i e he
    rw [he]at hd
    unfold capA at h
    split at h
    · cases hu with | c _ _ hu=>
      cases hu
      refine⟨.int .i64 0,_,?_,.ofInt _ _,h⟩
      simp [builtin,Builtin.cap_,run_underlying hd,goInt]
    · exact h.elim
  · exact hs.elim
theorem extract_gives {P:Program} {c:Ctx} {w:World} {i:Nat} {u:Value} {p:PV} {K:PV→Prop} (hu:RelV c w u p) (h:extractA p i K):Gives P c w (Instr.extract u i) K:=by
  unfold extractA at h
  split at h
  · replace h:=withV_some h;obtain⟨v,hv,hk⟩:=h
    cases hu with | tup vs _ hl hr=>
    rename_i ps
    have hi:i<ps.length:=(List.getElem?_eq_some_iff.1 hv).1
    have hi':i<vs.length:=by omega
    have:=hr i hi
    rw [getD_of hv]at this
    refine⟨vs.getD i undef,v,?_,this,hk⟩
    simp [Instr.extract,List.getElem?_eq_getElem hi']
  · exact h.elim
end Go.AE
namespace Go.AE
open Go
theorem optI_some {E:Tab} {c:Ctx} {w:World} {t:Slots} {h:Heap} {a:Act} (A:AbsT E c w t h a) {o:Option Operand} {d:Int} {K:Int→Prop} (hk:optI E t o d K):
    ∃n:Int,K n∧((o=none∧n=d)∨∃x k,o=some x∧a.eval x= .int k n):=by
  cases o with
  | none=>exact⟨d,hk,.inl ⟨rfl,rfl⟩⟩
  | some x=>
    obtain⟨v,hv,hk⟩:=withE A hk
    obtain⟨f,k,n,rfl,hk⟩:=intA_some hk
    exact⟨n,hk,.inr ⟨x,k,rfl,rel_int hv⟩⟩
theorem run_sliceBound {P:Program} {w:World} {k:IntKind} {i:Int} {y:Nat} {code:BoundsCode} (h0:0≤i) (h1:i≤y):
    (Instr.sliceBound (.int k i) y code).run P w= .ok i.toNat w:=by
  simp [Instr.sliceBound,asIntOf,h0,h1]
theorem run_bounds2 {P:Program} {w:World} {len cap:Nat} {l h:Int} {lo hi:Option Value} (hl:(lo=none∧l=0)∨∃k,lo=some (.int k l)) (hh:(hi=none∧h=len)∨∃k,hi=some (.int k h))
    (h0:0≤l) (h1:l≤h) (h2:h≤len) (h3:len≤cap):(Instr.sliceBounds true len cap lo hi none).run P w= .ok (l.toNat,h.toNat,cap) w:=by
  have e1:∀k,(Instr.sliceBound (.int k h) cap .sliceAcap).run P w= .ok h.toNat w:=fun k=>run_sliceBound (by omega) (by omega)
  have e2:∀k,(Instr.sliceBound (.int k l) h.toNat .sliceB).run P w= .ok l.toNat w:=fun k=>run_sliceBound h0 (by omega)
  rcases hl with⟨rfl,rfl⟩ | ⟨k,rfl⟩<;>rcases hh with⟨rfl,rfl⟩ | ⟨k',rfl⟩<;>simp [Instr.sliceBounds,e1]<;>first | done | (have e3:=e2 k;(try simp at e3);simp [e3])
theorem run_bounds3 {P:Program} {w:World} {len cap:Nat} {l h:Int} {lo:Option Value} {k k':IntKind} (hl:(lo=none∧l=0)∨∃k,lo=some (.int k l))
    (h0:0≤l) (h1:l≤h) (h2:h≤cap):(Instr.sliceBounds true len cap lo (some (.int k h)) (some (.int k' h))).run P w= .ok (l.toNat,h.toNat,h.toNat) w:=by
  have e0:(Instr.sliceBound (.int k' h) cap .slice3Acap).run P w= .ok h.toNat w:=run_sliceBound (by omega) (by omega)
  have e1:(Instr.sliceBound (.int k h) h.toNat .slice3B).run P w= .ok h.toNat w:=run_sliceBound (by omega) (by omega)
  have e2:∀k,(Instr.sliceBound (.int k l) h.toNat .slice3C).run P w= .ok l.toNat w:=fun k=>run_sliceBound h0 (by omega)
  rcases hl with⟨rfl,rfl⟩ | ⟨k,rfl⟩<;>simp [Instr.sliceBounds,e0,e1,e2]
theorem getD_take_drop {es:List (List D)} {l h i:Nat} (hi:i<h-l):((es.take h).drop l).getD i []=es.getD (l+i) []:=by
  simp only [List.getD,List.getElem?_drop]
  rw [List.getElem?_take_of_lt (by omega)]
theorem RelD.sub {K:Nat→Prop} {w:World} {a:Option Addr} {n cap sz l h m:Nat} {es:List (List D)} (hr:RelD K w (.slice a n cap) (.rows sz es)) (hl:l≤h) (hh:h≤es.length) (hm:h≤m)
    (b':Option Addr) (hb:b'=if m=l then a else a.map (·.add (l*sz))):RelD K w (.slice b' (h-l) (m-l)) (.rows sz ((es.take h).drop l)):=by
  by_cases he:l=h
  · subst he
    have:(es.take l).drop l=[]:=by simp
    rw [this,Nat.sub_self]
    exact .none _ _ _
  · have hlt:l<h:=by omega
    cases hr with
    | none=>simp at hh;omega
    | rows b off _ _ _ _ u hb0 hn hcap hc hl' hrr=>
      have hne:¬m=l:=by omega
      rw [hb,if_neg hne]
      simp only [Option.map_some,addr_add]
      have hlen:((es.take h).drop l).length=h-l:=by simp;omega
      refine .rows b (off+l*sz) (m-l) sz (h-l) _ (fun i j=>u (l+i) j) hb0 (by simp;omega) (by omega) ?_ ?_ ?_
      · intro i j hi hj
        rw [hlen]at hi
        have:=hc (l+i) j (by omega) hj
        rw [Nat.add_mul]at this
        rw [show off+l*sz+i*sz+j=off+(l*sz+i*sz)+j from by omega];exact this
      · intro i hi
        rw [hlen]at hi
        rw [getD_take_drop hi];exact hl' _ (by omega)
      · intro i j hi hj
        rw [hlen]at hi
        unfold gd
        rw [getD_take_drop hi];exact hrr _ _ (by omega) hj
theorem RelD.slice_of {K:Nat→Prop} {w:World} {u:Value} {sz:Nat} {es:List (List D)} (hu:RelD K w u (.rows sz es)):∃a n cap,u= .slice a n cap∧n=es.length∧n≤cap:=by
  cases hu with
  | none a cap=>exact⟨a,0,cap,rfl,rfl,Nat.zero_le _⟩
  | rows b off cap _ n _ u hb hn hcap=>exact⟨_,_,_,rfl,hn,hcap⟩
theorem slice_gives {E:Tab} (hE:TabOK E) {c:Ctx} {w:World} {t:Slots} {h:Heap} {ac:Act} (A:AbsT E c w t h ac) {ty:TypeId} {u:Value} {p:PV} {lo hi mx:Option Operand} {K:PV→Prop}
    (hu:RelV c w u p) (hk:sliceA E t ty p lo hi mx K):Gives E.P c w (Instr.sliceAt ty u (lo.map ac.eval) (hi.map ac.eval) (mx.map ac.eval)) K:=by
  replace hk:=withTY_some hk;obtain⟨y,hy,hk⟩:=hk
  split at hk
  · rename_i e he
    replace hk:=withTY_some hk;obtain⟨z,hz,hk⟩:=hk
    have hun:=(hE.ty ty y hy).desc
    rw [he]at hun
    replace hk:=optI_some A hk;obtain⟨l,hk,hlo⟩:=hk
    have hlo':(lo.map ac.eval=none∧l=0)∨∃k,lo.map ac.eval=some (.int k l):=by
      rcases hlo with⟨rfl,rfl⟩ | ⟨x,k,rfl,hx⟩
      · exact .inl ⟨rfl,rfl⟩
      · exact .inr ⟨k,by simp [hx]⟩
    split at hk
    · rename_i f sz es
      obtain⟨hsz,hk⟩:=hk
      replace hk:=optI_some A hk;obtain⟨hh,hk,hhi⟩:=hk
      obtain⟨h0,h1,h2,hk⟩:=hk
      have hhi':(hi.map ac.eval=none∧hh=es.length)∨∃k,hi.map ac.eval=some (.int k hh):=by
        rcases hhi with⟨rfl,rfl⟩ | ⟨x,k,rfl,hx⟩
        · exact .inl ⟨rfl,rfl⟩
        · exact .inr ⟨k,by simp [hx]⟩
      cases hu with | c _ _ hu=>cases hu with | d _ _ _ hu=>
      obtain⟨a,n,cap,rfl,hn,hcap⟩:=hu.slice_of
      have hsub:∀m b',hh.toNat≤m→m≤cap→b'=(if m=l.toNat then a else a.map (·.add (l.toNat*z.size)))→
          RelD (c.K f) w (.slice b' (hh.toNat-l.toNat) (m-l.toNat)) (.rows sz ((es.take hh.toNat).drop l.toNat)):=by
        intro m b' hm1 hm2 hb'
        by_cases he0:es=[]
        · subst he0
          have:((([]:List (List D)).take hh.toNat).drop l.toNat)=[]:=by simp
          rw [this]
          have hz0:hh.toNat-l.toNat=0:=by simp at h2;omega
          rw [hz0];exact .none _ _ _
        · have:=hsz he0
          subst this
          exact hu.sub (by omega) (by omega) hm1 b' hb'
      cases mx with
      | none=>
        simp only at hk
        refine⟨_,_,?_,.c _ _ (.d f _ _ (hsub cap _ (by omega) (Nat.le_refl _) rfl)),hk⟩
        have hb:=run_bounds2 (P:=E.P) (w:=w) (len:=n) (cap:=cap) hlo' (by rw [hn];exact hhi') h0 h1 (by omega) hcap
        simp [Instr.sliceAt,run_underlying hun,Instr.slice,hb,run_sizeOf hE hz]
      | some mo=>
        simp only at hk
        replace hk:=optI_some A hk;obtain⟨m,⟨hs,hmh,hk⟩,hmx⟩:=hk
        subst hmh
        rcases hmx with⟨h',_⟩ | ⟨x,k,hx,hxe⟩
        · cases h'
        · cases hx
          rcases hhi with⟨rfl,_⟩ | ⟨x',k',rfl,hx'⟩
          · simp at hs
          · have hb:=run_bounds3 (P:=E.P) (w:=w) (len:=n) (cap:=cap) (k:=k') (k':=k) hlo' h0 h1 (by omega)
            refine⟨_,_,?_,.c _ _ (.clip f _ _ _ _ (hsub m.toNat _ (Nat.le_refl _) (by omega) rfl)),hk⟩
            simp [Instr.sliceAt,run_underlying hun,Instr.slice,hxe,hx',hb,run_sizeOf hE hz]
    · rename_i b sz lo0 n
      obtain⟨rfl,hmx,hk⟩:=hk
      subst hmx
      replace hk:=optI_some A hk;obtain⟨hh,hk,hhi⟩:=hk
      obtain⟨h0,h1,h2,hk⟩:=hk
      have hhi':(hi.map ac.eval=none∧hh=n)∨∃k,hi.map ac.eval=some (.int k hh):=by
        rcases hhi with⟨rfl,rfl⟩ | ⟨x,k,rfl,hx⟩
        · exact .inl ⟨rfl,rfl⟩
        · exact .inr ⟨k,by simp [hx]⟩
      cases hu with | c _ _ hu=>cases hu with
      | os0 a _ _ hl hm=>
        have hl0:l=0:=by omega
        have hh0:hh=0:=by omega
        subst hl0;subst hh0
        have hb:=run_bounds2 (P:=E.P) (w:=w) (len:=0) (cap:=0) hlo' hhi' h0 h1 (by omega) (Nat.le_refl _)
        refine⟨.slice a 0 0,_,?_,.c _ _ (.os0 a b z.size hl hm),by simpa using hk⟩
        simp at hb
        simp [Instr.sliceAt,run_underlying hun,Instr.slice,hb,run_sizeOf hE hz]
      | osE a _ _ _ bb hl hm=>
        have hl0:l=0:=by omega
        have hh0:hh=0:=by omega
        subst hl0;subst hh0
        have hb:=run_bounds2 (P:=E.P) (w:=w) (len:=0) (cap:=0) hlo' hhi' h0 h1 (by omega) (Nat.le_refl _)
        refine⟨.slice a 0 0,_,?_,.c _ _ (.osE a b z.size lo0 bb hl hm),by simpa using hk⟩
        simp at hb
        simp [Instr.sliceAt,run_underlying hun,Instr.slice,hb,run_sizeOf hE hz]
      | os _ _ _ _ cap bb hl hm hn hroom=>
        have hb:=run_bounds2 (P:=E.P) (w:=w) (len:=n) (cap:=cap) hlo' hhi' h0 h1 h2 hn
        by_cases hc:cap=l.toNat
        · subst hc
          have hz0:hh.toNat-l.toNat=0:=by omega
          refine⟨.slice (some ⟨bb,lo0*z.size,none⟩) 0 0,_,?_,.c _ _ (.osE _ b z.size (lo0+l.toNat) bb hl hm),by rw [hz0]at hk;exact hk⟩
          simp [Instr.sliceAt,run_underlying hun,Instr.slice,hb,run_sizeOf hE hz,hz0]
        · refine⟨.slice (some ⟨bb,(lo0+l.toNat)*z.size,none⟩) (hh.toNat-l.toNat) (cap-l.toNat),_,?_,.c _ _ (.os b z.size _ _ _ bb hl hm (by omega) ?_),hk⟩
          · simp [Instr.sliceAt,run_underlying hun,Instr.slice,hb,run_sizeOf hE hz,hc,addr_add,Nat.add_mul]
          · rw [show lo0+l.toNat+(cap-l.toNat)=lo0+cap from by omega];exact hroom
    · obtain⟨hmx,hk⟩:=hk
      subst hmx
      replace hk:=optI_some A hk;obtain⟨hh,hk,hhi⟩:=hk
      obtain⟨rfl,rfl,hk⟩:=hk
      have hhi':(hi.map ac.eval=none∧(0:Int)=(0:Nat))∨∃k,hi.map ac.eval=some (.int k 0):=by
        rcases hhi with⟨rfl,_⟩ | ⟨x,k,rfl,hx⟩
        · exact .inl ⟨rfl,rfl⟩
        · exact .inr ⟨k,by simp [hx]⟩
      cases hu with | c _ _ hu=>cases hu with | nil=>
      have hb:=run_bounds2 (P:=E.P) (w:=w) (len:=0) (cap:=0) hlo' hhi' (by omega) (by omega) (by omega) (Nat.le_refl _)
      refine⟨.slice none 0 0,_,?_,.c _ _ .nil,hk⟩
      simp at hb
      simp [Instr.sliceAt,run_underlying hun,Instr.slice,hb,run_sizeOf hE hz]
    · exact hk.elim
  · exact hk.elim
end Go.AE
namespace Go.AE
open Go
theorem RelC.cells {c:Ctx} {w:World} {v:Value} {x:Cell} (h:RelC c w v x):v.cells= #[v]:=by
  cases h with
  | d f _ x h=>cases h<;>rfl
  | nil=>rfl
  | clip=>rfl
  | os0=>rfl
  | osE=>rfl
  | os=>rfl
  | ptr=>rfl
  | rp=>rfl
  | fn=>rfl
  | np=>rfl
theorem RelV.cells {c:Ctx} {w:World} {v:Value} {p:PV} (h:RelV c w v p) (hn:(pvCells p).length≠0):F2 (RelC c w) v.cells.toList (pvCells p):=by
  cases h with
  | c _ x h=>rw [h.cells];exact .cons h .nil
  | agg vs cs h=>simpa [Value.cells,pvCells]using h
  | tup=>simp [pvCells]at hn
theorem set_splice (l:List Value):∀(vs:List Value) (off k:Nat),off+k+vs.length≤l.length→
    (vs.zipIdx k).foldl (fun(cs:List Value) (x:Value×Nat)=>cs.set (off+x.2) x.1) l=l.take (off+k)++vs++l.drop (off+k+vs.length)
  | [],off,k,h=>by simp
  | v::vs,off,k,h=>by
    simp only [List.length_cons]at h
    rw [List.zipIdx_cons,List.foldl_cons]
    have hs:=set_splice (l.set (off+k) v) vs off (k+1) (by simp;omega)
    rw [hs]
    have e1:(l.set (off+k) v).take (off+(k+1))=l.take (off+k)++ [v]:=by
      rw [show off+(k+1)=off+k+1 from by omega,List.take_add_one]
      rw [List.take_set_of_le (Nat.le_refl _)]
      simp [List.getElem?_set_self (show off+k<l.length by omega)]
    have e2:(l.set (off+k) v).drop (off+(k+1)+vs.length)=l.drop (off+k+(v::vs).length):=by
      rw [List.drop_set_of_lt (by omega)]
      congr 1
      simp;omega
    rw [e1,e2]
    simp
theorem foldl_toList (cells:Array Value) (l:List (Value×Nat)) (off:Nat):
    (l.foldl (fun(cs:Array Value) (x:Value×Nat)=>cs.setIfInBounds (off+x.2) x.1) cells).toList=l.foldl (fun(cs:List Value) (x:Value×Nat)=>cs.set (off+x.2) x.1) cells.toList:=by
  induction l generalizing cells with
  | nil=>rfl
  | cons x l ih=>simp only [List.foldl_cons];rw [ih];simp
theorem fill_sound {E:Tab} {c:Ctx} {w:World} {t:Slots} {h:Heap} {a:Act} (A:AbsT E c w t h a) (place:Nat→Option (Nat×Nat)):
    ∀(parts:List (Nat×Operand)) (cs:List Cell) (vs:Array Value) (K:List Cell→Prop),F2 (RelC c w) vs.toList cs→fillA E t place parts cs K→
      ∃(vs':Array Value) (cs':List Cell),Instr.fill place vs (parts.map fun x=>(x.1,a.eval x.2))=some vs'∧F2 (RelC c w) vs'.toList cs'∧K cs'
  | [],cs,vs,K,hr,hk=>⟨vs,cs,rfl,hr,hk⟩
  | (i,x)::rest,cs,vs,K,hr,hk=>by
    unfold fillA at hk
    cases hp:place i with
    | none=>rw [hp]at hk;exact hk.elim
    | some os=>
      obtain⟨off,size⟩:=os
      rw [hp]at hk
      replace hk:=withE A hk;obtain⟨v,hv,hl,hs,ho,hk⟩:=hk
      have hc:=hv.cells (by rw [hl];exact hs)
      have hcl:=hc.length
      have hvl:=hr.length
      have hlen:(a.eval x).cells.size=size:=by rw [←hl,←hcl];simp
      have hnew:F2 (RelC c w) ((a.eval x).cells.zipIdx.foldl (fun(cs:Array Value) (x:Value×Nat)=>cs.setIfInBounds (off+x.2) x.1) vs).toList (splice cs (pvCells v) off):=by
        rw [←Array.foldl_toList,foldl_toList,Array.toList_zipIdx]
        rw [set_splice _ _ off 0 (by simp;simp at hvl;omega)]
        unfold splice
        refine((hr.take _).append hc).append ?_
        rw [Nat.add_zero,hcl]
        exact hr.drop _
      obtain⟨vs',cs',h1,h2,h3⟩:=fill_sound A place rest _ _ K hnew hk
      refine⟨vs',cs',?_,h2,h3⟩
      simp only [List.map_cons,Instr.fill,hp]
      rw [if_neg (by simp at hvl;simp [hlen];omega)]
      exact h1
theorem places_of {E:Tab} (hE:TabOK E):∀(F:List Field),(∀ft∈F.map (fun f=>(f.offset,f.type)),(E.ty ft.2).isSome=true)→
    ∃places,F.mapM (fun f=>(E.P.info? f.type).map fun i=>(f.offset,i.size))=some places∧∀i,places[i]? =fieldPl E (F.map (fun f=>(f.offset,f.type))) i
  | [],_=>⟨[],rfl,fun i=>by simp [fieldPl]⟩
  | f::F,h=>by
    obtain⟨places,hp,hi⟩:=places_of hE F (fun ft hm=>h ft (by simp at hm ⊢;exact .inr hm))
    obtain⟨z,hz⟩:=Option.isSome_iff_exists.1 (h (f.offset,f.type) (by simp))
    obtain⟨inf,hinf,hs,_⟩:=(hE.ty _ z hz).info
    refine⟨(f.offset,z.size)::places,by simp [List.mapM_cons,hinf,hp,hs],fun i=> ?_⟩
    cases i with
    | zero=>simp [fieldPl,hz]
    | succ i=>simpa [fieldPl]using hi i
theorem build_gives {E:Tab} (hE:TabOK E) {c:Ctx} {w:World} {t:Slots} {h:Heap} {a:Act} (A:AbsT E c w t h a) {ty:TypeId} {parts:Array (Nat×Operand)} {K:PV→Prop}
    (hk:buildA E t ty parts.toList K):Gives E.P c w (Instr.build ty (parts.map fun(i,x)=>(i,a.eval x))) K:=by
  replace hk:=withTY_some hk;obtain⟨y,hy,hk⟩:=hk
  split at hk
  · rename_i fs he
    obtain⟨hty,hk⟩:=hk
    have hok:=hE.ty ty y hy
    have hd:=hok.desc
    rw [he]at hd
    obtain⟨F,hun,hF⟩:=hd
    obtain⟨inf,hinf,_,_,z,hz,hzero⟩:=hok.info
    obtain⟨places,hp,hpl⟩:=places_of hE F.toList (by rw [hF];exact hty)
    rw [hF]at hpl
    obtain⟨vs',cs',h1,h2,h3⟩:=fill_sound A (fieldPl E fs) parts.toList y.zero z.cells _ (hzero c w) hk
    refine⟨.agg vs',.agg cs',?_,?_,h3⟩
    · refine run_build w ty _ vs' ?_
      simp only [Program.built,hinf,hun,hz,hp]
      have:(fun(i:Nat)=>(places.toArray[i]? :Option (Nat×Nat)))=fieldPl E fs:=by funext i;simpa using hpl i
      rw [this]
      simpa using h1
    · have:=RelV.agg (c:=c) (w:=w) vs'.toList cs' h2
      simpa using this
  · exact hk.elim
theorem caps_sound {E:Tab} {c:Ctx} {w:World} {t:Slots} {h:Heap} {a:Act} (A:AbsT E c w t h a):
    ∀(xs:List Operand) (K:List Cell→Prop),capsA E t xs K→∃ys,ys.length=xs.length∧(∀i,i<ys.length→RelC c w ((xs.map a.eval).getD i undef) (ys.getD i default))∧K ys
  | [],K,hk=>⟨[],rfl,fun i hi=>by simp at hi,hk⟩
  | x::r,K,hk=>by
    unfold capsA at hk
    replace hk:=withE A hk;obtain⟨v,hv,hk⟩:=hk
    generalize hu:a.eval x=u at hv
    split at hk
    · rename_i y
      obtain⟨ys,hl,hr,hk⟩:=caps_sound A r _ hk
      cases hv with | c _ _ hv=>
      refine⟨y::ys,by simp [hl],fun i hi=> ?_,hk⟩
      cases i with
      | zero=>simpa [hu]using hv
      | succ i=>simpa using hr i (by simpa using hi)
    · exact hk.elim
theorem pureA_sound {E:Tab} (hE:TabOK E) {c:Ctx} {w:World} {t:Slots} {h:Heap} {a:Act} (A:AbsT E c w t h a) (o:Oper) {K:PV→Prop} (hk:pureA E o.op t h K):
    ∃u pv,(execOp a.eval o).run E.P w= .ok (.value u) w∧RelV c w u pv∧K pv:=by
  have lift:∀(s:Sem Value) (K:PV→Prop),Gives E.P c w s K→∃u pv,((do pure (Next.value (←s)):Sem Next)).run E.P w= .ok (.value u) w∧RelV c w u pv∧K pv:=by
    rintro s K ⟨u,pv,h1,h2,h3⟩
    exact⟨u,pv,by simp [h1],h2,h3⟩
  cases ho:o.op<;>rw [ho]at hk<;>simp only [pureA]at hk
  case move x=>
    replace hk:=withE A hk;obtain⟨v,hv,hk⟩:=hk
    exact⟨_,v,by simp [execOp,ho],hv,hk⟩
  case assign x=>
    replace hk:=withE A hk;obtain⟨v,hv,hk⟩:=hk
    exact⟨_,v,by simp [execOp,ho],hv,hk⟩
  case pick cd x y=>
    replace hk:=withE A hk;obtain⟨v,hv,hk⟩:=hk
    obtain⟨f,b,rfl,hk⟩:=boolA_some hk
    have hb:=rel_bool hv
    cases b with
    | true=>
      obtain⟨v',hv',hk⟩:=withE A (hk.1 rfl)
      exact⟨_,v',by simp [execOp,ho,hb,asBool],hv',hk⟩
    | false=>
      obtain⟨v',hv',hk⟩:=withE A (hk.2 rfl)
      exact⟨_,v',by simp [execOp,ho,hb,asBool],hv',hk⟩
  case load ty p=>
    replace hk:=withE A hk;obtain⟨v,hv,hk⟩:=hk
    have:=lift _ _ (load_gives hE A.heap hv hk)
    simpa [execOp,ho]using this
  case nilCheck x=>
    replace hk:=withE A hk;obtain⟨v,hv,hk⟩:=hk
    exact nil_gives ho rfl hv hk
  case binOp op ty x y yt=>
    replace hk:=withE A hk;obtain⟨u,hu,hk⟩:=hk
    replace hk:=withE A hk;obtain⟨v,hv,hk⟩:=hk
    have:=lift _ _ (bin_gives hE hu hv hk x y)
    simpa [execOp,ho]using this
  case unOp op ty x=>
    replace hk:=withE A hk;obtain⟨u,hu,hk⟩:=hk
    have:=lift _ _ (un_gives (P:=E.P) hu hk)
    simpa [execOp,ho]using this
  case convert s d x=>
    replace hk:=withE A hk;obtain⟨u,hu,hk⟩:=hk
    have:=lift _ _ (conv_gives hE hu hk)
    simpa [execOp,ho]using this
  case fieldAddr s x f=>
    replace hk:=withE A hk;obtain⟨u,hu,hk⟩:=hk
    have:=lift _ _ (fieldAddr_gives hE hu hk)
    simpa [execOp,ho]using this
  case field s x f=>
    replace hk:=withE A hk;obtain⟨u,hu,hk⟩:=hk
    have:=lift _ _ (field_gives hE hu hk)
    simpa [execOp,ho]using this
  case indexAddr ty x i=>
    replace hk:=withE A hk;obtain⟨u,hu,hk⟩:=hk
    replace hk:=withE A hk;obtain⟨v,hv,hk⟩:=hk
    have:=lift _ _ (indexAddr_gives hE hu hv hk)
    simpa [execOp,ho]using this
  case slice ty x lo hi mx=>
    replace hk:=withE A hk;obtain⟨u,hu,hk⟩:=hk
    have:=lift _ _ (slice_gives hE A hu hk)
    simpa [execOp,ho]using this
  case extract x i=>
    replace hk:=withE A hk;obtain⟨u,hu,hk⟩:=hk
    have:=lift _ _ (extract_gives (P:=E.P) hu hk)
    simpa [execOp,ho]using this
  case build ty parts=>
    have:=lift _ _ (build_gives hE A hk)
    simpa [execOp,ho]using this
  case makeFunc fn first caps=>
    split at hk
    · rename_i g
      obtain⟨rfl,hk⟩:=hk
      obtain⟨ys,hl,hr,hk⟩:=caps_sound A _ _ hk
      refine⟨.func (.func g) #[] (caps.map a.eval),_,by simp [execOp,ho,Instr.makeFunc],.c _ _ ?_,hk⟩
      have:=RelC.fn (c:=c) (w:=w) g (caps.toList.map a.eval) ys (by simp [hl]) hr
      have e:(caps.toList.map a.eval).toArray=caps.map a.eval:=by apply Array.ext';simp
      rwa [e]at this
    · exact hk.elim
  case call cl=>
    unfold callA at hk
    obtain⟨callee,args,argTypes⟩:=cl
    obtain⟨args⟩:=args
    obtain⟨argTypes⟩:=argTypes
    split at hk
    · rename_i hb
      simp only at hb;subst hb
      split at hk
      · rename_i x ty h1 h2
        simp only at h1 h2;subst h1;subst h2
        replace hk:=withTY_some hk;obtain⟨y,hy,hs,hk⟩:=hk
        replace hk:=withE A hk;obtain⟨u,hu,hk⟩:=hk
        obtain⟨r,pv,h1,h2,h3⟩:=len_gives hE hy hs hu hk (#[x].map fun | .const _=>true | _=>false) o.type
        refine⟨r,pv,?_,h2,h3⟩
        simp [execOp,ho,resolve,invoke]at h1 ⊢
        exact h1
      · exact hk.elim
    · rename_i hb
      simp only at hb;subst hb
      split at hk
      · rename_i x ty h1 h2
        simp only at h1 h2;subst h1;subst h2
        replace hk:=withTY_some hk;obtain⟨y,hy,hs,hk⟩:=hk
        replace hk:=withE A hk;obtain⟨u,hu,hk⟩:=hk
        obtain⟨r,pv,h1,h2,h3⟩:=cap_gives hE hy hs hu hk (#[x].map fun | .const _=>true | _=>false) o.type
        refine⟨r,pv,?_,h2,h3⟩
        simp [execOp,ho,resolve,invoke]at h1 ⊢
        exact h1
      · exact hk.elim
    · rename_i hb
      simp only at hb;subst hb
      split at hk
      · rename_i x y h1
        simp only at h1;subst h1
        replace hk:=withE A hk;obtain⟨u,hu,hk⟩:=hk
        replace hk:=withE A hk;obtain⟨v,hv,hk⟩:=hk
        replace hk:=intA_some hk;obtain⟨_,k,m,rfl,hk⟩:=hk
        replace hk:=intA_some hk;obtain⟨_,k',n,rfl,hk⟩:=hk
        refine⟨_,_,?_,.ofInt _ _,hk⟩
        simp [execOp,ho,resolve,invoke,builtin,Builtin.min_,rel_int hu,rel_int hv,Builtin.min2]
      · exact hk.elim
    · rename_i hb
      simp only at hb;subst hb
      split at hk
      · rename_i x y h1
        simp only at h1;subst h1
        replace hk:=withE A hk;obtain⟨u,hu,hk⟩:=hk
        replace hk:=withE A hk;obtain⟨v,hv,hk⟩:=hk
        replace hk:=intA_some hk;obtain⟨_,k,m,rfl,hk⟩:=hk
        replace hk:=intA_some hk;obtain⟨_,k',n,rfl,hk⟩:=hk
        refine⟨_,_,?_,.ofInt _ _,hk⟩
        simp [execOp,ho,resolve,invoke,builtin,Builtin.max_,rel_int hu,rel_int hv,Builtin.max2]
      · exact hk.elim
    · exact hk.elim
  all_goals exact hk.elim
end Go.AE
namespace Go.AE
open Go
theorem look_cons_same (m:Nat) (o:AObj) (h:Heap):look ((m,o)::h) m=some o:=by simp [look]
theorem look_cons_ne {m l:Nat} (o:AObj) (h:Heap) (hne:m≠l):look ((m,o)::h) l=look h l:=by simp [look,hne]
def upd (μ:Nat→Option Nat) (l:Nat) (b:Option Nat):Nat→Option Nat:=fun x=>if x=l then b else μ x
def Ctx.name (c:Ctx) (b:Option Nat):Ctx:={c with μ:=upd c.μ c.n b,n:=c.n+1}
def Ctx.keep (c:Ctx) (f:Bool) (b:Option Nat):Ctx:={c with K:=fun g x=>c.K g x∨(some x=b∧(g=true→f=true))}
theorem Ctx.name_le (c:Ctx) (b:Option Nat):CLe c (c.name b):=
  ⟨fun _ _ h=>h,Nat.le_succ _,fun l hl=>by simp only [Ctx.name,upd];rw [if_neg (by omega)]⟩
theorem Ctx.keep_le (c:Ctx) (f:Bool) (b:Option Nat):CLe c (c.keep f b):=⟨fun _ _ h=> .inl h,Nat.le_refl _,fun _ _=>rfl⟩
theorem stays_of {w w':World} (h:∀(b:Nat) (c:Array Value) (E:TypeId) (fr:Nat×Nat),w.heap[b]? =some (.cells c E fr)→∃c' fr',w'.heap[b]? =some (.cells c' E fr')∧c'.size=c.size):World.Stays w w':=by
  rintro b m ⟨c,E,fr,hb,hm⟩
  obtain⟨c',fr',hb',hs⟩:=h b c E fr hb
  exact⟨c',E,fr',hb',by omega⟩
theorem alloc_old {w:World} {o:Go.Obj} {b:Nat} (hb:b<w.heap.size):(w.alloc o).heap[b]? =w.heap[b]? :=RowKit.Below.heap_alloc w o b hb
theorem alloc_new (w:World) (o:Go.Obj):(w.alloc o).heap[w.heap.size]? =some o:=by
  show(w.heap.push o)[w.heap.size]? =_
  simp
theorem lt_of_some {w:World} {b:Nat} {o:Go.Obj} (h:w.heap[b]? =some o):b<w.heap.size:=(Array.getElem?_eq_some_iff.1 h).1
theorem stays_alloc (w:World) (o:Go.Obj):World.Stays w (w.alloc o):=
  stays_of fun b c E fr h=>⟨c,fr,by rw [alloc_old (lt_of_some h)];exact h,rfl⟩
theorem RelO.mono {c c':Ctx} {w w':World} {l:Nat} {o:AObj} (hc:CLe c c') (hw:∀f b,c.K f b→w'.heap[b]? =w.heap[b]?) (hs:World.Stays w w') (hl:l<c.n)
    (hb:∀b,o.live→c.μ l=some b→w'.heap[b]? =w.heap[b]?) (h:RelO c w l o):RelO c' w' l o:=by
  cases o with
  | box cs=>
    obtain⟨b,vs,E,hm,hx,hr⟩:=h
    exact⟨b,vs,E,(hc.μ l hl).trans hm,(hb b trivial hm).trans hx,F2.mono (fun _ _ h=>h.mono hc hw hs) hr⟩
  | rows f sz es=>
    simp only [RelO]at h ⊢
    rw [hc.μ l hl]
    cases hm:c.μ l with
    | none=>rw [hm]at h;exact h
    | some b=>
      rw [hm]at h
      obtain⟨cells,E,hx,hr⟩:=h
      refine⟨cells,E,(hb b trivial hm).trans hx,fun i hi=>⟨(hr i hi).1,fun j hj=> ?_⟩⟩
      obtain⟨v,hv,hd⟩:=(hr i hi).2 j hj
      exact⟨v,hv,hd.mono (hc.K f) (hw f)⟩
  | gone=>trivial
theorem RelO.lt {c:Ctx} {w:World} {l b:Nat} {o:AObj} (h:RelO c w l o) (ho:o.live) (hm:c.μ l=some b):b<w.heap.size:=by
  cases o with
  | box cs=>obtain⟨b',vs,E,hm',hx,_⟩:=h;rw [hm]at hm';cases hm';exact lt_of_some hx
  | rows f sz es=>simp only [RelO,hm]at h;obtain⟨cells,E,hx,_⟩:=h;exact lt_of_some hx
  | gone=>exact ho.elim
theorem RelH.new {c:Ctx} {w w':World} {h:Heap} (H:RelH c w h) {b:Option Nat} {o:AObj} (hb:∀x,b=some x→x=w.heap.size) (hs:World.Stays w w')
    (hold:∀x,x<w.heap.size→w'.heap[x]? =w.heap[x]?) (hsz:w.heap.size≤w'.heap.size) (ho:RelO (c.name b) w' c.n o):RelH (c.name b) w' ((c.n,o)::h) where
  obj:=by
    intro l o' hl
    by_cases e:c.n=l
    · subst e
      rw [look_cons_same]at hl;cases hl
      exact⟨Nat.lt_succ_self _,ho⟩
    · rw [look_cons_ne _ _ e]at hl
      obtain⟨h1,h2⟩:=H.obj l o' hl
      refine⟨Nat.lt_succ_of_lt h1,h2.mono (c.name_le b) (fun f x hx=>hold x (H.low f x hx)) hs h1 (fun x hlv hx=>hold x (h2.lt hlv hx))⟩
  inj:=by
    intro l o1 l' o2 x h1 hl1 h2 hl2 hm1 hm2
    by_cases e:c.n=l<;>by_cases e':c.n=l'
    · omega
    · exfalso
      subst e
      rw [look_cons_ne _ _ e']at h2
      have hlt:=(H.obj l' o2 h2).1
      simp only [Ctx.name,upd,if_true]at hm1
      have hx:=hb x hm1
      have:c.μ l'=some x:=by simpa [Ctx.name,upd,show l'≠c.n by omega]using hm2
      have:=(H.obj l' o2 h2).2.lt hl2 this
      omega
    · exfalso
      subst e'
      rw [look_cons_ne _ _ e]at h1
      have hlt:=(H.obj l o1 h1).1
      simp only [Ctx.name,upd,if_true]at hm2
      have hx:=hb x hm2
      have:c.μ l=some x:=by simpa [Ctx.name,upd,show l≠c.n by omega]using hm1
      have:=(H.obj l o1 h1).2.lt hl1 this
      omega
    · rw [look_cons_ne _ _ e]at h1
      rw [look_cons_ne _ _ e']at h2
      have a1:c.μ l=some x:=by simpa [Ctx.name,upd,show l≠c.n from fun h=>e h.symm]using hm1
      have a2:c.μ l'=some x:=by simpa [Ctx.name,upd,show l'≠c.n from fun h=>e' h.symm]using hm2
      exact H.inj l o1 l' o2 x h1 hl1 h2 hl2 a1 a2
  own:=by
    rintro f x ⟨l,o',hl,hlv,hm⟩ hk
    by_cases e:c.n=l
    · subst e
      simp only [Ctx.name,upd,if_true]at hm
      have:=hb x hm
      have:=H.low f x hk
      omega
    · rw [look_cons_ne _ _ e]at hl
      have a1:c.μ l=some x:=by simpa [Ctx.name,upd,show l≠c.n from fun h=>e h.symm]using hm
      exact H.own f x ⟨l,o',hl,hlv,a1⟩ hk
  low:=fun f x hk=>Nat.lt_of_lt_of_le (H.low f x hk) hsz
  sub:=H.sub
theorem Grow.new {c:Ctx} {w w':World} {h:Heap} {b:Option Nat} {o:AObj} (hb:∀x,b=some x→x=w.heap.size) (hs:World.Stays w w')
    (hold:∀x,x<w.heap.size→w'.heap[x]? =w.heap[x]?) (hsz:w.heap.size≤w'.heap.size) (h1:w'.os=w.os) (h2:w'.tape=w.tape) (h3:w'.output=w.output):
    Grow c w h (c.name b) w' ((c.n,o)::h) where
  le:=c.name_le b
  size:=hsz
  stays:=hs
  kept:=fun x hx _=>hold x hx
  newK:=fun _ _ hk=> .inl hk
  newO:=by
    rintro x ⟨l,o',hl,hlv,hm⟩
    by_cases e:c.n=l
    · subst e
      simp only [Ctx.name,upd,if_true]at hm
      exact .inr (by rw [hb x hm];exact Nat.le_refl _)
    · rw [look_cons_ne _ _ e]at hl
      exact .inl ⟨l,o',hl,hlv,by simpa [Ctx.name,upd,show l≠c.n from fun h=>e h.symm]using hm⟩
  os:=h1
  tape:=h2
  output:=h3
theorem RelH.write {c:Ctx} {w w':World} {h:Heap} (H:RelH c w h) {l b:Nat} {o o':AObj} (hl:look h l=some o) (hlv:o.live) (hm:c.μ l=some b)
    (hold:∀x,x≠b→w'.heap[x]? =w.heap[x]?) (hsz:w'.heap.size=w.heap.size) (hs:World.Stays w w') (ho:RelO c w' l o'):RelH c w' ((l,o')::h) where
  obj:=by
    intro k o1 hk
    by_cases e:l=k
    · subst e
      rw [look_cons_same]at hk;cases hk
      exact⟨(H.obj l o hl).1,ho⟩
    · rw [look_cons_ne _ _ e]at hk
      obtain⟨h1,h2⟩:=H.obj k o1 hk
      refine⟨h1,h2.mono (.refl c) (fun f x hx=>hold x (fun e'=> ?_)) hs h1 (fun x hx1 hx2=>hold x (fun e'=> ?_))⟩
      · subst e';exact H.own f x ⟨l,o,hl,hlv,hm⟩ hx
      · subst e';exact e (H.inj l o k o1 x hl hlv hk hx1 hm hx2)
  inj:=by
    intro k o1 k' o2 x h1 hl1 h2 hl2 hm1 hm2
    have fix:∀k o1,look ((l,o')::h) k=some o1→o1.live→∃o2,look h k=some o2∧o2.live:=by
      intro k o1 hk hk1
      by_cases e:l=k
      · subst e;exact⟨o,hl,hlv⟩
      · rw [look_cons_ne _ _ e]at hk;exact⟨o1,hk,hk1⟩
    obtain⟨p1,q1,r1⟩:=fix k o1 h1 hl1
    obtain⟨p2,q2,r2⟩:=fix k' o2 h2 hl2
    exact H.inj k p1 k' p2 x q1 r1 q2 r2 hm1 hm2
  own:=by
    rintro f x ⟨k,o1,hk,hk1,hx⟩ hkk
    by_cases e:l=k
    · subst e;exact H.own f x ⟨l,o,hl,hlv,hx⟩ hkk
    · rw [look_cons_ne _ _ e]at hk;exact H.own f x ⟨k,o1,hk,hk1,hx⟩ hkk
  low:=fun f x hk=>by rw [hsz];exact H.low f x hk
  sub:=H.sub
theorem Grow.write {c:Ctx} {w w':World} {h:Heap} {l b:Nat} {o o':AObj} (hl:look h l=some o) (hlv:o.live) (hm:c.μ l=some b)
    (hold:∀x,x≠b→w'.heap[x]? =w.heap[x]?) (hsz:w'.heap.size=w.heap.size) (hs:World.Stays w w') (h1:w'.os=w.os) (h2:w'.tape=w.tape) (h3:w'.output=w.output):
    Grow c w h c w' ((l,o')::h) where
  le:= .refl c
  size:=by omega
  stays:=hs
  kept:=fun x _ hn=>hold x (fun e=>hn ⟨l,o,hl,hlv,by rw [e];exact hm⟩)
  newK:=fun _ _ hk=> .inl hk
  newO:=by
    rintro x ⟨k,o1,hk,hk1,hx⟩
    by_cases e:l=k
    · subst e;exact .inl ⟨l,o,hl,hlv,hx⟩
    · rw [look_cons_ne _ _ e]at hk;exact .inl ⟨k,o1,hk,hk1,hx⟩
  os:=h1
  tape:=h2
  output:=h3
theorem RelH.give {c:Ctx} {w:World} {h:Heap} (H:RelH c w h) {l:Nat} {o:AObj} (f:Bool) (hl:look h l=some o) (hlv:o.live):RelH (c.keep f (c.μ l)) w ((l,.gone)::h) where
  obj:=by
    intro k o1 hk
    by_cases e:l=k
    · subst e
      rw [look_cons_same]at hk;cases hk
      exact⟨(H.obj l o hl).1,trivial⟩
    · rw [look_cons_ne _ _ e]at hk
      obtain⟨h1,h2⟩:=H.obj k o1 hk
      exact⟨h1,h2.mono (c.keep_le f _) (fun _ _ _=>rfl) (.refl w) h1 (fun _ _ _=>rfl)⟩
  inj:=by
    intro k o1 k' o2 x h1 hl1 h2 hl2 hm1 hm2
    by_cases e:l=k
    · subst e;rw [look_cons_same]at h1;cases h1;exact hl1.elim
    · by_cases e':l=k'
      · subst e';rw [look_cons_same]at h2;cases h2;exact hl2.elim
      · rw [look_cons_ne _ _ e]at h1
        rw [look_cons_ne _ _ e']at h2
        exact H.inj k o1 k' o2 x h1 hl1 h2 hl2 hm1 hm2
  own:=by
    rintro g x ⟨k,o1,hk,hk1,hx⟩ hkk
    by_cases e:l=k
    · subst e;rw [look_cons_same]at hk;cases hk;exact hk1.elim
    · rw [look_cons_ne _ _ e]at hk
      rcases hkk with hkk | ⟨hkk,_⟩
      · exact H.own g x ⟨k,o1,hk,hk1,hx⟩ hkk
      · exact e (H.inj l o k o1 x hl hlv hk hk1 hkk.symm hx)
  low:=by
    rintro g x (hk | ⟨hk,_⟩)
    · exact H.low g x hk
    · exact(H.obj l o hl).2.lt hlv hk.symm
  sub:=by
    rintro x (hk | ⟨hk,hf⟩)
    · exact .inl (H.sub x hk)
    · exact .inr ⟨hk,fun h=>by cases h⟩
theorem Grow.give {c:Ctx} {w:World} {h:Heap} {l:Nat} {o:AObj} (f:Bool) (hl:look h l=some o) (hlv:o.live):Grow c w h (c.keep f (c.μ l)) w ((l,.gone)::h) where
  le:=c.keep_le f _
  size:=Nat.le_refl _
  stays:= .refl w
  kept:=fun _ _ _=>rfl
  newK:=by
    rintro g x (hk | ⟨hk,_⟩)
    · exact .inl hk
    · exact .inr (.inr ⟨l,o,hl,hlv,hk.symm⟩)
  newO:=by
    rintro x ⟨k,o1,hk,hk1,hx⟩
    by_cases e:l=k
    · subst e;rw [look_cons_same]at hk;cases hk;exact hk1.elim
    · rw [look_cons_ne _ _ e]at hk;exact .inl ⟨k,o1,hk,hk1,hx⟩
  os:=rfl
  tape:=rfl
  output:=rfl
theorem GlobOK.grow {E:Tab} {c c':Ctx} {w w':World} {h h':Heap} (r:RelH c w h) (g:Grow c w h c' w' h') (G:GlobOK E c w):GlobOK E c' w':=by
  intro x d hd
  obtain⟨h1,u,h2,h3⟩:=G x d hd
  exact⟨g.le.K _ _ h1,u,by rw [cell?_congr (g.ro r false x h1)];exact h2,h3.mono (g.le.K false) (g.ro r false)⟩
end Go.AE
namespace Go.AE
open Go
def nm (n k:Nat):Nat:=n+k
theorem nm_nm {n a b:Nat}:nm (nm n a) b=nm n (a+b):=by simp [nm,Nat.add_assoc]
def giveC (h:Heap) (x:Cell) (K:Bool→D→Heap→Prop):Prop:=
  match x with
  | .d f x=>K (f || x.scal) x h
  | .nil=>∃sz,K true (.rows sz []) h
  | .clip f sz es=>K f (.rows sz es) h
  | .os l sz lo n=>withO (look h l) fun o=>match o with
    | .rows f sz' es=>sz=sz'∧lo+n≤es.length∧K f (.rows sz ((es.drop lo).take n)) ((l,.gone)::h)
    | _=>False
  | _=>False
def giveCs (h:Heap):List Cell→(Bool→List D→Heap→Prop)→Prop
  | [],K=>K true [] h
  | x::r,K=>giveC h x fun f d h'=>giveCs h' r fun g ds h''=>K (f&&g) (d::ds) h''
def partsA (E:Tab) (t:Slots) (sz:Nat):Heap→List (Nat×Operand)→(Bool→List (List D)→Heap→Prop)→Prop
  | h,[],K=>K true [] h
  | h,(_,x)::r,K=>withV (ev E t x) fun v=>(pvCells v).length=sz∧giveCs h (pvCells v) fun f ds h'=>partsA E t sz h' r fun g dss h''=>K (f&&g) (ds::dss) h''
def intsOf (k:IntKind):List (List D)→Option (List Int)
  | []=>some []
  | [.int k' n]::r=>if k=k' then(match intsOf k r with | some l=>some (n::l) | none=>none)else none
  | _=>none
def ir (d:TDesc) (es:List (List D)):List (List D):=
  match d with
  | .int k=>match intsOf k es with | some xs=>xs.map (ic k) | none=>es
  | _=>es
inductive ZD:List Cell→List D→Prop
  | nil:ZD [] []
  | d (f:Bool) (x:D) {r:List Cell} {ds:List D}:ZD r ds→ZD (.d f x::r) (x::ds)
  | nl (sz:Nat) {r:List Cell} {ds:List D}:ZD r ds→ZD (.nil::r) (.rows sz []::ds)
def maxN:Nat:=1073741824
def spliceD (row ds:List D) (j:Nat):List D:=row.take j++ds++row.drop (j+ds.length)
def storeA (h:Heap) (y:TY) (p v:PV) (K:Heap→Prop):Prop:=
  (pvCells v).length=y.size∧y.size≠0∧
  match p with
  | .c (.ptr l sz i j)=>withO (look h l) fun o=>match o with
    | .box cs=>i=0∧j+(pvCells v).length≤cs.length∧K ((l,.box (splice cs (pvCells v) j))::h)
    | .rows f sz' es=>sz=sz'∧i<es.length∧giveCs h (pvCells v) fun g ds h'=>look h' l=some (.rows f sz' es)∧j+ds.length≤sz∧
        ∀row,es[i]? =some row→K ((l,.rows (f&&g) sz (es.set i (if j=0∧ds.length=sz then ds else spliceD row ds j)))::h')
    | .gone=>False
  | _=>False
def srcTy (d:TDesc) (v:PV):Prop:=match d,v with | .int _,.c (.d _ (.int _ _))=>True | .slice _,.c (.d _ (.int _ _))=>False | .slice _,_=>True | _,_=>False
def srcA (h:Heap) (zd:List D) (v:PV) (K:Bool→Nat→List (List D)→Prop):Prop:=
  match v with
  | .c .nil=>K true 0 []
  | .c (.d f (.rows sz es))=>K f sz es
  | .c (.clip f sz es)=>K f sz es
  | .c (.os l sz lo n)=>withO (look h l) fun o=>match o with
    | .rows f sz' es=>sz=sz'∧lo+n≤es.length∧K f sz ((es.drop lo).take n)
    | _=>False
  | .c (.d _ (.int _ n))=>0≤n∧n≤maxN∧K true zd.length (List.replicate n.toNat zd)
  | _=>False
def scalE (ds:List (List D)):Bool:=ds.all fun r=>r.all D.scal
def appTailA (h:Heap) (n k:Nat) (z:TY) (a:PV) (f2:Bool) (ds:List (List D)) (K:PV→Heap→Nat→Prop):Prop:=
  match a with
  | .c .nil=>ds.length≤maxN∧K (.c (.os (nm n k) z.size 0 ds.length)) ((nm n k,.rows f2 z.size ds)::h) (k+1)
  | .c (.os l sz lo m)=>withO (look h l) fun o=>match o with
    | .rows f1 sz1 es=>lo=0∧m≤es.length∧sz=sz1∧sz=z.size∧m+ds.length≤maxN∧
        K (.c (.os (nm n k) z.size 0 (m+ds.length))) ((nm n k,.rows (f1&&f2) z.size (es.take m++ds))::(l,.gone)::h) (k+1)
    | _=>False
  | .c (.clip f1 sz es) => (es ≠ [] → sz = z.size) ∧ (ds = [] → es = []) ∧ es.length + ds.length ≤ maxN ∧
        K (.c (.os (nm n k) z.size 0 (es.length+ds.length))) ((nm n k,.rows (f1&&f2) z.size (es++ds))::h) (k+1)
  | _=>False
def appendA (h:Heap) (n k:Nat) (z:TY) (a b:PV) (K:PV→Heap→Nat→Prop):Prop:=
  ∃zd,ZD z.zero zd∧z.size≠0∧z.bytes≤1024∧srcA h zd b fun f0 sz2 ds=>(ds≠ []→sz2=z.size)∧appTailA h n k z a (f0 || scalE ds) ds K
def clearA (h:Heap) (zd:List D) (z:TY) (v:PV) (K:Heap→Prop):Prop:=
  match v with
  | .c .nil=>K h
  | .c (.os l sz lo n)=>withO (look h l) fun o=>match o with
    | .rows f sz' es=>sz=sz'∧sz=z.size∧z.size≠0∧lo+n≤es.length∧K ((l,.rows f sz (es.take lo++List.replicate n zd++es.drop (lo+n)))::h)
    | _=>False
  | _=>False
def heapA (E:Tab) (op:Op) (t:Slots) (h:Heap) (n k:Nat) (K:PV→Heap→Nat→Prop):Prop:=
  match op with
  | .alloc ty=>withTY (E.ty ty) fun y=>y.zero≠ []∧K (.c (.ptr (nm n k) y.size 0 0)) ((nm n k,.box y.zero)::h) (k+1)
  | .box _ x=>withV (ev E t x) fun v=>(pvCells v).length≠0∧K (.c (.ptr (nm n k) (pvCells v).length 0 0)) ((nm n k,.box (pvCells v))::h) (k+1)
  | .buildSlice ty len parts=>withTY (E.ty ty) fun y=>match y.desc with
    | .slice e=>withTY (E.ty e) fun z=>z.size≠0∧parts.toList.map (·.1)=List.range len∧len*z.size≤16777216∧
        partsA E t z.size h parts.toList fun f es h'=>K (.c (.os (nm n k) z.size 0 len)) ((nm n k,.rows f z.size (ir z.desc es))::h') (k+1)
    | _=>False
  | .makeSlice ty l c=>withTY (E.ty ty) fun y=>match y.desc with
    | .slice e=>withTY (E.ty e) fun z=>∃zd,ZD z.zero zd∧withV (ev E t l) fun lv=>withV (ev E t c) fun cv=>intA lv fun _ m=>intA cv fun _ m'=>
        z.size≠0∧z.bytes≤1024∧m'=m∧0≤m∧m≤maxN∧K (.c (.os (nm n k) z.size 0 m.toNat)) ((nm n k,.rows true z.size (List.replicate m.toNat zd))::h) (k+1)
    | _=>False
  | .store ty p x=>withTY (E.ty ty) fun y=>withV (ev E t p) fun pv=>withV (ev E t x) fun v=>storeA h y pv v fun h'=>K (.tup []) h' k
  | .call c=>match c.callee,c.args.toList,c.argTypes.toList with
    | .builtin .append,[a,b],ty::ty2=>withTY (E.ty ty) fun y=>match y.desc with
      | .slice e=>withTY (E.ty e) fun z=>withV (ev E t a) fun av=>withV (ev E t b) fun bv=>
          (match ty2 with | [t2]=>withTY (E.ty t2) fun y2=>srcTy y2.desc bv | _=>False)∧
          appendA h n k z av bv K
      | _=>False
    | .builtin .clear,[a],[ty]=>withTY (E.ty ty) fun y=>match y.desc with
      | .slice e=>withTY (E.ty e) fun z=>∃zd,ZD z.zero zd∧withV (ev E t a) fun av=>clearA h zd z av fun h'=>K (.tup []) h' k
      | _=>False
    | _,_,_=>False
  | _=>False
end Go.AE
namespace Go.AE
open Go
def Turns (P:Program) (c:Ctx) (w:World) (h:Heap) (n:Nat) (s:Sem Next) (K:PV→Heap→Nat→Prop):Prop:=
  ∃nx u c' w' h' k' pv,s.run P w= .ok nx w'∧(nx= .value u∨(nx= .skip∧u=undef))∧Grow c w h c' w' h'∧RelH c' w' h'∧c'.n=nm n k'∧RelV c' w' u pv∧K pv h' k'
theorem RelD.flag {c:Ctx} {w:World} (hs:∀b,c.K true b→c.K false b) {v:Value} {x:D} {f g:Bool} (h:RelD (c.K f) w v x):RelD (c.K (f&&g)) w v x:=by
  refine h.mono' (fun b hb=> ?_)
  cases f<;>cases g<;>first | exact hb | exact hs b hb
theorem RelD.flag' {c:Ctx} {w:World} (hs:∀b,c.K true b→c.K false b) {v:Value} {x:D} {f g:Bool} (h:RelD (c.K g) w v x):RelD (c.K (f&&g)) w v x:=by
  refine h.mono' (fun b hb=> ?_)
  cases f<;>cases g<;>first | exact hb | exact hs b hb
theorem RowAt.getu {K:Nat→Prop} {w:World} {cells:Array Value} {sz:Nat} {es:List (List D)} (h:RowAt K w cells sz es):
    ∃u:Nat→Nat→Value,∀i j,i<es.length→j<sz→cells[i*sz+j]? =some (u i j)∧RelD K w (u i j) (gd es i j):=by
  have hu:∀i j,∃u,i<es.length→j<sz→cells[i*sz+j]? =some u∧RelD K w u (gd es i j):=by
    intro i j
    by_cases hi:i<es.length
    · by_cases hj:j<sz
      · obtain⟨v,hv⟩:=(h i hi).2 j hj
        exact⟨v,fun _ _=>hv⟩
      · exact⟨undef,fun _ h=>absurd h hj⟩
    · exact⟨undef,fun h=>absurd h hi⟩
  exact⟨fun i j=>Classical.choose (hu i j),fun i j hi hj=>Classical.choose_spec (hu i j) hi hj⟩
theorem giveC_sound {c:Ctx} {w:World} {h:Heap} (H:RelH c w h) {v:Value} {x:Cell} {K:Bool→D→Heap→Prop} (hv:RelC c w v x) (hk:giveC h x K):
    ∃c' h' f d,Grow c w h c' w h'∧RelH c' w h'∧c'.n=c.n∧RelD (c'.K f) w v d∧K f d h':=by
  unfold giveC at hk
  split at hk
  · rename_i f x
    cases hv with | d _ _ _ hd=>
    refine⟨c,h,f || x.scal,x,.refl _ _ _,H,rfl,?_,hk⟩
    cases hs:x.scal with
    | true=>exact hd.scal _ hs
    | false=>simpa using hd
  · cases hv with | nil=>
    obtain⟨sz,hk⟩:=hk
    exact⟨c,h,true,_,.refl _ _ _,H,rfl,.none _ _ _,hk⟩
  · rename_i f sz es
    cases hv with | clip _ a n _ _ hd=>
    exact⟨c,h,f,_,.refl _ _ _,H,rfl,hd,hk⟩
  · rename_i l sz lo n
    replace hk:=withO_some hk;obtain⟨o,ho,hk⟩:=hk
    split at hk
    · rename_i f sz' es
      obtain⟨rfl,hlen,hk⟩:=hk
      have hg:=Grow.give (c:=c) (w:=w) (h:=h) f ho (by trivial)
      have hH:=H.give f ho (by trivial)
      refine⟨_,_,f,_,hg,hH,rfl,?_,hk⟩
      have hro:=(H.obj l _ ho).2
      cases hv with
      | os0 a _ _ hl hm=>rw [List.take_zero];exact .none _ _ _
      | osE a _ _ _ b hl hm=>rw [List.take_zero];exact .none _ _ _
      | os _ _ _ _ cap b hl hm hn hroom=>
        simp only [RelO,hm]at hro
        obtain⟨cells,E,hb,hrow⟩:=hro
        obtain⟨u,hu⟩:=hrow.getu
        have hlen':((es.drop lo).take n).length=n:=by simp;omega
        have hg:∀i,i<n→((es.drop lo).take n).getD i []=es.getD (lo+i) []:=by
          intro i hi
          simp only [List.getD]
          rw [List.getElem?_take_of_lt hi,List.getElem?_drop]
        refine .rows b (lo*sz) cap sz n _ (fun i j=>u (lo+i) j) ?_ hlen'.symm hn ?_ ?_ ?_
        · exact .inr ⟨hm.symm,fun h=>h⟩
        · intro i j hi hj
          rw [hlen']at hi
          rw [cell?_of hb,show lo*sz+i*sz+j=(lo+i)*sz+j by rw [Nat.add_mul]]
          exact(hu (lo+i) j (by omega) hj).1
        · intro i hi
          rw [hlen']at hi
          rw [hg i hi];exact(hrow (lo+i) (by omega)).1
        · intro i j hi hj
          rw [hlen']at hi
          unfold gd
          rw [hg i hi]
          exact((hu (lo+i) j (by omega) hj).2).mono' (fun x hx=> .inl hx)
    · exact hk.elim
  · exact hk.elim
theorem giveCs_sound {w:World}:∀(cs:List Cell) {c:Ctx} {h:Heap} (_:RelH c w h) {vs:List Value} {K:Bool→List D→Heap→Prop} (_:F2 (RelC c w) vs cs) (_:giveCs h cs K),
    ∃c' h' f ds,Grow c w h c' w h'∧RelH c' w h'∧c'.n=c.n∧F2 (RelD (c'.K f) w) vs ds∧K f ds h'
  | [],c,h,H,vs,K,hv,hk=>by
    cases hv
    exact⟨c,h,true,[],.refl _ _ _,H,rfl,.nil,hk⟩
  | x::r,c,h,H,vs,K,hv,hk=>by
    cases hv with | @cons v _ vs _ h1 h2=>
    obtain⟨c1,h1',f,d,g1,H1,n1,d1,hk⟩:=giveC_sound H h1 hk
    obtain⟨c2,h2',g,ds,g2,H2,n2,d2,hk⟩:=giveCs_sound r H1 (F2.mono (fun _ _ h=>h.grow H g1) h2) hk
    refine⟨c2,h2',f&&g,d::ds,g1.trans g2,H2,n2.trans n1,.cons ?_ (F2.mono (fun _ _ h=>h.flag' H2.sub) d2),hk⟩
    exact(d1.mono' (g2.le.K f)).flag H2.sub
theorem RelC.oneCell {c:Ctx} {w:World} {v:Value} {x:Cell} (h:RelC c w v x):v.oneCell'=true:=by
  cases h with
  | d f _ x h=>cases h<;>rfl
  | _=>rfl
theorem RelD.oneCell {K:Nat→Prop} {w:World} {v:Value} {x:D} (h:RelD K w v x):v.oneCell'=true:=by cases h<;>rfl
theorem F2.all {α β:Type} {R:α→β→Prop} {p:α→Prop} (h:∀a b,R a b→p a) {l:List α} {m:List β} (hl:F2 R l m):∀a∈l,p a:=by
  induction hl with
  | nil=>intro a ha;cases ha
  | cons h1 _ ih=>intro a ha;cases ha with
    | head=>exact h _ _ h1
    | tail _ hm=>exact ih a hm
theorem stays_setRow {w:World} {b:Nat} {old cs:Array Value} {t:TypeId} {fr:Nat×Nat} (hb:w.heap[b]? =some (.cells old t fr)) (hs:cs.size=old.size):World.Stays w (w.setRow b cs):=
  stays_of fun x c E f h=>by
    by_cases e:x=b
    · subst e
      rw [hb]at h;cases h
      exact⟨cs,fr,setRow_heap w x old cs t fr hb,hs⟩
    · exact⟨c,f,by rw [setRow_other w b x cs e];exact h,rfl⟩
theorem size_setRow (w:World) (b:Nat) (cs:Array Value):(w.setRow b cs).heap.size=w.heap.size:=by simp [World.setRow]
theorem RowAt.mono {K K':Nat→Prop} {w w':World} {cells:Array Value} {sz:Nat} {es:List (List D)} (hK:∀b,K b→K' b) (hw:∀b,K b→w'.heap[b]? =w.heap[b]?)
    (h:RowAt K w cells sz es):RowAt K' w' cells sz es:=fun i hi=>
  ⟨(h i hi).1,fun j hj=>let⟨v,hv,hd⟩:=(h i hi).2 j hj;⟨v,hv,hd.mono hK hw⟩⟩
theorem getD_set_self {es:List (List D)} {i:Nat} {x:List D} (h:i<es.length):(es.set i x).getD i []=x:=by simp [List.getD,List.getElem?_set_self h]
theorem getD_set_ne {es:List (List D)} {i j:Nat} {x:List D} (h:i≠j):(es.set i x).getD j []=es.getD j []:=by simp [List.getD,List.getElem?_set_ne h]
theorem splice_get (l vs:List Value) (o q:Nat) (h:o+vs.length≤l.length):(l.take o++vs++l.drop (o+vs.length))[q]? =if o≤q∧q<o+vs.length then vs[q-o]? else l[q]? :=by
  rw [List.append_assoc]
  by_cases h1:q<o
  · rw [List.getElem?_append_left (by simp;omega),List.getElem?_take_of_lt h1,if_neg (by omega)]
  · rw [List.getElem?_append_right (by simp;omega)]
    simp only [List.length_take]
    rw [Nat.min_eq_left (by omega)]
    by_cases h2:q<o+vs.length
    · rw [List.getElem?_append_left (by omega),if_pos (by omega)]
    · rw [List.getElem?_append_right (by omega),if_neg (by omega),List.getElem?_drop]
      congr 1;omega
theorem spliceD_get (row ds:List D) (j q:Nat) (h:j+ds.length≤row.length):(spliceD row ds j).getD q default=if j≤q∧q<j+ds.length then ds.getD (q-j) default else row.getD q default:=by
  unfold spliceD
  simp only [List.getD]
  rw [List.append_assoc]
  by_cases h1:q<j
  · rw [List.getElem?_append_left (by simp;omega),List.getElem?_take_of_lt h1,if_neg (by omega)]
  · rw [List.getElem?_append_right (by simp;omega)]
    simp only [List.length_take]
    rw [Nat.min_eq_left (by omega)]
    by_cases h2:q<j+ds.length
    · rw [List.getElem?_append_left (by omega),if_pos (by omega)]
    · rw [List.getElem?_append_right (by omega),if_neg (by omega),List.getElem?_drop]
      congr 2;omega
theorem RowAt.store {K:Nat→Prop} {w:World} {cells:Array Value} {sz i j:Nat} {es:List (List D)} {vs:List Value} {ds:List D} (h:RowAt K w cells sz es) (hi:i<es.length) (hd:F2 (RelD K w) vs ds)
    (hj:j+ds.length≤sz) (hsz:i*sz+j+vs.length≤cells.size):
    RowAt K w (cells.toList.take (i*sz+j)++vs++cells.toList.drop (i*sz+j+vs.length)).toArray sz (es.set i (if j=0∧ds.length=sz then ds else spliceD (es.getD i []) ds j)):=by
  have hlen:=hd.length
  have hrow:(es.getD i []).length=sz:=(h i hi).1
  intro i' hi'
  rw [List.length_set]at hi'
  by_cases e:i=i'
  · subst e
    rw [getD_set_self hi]
    have hwhole:(if j=0∧ds.length=sz then ds else spliceD (es.getD i []) ds j)=spliceD (es.getD i []) ds j:=by
      split
      · rename_i hh;obtain⟨rfl,hh⟩:=hh
        unfold spliceD
        rw [List.take_zero,List.drop_eq_nil_of_le (by omega)];simp
      · rfl
    rw [hwhole]
    refine⟨by unfold spliceD;rw [List.length_append,List.length_append,List.length_take,List.length_drop];omega,fun q hq=> ?_⟩
    have hgd:gd (es.set i (spliceD (es.getD i []) ds j)) i q=(spliceD (es.getD i []) ds j).getD q default:=by
      unfold gd;rw [getD_set_self hi]
    rw [hgd,spliceD_get _ _ _ _ (by omega)]
    simp only [List.getElem?_toArray]
    rw [splice_get _ _ _ _ (by simpa using hsz)]
    by_cases hin:j≤q∧q<j+ds.length
    · rw [if_pos (by omega),if_pos hin]
      have hx:ds[q-j]? =some (ds.getD (q-j) default):=by simp [List.getD,List.getElem?_eq_getElem (show q-j<ds.length by omega)]
      obtain⟨v,hv,hr⟩:=hd.get hx
      refine⟨v,?_,hr⟩
      rw [show i*sz+q- (i*sz+j)=q-j by omega];exact hv
    · rw [if_neg (by omega),if_neg hin]
      have:=(h i hi).2 q hq
      simpa [gd]using this
  · rw [getD_set_ne e]
    refine⟨(h i' hi').1,fun q hq=> ?_⟩
    have hgd:gd (es.set i (if j=0∧ds.length=sz then ds else spliceD (es.getD i []) ds j)) i' q=gd es i' q:=by
      unfold gd;rw [getD_set_ne e]
    rw [hgd]
    simp only [List.getElem?_toArray]
    rw [splice_get _ _ _ _ (by simpa using hsz),if_neg ?_]
    · simpa using(h i' hi').2 q hq
    · intro hh
      rcases Nat.lt_or_gt_of_ne e with hlt | hlt
      · have:(i+1)*sz≤i'*sz:=Nat.mul_le_mul_right _ hlt
        rw [Nat.add_mul]at this;omega
      · have:(i'+1)*sz≤i*sz:=Nat.mul_le_mul_right _ hlt
        rw [Nat.add_mul]at this;omega
theorem store_turns {E:Tab} (hE:TabOK E) {c:Ctx} {w:World} {h:Heap} {n k:Nat} (H:RelH c w h) (hn:c.n=nm n k) {t:TypeId} {y:TY} (hy:E.ty t=some y) {u v:Value} {p q:PV} {K:PV→Heap→Nat→Prop}
    (hu:RelV c w u p) (hv:RelV c w v q) (hk:storeA h y p q fun h'=>K (.tup []) h' k):Turns E.P c w h n (do Instr.storeAt t u v;pure .skip) K:=by
  obtain⟨hsz,hne,hk⟩:=hk
  have hcells:=hv.cells (by rw [hsz];exact hne)
  have hcl:=hcells.length
  have h1c:∀x∈v.cells.toList,x.oneCell'=true:=hcells.all (fun _ _ h=>h.oneCell)
  have tup:∀(c:Ctx) (w:World),RelV c w undef (.tup []):=fun c w=> .tup [] [] rfl (fun i hi=>by simp at hi)
  have run:∀(b o:Nat) (old:Array Value) (e:TypeId),w.heap[b]? =some (.cells old e (0,0))→o+v.cells.toList.length≤old.size→u= .pointer (some ⟨b,o,none⟩)→
      ((do Instr.storeAt t u v;pure .skip):Sem Next).run E.P w= .ok .skip (w.setRow b (old.toList.take o++v.cells.toList++old.toList.drop (o+v.cells.toList.length)).toArray):=by
    intro b o old e hb hl he
    have:=run_storeCells_at E.P b o e v.cells.toList 0 old w hb (by simpa using hl) h1c
    have hsz':v.cells.size=y.size:=by rw [←hsz,←hcl];simp
    subst he
    simp [Instr.storeAt,Instr.sureAddr,storeVar,run_sizeOf hE hy,hsz']at this ⊢
    rw [this];simp
  split at hk
  · rename_i l sz i j
    replace hk:=withO_some hk;obtain⟨o,ho,hk⟩:=hk
    cases hu with | c _ _ hu=>cases hu with | ptr _ _ _ _ b hl hm=>
    split at hk
    · rename_i cs
      obtain⟨rfl,hlen,hk⟩:=hk
      obtain⟨b',vs,e,hm',hb,hr⟩:=(H.obj l _ ho).2
      rw [hm]at hm';cases hm'
      have hvl:=hr.length
      have hsame:(vs.take j++v.cells.toList++vs.drop (j+v.cells.toList.length)).toArray.size=vs.toArray.size:=by
        simp at hcl ⊢;omega
      have hr':=run b j vs.toArray e hb (by simp at hcl ⊢;omega) (by simp)
      simp only []at hr'
      have hst:=stays_setRow hb hsame
      have hro:∀f x,c.K f x→(w.setRow b (vs.take j++v.cells.toList++vs.drop (j+v.cells.toList.length)).toArray).heap[x]? =w.heap[x]? :=
        fun f x hx=>setRow_other _ _ _ _ (fun e'=>H.own f b ⟨l,_,ho,trivial,hm⟩ (e'▸hx))
      have hmono:∀a x,RelC c w a x→RelC c (w.setRow b (vs.take j++v.cells.toList++vs.drop (j+v.cells.toList.length)).toArray) a x:=fun a x hx=>hx.mono (.refl c) hro hst
      refine⟨.skip,undef,c,_,_,k,.tup [],hr',.inr ⟨rfl,rfl⟩,Grow.write ho trivial hm (fun x hx=>setRow_other _ _ _ _ hx) (size_setRow _ _ _) hst rfl rfl rfl,
        H.write ho trivial hm (fun x hx=>setRow_other _ _ _ _ hx) (size_setRow _ _ _) hst ?_,hn,tup _ _,hk⟩
      refine⟨b,_,e,hm,setRow_heap w b _ _ e _ hb,?_⟩
      unfold splice
      refine F2.append (F2.append (F2.mono hmono (hr.take j)) (F2.mono hmono hcells)) ?_
      have h4:=F2.mono hmono (hr.drop (j+v.cells.toList.length))
      rw [show j+(pvCells q).length=j+v.cells.toList.length from by rw [hcl]]
      exact h4
    · rename_i f sz' es
      obtain⟨rfl,hi,hk⟩:=hk
      obtain⟨c',h',g,ds,hg,H',hn',hd,hlook,hj,hk⟩:=giveCs_sound _ H hcells hk
      have hlc:l<c.n:=(H.obj l _ ho).1
      have hm':c'.μ l=some b:=(hg.le.μ l hlc).trans hm
      have hro:=(H'.obj l _ hlook).2
      simp only [RelO,hm']at hro
      obtain⟨cells,e,hb,hrow⟩:=hro
      have hfit:i*sz+j+v.cells.toList.length≤cells.size:=by
        have hdl:=hd.length
        have:=(hrow i hi).2 (sz-1) (by omega)
        obtain⟨x,hx,_⟩:=this
        obtain⟨hx,_⟩:=Array.getElem?_eq_some_iff.1 hx
        omega
      have hr':=run b (i*sz+j) cells e hb hfit rfl
      have hsame:(cells.toList.take (i*sz+j)++v.cells.toList++cells.toList.drop (i*sz+j+v.cells.toList.length)).toArray.size=cells.size:=by
        simp at hfit ⊢;omega
      have hst:=stays_setRow hb hsame
      have hro:∀f x,c'.K f x→(w.setRow b (cells.toList.take (i*sz+j)++v.cells.toList++cells.toList.drop (i*sz+j+v.cells.toList.length)).toArray).heap[x]? =w.heap[x]? :=
        fun f x hx=>setRow_other _ _ _ _ (fun e'=>H'.own f b ⟨l,_,hlook,trivial,hm'⟩ (e'▸hx))
      have hG:Grow c' w h' c' _ _:=Grow.write (o':= .rows (f&&g) sz (es.set i (if j=0∧ds.length=sz then ds else spliceD (es.getD i []) ds j))) hlook trivial hm' (fun x hx=>setRow_other _ _ _ _ hx) (size_setRow _ _ _) hst rfl rfl rfl
      refine⟨.skip,undef,c',_,_,k,.tup [],hr',.inr ⟨rfl,rfl⟩,hg.trans hG,?_,hn'.trans hn,tup _ _,hk (es.getD i []) (by simp [List.getD,List.getElem?_eq_getElem hi])⟩
      refine H'.write hlook trivial hm' (fun x hx=>setRow_other _ _ _ _ hx) (size_setRow _ _ _) hst ?_
      simp only [RelO,hm']
      refine⟨_,e,setRow_heap w b _ _ e _ hb,?_⟩
      have h3:=(RowAt.mono (K':=c'.K (f&&g)) (w':=w) (fun x hx=>by cases f<;>cases g<;>first | exact hx | exact H'.sub x hx) (fun _ _=>rfl) hrow).store hi
        (F2.mono (fun _ _ h=>h.flag' (f:=f) H'.sub) hd) hj hfit
      exact h3.mono (fun _ h=>h) (hro (f&&g))
    · exact hk.elim
  · exact hk.elim
end Go.AE
namespace Go.AE
open Go
theorem new_turns {P:Program} {c:Ctx} {w w1:World} {h:Heap} {n k:Nat} (H:RelH c w h) (hn:c.n=nm n k) {s:Sem Next} {u:Value} {cells:Array Value} {e:TypeId} {o:AObj} {pv:PV} {K:PV→Heap→Nat→Prop}
    (hrun:s.run P w= .ok (.value u) w1) (hw:w1.heap=(w.alloc (.cells cells e)).heap) (hw2:w1.os=w.os) (hw3:w1.tape=w.tape) (hw4:w1.output=w.output)
    (ho:World.Stays w w1→(∀x,x<w.heap.size→w1.heap[x]? =w.heap[x]?)→w1.heap[w.heap.size]? =some (.cells cells e (0,0))→RelO (c.name (some w.heap.size)) w1 c.n o)
    (hu:w1.heap[w.heap.size]? =some (.cells cells e (0,0))→RelV (c.name (some w.heap.size)) w1 u pv) (hk:K pv ((nm n k,o)::h) (k+1)):Turns P c w h n s K:=by
  have hs:World.Stays w w1:=fun b m hb=>by
    have:=stays_alloc w (.cells cells e) b m hb
    obtain⟨c',E,fr,h1,h2⟩:=this
    exact⟨c',E,fr,by rw [hw];exact h1,h2⟩
  have hold:∀x,x<w.heap.size→w1.heap[x]? =w.heap[x]? :=fun x hx=>by rw [hw];exact alloc_old (o:= .cells cells e) hx
  have hnew:w1.heap[w.heap.size]? =some (.cells cells e (0,0)):=by rw [hw];exact alloc_new w _
  have hsz:w.heap.size≤w1.heap.size:=by rw [hw];simp
  refine⟨.value u,u,c.name (some w.heap.size),_,(c.n,o)::h,k+1,pv,hrun,.inl rfl,Grow.new (fun x hx=>(Option.some.inj hx).symm) hs hold hsz hw2 hw3 hw4,
    H.new (fun x hx=>(Option.some.inj hx).symm) hs hold hsz (ho hs hold hnew),?_,hu hnew,?_⟩
  · show c.n+1=_
    rw [hn];rfl
  · rw [hn];exact hk
theorem box_relO {c:Ctx} {w w':World} {h:Heap} (H:RelH c w h) {vs:List Value} {cs:List Cell} {e:TypeId} (hr:F2 (RelC c w) vs cs) (hs:World.Stays w w')
    (hold:∀x,x<w.heap.size→w'.heap[x]? =w.heap[x]?) (hnew:w'.heap[w.heap.size]? =some (.cells vs.toArray e (0,0))):RelO (c.name (some w.heap.size)) w' c.n (.box cs):=
  ⟨w.heap.size,vs,e,by simp [Ctx.name,upd],hnew,F2.mono (fun _ _ hx=>hx.mono (c.name_le _) (fun f b hb=>hold b (H.low f b hb)) hs) hr⟩
theorem ptr_new {c:Ctx} {w:World} {b sz m:Nat} (hm:c.n=m):RelV (c.name (some b)) w (.pointer (some ⟨b,0,none⟩)) (.c (.ptr m sz 0 0)):=by
  subst hm
  have:=RelC.ptr (c:=c.name (some b)) (w:=w) c.n sz 0 0 b (Nat.lt_succ_self _) (by simp [Ctx.name,upd])
  exact .c _ _ (by simpa using this)
theorem alloc_turns {E:Tab} (hE:TabOK E) {c:Ctx} {w:World} {h:Heap} {n k:Nat} (H:RelH c w h) (hn:c.n=nm n k) {t:TypeId} {K:PV→Heap→Nat→Prop}
    (hk:withTY (E.ty t) fun y=>y.zero≠ []∧K (.c (.ptr (nm n k) y.size 0 0)) ((nm n k,.box y.zero)::h) (k+1)):Turns E.P c w h n (do pure (Next.value (←Instr.alloc t true (.tuple #[])))) K:=by
  replace hk:=withTY_some hk;obtain⟨y,hy,hz,hk⟩:=hk
  obtain⟨inf,hinf,hs,_,z,hzz,hzr⟩:=(hE.ty t y hy).info
  refine new_turns H hn (cells:=z.cells) (e:=t) (w1:=w.alloc (.cells z.cells t)) (o:= .box y.zero) (u:= .pointer (some ⟨w.heap.size,0,none⟩)) ?_ rfl rfl rfl rfl ?_ (fun _=>ptr_new hn) hk
  · simp [Instr.alloc,zeroValue,typeInfo,hinf,hzz,newVar,newRow]
  · intro hst hold hnew
    have hr:=hzr c w
    exact box_relO H (vs:=z.cells.toList) hr hst hold (by simpa using hnew)
theorem boxop_turns {P:Program} {c:Ctx} {w:World} {h:Heap} {n k:Nat} (H:RelH c w h) (hn:c.n=nm n k) {t:TypeId} {v:Value} {p:PV} {K:PV→Heap→Nat→Prop} (hv:RelV c w v p)
    (hl:(pvCells p).length≠0) (hk:K (.c (.ptr (nm n k) (pvCells p).length 0 0)) ((nm n k,.box (pvCells p))::h) (k+1)):Turns P c w h n (do pure (Next.value (←Instr.box t v))) K:=by
  refine new_turns H hn (cells:=v.cells) (e:=t) (w1:=w.alloc (.cells v.cells t)) (o:= .box (pvCells p)) (u:= .pointer (some ⟨w.heap.size,0,none⟩)) ?_ rfl rfl rfl rfl ?_ (fun _=>ptr_new hn) hk
  · simp [Instr.box,newVar,newRow]
  · intro hst hold hnew
    exact box_relO H (vs:=v.cells.toList) (hv.cells hl) hst hold (by simpa using hnew)
theorem partsA_sound {E:Tab} {a:Act} {t:Slots} {w:World} {sz:Nat}:∀(ps:List (Nat×Operand)) {c:Ctx} {h:Heap} (_:∀i v,lookS t i=some v→∃u,a.tmps[i]? =some u∧RelV c w u v) (_:GlobOK E c w) (_:RelH c w h)
    {K:Bool→List (List D)→Heap→Prop} (_:sz≠0) (_:partsA E t sz h ps K),
    ∃c' h' f dss,Grow c w h c' w h'∧RelH c' w h'∧c'.n=c.n∧F2 (fun(v:Value) (ds:List D)=>ds.length=sz∧F2 (RelD (c'.K f) w) v.cells.toList ds) (ps.map fun x=>a.eval x.2) dss∧K f dss h'
  | [],c,h,hs,G,H,K,hsz,hk=>⟨c,h,true,[],.refl _ _ _,H,rfl,.nil,hk⟩
  | (i,x)::r,c,h,hs,G,H,K,hsz,hk=>by
    unfold partsA at hk
    obtain⟨v,hv,hl,hk⟩:=withE (a:=a) (w:=w) (c:=c) (h:=h) ⟨hs,H,G⟩ hk
    have hc:=hv.cells (by rw [hl];exact hsz)
    obtain⟨c1,h1,f,ds,g1,H1,n1,d1,hk⟩:=giveCs_sound _ H hc hk
    have hs1:∀i v,lookS t i=some v→∃u,a.tmps[i]? =some u∧RelV c1 w u v:=fun i v hi=>let⟨u,h1,h2⟩:=hs i v hi;⟨u,h1,h2.grow H g1⟩
    obtain⟨c2,h2,g,dss,g2,H2,n2,d2,hk⟩:=partsA_sound r hs1 (G.grow H g1) H1 hsz hk
    refine⟨c2,h2,f&&g,ds::dss,g1.trans g2,H2,n2.trans n1,.cons ⟨?_,?_⟩ ?_,hk⟩
    · rw [←d1.length,hc.length,hl]
    · exact F2.mono (fun _ _ h=>(h.mono' (g2.le.K f)).flag H2.sub) d1
    · exact F2.mono (fun _ _ h=>⟨h.1,F2.mono (fun _ _ h=>h.flag' H2.sub) h.2⟩) d2
theorem fill_all (sz:Nat):∀(vs:List Value) (m:Nat) (pre post:List Value),(∀v∈vs,v.cells.size=sz)→pre.length=m*sz→post.length=vs.length*sz→
    Instr.fill (fun i=>some (i*sz,sz)) (pre++post).toArray ((List.range' m vs.length).zip vs)=some (pre++(vs.flatMap fun v=>v.cells.toList)).toArray
  | [],m,pre,post,_,_,hp=>by
    have:post=[]:=by simpa using hp
    subst this;simp [Instr.fill]
  | v::vs,m,pre,post,hv,hpre,hp=>by
    have hsz:v.cells.size=sz:=hv v (by simp)
    simp only [List.length_cons,List.range'_succ,List.zip_cons_cons,Instr.fill]
    have hp':post.length=vs.length*sz+sz:=by rw [hp];simp [Nat.add_mul]
    rw [if_neg (by simp [hsz,hpre];omega)]
    have h1:(v.cells.zipIdx.foldl (fun(cs:Array Value) (x:Value×Nat)=>cs.setIfInBounds (m*sz+x.2) x.1) (pre++post).toArray)=((pre++v.cells.toList)++post.drop sz).toArray:=by
      apply Array.ext'
      rw [←Array.foldl_toList,foldl_toList,Array.toList_zipIdx]
      rw [set_splice _ _ (m*sz) 0 (by simp [hsz,hpre];omega)]
      simp only [Nat.add_zero]
      rw [List.take_left' hpre,←hpre,List.drop_append]
      simp [hsz]
    rw [h1]
    have ih:=fill_all sz vs (m+1) (pre++v.cells.toList) (post.drop sz) (fun x hx=>hv x (by simp [hx])) (by simp [hpre,hsz,Nat.add_mul]) (by simp;omega)
    rw [ih]
    simp
theorem flat_get {sz:Nat}:∀(vs:List (List Value)) (_:∀v∈vs,v.length=sz) (i j:Nat) (_:i<vs.length) (_:j<sz),(vs.flatten)[i*sz+j]? =(vs.getD i [])[j]?
  | v::vs,h,0,j,_,hj=>by
    have hv:v.length=sz:=h v (by simp)
    simp only [List.flatten_cons,Nat.zero_mul,Nat.zero_add]
    rw [List.getElem?_append_left (by omega)];rfl
  | v::vs,h,i+1,j,hi,hj=>by
    have hv:v.length=sz:=h v (by simp)
    simp only [List.flatten_cons]
    rw [List.getElem?_append_right (by rw [hv,Nat.add_mul];omega),hv,show(i+1)*sz+j-sz=i*sz+j by rw [Nat.add_mul];omega]
    have:=flat_get vs (fun x hx=>h x (by simp [hx])) i j (by simpa using hi) hj
    simpa using this
theorem rowAt_flat {K:Nat→Prop} {w:World} {sz:Nat} {vs:List (List Value)} {dss:List (List D)} (h:F2 (fun(v:List Value) (ds:List D)=>ds.length=sz∧F2 (RelD K w) v ds) vs dss):RowAt K w vs.flatten.toArray sz dss:=by
  have hl:∀v∈vs,v.length=sz:=h.all (fun a b hh=>by rw [hh.2.length];exact hh.1)
  have hlen:=h.length
  intro i hi
  have hx:dss[i]? =some (dss.getD i []):=by simp [List.getD,List.getElem?_eq_getElem hi]
  obtain⟨v,hv,h1,h2⟩:=h.get hx
  refine⟨h1,fun j hj=> ?_⟩
  have hy:(dss.getD i [])[j]? =some (gd dss i j):=by
    have:j< (dss.getD i []).length:=by omega
    simp [gd,List.getD]
    simp [List.getD]at this
    simp [this]
  obtain⟨x,hx2,hx3⟩:=h2.get hy
  refine⟨x,?_,hx3⟩
  simp only [List.getElem?_toArray]
  rw [flat_get vs hl i j (by omega) hj,getD_of hv]
  exact hx2
theorem intsOf_eq {k:IntKind}:∀ {es:List (List D)} {xs:List Int},intsOf k es=some xs→es=xs.map (ic k)
  | [],xs,h=>by simp [intsOf]at h;subst h;rfl
  | [.int k' n]::r,xs,h=>by
    simp only [intsOf]at h
    split at h
    · rename_i e;subst e
      split at h
      · rename_i l hl;cases h
        rw [intsOf_eq hl];rfl
      · cases h
    · cases h
  | []::_,xs,h=>by simp [intsOf]at h
  | [.bool _]::_,xs,h=>by simp [intsOf]at h
  | [.str _]::_,xs,h=>by simp [intsOf]at h
  | [.rows _ _]::_,xs,h=>by simp [intsOf]at h
  | (_::_::_)::_,xs,h=>by simp [intsOf]at h
theorem ir_eq (d:TDesc) (es:List (List D)):ir d es=es:=by
  unfold ir
  split
  · split
    · rename_i h;exact(intsOf_eq h).symm
    · rfl
  · rfl
theorem os_new {c:Ctx} {w:World} {b sz m q:Nat} {cells:Array Value} {e:TypeId} {fr:Nat×Nat} (cap:Nat) (hq:c.n=q) (hb:w.heap[b]? =some (.cells cells e fr)) (hm:m≤cap) (hc:cap*sz≤cells.size):
    RelV (c.name (some b)) w (.slice (some ⟨b,0,none⟩) m cap) (.c (.os q sz 0 m)):=by
  subst hq
  have:=RelC.os (c:=c.name (some b)) (w:=w) c.n sz 0 m cap b (Nat.lt_succ_self _) (by simp [Ctx.name,upd]) hm ⟨cells,e,fr,hb,by simpa using hc⟩
  exact .c _ _ (by simpa using this)
theorem rows_relO {c:Ctx} {w w':World} {h:Heap} (H:RelH c w h) {cells:Array Value} {e:TypeId} {f:Bool} {sz:Nat} {es:List (List D)} (hr:RowAt (c.K f) w cells sz es)
    (hold:∀x,x<w.heap.size→w'.heap[x]? =w.heap[x]?) (hnew:w'.heap[w.heap.size]? =some (.cells cells e (0,0))):RelO (c.name (some w.heap.size)) w' c.n (.rows f sz es):=by
  have hm:(c.name (some w.heap.size)).μ c.n=some w.heap.size:=by simp [Ctx.name,upd]
  simp only [RelO,hm]
  exact⟨cells,e,hnew,hr.mono (fun _ h=>h) (fun b hb=>hold b (H.low f b hb))⟩
theorem zip_map {α β γ:Type} (f:α→β) (g:α→γ) (l:List α):(l.map f).zip (l.map g)=l.map fun x=>(f x,g x):=by
  induction l with
  | nil=>rfl
  | cons x l ih=>simp [ih]
theorem buildSlice_turns {E:Tab} (hE:TabOK E) {c:Ctx} {w:World} {t:Slots} {h:Heap} {n k:Nat} {a:Act} (A:AbsT E c w t h a) (hn:c.n=nm n k) {ty:TypeId} {len:Nat} {parts:Array (Nat×Operand)} {K:PV→Heap→Nat→Prop}
    (hk:heapA E (.buildSlice ty len parts) t h n k K):Turns E.P c w h n (do pure (Next.value (←Instr.buildSlice ty len (parts.map fun(i,x)=>(i,a.eval x))))) K:=by
  simp only [heapA]at hk
  replace hk:=withTY_some hk;obtain⟨y,hy,hk⟩:=hk
  split at hk
  · rename_i e he
    replace hk:=withTY_some hk;obtain⟨z,hz,hsz,hidx,hbig,hk⟩:=hk
    obtain⟨c1,h1,f,dss,g1,H1,n1,hr,hk⟩:=partsA_sound (E:=E) (a:=a) (t:=t) (w:=w) (sz:=z.size) parts.toList A.slot A.glob A.heap hsz hk
    rw [ir_eq]at hk
    have hun:=(hE.ty ty y hy).desc
    rw [he]at hun
    obtain⟨inf,hinf,hs,_,zv,hzz,hzr⟩:=(hE.ty e z hz).info
    have hlen:parts.toList.length=len:=by have:=congrArg List.length hidx;simpa using this
    have hdl:dss.length=len:=by rw [←hr.length];simpa using hlen
    have hcs:∀v∈parts.toList.map (fun x=>a.eval x.2),v.cells.size=z.size:=hr.all (fun v ds hh=>by have:=hh.2.length;simp at this;omega)
    have hfill:=fill_all z.size (parts.toList.map fun x=>a.eval x.2) 0 [] ((List.range (len*z.size)).map fun i=>zv.cells[i%zv.cells.size]!) hcs (by simp) (by simp;rw [←hlen];simp)
    have hzip:((List.range' 0 (parts.toList.map fun x=>a.eval x.2).length).zip (parts.toList.map fun x=>a.eval x.2))=parts.toList.map fun x=>(x.1,a.eval x.2):=by
      rw [←List.range_eq_range',List.length_map,hlen,←hidx,zip_map]
    rw [hzip]at hfill
    simp only [List.nil_append]at hfill
    have hzs:zv.cells.size=z.size:=by
      have h1:=(hzr c w).length
      have h2:=(hE.ty e z hz).len
      simp at h1;omega
    have hflen:((parts.toList.map fun x=>a.eval x.2).flatMap fun v=>v.cells.toList).length=len*z.size:=by
      rw [←hlen]
      have:∀(l:List Value),(∀v∈l,v.cells.size=z.size)→(l.flatMap fun v=>v.cells.toList).length=l.length*z.size:=by
        intro l hl
        induction l with
        | nil=>simp
        | cons x l ih=>simp [hl x (by simp),ih (fun v hv=>hl v (by simp [hv])),Nat.add_mul];omega
      rw [this _ hcs];simp
    have hg:Turns E.P c1 w h1 n (do pure (Next.value (←Instr.buildSlice ty len (parts.map fun(i,x)=>(i,a.eval x))))) K:=by
      refine new_turns H1 (n1.trans hn) (cells:=((parts.toList.map fun x=>a.eval x.2).flatMap fun v=>v.cells.toList).toArray) (e:=e) (o:= .rows f z.size dss)
        (w1:=w.alloc (.cells ((parts.toList.map fun x=>a.eval x.2).flatMap fun v=>v.cells.toList).toArray e))
        (u:= .slice (some ⟨w.heap.size,0,none⟩) len len) ?_ rfl rfl rfl rfl ?_ (fun hb=>os_new len (n1.trans hn) hb (Nat.le_refl _) (by rw [List.size_toArray,hflen];exact Nat.le_refl _)) hk
      · have hfill':Instr.fill (fun i=>some (i*z.size,z.size)) (Array.map (fun i=>zv.cells[i%zv.cells.size]!) (Array.range (len*z.size))) (parts.toList.map fun x=>(x.1,a.eval x.2))=
            some ((parts.toList.map fun x=>a.eval x.2).flatMap fun v=>v.cells.toList).toArray:=by
          rw [←hfill];congr 1;apply Array.ext';simp
        have hbig':¬16777216<len*z.size:=by omega
        by_cases h0:len*z.size=0
        · have hl0:len=0:=by
            rcases Nat.mul_eq_zero.1 h0 with h | h
            · exact h
            · exact absurd h hsz
          subst hl0
          have hp0:parts= #[]:=by
            apply Array.ext'
            exact List.eq_nil_of_length_eq_zero hlen
          subst hp0
          simp [Instr.buildSlice,run_underlying hun,run_sizeOf hE hz,Instr.fill,newRow]
          have e0:Array.map (fun(_:Nat)=>(default:Value)) (Array.range 0)= #[]:=by apply Array.ext';simp
          rw [e0]
        · simp [Instr.buildSlice,run_underlying hun,run_sizeOf hE hz,hbig',h0,zeroValue,typeInfo,hinf,hzz,newRow]
          rw [hfill']
          simp
      · intro hst hold hnew
        refine rows_relO H1 ?_ hold hnew
        have:((parts.toList.map fun x=>a.eval x.2).flatMap fun v=>v.cells.toList)=((parts.toList.map fun x=>a.eval x.2).map fun v=>v.cells.toList).flatten:=by simp [List.flatMap]
        rw [this]
        refine rowAt_flat ?_
        clear hfill hzip hcs this hk hflen hnew hdl
        generalize parts.toList.map (fun x=>a.eval x.2)=vs at hr
        induction hr with
        | nil=>exact .nil
        | cons hh _ ih=>exact .cons hh ih
    obtain⟨nx,u,c',w',h',k',pv,q1,q2,q3,q4,q5,q6,q7⟩:=hg
    exact⟨nx,u,c',w',h',k',pv,q1,q2,g1.trans q3,q4,q5,q6,q7⟩
  · exact hk.elim
end Go.AE
namespace Go.AE
open Go
def ctx0:Ctx:={K:=fun _ _=>False,μ:=fun _=>none,n:=0}
theorem zeroD_rel {w:World} {cs:List Cell} {vs:List Value} {zd:List D} (h:F2 (RelC ctx0 w) vs cs) (hz:ZD cs zd):F2 (RelD (fun _=>False) w) vs zd:=by
  induction hz generalizing vs with
  | nil=>cases h;exact .nil
  | d f x _ ih=>cases h with | cons h1 h2=>cases h1 with | d _ _ _ h1=>exact .cons h1 (ih h2)
  | nl sz _ ih=>cases h with | cons h1 h2=>cases h1 with | nil=>exact .cons (.none _ _ _) (ih h2)
theorem rowAt_zero {K:Nat→Prop} {w:World} {zv:Array Value} {zd:List D} {sz m N:Nat} (hz:F2 (RelD (fun _=>False) w) zv.toList zd) (hs:zv.size=sz) (hN:m*sz≤N):
    RowAt K w ((Array.range N).map fun i=>zv[i%zv.size]!) sz (List.replicate m zd):=by
  intro i hi
  rw [List.length_replicate]at hi
  have hg:(List.replicate m zd).getD i []=zd:=by simp [List.getD,hi]
  have hl:=hz.length
  refine⟨by rw [hg];simp at hl;omega,fun j hj=> ?_⟩
  have hgd:gd (List.replicate m zd) i j=zd.getD j default:=by unfold gd;rw [hg]
  have hx:zd[j]? =some (zd.getD j default):=by simp at hl;simp [List.getD,List.getElem?_eq_getElem (show j<zd.length by omega)]
  obtain⟨v,hv,hr⟩:=hz.get hx
  refine⟨v,?_,by rw [hgd];exact hr.mono' (fun _ h=>h.elim)⟩
  have hlt:i*sz+j<N:=by
    have:(i+1)*sz≤m*sz:=Nat.mul_le_mul_right _ hi
    rw [Nat.add_mul]at this;omega
  have hmod:(i*sz+j)%zv.size=j:=by rw [hs,Nat.mul_comm,Nat.mul_add_mod];exact Nat.mod_eq_of_lt hj
  simp [hlt,hmod]
  have hv':zv[j]? =some v:=by simpa using hv
  obtain⟨h1,h2⟩:=Array.getElem?_eq_some_iff.1 hv'
  rw [Array.getElem!_eq_getD,Array.getD,dif_pos h1];exact h2
theorem makeSlice_turns {E:Tab} (hE:TabOK E) {c:Ctx} {w:World} {t:Slots} {h:Heap} {n k:Nat} {a:Act} (A:AbsT E c w t h a) (hn:c.n=nm n k) {ty:TypeId} {l cp:Operand} {K:PV→Heap→Nat→Prop}
    (hk:heapA E (.makeSlice ty l cp) t h n k K):Turns E.P c w h n (do pure (Next.value (←Instr.makeSlice ty (a.eval l) (a.eval cp)))) K:=by
  simp only [heapA]at hk
  replace hk:=withTY_some hk;obtain⟨y,hy,hk⟩:=hk
  split at hk
  · rename_i e he
    replace hk:=withTY_some hk;obtain⟨z,hz,hk⟩:=hk
    obtain⟨zd,hzd,hk⟩:=hk
    replace hk:=withE A hk;obtain⟨u1,hu1,hk⟩:=hk
    replace hk:=withE A hk;obtain⟨u2,hu2,hk⟩:=hk
    replace hk:=intA_some hk;obtain⟨_,k1,m,rfl,hk⟩:=hk
    replace hk:=intA_some hk;obtain⟨_,k2,m',rfl,hk⟩:=hk
    obtain⟨hsz,hby,hmm,h0,hmax,hk⟩:=hk
    subst m'
    rw [rel_int hu1,rel_int hu2]
    have hun:=(hE.ty ty y hy).desc
    rw [he]at hun
    obtain⟨inf,hinf,hs,hb,zv,hzz,hzr⟩:=(hE.ty e z hz).info
    have hzs:zv.cells.size=z.size:=by
      have h1:=(hzr c w).length
      have h2:=(hE.ty e z hz).len
      simp at h1;omega
    have hm:m≤1073741824:=hmax
    have hwrap:IntKind.i64.wrap m=m:=IntWalk.i64_in _ (by omega)
    have hbig:¬(inf.bytes:Int)*m>281474976710656:=by
      rw [hb]
      have h1:(z.bytes:Int)*m≤1024*m:=Int.mul_le_mul_of_nonneg_right (by omega) h0
      omega
    refine new_turns A.heap hn (cells:=(Array.range (m.toNat*z.size)).map fun i=>zv.cells[i%zv.cells.size]!) (e:=e) (o:= .rows true z.size (List.replicate m.toNat zd))
      (w1:=w.alloc (.cells ((Array.range (m.toNat*z.size)).map fun i=>zv.cells[i%zv.cells.size]!) e))
      (u:= .slice (some ⟨w.heap.size,0,none⟩) m.toNat m.toNat) ?_ rfl rfl rfl rfl ?_ (fun hb=>os_new m.toNat hn hb (Nat.le_refl _) (by simp)) hk
    · by_cases hm0:m.toNat=0
      · have:m=0:=by omega
        subst this
        have e0:∀f:Nat→Value,Array.map f (Array.range 0)= #[]:=by intro f;apply Array.ext';simp
        simp [Instr.makeSlice,run_underlying hun,asInt,asIntOf,typeInfo,hinf,hwrap,run_sizeOf hE hz,newRow,e0]
      · have hne:m.toNat*z.size≠0:=Nat.mul_ne_zero hm0 hsz
        have h1:¬m<0:=by omega
        simp [Instr.makeSlice,run_underlying hun,asInt,asIntOf,typeInfo,hinf,hwrap,run_sizeOf hE hz,newRow,zeroValue,hzz,h1,hbig,hne]
    · intro hst hold hnew
      refine rows_relO A.heap (rowAt_zero (zeroD_rel (hzr ctx0 w) hzd) hzs (Nat.le_refl _)) hold hnew
  · exact hk.elim
end Go.AE
namespace Go.AE
open Go
theorem RelH.rename {c:Ctx} {w:World} {h:Heap} (H:RelH c w h) {l b:Nat} {o o':AObj} (hl:look h l=some o) (hlv:o.live) (hm:c.μ l=some b) (ho:RelO (c.name (some b)) w c.n o'):
    RelH (c.name (some b)) w ((c.n,o')::(l,.gone)::h) where
  obj:=by
    intro x o1 hx
    by_cases e:c.n=x
    · subst e
      rw [look_cons_same]at hx;cases hx
      exact⟨Nat.lt_succ_self _,ho⟩
    · rw [look_cons_ne _ _ e]at hx
      by_cases e':l=x
      · subst e'
        rw [look_cons_same]at hx;cases hx
        exact⟨Nat.lt_succ_of_lt (H.obj l o hl).1,trivial⟩
      · rw [look_cons_ne _ _ e']at hx
        obtain⟨h1,h2⟩:=H.obj x o1 hx
        exact⟨Nat.lt_succ_of_lt h1,h2.mono (c.name_le _) (fun _ _ _=>rfl) (.refl w) h1 (fun _ _ _=>rfl)⟩
  inj:=by
    intro x o1 x' o2 y h1 hl1 h2 hl2 hm1 hm2
    have old:∀z oz,c.n≠z→look ((c.n,o')::(l,.gone)::h) z=some oz→oz.live→z≠l∧look h z=some oz∧(c.name (some b)).μ z=c.μ z:=by
      intro z oz hz h1 h2
      rw [look_cons_ne _ _ hz]at h1
      by_cases e:l=z
      · subst e;rw [look_cons_same]at h1;cases h1;exact h2.elim
      · rw [look_cons_ne _ _ e]at h1
        exact⟨fun h=>e h.symm,h1,by simp [Ctx.name,upd,show z≠c.n from fun h=>hz h.symm]⟩
    by_cases e:c.n=x<;>by_cases e':c.n=x'
    · omega
    · exfalso
      obtain⟨p1,p2,p3⟩:=old x' o2 e' h2 hl2
      subst e
      have:y=b:=by simpa [Ctx.name,upd]using hm1.symm
      subst this
      rw [p3]at hm2
      exact p1 (H.inj x' o2 l o y p2 hl2 hl hlv hm2 hm)
    · exfalso
      obtain⟨p1,p2,p3⟩:=old x o1 e h1 hl1
      subst e'
      have:y=b:=by simpa [Ctx.name,upd]using hm2.symm
      subst this
      rw [p3]at hm1
      exact p1 (H.inj x o1 l o y p2 hl1 hl hlv hm1 hm)
    · obtain⟨p1,p2,p3⟩:=old x o1 e h1 hl1
      obtain⟨q1,q2,q3⟩:=old x' o2 e' h2 hl2
      rw [p3]at hm1
      rw [q3]at hm2
      exact H.inj x o1 x' o2 y p2 hl1 q2 hl2 hm1 hm2
  own:=by
    rintro f x ⟨z,oz,h1,h2,h3⟩ hk
    by_cases e:c.n=z
    · subst e
      have:x=b:=by simpa [Ctx.name,upd]using h3.symm
      subst this
      exact H.own f x ⟨l,o,hl,hlv,hm⟩ hk
    · rw [look_cons_ne _ _ e]at h1
      by_cases e':l=z
      · subst e';rw [look_cons_same]at h1;cases h1;exact h2.elim
      · rw [look_cons_ne _ _ e']at h1
        exact H.own f x ⟨z,oz,h1,h2,by simpa [Ctx.name,upd,show z≠c.n from fun h=>e h.symm]using h3⟩ hk
  low:=H.low
  sub:=H.sub
theorem Grow.rename {c:Ctx} {w:World} {h:Heap} {l b:Nat} {o o':AObj} (hl:look h l=some o) (hlv:o.live) (hm:c.μ l=some b):Grow c w h (c.name (some b)) w ((c.n,o')::(l,.gone)::h) where
  le:=c.name_le _
  size:=Nat.le_refl _
  stays:= .refl w
  kept:=fun _ _ _=>rfl
  newK:=fun _ _ h=> .inl h
  newO:=by
    rintro x ⟨z,oz,h1,h2,h3⟩
    by_cases e:c.n=z
    · subst e
      have:x=b:=by simpa [Ctx.name,upd]using h3.symm
      subst this
      exact .inl ⟨l,o,hl,hlv,hm⟩
    · rw [look_cons_ne _ _ e]at h1
      by_cases e':l=z
      · subst e';rw [look_cons_same]at h1;cases h1;exact h2.elim
      · rw [look_cons_ne _ _ e']at h1
        exact .inl ⟨z,oz,h1,h2,by simpa [Ctx.name,upd,show z≠c.n from fun h=>e h.symm]using h3⟩
  os:=rfl
  tape:=rfl
  output:=rfl
theorem Grow.forget {c:Ctx} {w:World} {h:Heap} {l:Nat}:Grow c w h c w ((l,.gone)::h) where
  le:= .refl c
  size:=Nat.le_refl _
  stays:= .refl w
  kept:=fun _ _ _=>rfl
  newK:=fun _ _ h=> .inl h
  newO:=by
    rintro x ⟨z,oz,h1,h2,h3⟩
    by_cases e':l=z
    · subst e';rw [look_cons_same]at h1;cases h1;exact h2.elim
    · rw [look_cons_ne _ _ e']at h1;exact .inl ⟨z,oz,h1,h2,h3⟩
  os:=rfl
  tape:=rfl
  output:=rfl
theorem RelH.forget {c:Ctx} {w:World} {h:Heap} (H:RelH c w h) {l:Nat} {o:AObj} (hl:look h l=some o):RelH c w ((l,.gone)::h) where
  obj:=by
    intro x o1 hx
    by_cases e':l=x
    · subst e';rw [look_cons_same]at hx;cases hx;exact⟨(H.obj l o hl).1,trivial⟩
    · rw [look_cons_ne _ _ e']at hx;exact H.obj x o1 hx
  inj:=by
    intro x o1 x' o2 y h1 hl1 h2 hl2 hm1 hm2
    by_cases e:l=x
    · subst e;rw [look_cons_same]at h1;cases h1;exact hl1.elim
    · by_cases e':l=x'
      · subst e';rw [look_cons_same]at h2;cases h2;exact hl2.elim
      · rw [look_cons_ne _ _ e]at h1
        rw [look_cons_ne _ _ e']at h2
        exact H.inj x o1 x' o2 y h1 hl1 h2 hl2 hm1 hm2
  own:=by
    rintro f x ⟨z,oz,h1,h2,h3⟩ hk
    by_cases e':l=z
    · subst e';rw [look_cons_same]at h1;cases h1;exact h2.elim
    · rw [look_cons_ne _ _ e']at h1;exact H.own f x ⟨z,oz,h1,h2,h3⟩ hk
  low:=H.low
  sub:=H.sub
theorem RowAt.append {K:Nat→Prop} {w:World} {c1 c2 rest:List Value} {sz:Nat} {es1 es2:List (List D)} (h1:RowAt K w c1.toArray sz es1) (l1:c1.length=es1.length*sz)
    (h2:RowAt K w c2.toArray sz es2):RowAt K w (c1++c2++rest).toArray sz (es1++es2):=by
  intro i hi
  rw [List.length_append]at hi
  by_cases hlt:i<es1.length
  · have hg:(es1++es2).getD i []=es1.getD i []:=by simp [List.getD,List.getElem?_append_left hlt]
    obtain⟨a1,a2⟩:=h1 i hlt
    refine⟨by rw [hg];exact a1,fun j hj=> ?_⟩
    obtain⟨v,hv,hd⟩:=a2 j hj
    refine⟨v,?_,by unfold gd at hd ⊢;rw [hg];exact hd⟩
    simp only [List.getElem?_toArray]at hv ⊢
    have:i*sz+j<c1.length:=(List.getElem?_eq_some_iff.1 hv).1
    rw [List.append_assoc,List.getElem?_append_left this];exact hv
  · have hi2:i-es1.length<es2.length:=by omega
    have hg:(es1++es2).getD i []=es2.getD (i-es1.length) []:=by simp [List.getD,List.getElem?_append_right (show es1.length≤i by omega)]
    obtain⟨a1,a2⟩:=h2 _ hi2
    refine⟨by rw [hg];exact a1,fun j hj=> ?_⟩
    obtain⟨v,hv,hd⟩:=a2 j hj
    refine⟨v,?_,by unfold gd at hd ⊢;rw [hg];exact hd⟩
    simp only [List.getElem?_toArray]at hv ⊢
    have hx:(i-es1.length)*sz+j<c2.length:=(List.getElem?_eq_some_iff.1 hv).1
    have he:i*sz+j=c1.length+((i-es1.length)*sz+j):=by
      rw [l1,←Nat.add_assoc,←Nat.add_mul];congr 2;omega
    rw [List.append_assoc,List.getElem?_append_right (by omega),he,Nat.add_sub_cancel_left,List.getElem?_append_left hx]
    exact hv
theorem rowAt_part {K:Nat→Prop} {w:World} {cells:Array Value} {sz lo n:Nat} {es:List (List D)} (h:RowAt K w cells sz es) (hn:lo+n≤es.length):
    RowAt K w ((cells.toList.drop (lo*sz)).take (n*sz)).toArray sz ((es.drop lo).take n):=by
  intro i hi
  have hi':i<n:=by simp at hi;omega
  have hg:((es.drop lo).take n).getD i []=es.getD (lo+i) []:=by
    simp only [List.getD];rw [List.getElem?_take_of_lt hi',List.getElem?_drop]
  obtain⟨a1,a2⟩:=h (lo+i) (by omega)
  refine⟨by rw [hg];exact a1,fun j hj=> ?_⟩
  obtain⟨v,hv,hd⟩:=a2 j hj
  refine⟨v,?_,by unfold gd at hd ⊢;rw [hg];exact hd⟩
  have hlt:i*sz+j<n*sz:=by
    have:(i+1)*sz≤n*sz:=Nat.mul_le_mul_right _ hi'
    rw [Nat.add_mul]at this;omega
  simp only [List.getElem?_toArray]
  rw [List.getElem?_take_of_lt hlt,List.getElem?_drop]
  simp only [Array.getElem?_toList]
  rw [show lo*sz+(i*sz+j)=(lo+i)*sz+j by rw [Nat.add_mul];omega];exact hv
theorem rowAt_size {K:Nat→Prop} {w:World} {cells:Array Value} {sz:Nat} {es:List (List D)} (h:RowAt K w cells sz es) (hs:sz≠0):es.length*sz≤cells.size:=by
  by_cases he:es.length=0
  · rw [he,Nat.zero_mul];exact Nat.zero_le _
  · obtain⟨v,hv,_⟩:=(h (es.length-1) (by omega)).2 (sz-1) (by omega)
    obtain⟨h1,_⟩:=Array.getElem?_eq_some_iff.1 hv
    have:es.length*sz=(es.length-1)*sz+sz:=by
      rw [show es.length=es.length-1+1 by omega,Nat.add_mul];simp
    omega
def ReadsAs (P:Program) (K:Nat→Prop) (w:World) (u:Value) (sz:Nat) (ds:List (List D)):Prop:=
  ∃(a:Option Addr) (cap:Nat) (cells:List Value),u= .slice a ds.length cap∧(∀w1:World,w1.heap=w.heap→(Builtin.firstCells sz ds.length u).run P w1= .ok cells.toArray w1)∧cells.length=ds.length*sz∧RowAt K w cells.toArray sz ds∧
    (∀v∈cells,v.oneCell'=true)
theorem cell?_heap {w w1:World} (h:w1.heap=w.heap) (b:Addr):w1.cell? b=w.cell? b:=by unfold World.cell?;rw [h]
theorem readsAs_nil {P:Program} {K:Nat→Prop} {w:World} {a:Option Addr} {cap sz:Nat}:ReadsAs P K w (.slice a 0 cap) sz []:=by
  refine⟨a,cap,[],rfl,fun w1 _=> ?_,by simp,fun i hi=>by simp at hi,by simp⟩
  cases a<;>simp [Builtin.firstCells,loadCells,loadCellsFrom]
theorem rows_oneCell {K:Nat→Prop} {w:World} {cells:List Value} {sz:Nat} {ds:List (List D)} (hl:cells.length=ds.length*sz) (h:RowAt K w cells.toArray sz ds):∀v∈cells,v.oneCell'=true:=by
  intro v hv
  obtain⟨q,hq,rfl⟩:=List.mem_iff_getElem.1 hv
  have hs:0<sz:=by
    rcases Nat.eq_zero_or_pos sz with h0 | h0
    · subst h0;simp at hl;subst hl;simp at hq
    · exact h0
  have hi:q/sz<ds.length:=by rw [Nat.div_lt_iff_lt_mul hs];omega
  obtain⟨v,hv,hd⟩:=(h (q/sz) hi).2 (q%sz) (Nat.mod_lt _ hs)
  have he:q/sz*sz+q%sz=q:=by rw [Nat.mul_comm];exact Nat.div_add_mod q sz
  rw [he]at hv
  simp [hq]at hv
  rw [hv];exact hd.oneCell
theorem readsAs_ro {P:Program} {K:Nat→Prop} {w:World} {u:Value} {sz s2:Nat} {ds:List (List D)} (h:RelD K w u (.rows s2 ds)) (hs:ds≠ []→s2=sz):ReadsAs P K w u sz ds:=by
  cases h with
  | none a cap=>exact readsAs_nil
  | rows b off cap _ n _ uu hb hn hcap hc hl hr=>
    subst hn
    by_cases he:ds=[]
    · subst he;exact readsAs_nil
    · have:=hs he;subst this
      have hpos:0<ds.length:=List.length_pos_iff.2 he
      refine⟨some ⟨b,off,none⟩,cap,(List.range (ds.length*s2)).map fun q=>uu (q/s2) (q%s2),rfl,?_,by simp,?_,?_⟩
      · intro w1 hw1
        have:=run_loadCells_list (P:=P) w1 ⟨b,off,none⟩ ((List.range (ds.length*s2)).map fun q=>uu (q/s2) (q%s2)) (fun j v hj=>by
          simp only [List.getElem?_map,Option.map_eq_some_iff]at hj
          obtain⟨j',hj',rfl⟩:=hj
          obtain⟨hlt,hj2⟩:=List.getElem?_eq_some_iff.1 hj'
          simp at hlt hj2
          subst hj2
          have hs0 : 0 < s2 := by rcases Nat.eq_zero_or_pos s2 with h | h; · subst h; simp at hlt
                                  · exact h
          rw [addr_add,cell?_heap hw1]
          have h2:=hc (j/s2) (j%s2) (by rw [Nat.div_lt_iff_lt_mul hs0];exact hlt) (Nat.mod_lt _ hs0)
          rw [Nat.add_assoc,show j/s2*s2+j%s2=j by rw [Nat.mul_comm];exact Nat.div_add_mod j s2]at h2
          exact h2)
        simpa [Builtin.firstCells]using this
      · intro i hi
        refine⟨hl i hi,fun j hj=>⟨uu i j,?_,hr i j hi hj⟩⟩
        have hlt:i*s2+j<ds.length*s2:=by
          have:(i+1)*s2≤ds.length*s2:=Nat.mul_le_mul_right _ hi
          rw [Nat.add_mul]at this;omega
        have h1:(i*s2+j)/s2=i:=by rw [Nat.mul_comm,Nat.mul_add_div (by omega),Nat.div_eq_of_lt hj];rfl
        have h2:(i*s2+j)%s2=j:=by rw [Nat.mul_comm,Nat.mul_add_mod];exact Nat.mod_eq_of_lt hj
        simp [hlt,h1,h2]
      · refine rows_oneCell (K:=K) (w:=w) (sz:=s2) (ds:=ds) (by simp) ?_
        intro i hi
        refine⟨hl i hi,fun j hj=>⟨uu i j,?_,hr i j hi hj⟩⟩
        have hlt:i*s2+j<ds.length*s2:=by
          have:(i+1)*s2≤ds.length*s2:=Nat.mul_le_mul_right _ hi
          rw [Nat.add_mul]at this;omega
        have h1:(i*s2+j)/s2=i:=by rw [Nat.mul_comm,Nat.mul_add_div (by omega),Nat.div_eq_of_lt hj];rfl
        have h2:(i*s2+j)%s2=j:=by rw [Nat.mul_comm,Nat.mul_add_mod];exact Nat.mod_eq_of_lt hj
        simp [hlt,h1,h2]
theorem first_own {P:Program} {K:Nat→Prop} {w:World} {b sz lo n cap:Nat} {cells:Array Value} {e:TypeId} {fr:Nat×Nat} {es:List (List D)} (hb:w.heap[b]? =some (.cells cells e fr)) (hr:RowAt K w cells sz es)
    (hs:sz≠0) (hn:lo+n≤es.length) (w1:World) (hw1:w1.heap=w.heap):
    (Builtin.firstCells sz n (.slice (some ⟨b,lo*sz,none⟩) n cap)).run P w1= .ok ((cells.toList.drop (lo*sz)).take (n*sz)).toArray w1:=by
  have hsize:=rowAt_size hr hs
  have hle:(lo+n)*sz≤es.length*sz:=Nat.mul_le_mul_right _ hn
  rw [Nat.add_mul]at hle
  have hcl:((cells.toList.drop (lo*sz)).take (n*sz)).length=n*sz:=by simp;omega
  have:=run_loadCells_list (P:=P) w1 ⟨b,lo*sz,none⟩ ((cells.toList.drop (lo*sz)).take (n*sz)) (fun j v hj=>by
    rw [addr_add,cell?_heap hw1,cell?_of hb]
    rw [List.getElem?_take]at hj
    split at hj
    · rw [List.getElem?_drop]at hj;simpa using hj
    · cases hj)
  rw [hcl]at this
  simpa [Builtin.firstCells]using this
theorem readsAs_own {P:Program} {K:Nat→Prop} {w:World} {b sz lo n cap:Nat} {cells:Array Value} {e:TypeId} {fr:Nat×Nat} {es:List (List D)} (hb:w.heap[b]? =some (.cells cells e fr)) (hr:RowAt K w cells sz es)
    (hs:sz≠0) (hn:lo+n≤es.length):ReadsAs P K w (.slice (some ⟨b,lo*sz,none⟩) n cap) sz ((es.drop lo).take n):=by
  have hsize:=rowAt_size hr hs
  have hle:(lo+n)*sz≤es.length*sz:=Nat.mul_le_mul_right _ hn
  rw [Nat.add_mul]at hle
  have hlen:((es.drop lo).take n).length=n:=by simp;omega
  have hcl:((cells.toList.drop (lo*sz)).take (n*sz)).length=n*sz:=by simp;omega
  refine⟨some ⟨b,lo*sz,none⟩,cap,(cells.toList.drop (lo*sz)).take (n*sz),by rw [hlen],fun w1 hw1=> ?_,by rw [hlen];exact hcl,rowAt_part hr hn,?_⟩
  · rw [hlen];exact first_own hb hr hs hn w1 hw1
  · exact rows_oneCell (by rw [hlen];exact hcl) (rowAt_part hr hn)
end Go.AE
namespace Go.AE
open Go
theorem growBy_le (newLen:Nat):∀(r c:Nat),Builtin.growBy newLen r c≤max c (2*newLen+192)
  | 0,c=>by simp [Builtin.growBy];omega
  | r+1,c=>by
    unfold Builtin.growBy
    split
    · omega
    · have:=growBy_le newLen r (c+(c+768)/4)
      omega
theorem nextslicecap_le {newLen oldCap:Nat} (h:oldCap<newLen):Builtin.nextslicecap newLen oldCap≤2*newLen+512:=by
  unfold Builtin.nextslicecap
  split
  · omega
  · split
    · omega
    · have:=growBy_le newLen 4 oldCap
      omega
inductive AppX (E:Tab) (w:World) (t2 e:TypeId) (z:TY) (x:Value) (n:Nat) (cells:List Value):Prop
  | slice (y2:TY) (e2:TypeId) (a:Option Addr) (cap:Nat):E.ty t2=some y2→y2.desc= .slice e2→x= .slice a n cap→
      (∀w1:World,w1.heap=w.heap→(Builtin.firstCells z.size n x).run E.P w1= .ok cells.toArray w1)→AppX E w t2 e z x n cells
  | zeros (y2:TY) (k k':IntKind) (zv:Value) (inf:TypeInfo):E.ty t2=some y2→y2.desc= .int k→x= .int k' n→n≤maxN→E.P.info? e=some inf→inf.bytes=z.bytes→inf.zero=some zv→
      cells=(List.range (n*zv.cells.size)).map (fun i=>zv.cells[i%zv.cells.size]!)→zv.cells.size=z.size→AppX E w t2 e z x n cells
theorem run_append_in {E:Tab} (hE:TabOK E) {w:World} {ty t2 e:TypeId} {z:TY} {x:Value} {n:Nat} {cells:List Value} (hun:E.P.underlying ty=some (.slice e)) (hz:E.ty e=some z) (hs:z.size≠0) (hby:z.bytes≤1024)
    (hx:AppX E w t2 e z x n cells) {base:Option Addr} {sLen sCap:Nat} (hfit:sLen+n≤sCap):
    (Builtin.append_ #[ty,t2] ty #[.slice base sLen sCap,x]).run E.P w=
      ((match base with | some a=>storeCells (a.add (sLen*z.size)) cells | none=>pure ():Sem Unit).run E.P w).andThen fun _ w'=> .ok (.slice base (sLen+n) sCap) w':=by
  cases hx with
  | slice y2 e2 a cap h1 h2 hx hread=>
    have hd:=(hE.ty t2 y2 h1).desc
    rw [h2]at hd
    have hd':E.P.underlying t2=some (.slice e2):=hd
    subst hx
    have:=hread w rfl
    simp [Builtin.append_,run_underlying hun,run_sizeOf hE hz,run_underlying hd',Builtin.lenOf,hfit,this]
    cases base<;>simp
  | zeros y2 k k' zv inf h1 h2 hx hmax hi hb hzv hc hzs=>
    have hd:=(hE.ty t2 y2 h1).desc
    rw [h2]at hd
    have hd':E.P.underlying t2=some (.int k):=hd
    subst hx
    have hm:n≤1073741824:=hmax
    have hwrap:IntKind.i64.wrap (n:Int)=n:=IntWalk.i64_in _ (by omega)
    have h0:¬(n:Int)<0:=by omega
    have hbig:¬(281474976710656:Int)< (n:Int)*(z.bytes:Int):=by
      have h1:(n:Int)*(z.bytes:Int)≤(n:Int)*1024:=Int.mul_le_mul_of_nonneg_left (by omega) (by omega)
      omega
    simp [Builtin.append_,run_underlying hun,run_sizeOf hE hz,run_underlying hd',asInt,asIntOf,hwrap,h0,typeInfo,hi,hb,hbig,hfit,zeroValue,hzv]
    have hz2:(Builtin.zeroCells zv.cells n).toList=cells:=by subst hc;simp [Builtin.zeroCells]
    rw [hz2]
    by_cases hn0:n=0
    · have hc0:cells=[]:=by subst hn0;subst hc;simp
      subst hc0
      rw [if_pos (by rw [hn0,Nat.zero_mul])]
      cases base<;>simp
    · rw [if_neg (Nat.mul_ne_zero hn0 hs)]
      cases base<;>simp
theorem run_append_grow {E:Tab} (hE:TabOK E) {w:World} {ty t2 e:TypeId} {z:TY} {x:Value} {n:Nat} {cells old:List Value} (hun:E.P.underlying ty=some (.slice e)) (hz:E.ty e=some z) (hs:z.size≠0) (hby:z.bytes≤1024)
    (hx:AppX E w t2 e z x n cells) {base:Option Addr} {sLen sCap:Nat} (hfit:sCap<sLen+n) (hmax:sLen+n≤maxN) (hol:old.length=sLen*z.size) (hcl:cells.length=n*z.size)
    (hold:∀w1:World,w1.heap=w.heap→(Builtin.firstCells z.size sLen (.slice base sLen sCap)).run E.P w1= .ok old.toArray w1):
    ∃newCap rest,sLen+n≤newCap∧newCap*z.size≤(old++cells++rest).length∧(Builtin.append_ #[ty,t2] ty #[.slice base sLen sCap,x]).run E.P w=
      .ok (.slice (some ⟨w.heap.size,0,none⟩) (sLen+n) newCap) {w.alloc (.cells (old++cells++rest).toArray e)with drawn:=w.drawn+1}:=by
  have hm:sLen+n≤1073741824:=hmax
  obtain⟨inf,hinf,his,hib,zv,hzv,hzr⟩:=(hE.ty e z hz).info
  have hnc:=nextslicecap_le hfit
  have hb1:¬281474976710656<Builtin.nextslicecap (sLen+n) sCap*z.bytes:=by
    have h1:Builtin.nextslicecap (sLen+n) sCap*z.bytes≤(2*(sLen+n)+512)*1024:=Nat.mul_le_mul hnc hby
    omega
  have hnf:¬sLen+n≤sCap:=by omega
  have hzs:zv.cells.size=z.size:=by
    have h1:=(hzr ctx0 w).length
    have h2:=(hE.ty e z hz).len
    simp at h1;omega
  have hmx:¬(9223372036854775807:Int)< (sLen:Int)+(n:Int):=by omega
  generalize hq:(Question.appendCap (sLen+n) sCap e).cut (w.tape w.drawn (Question.appendCap (sLen+n) sCap e))=q
  have hqge:sLen+n≤q:=by rw [←hq];simp [Question.cut]
  have hforced:(Question.appendCap (sLen+n) sCap e).forced=false:=rfl
  refine⟨q,(Builtin.zeroCells zv.cells (q- (sLen+n))).toList,hqge,?_,?_⟩
  · simp [Builtin.zeroCells,hol,hcl,hzs]
    rw [←Nat.add_mul,←Nat.add_mul]
    exact Nat.mul_le_mul_right _ (by omega)
  · have hold1:=hold w.drew rfl
    cases hx with
    | slice y2 e2 a cap h1 h2 hx hread=>
      have hd:=(hE.ty t2 y2 h1).desc
      rw [h2]at hd
      have hd':E.P.underlying t2=some (.slice e2):=hd
      subst hx
      have hread1:=hread w.drew rfl
      simp [Builtin.append_,run_underlying hun,run_sizeOf hE hz,run_underlying hd',Builtin.lenOf,hnf,typeInfo,hinf,hib,hb1,hmx,hforced,hq,hold1,hread1,zeroValue,hzv,newRow]
      have ea:old.toArray++(cells.toArray++Builtin.zeroCells zv.cells (q- (sLen+n)))=(old++(cells++(Builtin.zeroCells zv.cells (q- (sLen+n))).toList)).toArray:=by apply Array.ext';simp
      rw [ea];rfl
    | zeros y2 k k' zv' inf' h1 h2 hx hmax' hi hb hzv' hc hzs'=>
      have hd:=(hE.ty t2 y2 h1).desc
      rw [h2]at hd
      have hd':E.P.underlying t2=some (.int k):=hd
      subst hx
      rw [hinf]at hi;cases hi
      rw [hzv]at hzv';cases hzv'
      have hm2:n≤1073741824:=hmax'
      have hwrap:IntKind.i64.wrap (n:Int)=n:=IntWalk.i64_in _ (by omega)
      have h0:¬(n:Int)<0:=by omega
      have hbig:¬(281474976710656:Int)< (n:Int)*(z.bytes:Int):=by
        have h1:(n:Int)*(z.bytes:Int)≤(n:Int)*1024:=Int.mul_le_mul_of_nonneg_left (by omega) (by omega)
        omega
      have hz2:Builtin.zeroCells zv.cells n=cells.toArray:=by subst hc;apply Array.ext';simp [Builtin.zeroCells]
      simp [Builtin.append_,run_underlying hun,run_sizeOf hE hz,run_underlying hd',asInt,asIntOf,hwrap,h0,typeInfo,hinf,hib,hbig,hnf,hb1,hmx,hforced,hq,hold1,zeroValue,hzv,newRow,hz2]
      have ea:old.toArray++(cells.toArray++Builtin.zeroCells zv.cells (q- (sLen+n)))=(old++(cells++(Builtin.zeroCells zv.cells (q- (sLen+n))).toList)).toArray:=by apply Array.ext';simp
      by_cases hn0:n=0
      · have hc0:cells=[]:=by subst hn0;simpa using hcl
        rw [if_pos (by rw [hn0,Nat.zero_mul])]
        rw [hc0]at ea ⊢
        have eb:old.toArray++Builtin.zeroCells zv.cells (q- (sLen+n))=(old++([]++(Builtin.zeroCells zv.cells (q- (sLen+n))).toList)).toArray:=by rw [←ea];simp
        rw [eb];rfl
      · rw [if_neg (Nat.mul_ne_zero hn0 hs),ea];rfl
theorem virt_turns {P:Program} {c:Ctx} {w:World} {h:Heap} {n k:Nat} (H:RelH c w h) (hn:c.n=nm n k) {s:Sem Next} {a:Option Addr} {f:Bool} {sz:Nat} {K:PV→Heap→Nat→Prop}
    (hrun:s.run P w= .ok (.value (.slice a 0 0)) w) (hk:K (.c (.os (nm n k) sz 0 0)) ((nm n k,.rows f sz [])::h) (k+1)):Turns P c w h n s K:=by
  refine⟨_,_,c.name none,w,(c.n,.rows f sz [])::h,k+1,.c (.os (nm n k) sz 0 0),hrun,.inl rfl,Grow.new (fun x hx=>by cases hx) (.refl w) (fun _ _=>rfl) (Nat.le_refl _) rfl rfl rfl,
    H.new (fun x hx=>by cases hx) (.refl w) (fun _ _=>rfl) (Nat.le_refl _) ?_,?_,?_,?_⟩
  · have:(c.name none).μ c.n=none:=by simp [Ctx.name,upd]
    simp only [RelO,this]
  · show c.n+1=_
    rw [hn];rfl
  · rw [←hn]
    exact .c _ _ (.os0 a c.n sz (Nat.lt_succ_self _) (by simp [Ctx.name,upd]))
  · rw [hn];exact hk
theorem Turns.after {P:Program} {c c1:Ctx} {w:World} {h h1:Heap} {n:Nat} {s:Sem Next} {K:PV→Heap→Nat→Prop} (g:Grow c w h c1 w h1) (t:Turns P c1 w h1 n s K):Turns P c w h n s K:=by
  obtain⟨nx,u,c',w',h',k',pv,q1,q2,q3,q4,q5,q6,q7⟩:=t
  exact⟨nx,u,c',w',h',k',pv,q1,q2,g.trans q3,q4,q5,q6,q7⟩
theorem grow_turns {E:Tab} (hE:TabOK E) {c:Ctx} {w:World} {h:Heap} {n k:Nat} (H:RelH c w h) (hn:c.n=nm n k) {ty t2 e:TypeId} {z:TY} {x:Value} {m:Nat} {cells old:List Value} (hun:E.P.underlying ty=some (.slice e)) (hz:E.ty e=some z)
    (hs:z.size≠0) (hby:z.bytes≤1024) (hx:AppX E w t2 e z x m cells) {base:Option Addr} {sLen sCap:Nat} (hfit:sCap<sLen+m) (hmax:sLen+m≤maxN) (hol:old.length=sLen*z.size) (hcl:cells.length=m*z.size)
    (hold:∀w1:World,w1.heap=w.heap→(Builtin.firstCells z.size sLen (.slice base sLen sCap)).run E.P w1= .ok old.toArray w1) {f1 f2:Bool} {es ds:List (List D)} (he:es.length=sLen)
    (hr1:RowAt (c.K f1) w old.toArray z.size es) (hr2:RowAt (c.K f2) w cells.toArray z.size ds) {K:PV→Heap→Nat→Prop}
    (hk:K (.c (.os (nm n k) z.size 0 (sLen+m))) ((nm n k,.rows (f1&&f2) z.size (es++ds))::h) (k+1)):
    Turns E.P c w h n (do pure (Next.value (←Builtin.append_ #[ty,t2] ty #[.slice base sLen sCap,x]))) K:=by
  obtain⟨newCap,rest,h1,h2,hrun⟩:=run_append_grow hE hun hz hs hby hx hfit hmax hol hcl hold
  refine new_turns H hn (cells:=(old++cells++rest).toArray) (e:=e) (o:= .rows (f1&&f2) z.size (es++ds)) (u:= .slice (some ⟨w.heap.size,0,none⟩) (sLen+m) newCap)
    (w1:={w.alloc (.cells (old++cells++rest).toArray e)with drawn:=w.drawn+1}) (by simp [hrun]) rfl rfl rfl rfl ?_ (fun hb=>os_new newCap hn hb h1 (by simpa using h2)) hk
  intro hst ho hnew
  refine rows_relO H (RowAt.append ?_ (by rw [hol,he]) ?_) ho hnew
  · exact hr1.mono (fun b hb=>by cases f1<;>cases f2<;>first | exact hb | exact H.sub b hb) (fun _ _=>rfl)
  · exact hr2.mono (fun b hb=>by cases f1<;>cases f2<;>first | exact hb | exact H.sub b hb) (fun _ _=>rfl)
theorem srcA_sound {E:Tab} (hE:TabOK E) {c:Ctx} {w:World} {h:Heap} (H:RelH c w h) {t2 e:TypeId} {y2 z:TY} {u:Value} {v:PV} {zd:List D} (hy2:E.ty t2=some y2) (hz:E.ty e=some z) (hs:z.size≠0) (hzd:ZD z.zero zd)
    (hu:RelV c w u v) (hty:srcTy y2.desc v)
    {K:Bool→Nat→List (List D)→Prop} (hk:srcA h zd v K):
    ∃f s2 ds,K f s2 ds∧((ds≠ []→s2=z.size)→∃cells,AppX E w t2 e z u ds.length cells∧cells.length=ds.length*z.size∧RowAt (c.K f) w cells.toArray z.size ds∧(∀v∈cells,v.oneCell'=true)):=by
  have mk:∀(f:Bool) (ds:List (List D)) (e2:TypeId),y2.desc= .slice e2→ReadsAs E.P (c.K f) w u z.size ds→
      ∃cells,AppX E w t2 e z u ds.length cells∧cells.length=ds.length*z.size∧RowAt (c.K f) w cells.toArray z.size ds∧(∀v∈cells,v.oneCell'=true):=by
    rintro f ds e2 hd ⟨a,cap,cells,h1,h2,h3,h4,h5⟩
    exact⟨cells,.slice y2 e2 a cap hy2 hd h1 h2,h3,h4,h5⟩
  unfold srcA at hk
  split at hk
  · cases hu with | c _ _ hu=>cases hu with | nil=>
    cases hd:y2.desc with
    | slice e2=>exact⟨true,0,[],hk,fun _=>mk true [] e2 hd readsAs_nil⟩
    | _=>rw [hd]at hty;(unfold srcTy at hty;exact hty.elim)
  · rename_i f sz es
    cases hu with | c _ _ hu=>cases hu with | d _ _ _ hu=>
    cases hd:y2.desc with
    | slice e2=>exact⟨f,sz,es,hk,fun hs=>mk f es e2 hd (readsAs_ro hu hs)⟩
    | _=>rw [hd]at hty;(unfold srcTy at hty;exact hty.elim)
  · rename_i f sz es
    cases hu with | c _ _ hu=>cases hu with | clip _ a n _ _ hu=>
    cases hd:y2.desc with
    | slice e2=>exact⟨f,sz,es,hk,fun hs=>mk f es e2 hd (readsAs_ro hu hs)⟩
    | _=>rw [hd]at hty;(unfold srcTy at hty;exact hty.elim)
  · rename_i l sz lo n
    replace hk:=withO_some hk;obtain⟨o,ho,hk⟩:=hk
    split at hk
    · rename_i f sz' es
      obtain⟨rfl,hlen,hk⟩:=hk
      cases hd:y2.desc with
      | slice e2=>
        refine⟨f,sz,_,hk,fun hsz=>mk f _ e2 hd ?_⟩
        have hro:=(H.obj l _ ho).2
        cases hu with | c _ _ hu=>cases hu with
        | os0 a _ _ hl hm=>rw [List.take_zero];exact readsAs_nil
        | osE a _ _ _ b hl hm=>rw [List.take_zero];exact readsAs_nil
        | os _ _ _ _ cap b hl hm hn hroom=>
          by_cases h0:n=0
          · subst h0;rw [List.take_zero];exact readsAs_nil
          · have hne:(es.drop lo).take n≠ []:=by
              intro he
              have:=congrArg List.length he
              simp at this;omega
            have:=hsz hne
            subst this
            simp only [RelO,hm]at hro
            obtain⟨cells,e',hb,hrow⟩:=hro
            exact readsAs_own hb hrow hs hlen
      | _=>rw [hd]at hty;(unfold srcTy at hty;exact hty.elim)
    · exact hk.elim
  · rename_i f k' n
    obtain⟨h0,hmax,hk⟩:=hk
    rw [rel_int hu]
    cases hd:y2.desc with
    | int kk=>
      obtain⟨inf,hinf,his,hib,zv,hzv,hzr⟩:=(hE.ty e z hz).info
      have hzs:zv.cells.size=z.size:=by
        have h1:=(hzr ctx0 w).length
        have h2:=(hE.ty e z hz).len
        simp at h1;omega
      have hm:n≤1073741824:=hmax
      have hcast:((List.replicate n.toNat zd).length:Int)=n:=by simp;omega
      have hrow:RowAt (c.K true) w ((List.range (n.toNat*zv.cells.size)).map (fun i=>zv.cells[i%zv.cells.size]!)).toArray z.size (List.replicate n.toNat zd):=by
        have h1:=rowAt_zero (K:=c.K true) (w:=w) (N:=n.toNat*z.size) (m:=n.toNat) (zeroD_rel (hzr ctx0 w) hzd) hzs (Nat.le_refl _)
        have h2:(Array.range (n.toNat*z.size)).map (fun i=>zv.cells[i%zv.cells.size]!)=((List.range (n.toNat*zv.cells.size)).map (fun i=>zv.cells[i%zv.cells.size]!)).toArray:=by
          apply Array.ext';simp [hzs]
        rw [h2]at h1;exact h1
      refine⟨true,_,_,hk,fun _=>⟨(List.range (n.toNat*zv.cells.size)).map (fun i=>zv.cells[i%zv.cells.size]!),.zeros y2 kk k' zv inf hy2 hd (by rw [hcast]) (by simp;unfold maxN;omega) hinf hib hzv (by rw [List.length_replicate]) hzs,by simp [hzs],hrow,?_⟩⟩
      exact rows_oneCell (K:=c.K true) (w:=w) (sz:=z.size) (ds:=List.replicate n.toNat zd) (by simp [hzs]) hrow
    | _=>rw [hd]at hty;(unfold srcTy at hty;exact hty.elim)
  · exact hk.elim
theorem append_turns {E:Tab} (hE:TabOK E) {c:Ctx} {w:World} {h:Heap} {n k:Nat} (H:RelH c w h) (hn:c.n=nm n k) {ty t2 e:TypeId} {y2 z:TY} {s x:Value} {a b:PV} (hun:E.P.underlying ty=some (.slice e)) (hz:E.ty e=some z)
    (hy2:E.ty t2=some y2) (hs:RelV c w s a) (hx:RelV c w x b)
    (hty:srcTy y2.desc b) {K:PV→Heap→Nat→Prop}
    (hk:appendA h n k z a b K):Turns E.P c w h n (do pure (Next.value (←Builtin.append_ #[ty,t2] ty #[s,x]))) K:=by
  unfold appendA at hk
  obtain⟨zd,hzd,hsz,hby,hk⟩:=hk
  have hq:=srcA_sound hE H hy2 hz hsz hzd hx hty hk
  clear hk
  obtain⟨f2,s2,ds,⟨hs2,hk⟩,hadd⟩:=hq
  obtain⟨cells,hX,hcl,hr2,h1⟩:=hadd hs2
  have hr2:RowAt (c.K (f2 || scalE ds)) w cells.toArray z.size ds:=by
    cases hsc:scalE ds with
    | false=>simpa using hr2
    | true=>
      intro i hi
      refine⟨(hr2 i hi).1,fun j hj=> ?_⟩
      obtain⟨v,hv,hd⟩:=(hr2 i hi).2 j hj
      refine⟨v,hv,hd.scal _ ?_⟩
      have hl:=(hr2 i hi).1
      have hri:ds.getD i []∈ds:=by simp [List.getD,List.getElem?_eq_getElem hi]
      have h1:=List.all_eq_true.1 hsc _ hri
      have hjl:j< (ds.getD i []).length:=by rw [hl];exact hj
      have:gd ds i j∈ds.getD i []:=by
        unfold gd
        generalize ds.getD i []=row at hjl
        have e:row.getD j default=row[j]:=by simp [List.getD,List.getElem?_eq_getElem hjl]
        rw [e];exact List.getElem_mem _
      exact List.all_eq_true.1 h1 _ this
  generalize (f2 || scalE ds)=f2 at hk hr2
  unfold appTailA at hk
  have stay:∀(base:Option Addr),ds.length=0→((do pure (Next.value (←Builtin.append_ #[ty,t2] ty #[.slice base 0 0,x])):Sem Next)).run E.P w= .ok (.value (.slice base 0 0)) w:=by
    intro base h0
    have:=run_append_in hE (w:=w) hun hz hsz hby hX (base:=base) (sLen:=0) (sCap:=0) (by omega)
    have hc0:cells=[]:=by rw [h0]at hcl;simpa using hcl
    subst hc0
    rw [h0]at this
    cases base<;>simp [this,storeCells]
  have first0:∀(base:Option Addr) (cap:Nat) (w1:World),(Builtin.firstCells z.size 0 (.slice base 0 cap)).run E.P w1= .ok ([]:List Value).toArray w1:=by
    intro base cap w1
    cases base<;>simp [Builtin.firstCells,loadCells,loadCellsFrom]
  split at hk
  · obtain⟨hmax,hk⟩:=hk
    cases hs with | c _ _ hs=>cases hs with | nil=>
    by_cases h0:ds.length=0
    · have hd0:ds=[]:=List.eq_nil_of_length_eq_zero h0
      subst hd0
      exact virt_turns H hn (stay none rfl) hk
    · have:=grow_turns hE H hn hun hz hsz hby hX (old:=[]) (base:=none) (sLen:=0) (sCap:=0) (by omega) (by omega) (by simp) hcl (fun w1 _=>first0 none 0 w1) (f1:=true) (f2:=f2) (es:=[]) (ds:=ds) rfl
        (fun i hi=>by simp at hi) hr2 (K:=K) (by simpa using hk)
      exact this
  · rename_i l sz lo m
    replace hk:=withO_some hk;obtain⟨o,ho,hk⟩:=hk
    split at hk
    · rename_i f1 sz1 es
      obtain⟨rfl,hm,rfl,rfl,hmax,hk⟩:=hk
      have hforget:=Grow.forget (c:=c) (w:=w) (h:=h) (l:=l)
      have Hf:=H.forget ho
      have empty:∀base:Option Addr,m=0→s= .slice base 0 0→Turns E.P c w h n (do pure (Next.value (←Builtin.append_ #[ty,t2] ty #[s,x]))) K:=by
        intro base hm0 hs0
        subst hm0;subst hs0
        rw [List.take_zero]at hk
        by_cases h0:ds.length=0
        · have hd0:ds=[]:=List.eq_nil_of_length_eq_zero h0
          subst hd0
          exact Turns.after hforget (virt_turns Hf hn (stay base rfl) hk)
        · exact Turns.after hforget (grow_turns hE Hf hn hun hz hsz hby hX (old:=[]) (base:=base) (sLen:=0) (sCap:=0) (by omega) (by omega) (by simp) hcl (fun w1 _=>first0 base 0 w1) (f1:=f1) (f2:=f2) (es:=[]) (ds:=ds) rfl
            (fun i hi=>by simp at hi) hr2 (K:=K) (by simpa using hk))
      cases hs with | c _ _ hs=>cases hs with
      | os0 aa _ _ hl hmu=>exact empty aa rfl rfl
      | osE aa _ _ _ bb hl hmu=>exact empty aa rfl rfl
      | os _ _ _ _ cap bb hl hmu hcap hroom=>
        have hro:=(H.obj l _ ho).2
        simp only [RelO,hmu]at hro
        obtain⟨cur,e',hb,hrow⟩:=hro
        have hpart:=rowAt_part (lo:=0) (n:=m) hrow (by omega)
        rw [List.drop_zero]at hpart
        have hsize:=rowAt_size hrow hsz
        have hml:m*z.size≤es.length*z.size:=Nat.mul_le_mul_right _ hm
        have htl:(es.take m).length=m:=by simp;omega
        by_cases hfit:m+ds.length≤cap
        ·
          obtain⟨c2,E2,fr2,hb2,hroom2⟩:=hroom
          rw [hb]at hb2;cases hb2
          have hcapsz:(m+ds.length)*z.size≤(0+cap)*z.size:=Nat.mul_le_mul_right _ (by omega)
          rw [Nat.add_mul]at hcapsz
          have hin:m*z.size+cells.length≤cur.size:=by rw [hcl];omega
          have hst:=run_storeCells_at E.P bb (m*z.size) e' cells 0 cur w hb (by simpa using hin) h1
          have hrun:=run_append_in hE (w:=w) hun hz hsz hby hX (base:=some ⟨bb,0*z.size,none⟩) (sLen:=m) (sCap:=cap) hfit
          simp only [Nat.zero_mul,addr_add,Nat.zero_add,Nat.add_zero]at hrun hst
          rw [hst]at hrun
          simp only [Result.andThen_ok]at hrun
          have hsame:(cur.toList.take (m*z.size)++cells++cur.toList.drop (m*z.size+cells.length)).toArray.size=cur.size:=by simp at hin ⊢;omega
          have hstay:=stays_setRow hb hsame
          have hother:∀x,x≠bb→(w.setRow bb (cur.toList.take (m*z.size)++cells++cur.toList.drop (m*z.size+cells.length)).toArray).heap[x]? =w.heap[x]? :=fun x hx=>setRow_other _ _ _ _ hx
          have hKro:∀f x,c.K f x→(w.setRow bb (cur.toList.take (m*z.size)++cells++cur.toList.drop (m*z.size+cells.length)).toArray).heap[x]? =w.heap[x]? :=
            fun f x hx=>hother x (fun e'=>H.own f bb ⟨l,_,ho,trivial,hmu⟩ (e'▸hx))
          have hnewrow:RowAt (c.K (f1&&f2)) (w.setRow bb (cur.toList.take (m*z.size)++cells++cur.toList.drop (m*z.size+cells.length)).toArray)
              (cur.toList.take (m*z.size)++cells++cur.toList.drop (m*z.size+cells.length)).toArray z.size (es.take m++ds):=by
            have hp:RowAt (c.K f1) w (cur.toList.take (m*z.size)).toArray z.size (es.take m):=by simpa using hpart
            refine(RowAt.append (sz:=z.size) (hp.mono (fun b hb=> ?_) (fun _ _=>rfl)) (by simp [htl];omega) (hr2.mono (fun b hb=> ?_) (fun _ _=>rfl))).mono (fun _ h=>h) (hKro (f1&&f2))
            · cases f1<;>cases f2<;>first | exact hb | exact H.sub b hb
            · cases f1<;>cases f2<;>first | exact hb | exact H.sub b hb
          have hheap:=setRow_heap w bb cur (cur.toList.take (m*z.size)++cells++cur.toList.drop (m*z.size+cells.length)).toArray e' (0,0) hb
          have g1:Grow c w h c _ ((l,.rows (f1&&f2) z.size (es.take m++ds))::h):=Grow.write ho trivial hmu hother (size_setRow _ _ _) hstay rfl rfl rfl
          have H1:RelH c _ ((l,.rows (f1&&f2) z.size (es.take m++ds))::h):=H.write ho trivial hmu hother (size_setRow _ _ _) hstay (by
            simp only [RelO,hmu];exact⟨_,e',hheap,hnewrow⟩)
          have hl1:look ((l,.rows (f1&&f2) z.size (es.take m++ds))::h) l=some (.rows (f1&&f2) z.size (es.take m++ds)):=look_cons_same _ _ _
          have hmu':(c.name (some bb)).μ c.n=some bb:=by simp [Ctx.name,upd]
          have H2:=H1.rename hl1 trivial hmu (o':= .rows (f1&&f2) z.size (es.take m++ds)) (by simp only [RelO,hmu'];exact⟨_,e',hheap,hnewrow⟩)
          have g2:=Grow.rename (w:=w.setRow bb (cur.toList.take (m*z.size)++cells++cur.toList.drop (m*z.size+cells.length)).toArray) (o':= .rows (f1&&f2) z.size (es.take m++ds)) hl1 trivial hmu
          have hdrop:∀x,look ((c.n,AObj.rows (f1&&f2) z.size (es.take m++ds))::(l,.gone)::(l,.rows (f1&&f2) z.size (es.take m++ds))::h) x=
              look ((c.n,AObj.rows (f1&&f2) z.size (es.take m++ds))::(l,.gone)::h) x:=by
            intro x;simp only [look];split
            · rfl
            · split
              · rfl
              · rfl
          refine⟨.value (.slice (some ⟨bb,0,none⟩) (m+ds.length) cap),_,c.name (some bb),_,(c.n,.rows (f1&&f2) z.size (es.take m++ds))::(l,.gone)::h,k+1,.c (.os (nm n k) z.size 0 (m+ds.length)),by(simp only [Nat.zero_mul,Sem.run_bind,hrun,Result.andThen_ok,Sem.run_pure];rfl),.inl rfl,?_,?_,?_,?_,?_⟩
          · have g3:=g1.trans g2
            exact {g3 with newO:=fun b hb=>g3.newO b (by obtain⟨x,o,p1,p2,p3⟩:=hb;exact⟨x,o,by rw [hdrop];exact p1,p2,p3⟩)}
          · exact { obj := fun x o hx => H2.obj x o (by rw [hdrop]; exact hx)
                    inj:=fun x o x' o' b p1 p2 p3 p4 p5 p6=>H2.inj x o x' o' b (by rw [hdrop];exact p1) p2 (by rw [hdrop];exact p3) p4 p5 p6
                    own:=fun f b hb=>H2.own f b (by obtain⟨x,o,p1,p2,p3⟩:=hb;exact⟨x,o,by rw [hdrop];exact p1,p2,p3⟩)
                    low:=H2.low
                    sub:=H2.sub}
          · show c.n+1=_
            rw [hn];rfl
          · refine os_new cap hn hheap hfit ?_
            rw [hsame];simpa using hroom2
          · rw [hn];exact hk
        · refine Turns.after hforget (grow_turns hE Hf hn hun hz hsz hby hX (old:=(cur.toList.drop (0*z.size)).take (m*z.size)) (base:=some ⟨bb,0*z.size,none⟩) (sLen:=m) (sCap:=cap) (by omega) (by omega) (by simp;omega) hcl ?_
            (f1:=f1) (f2:=f2) (es:=es.take m) (ds:=ds) htl hpart hr2 (K:=K) hk)
          exact fun w1 hw1=>first_own hb hrow hsz (by omega) w1 hw1
    · exact hk.elim
  · rename_i f1 sz es
    obtain⟨hse,hde,hmax,hk⟩:=hk
    cases hs with | c _ _ hs=>cases hs with | clip _ aa nn _ _ hs=>
    by_cases h0:ds.length=0
    · have hd0:ds=[]:=List.eq_nil_of_length_eq_zero h0
      have he0:=hde hd0
      subst hd0;subst he0
      have hnn:nn=0:=by cases hs with | none=>rfl | rows _ _ _ _ _ _ _ _ hn'=>simpa using hn'
      subst hnn
      exact virt_turns H hn (stay aa rfl) hk
    · obtain⟨a1,cap1,cs1,q1,q2,q3,q4,q5⟩:=readsAs_ro (P:=E.P) hs hse
      cases q1
      exact grow_turns hE H hn hun hz hsz hby hX (old:=cs1) (base:=aa) (sLen:=es.length) (sCap:=es.length) (by omega) (by omega) q3 hcl q2 (f1:=f1) (f2:=f2) (es:=es) (ds:=ds) rfl q4 hr2 (K:=K) hk
  · exact hk.elim
end Go.AE
namespace Go.AE
open Go
theorem tup0 (c:Ctx) (w:World):RelV c w undef (.tup []):= .tup [] [] rfl (fun i hi=>by simp at hi)
theorem clear_turns {E:Tab} (hE:TabOK E) {c:Ctx} {w:World} {h:Heap} {n k:Nat} (H:RelH c w h) (hn:c.n=nm n k) {ty e tr:TypeId} {z:TY} {u:Value} {v:PV} {zd:List D} (hun:E.P.underlying ty=some (.slice e)) (hz:E.ty e=some z)
    (hzd:ZD z.zero zd) (hu:RelV c w u v) {K:PV→Heap→Nat→Prop} (hk:clearA h zd z v fun h'=>K (.tup []) h' k):Turns E.P c w h n (do pure (Next.value (←Builtin.clear_ #[ty] tr #[u]))) K:=by
  obtain⟨inf,hinf,his,hib,zv,hzv,hzr⟩:=(hE.ty e z hz).info
  have hzs:zv.cells.size=z.size:=by
    have h1:=(hzr ctx0 w).length
    have h2:=(hE.ty e z hz).len
    simp at h1;omega
  unfold clearA at hk
  split at hk
  · cases hu with | c _ _ hu=>cases hu with | nil=>
    exact⟨_,_,c,w,h,k,.tup [],by simp [Builtin.clear_,run_underlying hun];rfl,.inl rfl,.refl _ _ _,H,hn,tup0 c w,hk⟩
  · rename_i l sz lo m
    replace hk:=withO_some hk;obtain⟨o,ho,hk⟩:=hk
    split at hk
    · rename_i f sz' es
      obtain⟨rfl,rfl,hsz,hlen,hk⟩:=hk
      have hnone:∀a,m=0→u= .slice a 0 0∨(∃cap,u= .slice a 0 cap)→Turns E.P c w h n (do pure (Next.value (←Builtin.clear_ #[ty] tr #[u]))) K:=by
        intro a hm hu'
        subst hm
        have he:es.take lo++List.replicate 0 zd++es.drop (lo+0)=es:=by simp
        rw [he]at hk
        have hro:=H.obj l _ ho
        have hrun:((do pure (Next.value (←Builtin.clear_ #[ty] tr #[u])):Sem Next)).run E.P w= .ok (.value (.tuple #[])) w:=by
          rcases hu' with rfl | ⟨cap,rfl⟩<;>(cases a<;>simp [Builtin.clear_,run_underlying hun])
        have same:∀x,look ((l,AObj.rows f z.size es)::h) x=look h x:=by
          intro x
          by_cases e:l=x
          · subst e;rw [look_cons_same,ho]
          · rw [look_cons_ne _ _ e]
        refine⟨_,_,c,w,_,k,.tup [],hrun,.inl rfl,?_,?_,hn,tup0 c w,hk⟩
        · exact {(Grow.refl c w h)with newO:=fun b hb=>by obtain⟨x,o,p1,p2,p3⟩:=hb;exact .inl ⟨x,o,by rw [←same];exact p1,p2,p3⟩}
        · exact { obj := fun x o hx => H.obj x o (by rw [← same]; exact hx)
                  inj:=fun x o x' o' b p1 p2 p3 p4 p5 p6=>H.inj x o x' o' b (by rw [←same];exact p1) p2 (by rw [←same];exact p3) p4 p5 p6
                  own:=fun f b hb=>H.own f b (by obtain⟨x,o,p1,p2,p3⟩:=hb;exact⟨x,o,by rw [←same];exact p1,p2,p3⟩)
                  low:=H.low
                  sub:=H.sub}
      cases hu with | c _ _ hu=>cases hu with
      | os0 aa _ _ hl hmu=>exact hnone aa rfl (.inl rfl)
      | osE aa _ _ _ bb hl hmu=>exact hnone aa rfl (.inl rfl)
      | os _ _ _ _ cap bb hl hmu hcap hroom=>
        by_cases hm0:m=0
        · subst hm0;exact hnone _ rfl (.inr ⟨cap,rfl⟩)
        · · have hro := (H.obj l _ ho).2
            simp only [RelO,hmu]at hro
            obtain⟨cur,e',hb,hrow⟩:=hro
            have hsize:=rowAt_size hrow hsz
            have hle:(lo+m)*z.size≤es.length*z.size:=Nat.mul_le_mul_right _ hlen
            rw [Nat.add_mul]at hle
            have hzl:(Builtin.zeroCells zv.cells m).toList.length=m*z.size:=by simp [Builtin.zeroCells,hzs]
            have hzrow:RowAt (c.K f) w (Builtin.zeroCells zv.cells m).toList.toArray z.size (List.replicate m zd):=by
              have h1:=rowAt_zero (K:=c.K f) (w:=w) (N:=m*z.size) (m:=m) (zeroD_rel (hzr ctx0 w) hzd) hzs (Nat.le_refl _)
              have h2:(Array.range (m*z.size)).map (fun i=>zv.cells[i%zv.cells.size]!)=(Builtin.zeroCells zv.cells m).toList.toArray:=by
                apply Array.ext';simp [Builtin.zeroCells,hzs]
              rw [h2]at h1;exact h1
            have hst:=run_storeCells_at E.P bb (lo*z.size) e' (Builtin.zeroCells zv.cells m).toList 0 cur w hb (by rw [hzl];omega) (rows_oneCell (by simp [hzl]) hzrow)
            simp only [Nat.add_zero]at hst
            have hrun:((do pure (Next.value (←Builtin.clear_ #[ty] tr #[.slice (some ⟨bb,lo*z.size,none⟩) m cap])):Sem Next)).run E.P w=
                .ok (.value (.tuple #[])) (w.setRow bb (cur.toList.take (lo*z.size)++(Builtin.zeroCells zv.cells m).toList++cur.toList.drop (lo*z.size+(Builtin.zeroCells zv.cells m).toList.length)).toArray):=by
              cases m with
              | zero=>exact absurd rfl hm0
              | succ m=>simp [Builtin.clear_,run_underlying hun,zeroValue,typeInfo,hinf,hzv,hst]
            rw [hzl]at hrun
            have hsame:(cur.toList.take (lo*z.size)++(Builtin.zeroCells zv.cells m).toList++cur.toList.drop (lo*z.size+m*z.size)).toArray.size=cur.size:=by
              simp at hzl ⊢;omega
            have hstay:=stays_setRow hb hsame
            have hother:∀x,x≠bb→(w.setRow bb (cur.toList.take (lo*z.size)++(Builtin.zeroCells zv.cells m).toList++cur.toList.drop (lo*z.size+m*z.size)).toArray).heap[x]? =w.heap[x]? :=fun x hx=>setRow_other _ _ _ _ hx
            refine⟨_,_,c,_,_,k,.tup [],hrun,.inl rfl,Grow.write ho trivial hmu hother (size_setRow _ _ _) hstay rfl rfl rfl,H.write ho trivial hmu hother (size_setRow _ _ _) hstay ?_,hn,tup0 _ _,hk⟩
            simp only [RelO,hmu]
            refine⟨_,e',setRow_heap w bb _ _ e' _ hb,?_⟩
            have p1:=rowAt_part (lo:=0) (n:=lo) hrow (by omega)
            have p3:=rowAt_part (lo:=lo+m) (n:=es.length- (lo+m)) hrow (by omega)
            rw [List.drop_zero]at p1
            have e3:(es.drop (lo+m)).take (es.length- (lo+m))=es.drop (lo+m):=List.take_of_length_le (by simp)
            rw [e3]at p3
            simp only [Nat.zero_mul,List.drop_zero]at p1
            have htl:(es.take lo).length=lo:=by simp;omega
            have a1:=RowAt.append (rest:=[]) p1 (by simp [htl];omega) hzrow
            rw [List.append_nil]at a1
            have a2:=RowAt.append (rest:=(cur.toList.drop ((lo+m)*z.size)).drop ((es.length- (lo+m))*z.size)) a1 (by
              rw [List.length_append,List.length_append,hzl,htl,List.length_replicate,List.length_take,Nat.add_mul];simp;omega) p3
            have hcat:cur.toList.take (lo*z.size)++(Builtin.zeroCells zv.cells m).toList++(cur.toList.drop ((lo+m)*z.size)).take ((es.length- (lo+m))*z.size)++(cur.toList.drop ((lo+m)*z.size)).drop ((es.length- (lo+m))*z.size)=
                cur.toList.take (lo*z.size)++(Builtin.zeroCells zv.cells m).toList++cur.toList.drop (lo*z.size+m*z.size):=by
              rw [List.append_assoc _ _ (List.drop _ _),List.take_append_drop,Nat.add_mul]
            rw [hcat]at a2
            exact a2.mono (fun _ h=>h) (fun b hb'=>hother b (fun e'=>H.own f bb ⟨l,_,ho,trivial,hmu⟩ (e'▸hb')))
    · exact hk.elim
  · exact hk.elim
theorem heapA_sound {E:Tab} (hE:TabOK E) {c:Ctx} {w:World} {t:Slots} {h:Heap} {n k:Nat} {a:Act} (A:AbsT E c w t h a) (hn:c.n=nm n k) (o:Oper) {K:PV→Heap→Nat→Prop} (hk:heapA E o.op t h n k K):
    Turns E.P c w h n (execOp a.eval o) K:=by
  cases ho:o.op<;>rw [ho]at hk
  case alloc ty=>
    have:=alloc_turns hE A.heap hn hk
    simpa [execOp,ho]using this
  case box ty x=>
    simp only [heapA]at hk
    replace hk:=withE A hk;obtain⟨v,hv,hl,hk⟩:=hk
    have:=boxop_turns (P:=E.P) (t:=ty) A.heap hn hv hl hk
    simpa [execOp,ho]using this
  case buildSlice ty len parts=>
    have:=buildSlice_turns hE A hn hk
    simpa [execOp,ho]using this
  case makeSlice ty l cp=>
    have:=makeSlice_turns hE A hn hk
    simpa [execOp,ho]using this
  case store ty p x=>
    simp only [heapA]at hk
    replace hk:=withTY_some hk;obtain⟨y,hy,hk⟩:=hk
    replace hk:=withE A hk;obtain⟨pv,hp,hk⟩:=hk
    replace hk:=withE A hk;obtain⟨v,hv,hk⟩:=hk
    have:=store_turns hE A.heap hn hy hp hv hk
    simpa [execOp,ho]using this
  case call cl=>
    obtain⟨callee,⟨args⟩,⟨argTypes⟩⟩:=cl
    simp only [heapA]at hk
    split at hk
    · rename_i x y ty ty2
      replace hk:=withTY_some hk;obtain⟨yy,hy,hk⟩:=hk
      split at hk
      · rename_i e he
        replace hk:=withTY_some hk;obtain⟨z,hz,hk⟩:=hk
        replace hk:=withE A hk;obtain⟨av,ha,hk⟩:=hk
        replace hk:=withE A hk;obtain⟨bv,hb,hty,hk⟩:=hk
        have hun:=(hE.ty ty yy hy).desc
        rw [he]at hun
        split at hty
        · rename_i t2
          replace hty:=withTY_some hty;obtain⟨y2,hy2,hty⟩:=hty
          have:=append_turns hE A.heap hn hun hz hy2 ha hb hty hk
          have he:execOp a.eval o=(do pure (Next.value (←Builtin.append_ #[ty,t2] ty #[a.eval x,a.eval y]))):=by
            simp [execOp,ho,resolve,invoke,builtin];rfl
          rw [he];exact this
        · exact hty.elim
      · exact hk.elim
    · rename_i x ty
      replace hk:=withTY_some hk;obtain⟨yy,hy,hk⟩:=hk
      split at hk
      · rename_i e he
        replace hk:=withTY_some hk;obtain⟨z,hz,hk⟩:=hk
        obtain⟨zd,hzd,hk⟩:=hk
        replace hk:=withE A hk;obtain⟨av,ha,hk⟩:=hk
        have hun:=(hE.ty ty yy hy).desc
        rw [he]at hun
        have:=clear_turns hE (tr:=ty) A.heap hn hun hz hzd ha hk
        have he:execOp a.eval o=(do pure (Next.value (←Builtin.clear_ #[ty] ty #[a.eval x]))):=by
          simp [execOp,ho,resolve,invoke,builtin];rfl
        rw [he];exact this
      · exact hk.elim
    · exact hk.elim
  all_goals exact hk.elim
end Go.AE
namespace Go.AE
open Go
structure St where
  t:Slots
  h:Heap
  n:Nat
  k:Nat
  m:Nat
abbrev Trans:=List PV→Heap→Nat→(PV→Heap→Nat→Prop)→Prop
abbrev Ctab:=FuncId→Option Trans
def dOK (m:Nat):Option Nat→Prop | none=>True | some d=>d<m
def St.put (s:St) (d:Option Nat) (v:Option PV):St:=match d with | none=>s | some d=> {s with t:=(d,v)::s.t}
def argsA (E:Tab) (t:Slots):List Operand→(List PV→Prop)→Prop
  | [],K=>K []
  | x::r,K=>withV (ev E t x) fun v=>argsA E t r fun vs=>K (v::vs)
def withT (o:Option Trans) (K:Trans→Prop):Prop:=match o with | some v=>K v | none=>False
def fnA (v:PV) (K:FuncId→List Cell→Prop):Prop:=match v with | .c (.fn g cs)=>K g cs | _=>False
def callV (E:Tab) (G:Ctab) (f:Operand) (args:List Operand) (s:St) (K:PV→Heap→Nat→Prop):Prop:=
  withV (ev E s.t f) fun fv=>fnA fv fun g cs=>argsA E s.t args fun vs=>withT (G g) fun R=>R (vs++cs.map .c) s.h (nm s.n s.k) fun r h' j=>K r h' (s.k+j)
def opClass:Op→Nat
  | .alloc _ | .box .. | .buildSlice .. | .makeSlice .. | .store .. =>1
  | .call {callee:= .builtin b,.. }=>match b with | .append | .clear=>1 | _=>0
  | .call {callee:= .value _,.. }=>2
  | _=>0
def callOp (E:Tab) (G:Ctab) (op:Op) (s:St) (K:PV→Heap→Nat→Prop):Prop:=
  match op with
  | .call c=>match c.callee with | .value f=>callV E G f c.args.toList s K | _=>False
  | _=>False
def doOp (E:Tab) (G:Ctab) (o:Oper) (s:St) (K:St→Prop):Prop:=
  dOK s.m o.dst∧match opClass o.op with
  | 0=>pureA E o.op s.t s.h fun v=>K (s.put o.dst (some v))
  | 1=>heapA E o.op s.t s.h s.n s.k fun v h k=>K (St.put {s with h:=h,k:=k} o.dst (some v))
  | _=>callOp E G o.op s fun v h k=>K (St.put {s with h:=h,k:=k} o.dst (some v))
def gslot (ops:List Oper) (j:Nat):Option Nat:=(ops[j]?).bind (·.dst)
def gcase (d:Option Nat) (K:Nat→Prop):Prop:=match d with | some d=>K d | none=>False
def guardU (v:Option PV) (want:Bool) (T F:Prop):Prop:=match v with | some (.c (.d _ (.bool b)))=>condB (b==want) T F | some (.tup [])=>F | _=>False
def undP:PV:= .tup []
theorem guardU_inv {v:Option PV} {want:Bool} {T F:Prop} (h:guardU v want T F):(∃f b,v=some (.c (.d f (.bool b)))∧(b=want→T)∧(b≠want→F))∨(v=some undP∧F):=by
  unfold guardU at h
  split at h
  · rename_i f b
    exact .inl ⟨f,b,rfl,fun e=>h.1 (by simp [e]),fun e=>h.2 (by simpa using e)⟩
  · exact .inr ⟨rfl,h⟩
  · exact h.elim
theorem guardU_intro {f b want:Bool} {T F:Prop} (h1:b=want→T) (h2:b≠want→F):guardU (some (.c (.d f (.bool b)))) want T F:=
  ⟨fun e=>h1 (by simpa using e),fun e=>h2 (by simpa using e)⟩
def doGuarded (E:Tab) (G:Ctab) (ops:List Oper) (o:Oper) (s:St) (K:St→Prop):Prop:=
  match o.guard with
  | none=>doOp E G o s K
  | some (j,want)=>dOK s.m o.dst∧gcase (gslot ops j) fun d=>guardU (lookS s.t d) want (doOp E G o s K) (K (s.put o.dst (some undP)))
def runOps (E:Tab) (G:Ctab) (ops:List Oper):List Oper→(St→Prop)→St→Prop
  | [],K,s=>K s
  | o::r,K,s=>doGuarded E G ops o s fun s'=>runOps E G ops r K s'
structure AbsS (E:Tab) (s:St) (c:Ctx) (w:World) (a:Act):Prop where
  abs:AbsT E c w s.t s.h a
  n:c.n=nm s.n s.k
  defers:a.defers=[]
  size:a.tmps.size=s.m
def Post (Q:Value→World→Prop):Ending→World→Prop
  | .returned v,w=>Q v w
  | .outgrown,_=>False
  | .panicked _,_=>False
def Enters (P:Program) (f:FuncId):Prop:=∀args w,(callFunc f args).run P w= .ok (.enter f args) w
structure TransOK (E:Tab) (f:FuncId) (R:Trans):Prop where
  enters:Enters E.P f
  calls:∀args h n K,R args h n K→∀c w vs,c.n=n→F2 (RelV c w) vs args→RelH c w h→GlobOK E c w→
    Calls E.P f vs.toArray w (Post fun v w'=>∃c' r h' j,Grow c w h c' w' h'∧RelH c' w' h'∧c'.n=nm n j∧RelV c' w' v r∧K r h' j)
def CtabOK (E:Tab) (G:Ctab):Prop:=∀f R,G f=some R→TransOK E f R
def LiftQ (E:Tab) (c0:Ctx) (w0:World) (h0:Heap) (Q:Exit→St→Prop):Exit→Act→World→Prop
  | .outgrown,_,_=>False
  | .panic _,_,_=>False
  | .goto _,_,_=>False
  | .normal,a,w=>∃c s,Grow c0 w0 h0 c w s.h∧AbsS E s c w a∧Q .normal s
  | .ret,a,w=>∃c s,Grow c0 w0 h0 c w s.h∧AbsS E s c w a∧Q .ret s
  | .exit i,a,w=>∃c s,Grow c0 w0 h0 c w s.h∧AbsS E s c w a∧Q (.exit i) s
theorem lookS_put {t:Slots} {d i:Nat} {v:Option PV}:lookS ((d,v)::t) i=if d=i then v else lookS t i:=rfl
theorem AbsS.put {E:Tab} {s:St} {c:Ctx} {w:World} {a:Act} (A:AbsS E s c w a) {d:Option Nat} (hd:dOK s.m d) {u:Value} {v:PV} (hv:RelV c w u v):AbsS E (s.put d (some v)) c w (a.put d u):=by
  cases d with
  | none=>exact A
  | some d=>
    refine⟨⟨fun i x hx=> ?_,A.abs.heap,A.abs.glob⟩,A.n,A.defers,by simp [Act.put,St.put,A.size]⟩
    simp only [St.put,lookS_put]at hx
    have hlt:d<a.tmps.size:=by rw [A.size];exact hd
    by_cases e:d=i
    · subst e
      rw [if_pos rfl]at hx;cases hx
      exact⟨u,by simp [Act.put,hlt],hv⟩
    · rw [if_neg e]at hx
      obtain⟨u',h1,h2⟩:=A.abs.slot i x hx
      exact⟨u',by simp [Act.put,Array.getElem?_setIfInBounds_ne e,h1],h2⟩
theorem AbsS.skip {E:Tab} {s:St} {c:Ctx} {w:World} {a:Act} (A:AbsS E s c w a) {d:Option Nat} {u:Value}:AbsS E (s.put d none) c w (a.put d u):=by
  cases d with
  | none=>exact A
  | some d=>
    refine⟨⟨fun i x hx=> ?_,A.abs.heap,A.abs.glob⟩,A.n,A.defers,by simp [Act.put,St.put,A.size]⟩
    simp only [St.put,lookS_put]at hx
    by_cases e:d=i
    · subst e
      rw [if_pos rfl]at hx;cases hx
    · rw [if_neg e]at hx
      obtain⟨u',h1,h2⟩:=A.abs.slot i x hx
      exact⟨u',by simp [Act.put,Array.getElem?_setIfInBounds_ne e,h1],h2⟩
theorem AbsS.grow {E:Tab} {s:St} {c c':Ctx} {w w':World} {a:Act} {h':Heap} {k':Nat} (A:AbsS E s c w a) (g:Grow c w s.h c' w' h') (H:RelH c' w' h') (hn:c'.n=nm s.n k'):AbsS E {s with h:=h',k:=k'} c' w' a:=
  ⟨⟨fun i x hx=>let⟨u,h1,h2⟩:=A.abs.slot i x hx;⟨u,h1,h2.grow A.abs.heap g⟩,H,A.abs.glob.grow A.abs.heap g⟩,hn,A.defers,A.size⟩
theorem argsA_sound {E:Tab} {c:Ctx} {w:World} {t:Slots} {h:Heap} {a:Act} (A:AbsT E c w t h a):
    ∀(xs:List Operand) (K:List PV→Prop),argsA E t xs K→∃ps,F2 (RelV c w) (xs.map a.eval) ps∧K ps
  | [],K,hk=>⟨[],.nil,hk⟩
  | x::r,K,hk=>by
    unfold argsA at hk
    obtain⟨v,hv,hk⟩:=withE A hk
    obtain⟨ps,hp,hk⟩:=argsA_sound A r _ hk
    exact⟨v::ps,.cons hv hp,hk⟩
theorem doOp_sound {E:Tab} (hE:TabOK E) {G:Ctab} (hG:CtabOK E G) {c0:Ctx} {w0:World} {h0:Heap} {Q:Exit→St→Prop} {s:St} {c:Ctx} {w:World} {a:Act} (A:AbsS E s c w a) (g0:Grow c0 w0 h0 c w s.h) (o:Oper)
    {K:St→Prop} {next:Act→World→Prop} (hnext:∀s' c' w' a',AbsS E s' c' w' a'→Grow c0 w0 h0 c' w' s'.h→K s'→next a' w') (hk:doOp E G o s K):
    o.wp E.P a w next (LiftQ E c0 w0 h0 Q):=by
  obtain⟨hd,hk⟩:=hk
  split at hk
  · obtain⟨u,pv,hrun,hrel,hk⟩:=pureA_sound hE A.abs o hk
    unfold Oper.wp
    rw [hrun,Oper.upon_value]
    exact hnext _ _ _ _ (A.put hd hrel) (by cases o.dst<;>exact g0) hk
  · obtain⟨nx,u,c',w',h',k',pv,hrun,hnx,hg,H',hn',hrel,hk⟩:=heapA_sound hE A.abs A.n o hk
    have A':=(A.grow hg H' hn').put (d:=o.dst) (s:={s with h:=h',k:=k'}) hd hrel
    have g':=g0.trans hg
    unfold Oper.wp
    rw [hrun]
    rcases hnx with rfl | ⟨rfl,rfl⟩
    · rw [Oper.upon_value]
      exact hnext _ _ _ _ A' (by cases o.dst<;>exact g') hk
    · rw [Oper.upon_skip]
      exact hnext _ _ _ _ A' (by cases o.dst<;>exact g') hk
  · unfold callOp at hk
    split at hk
    · rename_i cl ho
      split at hk
      · rename_i f hf
        obtain⟨callee,⟨args⟩,argTypes⟩:=cl
        simp only at hf;subst hf
        obtain⟨fv,hfv,hk⟩:=withE A.abs hk
        unfold fnA at hk
        generalize hfe:a.eval f=fu at hfv
        split at hk
        · rename_i gid cs
          obtain⟨ps,hps,hk⟩:=argsA_sound A.abs _ _ hk
          cases hR:G gid with
          | none=>rw [hR]at hk;exact hk.elim
          | some R=>
          rw [hR]at hk
          simp only [withT]at hk
          cases hfv with | c _ _ hfv=>cases hfv with | fn _ capv _ hl hc=>
          have hcap:F2 (RelV c w) capv (cs.map .c):=F2.of_get (by simp [hl]) (fun i x y hx hy=>by
            simp only [List.getElem?_map,Option.map_eq_some_iff]at hy
            obtain⟨y',hy',rfl⟩:=hy
            have hi:i<cs.length:=(List.getElem?_eq_some_iff.1 hy').1
            have:=hc i hi
            rw [getD_of hx,getD_of hy']at this
            exact .c _ _ this)
          have hok:=hG gid R hR
          have hcalls:=hok.calls _ _ _ _ hk c w (args.map a.eval++capv) A.n (hps.append hcap) A.abs.heap A.abs.glob
          have hrun:(execOp a.eval o).run E.P w= .ok (.enter gid (args.map a.eval++capv).toArray) w:=by
            have h1:=hok.enters (args.map a.eval++capv).toArray w
            simp [execOp,ho,resolve,hfe,Deferred.ofValue,invoke]
            exact h1
          unfold Oper.wp
          rw [hrun,Oper.upon_enter]
          refine hcalls.mono ?_
          intro e w' he
          cases e with
          | returned v=>
            obtain⟨c',r,h',j,hg,H',hn',hrel,hk⟩:=he
            have hn2:c'.n=nm s.n (s.k+j):=by rw [hn',nm_nm]
            have A':=(A.grow hg H' hn2).put (d:=o.dst) (s:={s with h:=h',k:=s.k+j}) hd hrel
            exact hnext _ _ _ _ A' (by cases o.dst<;>exact g0.trans hg) hk
          | panicked ch=>exact he.elim
          | outgrown=>exact he.elim
        · exact hk.elim
      · exact hk.elim
    · exact hk.elim
theorem guard_bool {ops:Array Oper} {tmps:Array Value} {j d:Nat} {b want:Bool} (hg:gslot ops.toList j=some d) (hu:tmps[d]? =some (.bool b)):(yielded ops tmps j==some want)=(b==want):=by
  have:(ops[j]?).bind (·.dst)=some d:=by simpa [gslot]using hg
  simp [yielded,this,hu]
theorem runOps_sound {E:Tab} (hE:TabOK E) {G:Ctab} (hG:CtabOK E G) {c0:Ctx} {w0:World} {h0:Heap} {Q:Exit→St→Prop} (ops:Array Oper):
    ∀(l:List Oper) {s:St} {c:Ctx} {w:World} {a:Act} (_:AbsS E s c w a) (_:Grow c0 w0 h0 c w s.h),runOps E G ops.toList l (Q .normal) s→wpList E.P ops (LiftQ E c0 w0 h0 Q) l a w
  | [],s,c,w,a,A,g0,hk=>wpList_nil ⟨c,s,g0,A,hk⟩
  | o::r,s,c,w,a,A,g0,hk=>by
    refine wpList_step fun next hnext=> ?_
    have hn:∀s' c' w' a',AbsS E s' c' w' a'→Grow c0 w0 h0 c' w' s'.h→runOps E G ops.toList r (Q .normal) s'→next a' w':=fun s' c' w' a' A' g' hk'=>hnext _ _ (runOps_sound hE hG ops r A' g' hk')
    unfold runOps doGuarded at hk
    split at hk
    · rename_i hgd
      rw [if_pos (by simp [Region.wanted,hgd])]
      exact doOp_sound hE hG A g0 o hn hk
    · rename_i j want hgd
      obtain⟨hdk,hk⟩:=hk
      unfold gcase at hk
      split at hk
      · rename_i d hd
        rcases guardU_inv hk with⟨f,b,hl,hT,hF⟩ | ⟨hl,hF⟩
        · obtain⟨u,hu,hr⟩:=A.abs.slot d _ hl
          have:=rel_bool hr
          subst this
          have hw:Region.wanted o (yielded ops a.tmps)=(b==want):=by
            simp only [Region.wanted,hgd];exact guard_bool hd hu
          rw [hw]
          by_cases hb:b=want
          · rw [if_pos (by simp [hb])]
            exact doOp_sound hE hG A g0 o hn (hT hb)
          · rw [if_neg (by simp [hb])]
            exact hn _ _ _ _ (A.put hdk (tup0 _ _)) (by cases o.dst<;>exact g0) (hF hb)
        · obtain⟨u,hu,hr⟩:=A.abs.slot d _ hl
          have hj:(ops[j]?).bind (·.dst)=some d:=by simpa [gslot]using hd
          have hun:∀b,u≠ .bool b:=by
            intro b e;subst e;cases hr
          have hw:Region.wanted o (yielded ops a.tmps)=false:=by
            simp only [Region.wanted,hgd,yielded,hj]
            simp only [Option.bind_some,hu]
            cases u<;>simp_all
          rw [if_neg (by rw [hw];simp)]
          exact hn _ _ _ _ (A.put hdk (tup0 _ _)) (by cases o.dst<;>exact g0) hF
      · exact hk.elim
end Go.AE
namespace Go.AE
open Go
def Weak (E:Tab) (s s':St):Prop:=∀c w a,AbsS E s c w a→∃c',Grow c w s.h c' w s'.h∧AbsS E s' c' w a
theorem Weak.refl (E:Tab) (s:St):Weak E s s:=fun c _ _ A=>⟨c,.refl _ _ _,A⟩
abbrev DrawA:=Nat→Array Oper→(St→Prop)→St→Prop
def DrawOK (E:Tab) (dr:DrawA):Prop:=∀(id:Nat) (ops:Array Oper) (Q:Exit→St→Prop) (s:St) (c0:Ctx) (w0:World) (h0:Heap) (c:Ctx) (w:World) (a:Act),AbsS E s c w a→Grow c0 w0 h0 c w s.h→dr id ops (Q .normal) s→
  (Code.region id ops true).wp E.P (LiftQ E c0 w0 h0 Q) a w
def resA (E:Tab) (s:St):List ResultVar→(List PV→Prop)→Prop
  | [],K=>K []
  | .tmp t::r,K=>withV (lookS s.t t) fun v=>resA E s r fun vs=>K (v::vs)
  | .cell t ty::r,K=>withV (lookS s.t t) fun p=>loadA E s.h ty p fun v=>resA E s r fun vs=>K (v::vs)
def one (vs:List PV):PV:=match vs with | [v]=>v | vs=> .tup vs
def resF (tmps:Array Value):ResultVar→Sem Value
  | .tmp t=>pure (tmps.getD t undef)
  | .cell a t=>do loadVar t (←asAddr (tmps.getD a undef))
theorem run_results {P:Program} {fn:Func} {tmps:Array Value} {w:World} {us:List Value} (h:(fn.results.toList.mapM (resF tmps)).run P w= .ok us w):
    (results fn tmps).run P w= .ok (if h:us.toArray.size=1 then us.toArray[0]else .tuple us.toArray) w:=by
  have e:results fn tmps=(do let vs←fn.results.mapM (resF tmps);pure (if h:vs.size=1 then vs[0]else .tuple vs)):=by
    unfold results;congr 1
  rw [e,Array.mapM_eq_mapM_toList]
  simp only [Sem.run_bind,Sem.run_map,h,Result.andThen_ok,Sem.run_pure]
theorem res_sound {E:Tab} (hE:TabOK E) {s:St} {c:Ctx} {w:World} {a:Act} (A:AbsS E s c w a):∀(rs:List ResultVar) (K:List PV→Prop),resA E s rs K→
    ∃vs ps,(rs.mapM (resF a.tmps)).run E.P w= .ok vs w∧F2 (RelV c w) vs ps∧K ps
  | [],K,hk=>⟨[],[],by simp,.nil,hk⟩
  | .tmp t::r,K,hk=>by
    unfold resA at hk
    obtain⟨v,hv,hk⟩:=withV_some hk
    obtain⟨u,hu,hr⟩:=A.abs.slot t v hv
    obtain⟨vs,ps,h1,h2,h3⟩:=res_sound hE A r _ hk
    refine⟨u::vs,v::ps,?_,.cons hr h2,h3⟩
    have h0:(resF a.tmps (.tmp t)).run E.P w= .ok u w:=by simp [resF,Array.getD_eq_getD_getElem?,hu]
    rw [List.mapM_cons]
    simp only [Sem.run_bind,h0,h1,Result.andThen_ok,Sem.run_pure]
  | .cell t ty::r,K,hk=>by
    unfold resA at hk
    obtain⟨p,hp,hk⟩:=withV_some hk
    obtain⟨u,hu,hr⟩:=A.abs.slot t p hp
    obtain⟨x,pv,hx,hrel,hk⟩:=load_gives hE A.abs.heap hr hk
    obtain⟨vs,ps,h1,h2,h3⟩:=res_sound hE A r _ hk
    refine⟨x::vs,pv::ps,?_,.cons hrel h2,h3⟩
    have hg:a.tmps.getD t undef=u:=by simp [Array.getD_eq_getD_getElem?,hu]
    have h0:(resF a.tmps (.cell t ty)).run E.P w= .ok x w:=by
      unfold Instr.loadAt at hx
      simp only [resF,hg]
      cases u with
      | pointer ad=>
        cases ad with
        | none=>simp [Instr.sureAddr]at hx
        | some ad=>simpa [Instr.sureAddr,asAddr]using hx
      | _=>simp [Instr.sureAddr]at hx
    rw [List.mapM_cons]
    simp only [Sem.run_bind,h0,h1,Result.andThen_ok,Sem.run_pure]
end Go.AE
namespace Go.AE
open Go
def zc:Value→Option Cell
  | .int k n=>some (.d true (.int k n))
  | .bool b=>some (.d true (.bool b))
  | .string s=>some (.d true (.str s))
  | .slice none 0 0=>some .nil
  | .pointer none=>some .np
  | _=>none
theorem zc_rel {c:Ctx} {w:World} {v:Value} {x:Cell} (h:zc v=some x):RelC c w v x:=by
  unfold zc at h
  split at h<;>first | (cases h;done) | skip
  · cases h;exact .ofInt _ _ _
  · cases h;exact .d true _ _ (.bool _)
  · cases h;exact .d true _ _ (.str _)
  · cases h;exact .nil
  · cases h;exact .np
def zcs:List Value→Option (List Cell)
  | []=>some []
  | v::r=>match zc v,zcs r with | some x,some xs=>some (x::xs) | _,_=>none
theorem zcs_rel {c:Ctx} {w:World}:∀ {vs:List Value} {xs:List Cell},zcs vs=some xs→F2 (RelC c w) vs xs
  | [],xs,h=>by simp [zcs]at h;subst h;exact .nil
  | v::r,xs,h=>by
    simp only [zcs]at h
    split at h
    · rename_i x ys h1 h2;cases h;exact .cons (zc_rel h1) (zcs_rel h2)
    · cases h
end Go.AE
namespace Go.AE
open Go
def Fun1 {α:Type} (T:(α→Prop)→Prop):Prop:=∀K,T K→∃v,K v∧T (fun v'=>v'=v)
theorem Fun1.const {α:Type} (v:α):Fun1 (fun K=>K v):=fun _ h=>⟨v,h,rfl⟩
theorem Fun1.no {α:Type}:Fun1 (fun _:α→Prop=>False):=fun _ h=>h.elim
theorem Fun1.and {α:Type} {p:Prop} {T:(α→Prop)→Prop} (h:Fun1 T):Fun1 (fun K=>p∧T K):=fun K hk=>let⟨v,h1,h2⟩:=h K hk.2;⟨v,h1,hk.1,h2⟩
theorem Fun1.withV {α:Type} (o:Option PV) {T:PV→(α→Prop)→Prop} (h:∀v,Fun1 (T v)):Fun1 (fun K=>withV o fun v=>T v K):=by
  cases o with
  | none=>exact .no
  | some v=>exact h v
theorem Fun1.withTY {α:Type} (o:Option TY) {T:TY→(α→Prop)→Prop} (h:∀v,Fun1 (T v)):Fun1 (fun K=>withTY o fun v=>T v K):=by
  cases o with
  | none=>exact .no
  | some v=>exact h v
theorem Fun1.withO {α:Type} (o:Option AObj) {T:AObj→(α→Prop)→Prop} (h:∀v,Fun1 (T v)):Fun1 (fun K=>withO o fun v=>T v K):=by
  cases o with
  | none=>exact .no
  | some v=>exact h v
theorem Fun1.withC {α:Type} (o:Option Cell) {T:Cell→(α→Prop)→Prop} (h:∀v,Fun1 (T v)):Fun1 (fun K=>withC o fun v=>T v K):=by
  cases o with
  | none=>exact .no
  | some v=>exact h v
theorem Fun1.withL {α:Type} (o:Option (List Int)) {T:List Int→(α→Prop)→Prop} (h:∀v,Fun1 (T v)):Fun1 (fun K=>withL o fun v=>T v K):=by
  cases o with
  | none=>exact .no
  | some v=>exact h v
theorem Fun1.boolA {α:Type} (v:PV) {T:Bool→(α→Prop)→Prop} (h:∀v,Fun1 (T v)):Fun1 (fun K=>boolA v fun b=>T b K):=by
  intro K hk
  obtain⟨f,b,rfl,hk⟩:=boolA_some hk
  exact h b K hk
theorem Fun1.intA {α:Type} (v:PV) {T:IntKind→Int→(α→Prop)→Prop} (h:∀k n,Fun1 (T k n)):Fun1 (fun K=>intA v fun k n=>T k n K):=by
  intro K hk
  unfold AE.intA at hk
  split at hk
  · exact h _ _ K hk
  · exact hk.elim
theorem Fun1.condB {α:Type} (b:Bool) {T U:(α→Prop)→Prop} (h:Fun1 T) (h':Fun1 U):Fun1 (fun K=>condB b (T K) (U K)):=by
  cases b with
  | true=>intro K hk;obtain⟨v,h1,h2⟩:=h K (hk.1 rfl);exact⟨v,h1,⟨fun _=>h2,fun e=>absurd e (by simp)⟩⟩
  | false=>intro K hk;obtain⟨v,h1,h2⟩:=h' K (hk.2 rfl);exact⟨v,h1,⟨fun e=>absurd e (by simp),fun _=>h2⟩⟩
theorem Fun1.all {α β:Type} (o:Option β) {p:Prop} {T:β→(α→Prop)→Prop} (hp:p→∃x,o=some x) (h:∀x,Fun1 (T x)):Fun1 (fun K=>p∧∀x,o=some x→T x K):=by
  rintro K ⟨hq,hk⟩
  obtain⟨x,hx⟩:=hp hq
  obtain⟨v,h1,h2⟩:=h x K (hk x hx)
  exact⟨v,h1,hq,fun y hy=>by rw [hx]at hy;cases hy;exact h2⟩
theorem Fun1.ite {α:Type} (p:Prop) [Decidable p] {T U:(α→Prop)→Prop} (h:Fun1 T) (h':Fun1 U):Fun1 (fun K=>if p then T K else U K):=by
  by_cases e:p
  · simp only [e,if_true];exact h
  · simp only [e,if_false];exact h'
theorem dcell_fun (f:Bool) (y:TY) (row:List D) (j:Nat):Fun1 (dcell f y row j):=by
  unfold dcell
  cases y.desc with
  | struct fs=>exact .and (.const _)
  | int k=>
    intro K hk
    obtain⟨⟨n,hn⟩,hk⟩:=hk
    exact⟨_,hk n hn,⟨n,hn⟩,fun m hm=>by rw [hn]at hm;cases hm;rfl⟩
  | scalar=>exact .all _ (fun h=>⟨_,List.getElem?_eq_getElem h⟩) (fun x=> .const _)
  | bool=>exact .all _ (fun h=>⟨_,List.getElem?_eq_getElem h⟩) (fun x=> .const _)
  | slice e=>exact .all _ (fun h=>⟨_,List.getElem?_eq_getElem h⟩) (fun x=> .const _)
theorem rowA_fun (f:Bool) (es:List (List D)) (i j:Nat) (y:TY):Fun1 (rowA f es i j y):=
  .all _ (fun h=>⟨_,List.getElem?_eq_getElem h⟩) (fun row=>dcell_fun f y row j)
theorem boxA_fun (cs:List Cell) (j:Nat) (y:TY):Fun1 (boxA cs j y):=by
  unfold boxA;exact .ite _ (.and (.const _)) (.withC _ fun _=> .const _)
theorem objA_fun (o:AObj) (sz i j:Nat) (y:TY):Fun1 (objA o sz i j y):=by
  cases o with
  | box cs=>exact .and (boxA_fun cs j y)
  | rows f sz' es=>exact .and (rowA_fun f es i j y)
  | gone=>exact .no
theorem loadA_fun (E:Tab) (h:Heap) (ty:TypeId) (p:PV):Fun1 (loadA E h ty p):=by
  unfold loadA
  refine .withTY _ fun y=> ?_
  split
  · exact .withO _ fun o=>objA_fun o _ _ _ _
  · exact rowA_fun _ _ _ _ _
  · exact .no
theorem nilA_fun (p:PV):Fun1 (nilA p):=by
  intro K hk
  unfold nilA at hk
  split at hk
  · exact⟨_,hk,rfl⟩
  · exact⟨_,hk,rfl⟩
  · exact hk.elim
theorem intBin_fun (op:BinOp) (k:IntKind) (x y:Int):Fun1 (intBin op k x y):=by
  cases op<;>first | exact .const _ | exact .and (.const _) | exact .no
theorem binA_fun (E:Tab) (op:BinOp) (ty:TypeId) (a b:PV):Fun1 (binA E op ty a b):=by
  unfold binA
  split
  · exact .and (intBin_fun _ _ _ _)
  · exact .withTY _ fun z=> .and (by cases op<;>first | exact .const _ | exact .no)
  · exact .withL _ fun x=> .withL _ fun y=> .and (.and (by cases op<;>first | exact .const _ | exact .no))
  · exact .no
theorem unA_fun (op:UnOp) (a:PV):Fun1 (unA op a):=by
  intro K hk
  unfold unA at hk
  split at hk
  · exact⟨_,hk,rfl⟩
  · exact⟨_,hk,rfl⟩
  · exact hk.elim
theorem convA_fun (E:Tab) (s d:TypeId) (a:PV):Fun1 (convA E s d a):=by
  unfold convA
  refine .withTY _ fun y=> ?_
  split
  · exact .withTY _ fun _=> .const _
  · exact .no
theorem fieldAddrA_fun (E:Tab) (s:TypeId) (a:PV) (f:Nat):Fun1 (fieldAddrA E s a f):=by
  unfold fieldAddrA
  refine .withTY _ fun y=> ?_
  split
  · split
    · refine .withTY _ fun z=> .and ?_
      split
      · exact .const _
      · exact .const _
      · exact .no
    · exact .no
  · exact .no
theorem fieldA_fun (E:Tab) (s:TypeId) (a:PV) (f:Nat):Fun1 (fieldA E s a f):=by
  unfold fieldA
  refine .withTY _ fun y=> ?_
  split
  · split
    · refine .withTY _ fun z=> ?_
      split
      · exact .and (.ite _ (.const _) (.withC _ fun _=> .const _))
      · exact .no
    · exact .no
  · exact .no
theorem indexAddrA_fun (E:Tab) (t:TypeId) (a ix:PV):Fun1 (indexAddrA E t a ix):=by
  unfold indexAddrA
  refine .withTY _ fun y=> ?_
  split
  · refine .withTY _ fun z=> .intA _ fun _ i=> ?_
    split
    · exact .and (.and (.and (.const _)))
    · exact .and (.and (.and (.const _)))
    · exact .and (.and (.and (.const _)))
    · exact .no
  · exact .no
theorem lenA_fun (a:PV):Fun1 (lenA a):=by
  intro K hk
  unfold lenA at hk
  split at hk<;>first | exact⟨_,hk,rfl⟩ | exact hk.elim
theorem extractA_fun (a:PV) (i:Nat):Fun1 (extractA a i):=by
  unfold extractA;split
  · exact .withV _ fun _=> .const _
  · exact .no
theorem optI_fun {α:Type} (E:Tab) (t:Slots) (o:Option Operand) (d:Int) {T:Int→(α→Prop)→Prop} (h:∀n,Fun1 (T n)):Fun1 (fun K=>optI E t o d fun n=>T n K):=by
  unfold optI;split
  · exact h _
  · exact .withV _ fun _=> .intA _ fun _ n=>h n
theorem sliceA_fun (E:Tab) (t:Slots) (ty:TypeId) (a:PV) (lo hi mx:Option Operand):Fun1 (sliceA E t ty a lo hi mx):=by
  unfold sliceA
  refine .withTY _ fun y=> ?_
  split
  · refine .withTY _ fun z=>optI_fun E t lo 0 fun l=> ?_
    split
    · refine .and (optI_fun E t hi _ fun h=> .and (.and (.and ?_)))
      split
      · exact .const _
      · exact optI_fun E t _ 0 fun m=> .and (.and (.const _))
    · exact .and (.and (optI_fun E t hi _ fun h=> .and (.and (.and (.const _)))))
    · exact .and (optI_fun E t hi _ fun h=> .and (.and (.const _)))
    · exact .no
  · exact .no
theorem fillA_fun (E:Tab) (t:Slots) (pl:Nat→Option (Nat×Nat)):∀(l:List (Nat×Operand)) (cs:List Cell),Fun1 (fillA E t pl l cs)
  | [],cs=> .const _
  | (i,x)::r,cs=>by
    intro K hk
    unfold fillA at hk
    cases hp:pl i with
    | none=>rw [hp]at hk;exact hk.elim
    | some p=>
      rw [hp]at hk
      obtain⟨v,hv,a1,a2,a3,hk⟩:=withV_some hk
      obtain⟨u,h1,h2⟩:=fillA_fun E t pl r _ K hk
      refine⟨u,h1,?_⟩
      unfold fillA
      rw [hp,hv]
      exact⟨a1,a2,a3,h2⟩
theorem Fun1.map {α β:Type} {T:(α→Prop)→Prop} (h:Fun1 T) (mono:∀(K K':α→Prop),(∀v,K v→K' v)→T K→T K') (f:α→β):Fun1 (fun K=>T fun v=>K (f v)):=fun K hk=>
  let⟨v,h1,h2⟩:=h _ hk
  ⟨f v,h1,mono _ _ (fun v' e=>by rw [e]) h2⟩
theorem fillA_mono (E:Tab) (t:Slots) (pl:Nat→Option (Nat×Nat)) (K K':List Cell→Prop) (hK:∀v,K v→K' v):∀(l:List (Nat×Operand)) (cs:List Cell),fillA E t pl l cs K→fillA E t pl l cs K'
  | [],cs,h=>hK _ h
  | (i,x)::r,cs,h=>by
    unfold fillA at h ⊢
    cases hp:pl i with
    | none=>rw [hp]at h;exact h.elim
    | some p=>
      rw [hp]at h
      cases hv:ev E t x with
      | none=>rw [hv]at h;exact h.elim
      | some v=>rw [hv]at h;exact⟨h.1,h.2.1,h.2.2.1,fillA_mono E t pl K K' hK r _ h.2.2.2⟩
theorem buildA_fun (E:Tab) (t:Slots) (ty:TypeId) (l:List (Nat×Operand)):Fun1 (buildA E t ty l):=by
  unfold buildA
  refine .withTY _ fun y=> ?_
  split
  · exact .and (Fun1.map (fillA_fun E t _ l _) (fun K K' h=>fillA_mono E t _ K K' h l _) PV.agg)
  · exact .no
theorem capsA_mono (E:Tab) (t:Slots):∀(l:List Operand) (K K':List Cell→Prop),(∀v,K v→K' v)→capsA E t l K→capsA E t l K'
  | [],K,K',h,hk=>h _ hk
  | x::r,K,K',h,hk=>by
    unfold capsA at hk ⊢
    cases hv:ev E t x with
    | none=>rw [hv]at hk;exact hk.elim
    | some v=>
      rw [hv]at hk
      simp only [AE.withV]at hk ⊢
      split at hk
      · exact capsA_mono E t r _ _ (fun l hl=>h _ hl) hk
      · exact hk.elim
theorem capsA_fun (E:Tab) (t:Slots):∀(l:List Operand),Fun1 (capsA E t l)
  | []=> .const _
  | x::r=>by
    intro K hk
    unfold capsA at hk
    obtain⟨v,hv,hk⟩:=withV_some hk
    split at hk
    · rename_i y
      obtain⟨u,h1,h2⟩:=capsA_fun E t r _ hk
      refine⟨_,h1,?_⟩
      unfold capsA
      rw [hv]
      exact capsA_mono E t r _ _ (fun l hl=>by rw [hl]) h2
    · exact hk.elim
theorem capA_fun (a:PV):Fun1 (capA a):=by
  intro K hk
  unfold capA at hk
  split at hk
  · exact⟨_,hk,rfl⟩
  · exact hk.elim
theorem callA_fun (E:Tab) (t:Slots) (c:Call):Fun1 (callA E t c):=by
  unfold callA
  split
  · split
    · exact .withTY _ fun y=> .and (.withV _ fun v=>lenA_fun v)
    · exact .no
  · split
    · exact .withTY _ fun y=> .and (.withV _ fun v=>capA_fun v)
    · exact .no
  · split
    · exact .withV _ fun a=> .withV _ fun b=> .intA _ fun k m=> .intA _ fun _ n=> .const _
    · exact .no
  · split
    · exact .withV _ fun a=> .withV _ fun b=> .intA _ fun k m=> .intA _ fun _ n=> .const _
    · exact .no
  · exact .no
theorem pureA_fun (E:Tab) (op:Op) (t:Slots) (h:Heap):Fun1 (pureA E op t h):=by
  cases op
  case move x=>exact .withV _ fun _=> .const _
  case assign x=>exact .withV _ fun _=> .const _
  case pick c a b=>exact .withV _ fun v=> .boolA _ fun q=> .condB _ (.withV _ fun _=> .const _) (.withV _ fun _=> .const _)
  case load ty p=>exact .withV _ fun v=>loadA_fun _ _ _ _
  case nilCheck x=>exact .withV _ fun v=>nilA_fun _
  case binOp op ty x y z=>exact .withV _ fun a=> .withV _ fun b=>binA_fun _ _ _ _ _
  case unOp op ty x=>exact .withV _ fun a=>unA_fun _ _
  case convert s d x=>exact .withV _ fun a=>convA_fun _ _ _ _
  case fieldAddr s x f=>exact .withV _ fun a=>fieldAddrA_fun _ _ _ _
  case field s x f=>exact .withV _ fun a=>fieldA_fun _ _ _ _
  case indexAddr ty x i=>exact .withV _ fun a=> .withV _ fun b=>indexAddrA_fun _ _ _ _
  case slice ty x lo hi mx=>exact .withV _ fun a=>sliceA_fun _ _ _ _ _ _ _
  case extract x i=>exact .withV _ fun a=>extractA_fun _ _
  case build ty parts=>exact buildA_fun _ _ _ _
  case call c=>exact callA_fun _ _ _
  case makeFunc fn first caps=>
    intro K hk
    unfold pureA at hk ⊢
    cases fn with
    | func g=>exact Fun1.and (Fun1.map (capsA_fun E t _) (fun K K' hK=>capsA_mono E t _ K K' hK) _) K hk
    | _=>exact hk.elim
  all_goals exact .no
end Go.AE
namespace Go.AE
open Go
abbrev DEnt:=Nat×List Nat×List Nat
abbrev Held:=Nat×Oper×Slots×Option PV
def findH:List Held→Nat→Option (Oper×Slots×Option PV)
  | [],_=>none
  | (i,x)::r,j=>if i=j then some x else findH r j
def cut (t:Slots):List Nat→Slots
  | []=> []
  | r::rs=>(r,lookS t r)::cut t rs
theorem cut_look {t:Slots} {r:Nat} {v:PV}:∀ {rs:List Nat},lookS (cut t rs) r=some v→r∈rs∧lookS t r=some v
  | [],h=>by simp [cut,lookS]at h
  | x::rs,h=>by
    simp only [cut,lookS]at h
    split at h
    · rename_i e;subst e;exact⟨by simp,h⟩
    · obtain⟨h1,h2⟩:=cut_look h;exact⟨List.mem_cons_of_mem _ h1,h2⟩
def evalF (E:Tab) (ops:List Oper) (o:Oper) (t:Slots) (h:Heap) (K:Option PV→Prop):Prop:=
  match o.guard with
  | none=>pureA E o.op t h fun v=>K (some v)
  | some (j,want)=>gcase (gslot ops j) fun d=>guardU (lookS t d) want (pureA E o.op t h fun v=>K (some v)) (K (some undP))
theorem some_fun {α:Type} (v:α):(fun v'=>some v'=some v)=(fun v'=>v'=v):=by funext x;simp
theorem pureA_fun' (E:Tab) (op:Op) (t:Slots) (h:Heap):Fun1 (fun K:Option PV→Prop=>pureA E op t h fun v=>K (some v)):=fun K hk=>
  let⟨v,h1,h2⟩:=pureA_fun E op t h _ hk
  ⟨some v,h1,by show pureA E op t h (fun v'=>some v'=some v);rw [some_fun];exact h2⟩
theorem evalF_fun (E:Tab) (ops:List Oper) (o:Oper) (t:Slots) (h:Heap):Fun1 (evalF E ops o t h):=by
  intro K hk
  unfold evalF at hk ⊢
  cases hg:o.guard with
  | none=>rw [hg]at hk;exact pureA_fun' E o.op t h K hk
  | some g=>
    obtain⟨j,want⟩:=g
    rw [hg]at hk
    simp only at hk ⊢
    cases hd:gslot ops j with
    | none=>rw [hd]at hk;exact hk.elim
    | some d=>
      rw [hd]at hk
      simp only [gcase]at hk ⊢
      rcases guardU_inv hk with⟨f,b,hv,hT,hF⟩ | ⟨hv,hF⟩
      · rw [hv]
        by_cases e:b=want
        · obtain⟨v,h1,h2⟩:=pureA_fun' E o.op t h K (hT e)
          exact⟨v,h1,guardU_intro (fun _=>h2) (fun e'=>absurd e e')⟩
        · exact⟨some undP,hF e,guardU_intro (fun e'=>absurd e' e) (fun _=>rfl)⟩
      · rw [hv];exact⟨some undP,hF,rfl⟩
theorem evalF_sound {E:Tab} (hE:TabOK E) {c:Ctx} {w:World} {t:Slots} {h:Heap} {a:Act} (A:AbsT E c w t h a) {ops:Array Oper} {o:Oper} {K:Option PV→Prop} (hk:evalF E ops.toList o t h K):
    (Region.wanted o (yielded ops a.tmps)=true∧∃u v,(execOp a.eval o).run E.P w= .ok (.value u) w∧RelV c w u v∧K (some v))∨
    (Region.wanted o (yielded ops a.tmps)=false∧K (some undP)):=by
  unfold evalF at hk
  split at hk
  · rename_i hg
    obtain⟨u,v,h1,h2,h3⟩:=pureA_sound hE A o hk
    exact .inl ⟨by simp [Region.wanted,hg],u,v,h1,h2,h3⟩
  · rename_i j want hg
    cases hd:gslot ops.toList j with
    | none=>rw [hd]at hk;exact hk.elim
    | some d=>
      rw [hd]at hk
      rcases guardU_inv hk with⟨f,b,hv,hT,hF⟩ | ⟨hv,hF⟩
      · obtain⟨u,hu,hr⟩:=A.slot d _ hv
        have:=rel_bool hr
        subst this
        have hw:Region.wanted o (yielded ops a.tmps)=(b==want):=by
          simp only [Region.wanted,hg];exact guard_bool hd hu
        by_cases e:b=want
        · obtain⟨u,v,h1,h2,h3⟩:=pureA_sound hE A o (hT e)
          exact .inl ⟨by rw [hw];simp [e],u,v,h1,h2,h3⟩
        · exact .inr ⟨by rw [hw];simp [e],hF e⟩
      · obtain⟨u,hu,hr⟩:=A.slot d _ hv
        refine .inr ⟨?_,hF⟩
        have hj:(ops[j]?).bind (·.dst)=some d:=by simpa [gslot]using hd
        have hun:∀b,u≠ .bool b:=by
          intro b e;subst e;cases hr
        simp only [Region.wanted,hg,yielded,hj]
        simp only [Option.bind_some,hu]
        cases u<;>simp_all
def isLoad:Op→Bool | .load .. =>true | _=>false
theorem pureA_heap {E:Tab} {op:Op} (hl:isLoad op=false) (t:Slots) (h h':Heap):pureA E op t h=pureA E op t h':=by
  cases op<;>first | rfl | (simp [isLoad]at hl)
theorem evalF_heap {E:Tab} {ops:List Oper} {o:Oper} (hl:isLoad o.op=false) (t:Slots) (h h':Heap):evalF E ops o t h=evalF E ops o t h':=by
  unfold evalF;rw [pureA_heap hl t h h']
inductive ZC:Cell→Bool→D→Prop
  | d (f:Bool) (x:D):ZC (.d f x) (f || x.scal) x
  | nil (sz:Nat):ZC .nil true (.rows sz [])
  | clip (f:Bool) (sz:Nat) (es:List (List D)):ZC (.clip f sz es) f (.rows sz es)
inductive ZCs:List Cell→Bool→List D→Prop
  | nil:ZCs [] true []
  | cons {x:Cell} {r:List Cell} {f g:Bool} {d:D} {ds:List D}:ZC x f d→ZCs r g ds→ZCs (x::r) (f&&g) (d::ds)
inductive ZPs (E:Tab) (t:Slots) (sz:Nat):List (Nat×Operand)→Bool→List (List D)→Prop
  | nil:ZPs E t sz [] true []
  | cons {i:Nat} {x:Operand} {r:List (Nat×Operand)} {v:PV} {f g:Bool} {ds:List D} {es:List (List D)}:ev E t x=some v→(pvCells v).length=sz→ZCs (pvCells v) f ds→ZPs E t sz r g es→
      ZPs E t sz ((i,x)::r) (f&&g) (ds::es)
def zA (E:Tab) (op:Op) (t:Slots) (K:PV→Prop):Prop:=
  match op with
  | .buildSlice ty len parts=>withTY (E.ty ty) fun y=>match y.desc with
    | .slice e=>withTY (E.ty e) fun z=>z.size≠0∧parts.toList.map (·.1)=List.range len∧len*z.size≤16777216∧
        ∃f es,ZPs E t z.size parts.toList f es∧es.length=len∧K (.c (.clip f z.size es))
    | _=>False
  | _=>False
theorem zA_fun (E:Tab) (op:Op) (t:Slots):Fun1 (zA E op t):=by
  intro K hk
  unfold zA at hk ⊢
  split at hk
  · rename_i ty len parts
    cases hy:E.ty ty with
    | none=>rw [hy]at hk;exact hk.elim
    | some y=>
      rw [hy]at hk
      simp only [withTY]at hk ⊢
      split at hk
      · rename_i e _
        cases hz:E.ty e with
        | none=>rw [hz]at hk;exact hk.elim
        | some z=>
          rw [hz]at hk
          simp only at hk ⊢
          obtain⟨h1,h2,h3,f,es,h4,h5,hk⟩:=hk
          exact⟨_,hk,h1,h2,h3,f,es,h4,h5,rfl⟩
      · exact hk.elim
  · exact hk.elim
theorem giveC_of_zc1 {h:Heap} {x:Cell} {f:Bool} {d:D} {K:Bool→D→Heap→Prop} (hz:ZC x f d) (hk:K f d h):giveC h x K:=by
  cases hz with
  | d=>exact hk
  | nil sz=>exact⟨sz,hk⟩
  | clip=>exact hk
theorem giveCs_of_zcells {h:Heap} {cs:List Cell} {f:Bool} {ds:List D} (hz:ZCs cs f ds) {K:Bool→List D→Heap→Prop} (hk:K f ds h):giveCs h cs K:=by
  induction hz generalizing K with
  | nil=>exact hk
  | cons h1 _ ih=>exact giveC_of_zc1 h1 (ih hk)
theorem partsA_of_zparts {E:Tab} {t:Slots} {sz:Nat} {h:Heap} {l:List (Nat×Operand)} {f:Bool} {es:List (List D)} (hz:ZPs E t sz l f es) {K:Bool→List (List D)→Heap→Prop} (hk:K f es h):partsA E t sz h l K:=by
  induction hz generalizing K with
  | nil=>exact hk
  | cons h1 h2 h3 _ ih=>
    unfold partsA
    rw [h1]
    exact⟨h2,giveCs_of_zcells h3 (ih hk)⟩
end Go.AE
namespace Go.AE
open Go
def Ctx.wide (c:Ctx) (K:Bool→Nat→Prop):Ctx:={c with K:=K}
theorem Owned.wide {c:Ctx} {K:Bool→Nat→Prop} {h:Heap} {b:Nat}:Owned (c.wide K) h b↔Owned c h b:=Iff.rfl
theorem RelH.lt {c:Ctx} {w:World} {h:Heap} (H:RelH c w h) {b:Nat} (ho:Owned c h b):b<w.heap.size:=by
  obtain⟨l,o,h1,h2,h3⟩:=ho
  exact((H.obj l o h1).2).lt h2 h3
theorem side {c:Ctx} {w w':World} {h:Heap} (H:RelH c w h) {K:Bool→Nat→Prop} (hsz:w.heap.size≤w'.heap.size) (hk:∀b,b<w.heap.size→w'.heap[b]? =w.heap[b]?)
    (hs:World.Stays w w') (h1:∀f b,c.K f b→K f b) (h2:∀f b,K f b→c.K f b∨w.heap.size≤b) (h3:∀f b,K f b→b<w'.heap.size) (h4:∀b,K true b→K false b)
    (ho:w'.os=w.os) (ht:w'.tape=w.tape) (hout:w'.output=w.output):RelH (c.wide K) w' h∧Grow c w h (c.wide K) w' h:=by
  have hle:CLe c (c.wide K):=⟨h1,Nat.le_refl _,fun _ _=>rfl⟩
  refine⟨⟨fun l o hl=> ?_,fun l o l' o' b a1 a2 a3 a4 a5 a6=>H.inj l o l' o' b a1 a2 a3 a4 a5 a6,fun f b hb hK=> ?_,h3,h4⟩,
    ⟨hle,hsz,hs,fun b hb _=>hk b hb,fun f b hb=>(h2 f b hb).imp id .inl,fun b hb=> .inl hb,ho,ht,hout⟩⟩
  · obtain⟨a1,a2⟩:=H.obj l o hl
    exact⟨a1,a2.mono hle (fun f b hb=>hk b (H.low f b hb)) hs a1 (fun b hlv hm=>hk b (a2.lt hlv hm))⟩
  · rcases h2 f b hK with a | a
    · exact H.own f b hb a
    · exact absurd (H.lt (c:=c) hb) (by omega)
theorem RelH.nil {c:Ctx} {w:World} {h:Heap} (H:RelH c w h):RelH c w []:=
  ⟨fun l o hl=>by simp [look]at hl,fun l o l' o' b hl=>by simp [look]at hl,fun f b ⟨l,o,hl,_⟩=>by simp [look]at hl,H.low,H.sub⟩
theorem not_owned_nil {c:Ctx} {b:Nat}:¬Owned c [] b:=fun⟨l,o,hl,_⟩=>by simp [look]at hl
theorem andThen_ok {α β:Type} {r:Result α} {f:α→World→Result β} {v:β} {w:World} (h:r.andThen f= .ok v w):∃a w1,r= .ok a w1∧f a w1= .ok v w:=by
  cases r with
  | ok a w1=>exact⟨a,w1,rfl,h⟩
  | halt h1 w1=>simp [Result.andThen]at h
theorem run_bind_ok {P:Program} {α β:Type} {s:Sem α} {f:α→Sem β} {w w':World} {v:β} (h:(s>>=f).run P w= .ok v w'):∃a w1,s.run P w= .ok a w1∧(f a).run P w1= .ok v w':=by
  rw [Sem.run_bind]at h;exact andThen_ok h
theorem buildSlice_cap {P:Program} {ty:TypeId} {len:Nat} {parts:Array (Nat×Value)} {w w':World} {u:Value} (h:(Instr.buildSlice ty len parts).run P w= .ok u w'):∃ad,u= .slice ad len len:=by
  unfold Instr.buildSlice at h
  obtain⟨d,w1,h1,h⟩:=run_bind_ok h
  split at h
  · rename_i el0
    obtain⟨sz,w2,h2,h⟩:=run_bind_ok h
    have fin:∀(msg:String) (z:Array Value) (el:TypeId) (w3:World),(match Instr.fill (fun i=>some (i*sz,sz)) ((Array.range (len*sz)).map (z[· %z.size]!)) parts.toList with | some cells=>(do pure (.slice (some (←newRow el cells)) len len):Sem Value) | _=>stuck msg).run P w3= .ok u w'→∃ad,u= .slice ad len len:=by
      intro msg z el w3 h
      split at h
      · obtain⟨ad,w4,_,h⟩:=run_bind_ok h
        simp at h;exact⟨_,h.1.symm⟩
      · simp [stuck]at h
    have fin2:∀(msg:String) (w3:World),(if len*sz=0 then(do let zero←pure #[];(match Instr.fill (fun i=>some (i*sz,sz)) ((Array.range (len*sz)).map (fun x=>zero[x%zero.size]!)) parts.toList with | some cells=>(do pure (.slice (some (←newRow el0 cells)) len len):Sem Value) | _=>stuck msg))else
        (do let zero←pure (←zeroValue el0).cells;(match Instr.fill (fun i=>some (i*sz,sz)) ((Array.range (len*sz)).map (fun x=>zero[x%zero.size]!)) parts.toList with | some cells=>(do pure (.slice (some (←newRow el0 cells)) len len):Sem Value) | _=>stuck msg))).run P w3= .ok u w'→∃ad,u= .slice ad len len:=by
      intro msg w3 h
      split at h
      · obtain⟨z,w4,_,h⟩:=run_bind_ok h;exact fin _ _ _ _ h
      · obtain⟨z,w4,_,h⟩:=run_bind_ok h
        obtain⟨z,w5,_,h⟩:=run_bind_ok h;exact fin _ _ _ _ h
    simp only []at h
    split at h
    · obtain⟨_,w3,h3,h⟩:=run_bind_ok h
      simp [unsupported]at h3
    · exact fin2 _ _ h
  · simp [stuck]at h
theorem zop_sound {E:Tab} (hE:TabOK E) {c:Ctx} {w:World} {t:Slots} {h:Heap} {a:Act} (A:AbsT E c w t h a) (o:Oper) {K:PV→Prop} (hk:zA E o.op t K):
    ∃u c' w' v,(execOp a.eval o).run E.P w= .ok (.value u) w'∧Grow c w h c' w' h∧RelH c' w' h∧c'.n=c.n∧RelV c' w' u v∧K v:=by
  unfold zA at hk
  split at hk
  · rename_i ty len parts ho
    replace hk:=withTY_some hk;obtain⟨y,hy,hk⟩:=hk
    split at hk
    · rename_i e he
      replace hk:=withTY_some hk;obtain⟨z,hz,hsz,hidx,hbig,f,es,hp,hlen,hk⟩:=hk
      · have A0:AbsT E c w t [] a:=⟨A.slot,A.heap.nil,A.glob⟩
        have hh:heapA E o.op t [] c.n 0 (fun v h' k'=>v= .c (.os (nm c.n 0) z.size 0 len)∧h'=[(nm c.n 0,.rows f z.size (ir z.desc es))]):=by
          rw [ho]
          simp only [heapA]
          rw [hy]
          show(match y.desc with | .slice e=>_ | _=>False)
          rw [he]
          simp only
          rw [hz]
          exact⟨hsz,hidx,hbig,partsA_of_zparts hp ⟨rfl,rfl⟩⟩
        obtain⟨nx,u,c1,w1,h1,k1,pv,hrun,hnx,g1,H1,n1,hrel,rfl,rfl⟩:=heapA_sound hE A0 (by simp [nm]) o hh
        cases hrel with | c _ _ hrel=>
        have hgv:giveC [(nm c.n 0,AObj.rows f z.size (ir z.desc es))] (.os (nm c.n 0) z.size 0 len) (fun g d _=>g=f∧d= .rows z.size (ir z.desc es)):=by
          have hl:(ir z.desc es).length=len:=by rw [ir_eq];exact hlen
          have ht:(ir z.desc es).take len=ir z.desc es:=List.take_of_length_le (by omega)
          simp [giveC,look,withO,hl,ht]
        obtain⟨c2,h2,g,d,g2,H2,n2,hd,rfl,rfl⟩:=giveC_sound H1 hrel hgv
        have g12:=g1.trans g2
        obtain⟨R,G⟩:=side (c:=c) (w:=w) (w':=w1) (h:=h) A.heap (K:=c2.K) g12.size (fun b hb=>g12.kept b hb not_owned_nil) g12.stays g12.le.K
          (fun f b hb=>by rcases g12.newK f b hb with a | a | a;exact .inl a;exact .inr a;exact absurd a not_owned_nil) H2.low H2.sub g12.os g12.tape g12.output
        have hnx':nx= .value u:=by
          rcases hnx with h | ⟨_,h⟩
          · exact h
          · subst h;cases hrel
        subst hnx'
        have hcap:∃ad,u= .slice ad len len:=by
          have he:execOp a.eval o=(do pure (Next.value (←Instr.buildSlice ty len (parts.map fun(i,x)=>(i,a.eval x))))):=by simp [execOp,ho]
          rw [he]at hrun
          obtain⟨u',w2,h1,h2⟩:=run_bind_ok hrun
          simp at h2
          obtain⟨rfl,rfl⟩:=h2
          exact buildSlice_cap h1
        obtain⟨ad,rfl⟩:=hcap
        exact⟨_,_,w1,_,hrun,G,R,rfl,.c _ _ (.clip _ _ _ _ _ (by rw [ir_eq]at hd;exact hd)),hk⟩
    · exact hk.elim
  · exact hk.elim
theorem allocop_sound {E:Tab} (hE:TabOK E) {c:Ctx} {w:World} {h:Heap} (H:RelH c w h) (o:Oper) {ty:TypeId} (ho:o.op= .alloc ty) {y:TY} (hy:E.ty ty=some y) (ev:Operand→Value):
    ∃w' vs Et,(execOp ev o).run E.P w= .ok (.value (.pointer (some ⟨w.heap.size,0,none⟩))) w'∧Grow c w h c w' h∧RelH c w' h∧
      w'.heap[w.heap.size]? =some (.cells vs Et (0,0))∧∀c w,F2 (RelC c w) vs.toList y.zero:=by
  obtain⟨inf,hinf,hs,_,z,hzz,hzr⟩:=(hE.ty ty y hy).info
  refine⟨w.alloc (.cells z.cells ty),z.cells,ty,?_,?_,?_,alloc_new _ _,hzr⟩
  · simp [execOp,ho,Instr.alloc,zeroValue,typeInfo,hinf,hzz,newVar,newRow]
  · have:=(side (w':=w.alloc (.cells z.cells ty)) H (K:=c.K) (Nat.le_of_lt (lt_of_some (alloc_new _ _))) (fun b hb=>alloc_old hb) (stays_alloc _ _) (fun _ _ h=>h) (fun _ _ h=> .inl h)
      (fun f b hb=>Nat.lt_of_lt_of_le (H.low f b hb) (Nat.le_of_lt (lt_of_some (alloc_new _ _)))) H.sub rfl rfl rfl).2
    exact this
  · have:=(side (w':=w.alloc (.cells z.cells ty)) H (K:=c.K) (Nat.le_of_lt (lt_of_some (alloc_new _ _))) (fun b hb=>alloc_old hb) (stays_alloc _ _) (fun _ _ h=>h) (fun _ _ h=> .inl h)
      (fun f b hb=>Nat.lt_of_lt_of_le (H.low f b hb) (Nat.le_of_lt (lt_of_some (alloc_new _ _)))) H.sub rfl rfl rfl).1
    exact this
theorem RelH.reg {c:Ctx} {w:World} {h:Heap} (H:RelH c w h) {b:Nat} {o:AObj} (hO:RelO (c.name (some b)) w c.n o) (hno:¬Owned c h b) (hk:∀f,¬c.K f b):
    RelH (c.name (some b)) w ((c.n,o)::h):=by
  have hμ:(c.name (some b)).μ c.n=some b:=by simp [Ctx.name,upd]
  have hne:∀l o,look h l=some o→c.n≠l:=fun l o hl e=>by have:=(H.obj l o hl).1;omega
  have hμ':∀l o,look h l=some o→(c.name (some b)).μ l=c.μ l:=fun l o hl=>(c.name_le (some b)).μ l (H.obj l o hl).1
  refine⟨fun l o' hl=> ?_,fun l o1 l' o2 x a1 a2 a3 a4 a5 a6=> ?_,fun f x ⟨l,o',a1,a2,a3⟩ hK=> ?_,H.low,H.sub⟩
  · by_cases e:c.n=l
    · subst e
      rw [look_cons_same]at hl;cases hl
      exact⟨Nat.lt_succ_self _,hO⟩
    · rw [look_cons_ne o h e]at hl
      obtain⟨p,q⟩:=H.obj l o' hl
      exact⟨Nat.lt_succ_of_lt p,q.mono (c.name_le _) (fun _ _ _=>rfl) (.refl _) p (fun _ _ _=>rfl)⟩
  · by_cases e:c.n=l
    · by_cases e':c.n=l'
      · exact e.symm.trans e'
      · exfalso
        subst e
        rw [hμ]at a5;cases a5
        rw [look_cons_ne o h e']at a3
        exact hno ⟨l',o2,a3,a4,by rw [←hμ' l' o2 a3];exact a6⟩
    · rw [look_cons_ne o h e]at a1
      by_cases e':c.n=l'
      · exfalso
        subst e'
        rw [hμ]at a6;cases a6
        exact hno ⟨l,o1,a1,a2,by rw [←hμ' l o1 a1];exact a5⟩
      · rw [look_cons_ne o h e']at a3
        exact H.inj l o1 l' o2 x a1 a2 a3 a4 (by rw [←hμ' l o1 a1];exact a5) (by rw [←hμ' l' o2 a3];exact a6)
  · by_cases e:c.n=l
    · subst e
      rw [hμ]at a3;cases a3
      exact hk f hK
    · rw [look_cons_ne o h e]at a1
      exact H.own f x ⟨l,o',a1,a2,by rw [←hμ' l o' a1];exact a3⟩ hK
theorem Grow.reg {c0 c:Ctx} {w0 w:World} {h0 h:Heap} (g:Grow c0 w0 h0 c w h) (H:RelH c w h) {b:Nat} {o:AObj} (hb:w0.heap.size≤b):Grow c0 w0 h0 (c.name (some b)) w ((c.n,o)::h) where
  le:=g.le.trans (c.name_le _)
  size:=g.size
  stays:=g.stays
  kept:=g.kept
  newK:=g.newK
  newO:=fun x ⟨l,o',a1,a2,a3⟩=>by
    by_cases e:c.n=l
    · subst e
      have:(c.name (some b)).μ c.n=some b:=by simp [Ctx.name,upd]
      rw [this]at a3;cases a3
      exact .inr hb
    · rw [look_cons_ne o h e]at a1
      exact g.newO x ⟨l,o',a1,a2,by rw [←(c.name_le (some b)).μ l (H.obj l o' a1).1];exact a3⟩
  os:=g.os
  tape:=g.tape
  output:=g.output
theorem Grow.drawn (c:Ctx) (w:World) (h:Heap) (d:Nat):Grow c w h c {w with drawn:=d} h:=
  ⟨.refl c,Nat.le_refl _,fun _ _ hx=>hx,fun _ _ _=>rfl,fun _ _ h=> .inl h,fun _ h=> .inl h,rfl,rfl,rfl⟩
theorem RelH.drawn {c:Ctx} {w:World} {h:Heap} (H:RelH c w h) (d:Nat):RelH c {w with drawn:=d} h:=
  ⟨fun l o hl=>let⟨p,q⟩:=H.obj l o hl;⟨p,q.mono (w:=w) (w':={w with drawn:=d}) (.refl c) (fun _ _ _=>rfl) (fun _ _ hx=>hx) p (fun _ _ _=>rfl)⟩,H.inj,H.own,H.low,H.sub⟩
end Go.AE
namespace Go.AE
open Go
def mutA (E:Tab) (G:Ctab) (o:Oper) (t:Slots) (s:St) (K:PV→Heap→Nat→Prop):Prop:=
  match opClass o.op with
  | 1=>heapA E o.op t s.h s.n s.k K
  | _=>callOp E G o.op {s with t:=t} K
theorem mutA_sound {E:Tab} (hE:TabOK E) {G:Ctab} (hG:CtabOK E G) {Q:Exit→Act→World→Prop} {s:St} {t:Slots} {c:Ctx} {w:World} {a:Act} (A:AbsT E c w t s.h a) (hn:c.n=nm s.n s.k) (o:Oper)
    {K:PV→Heap→Nat→Prop} {next:Act→World→Prop} (hnext:∀u v c' w' h' k',Grow c w s.h c' w' h'→RelH c' w' h'→c'.n=nm s.n k'→RelV c' w' u v→K v h' k'→next (a.put o.dst u) w')
    (hk:mutA E G o t s K):o.wp E.P a w next Q:=by
  unfold mutA at hk
  split at hk
  · obtain⟨nx,u,c',w',h',k',pv,hrun,hnx,hg,H',hn',hrel,hk⟩:=heapA_sound hE A hn o hk
    unfold Oper.wp
    rw [hrun]
    rcases hnx with rfl | ⟨rfl,rfl⟩
    · rw [Oper.upon_value]
      exact hnext _ _ _ _ _ _ hg H' hn' hrel hk
    · rw [Oper.upon_skip]
      exact hnext _ _ _ _ _ _ hg H' hn' hrel hk
  · unfold callOp at hk
    split at hk
    · rename_i cl ho
      split at hk
      · rename_i f hf
        obtain⟨callee,⟨args⟩,argTypes⟩:=cl
        simp only at hf;subst hf
        obtain⟨fv,hfv,hk⟩:=withE A hk
        unfold fnA at hk
        generalize hfe:a.eval f=fu at hfv
        split at hk
        · rename_i gid cs
          obtain⟨ps,hps,hk⟩:=argsA_sound A _ _ hk
          cases hR:G gid with
          | none=>rw [hR]at hk;exact hk.elim
          | some R=>
          rw [hR]at hk
          simp only [withT]at hk
          cases hfv with | c _ _ hfv=>cases hfv with | fn _ capv _ hl hc=>
          have hcap:F2 (RelV c w) capv (cs.map .c):=F2.of_get (by simp [hl]) (fun i x y hx hy=>by
            simp only [List.getElem?_map,Option.map_eq_some_iff]at hy
            obtain⟨y',hy',rfl⟩:=hy
            have hi:i<cs.length:=(List.getElem?_eq_some_iff.1 hy').1
            have:=hc i hi
            rw [getD_of hx,getD_of hy']at this
            exact .c _ _ this)
          have hok:=hG gid R hR
          have hcalls:=hok.calls _ _ _ _ hk c w (args.map a.eval++capv) hn (hps.append hcap) A.heap A.glob
          have hrun:(execOp a.eval o).run E.P w= .ok (.enter gid (args.map a.eval++capv).toArray) w:=by
            have h1:=hok.enters (args.map a.eval++capv).toArray w
            simp [execOp,ho,resolve,hfe,Deferred.ofValue,invoke]
            exact h1
          unfold Oper.wp
          rw [hrun,Oper.upon_enter]
          refine hcalls.mono ?_
          intro e w' he
          cases e with
          | returned v=>
            obtain⟨c',r,h',j,hg,H',hn',hrel,hk⟩:=he
            exact hnext _ _ _ _ _ _ hg H' (by rw [hn',nm_nm]) hrel hk
          | panicked ch=>exact he.elim
          | outgrown=>exact he.elim
        · exact hk.elim
      · exact hk.elim
    · exact hk.elim
class LitK where
  l:List Nat
variable [LitK]
def litK (parts:Array (Nat×Operand)):Bool:=match parts.toList with | [(_,.tmp t)]=>LitK.l.contains t | _=>false
def kindOf (op:Op):Nat:=match op with | .alloc _=>2 | .buildSlice _ _ parts=>if litK parts then 3 else 1 | op=>if opClass op=0 then 0 else 3
def kindAt (ops:List Oper) (i:Nat):Nat:=match ops[i]? with | some o=>kindOf o.op | none=>4
def withP (o:Option Oper) (K:Oper→Prop):Prop:=match o with | some v=>K v | none=>False
def reck (E:Tab) (ops:List Oper) (h:Heap) (hs:List Held):List Nat→Prop
  | []=>True
  | j::r=>(match findH hs j with | some (o,t,v)=>evalF E ops o t h (fun v'=>v'=v) | none=>False)∧reck E ops h hs r
def drawRun (E:Tab) (G:Ctab) (ops:List Oper):List DEnt→List Held→(St→Prop)→St→Prop
  | [],_,K,s=>K s
  | (i,rs,cs)::r,hs,K,s=>withP ops[i]? fun o=>dOK s.m o.dst∧match kindOf o.op with
    | 0=>evalF E ops o (cut s.t rs) s.h fun v=>drawRun E G ops r ((i,o,cut s.t rs,v)::hs) K (s.put o.dst v)
    | 1=>zA E o.op (cut s.t rs) fun v=>drawRun E G ops r hs K (s.put o.dst (some v))
    | 2=>heapA E o.op [] s.h s.n s.k fun v h k=>drawRun E G ops r hs K (St.put {s with h:=h,k:=k} o.dst (some v))
    | _=>match o.guard with
      | none=>mutA E G o (cut s.t rs) s fun v h k=>reck E ops h hs cs∧drawRun E G ops r hs K (St.put {s with h:=h,k:=k} o.dst (some v))
      | some (j,want)=>gcase (gslot ops j) fun d=>guardU (lookS (cut s.t rs) d) want
          (mutA E G o (cut s.t rs) s fun v h k=>reck E ops h hs cs∧drawRun E G ops r hs K (St.put {s with h:=h,k:=k} o.dst (some v)))
          (drawRun E G ops r hs K (s.put o.dst (some undP)))
def hasGuard (ops:List Oper) (i:Nat):Bool:=match ops[i]? with | some o=>o.guard.isSome | none=>true
def loadAt (ops:List Oper) (i:Nat):Bool:=match ops[i]? with | some o=>isLoad o.op | none=>true
def rdOK (ops:List Oper) (anc:Nat→Nat→Bool) (pre:List Nat) (i:Nat) (rs:List Nat):Bool:=
  (List.range ops.length).all fun j=>match gslot ops j with
    | none=>true
    | some d=> !rs.contains d || j==i || (if pre.contains j then anc i j else anc j i)
def aNext (ops:List Oper) (anc:Nat→Nat→Bool) (i:Nat):List DEnt→Bool
  | []=>true
  | (q,_,_)::r=>if kindAt ops q=2 then aNext ops anc i r else kindAt ops q==3&&anc q i
def chkGo (ops:List Oper) (anc:Nat→Nat→Bool):List Nat→Option Nat→List DEnt→Bool
  | _,_,[]=>true
  | pre,lm,(i,rs,cs)::r=>
    decide (i<ops.length)&& !pre.contains i&&rdOK ops anc pre i rs&&
    (kindAt ops i==2 || (match lm with | none=>true | some q=>anc i q))&&
    (match kindAt ops i with
     | 0=>true
     | 1=>true
     | 2=>aNext ops anc i r&& (gslot ops i).isSome
     | 3=>pre.all fun j=> !loadAt ops j || anc i j || cs.contains j
     | _=>false)&&
    (kindAt ops i==0 || kindAt ops i==3 || !hasGuard ops i)&&
    chkGo ops anc (i::pre) (if kindAt ops i==3 then some i else lm) r
def maskOf (acc:List Nat) (es:List Edge):Nat:=es.foldl (fun s e=>if Region.binds .any e then s ||| 2^e.on ||| acc.getD e.on 0 else s) 0
def masksGo:List Oper→List Nat→List Nat
  | [],acc=>acc
  | o::r,acc=>masksGo r (acc++ [maskOf acc o.after.toList])
def masks (ops:List Oper):List Nat:=masksGo ops []
def ancM (m:List Nat) (i j:Nat):Bool:=(m.getD i 0).testBit j
def topo (ops:List Oper):Bool:=(List.range ops.length).all fun i=>match ops[i]? with
  | some o=>o.after.toList.all fun e=> !Region.binds .any e || decide (e.on<i)
  | none=>true
def apartDst (ops:List Oper):Bool:=(List.range ops.length).all fun i=>(List.range ops.length).all fun j=>
  i==j || (match gslot ops i,gslot ops j with | some d,some e=>d !=e | _,_=>true)
def chkDraw (ops:List Oper) (ord:List DEnt):Bool:=
  topo ops&&apartDst ops&& ((List.range ops.length).all fun i=>(ord.map (·.1)).contains i)&&chkGo ops (ancM (masks ops)) [] none ord
inductive Reach (ops:List Oper):Nat→Nat→Prop
  | one {i j:Nat} {o:Oper} {e:Edge}:ops[i]? =some o→e∈o.after.toList→Region.binds .any e=true→e.on=j→Reach ops i j
  | step {i j:Nat} {o:Oper} {e:Edge}:ops[i]? =some o→e∈o.after.toList→Region.binds .any e=true→Reach ops e.on j→Reach ops i j
theorem maskOf_bit {acc:List Nat} {j:Nat}:∀(es:List Edge) (s:Nat),(es.foldl (fun s e=>if Region.binds .any e then s ||| 2^e.on ||| acc.getD e.on 0 else s) s).testBit j=true→
    s.testBit j=true∨∃e∈es,Region.binds .any e=true∧(e.on=j∨(acc.getD e.on 0).testBit j=true)
  | [],s,h=> .inl h
  | e::es,s,h=>by
    simp only [List.foldl_cons]at h
    rcases maskOf_bit es _ h with h1 | ⟨e',h1,h2,h3⟩
    · split at h1
      · rename_i hb
        simp only [Nat.testBit_or,Bool.or_eq_true,Nat.testBit_two_pow,decide_eq_true_eq]at h1
        rcases h1 with(h1 | h1) | h1
        · exact .inl h1
        · exact .inr ⟨e,by simp,hb,.inl h1⟩
        · exact .inr ⟨e,by simp,hb,.inr h1⟩
      · exact .inl h1
    · exact .inr ⟨e',by simp [h1],h2,h3⟩
theorem masksGo_reach (ops:List Oper):∀(r:List Oper) (acc:List Nat) (pre:List Oper),pre++r=ops→pre.length=acc.length→
    (∀i j,(acc.getD i 0).testBit j=true→Reach ops i j)→∀i j,((masksGo r acc).getD i 0).testBit j=true→Reach ops i j
  | [],acc,pre,h1,h2,h3=>h3
  | o::r,acc,pre,h1,h2,h3=>by
    refine masksGo_reach ops r _ (pre++ [o]) (by simp [h1]) (by simp [h2]) ?_
    intro i j hb
    rw [List.getD_eq_getElem?_getD]at hb
    by_cases hi:i<acc.length
    · rw [List.getElem?_append_left hi,←List.getD_eq_getElem?_getD]at hb
      exact h3 i j hb
    · rw [List.getElem?_append_right (by omega)]at hb
      by_cases hi':i=acc.length
      · subst hi'
        simp only [Nat.sub_self,List.getElem?_cons_zero,Option.getD_some]at hb
        have ho:ops[acc.length]? =some o:=by rw [←h1,←h2];simp
        rcases maskOf_bit _ _ hb with h0 | ⟨e,he,hbd,h0⟩
        · simp at h0
        · rcases h0 with h0 | h0
          · exact .one ho he hbd h0
          · exact .step ho he hbd (h3 _ _ h0)
      · rw [List.getElem?_eq_none (by simp;omega)]at hb
        simp at hb
theorem anc_reach {ops:List Oper} {i j:Nat} (h:ancM (masks ops) i j=true):Reach ops i j:=
  masksGo_reach ops ops [] [] rfl rfl (fun i j h=>by simp at h) i j h
def Lst (l:Array Bool) (i:Nat):Prop:=l.getD i false=true
def Closed (ops:List Oper) (l:Array Bool):Prop:=∀i o,Lst l i→ops[i]? =some o→∀e∈o.after.toList,Region.binds .any e=true→Lst l e.on
theorem reach_in {ops:List Oper} {l:Array Bool} (hc:Closed ops l) {i j:Nat} (h:Reach ops i j) (hd:∀o,ops[i]? =some o→∀e∈o.after.toList,Region.binds .any e=true→Lst l e.on):Lst l j:=by
  induction h with
  | one h1 h2 h3 h4=>subst h4;exact hd _ h1 _ h2 h3
  | step h1 h2 h3 _ ih=>exact ih (fun o ho=>hc _ o (hd _ h1 _ h2 h3) ho)
theorem reach_in' {ops:List Oper} {l:Array Bool} (hc:Closed ops l) {i j:Nat} (h:Reach ops i j) (hi:Lst l i):Lst l j:=
  reach_in hc h fun o ho=>hc i o hi ho
end Go.AE
namespace Go.AE
open Go
variable [LitK]
def Src (ops:List Oper) (s0:St) (pre:List Nat) (val:Nat→Option PV) (i r:Nat) (v:PV):Prop:=
  (∃j,gslot ops j=some r∧j∈pre∧Reach ops i j∧val j=some v)∨(lookS s0.t r=some v∧∀j,gslot ops j=some r→j=i∨Reach ops j i)
structure DI (E:Tab) (G:Ctab) (ops:Array Oper) (K:St→Prop) (s0:St) (c0:Ctx) (w0:World) (h0:Heap)
    (pre:List Nat) (lm:Option Nat) (suf:List DEnt) (s:St) (hs:List Held) (val:Nat→Option PV) (pb:Nat→Nat)
    (L:Array Bool) (c:Ctx) (w:World) (a:Act):Prop where
  run:drawRun E G ops.toList suf hs K s
  chk:chkGo ops.toList (ancM (masks ops.toList)) pre lm suf=true
  cov:∀i,i<ops.size→i∈pre∨i∈suf.map (·.1)
  done:∀i,i∈pre→2≤kindAt ops.toList i→Lst L i
  only:∀i,Lst L i→i∈pre∨kindAt ops.toList i=2
  closed:Closed ops.toList L
  size:L.size=ops.size
  s1:∀j r v,gslot ops.toList j=some r→Lst L j→j∈pre→val j=some v→∃u,a.tmps[r]? =some u∧RelV c w u v
  s2:∀r v,(∀j,gslot ops.toList j=some r→¬Lst L j)→lookS s0.t r=some v→∃u,a.tmps[r]? =some u∧RelV c w u v
  t1:∀j r,gslot ops.toList j=some r→j∈pre→lookS s.t r=val j
  t2:∀r,(∀j,gslot ops.toList j=some r→j∉pre)→lookS s.t r=lookS s0.t r
  pend:∀i,i∈pre→¬Lst L i→∃o t,ops.toList[i]? =some o∧dOK s.m o.dst∧(∀r v,lookS t r=some v→Src ops.toList s0 pre val i r v)∧
     ((kindOf o.op=0∧findH hs i=some (o,t,val i)∧evalF E ops.toList o t s.h (fun v'=>v'=val i))∨(kindOf o.op=1∧o.guard=none∧zA E o.op t (fun v=>val i=some v)))
  pendA:∀i,Lst L i→i∉pre→∃(o:Oper) (ty:TypeId) (y:TY) (d:Nat) (vs:Array Value) (Et:TypeId),ops.toList[i]? =some o∧o.op= .alloc ty∧E.ty ty=some y∧o.dst=some d∧
     a.tmps[d]? =some (.pointer (some ⟨pb i,0,none⟩))∧w.heap[pb i]? =some (.cells vs Et (0,0))∧(∀c w,F2 (RelC c w) vs.toList y.zero)∧¬Owned c s.h (pb i)∧(∀f,¬c.K f (pb i))∧w0.heap.size≤pb i
  dist:∀i j,Lst L i→i∉pre→Lst L j→j∉pre→pb i=pb j→i=j
  heap:RelH c w s.h
  glob:GlobOK E c w
  grow:Grow c0 w0 h0 c w s.h
  cn:c.n=nm s.n s.k
  defers:a.defers=[]
  tsize:a.tmps.size=s.m
  sn:s.n=s0.n
  sm:s.m=s0.m
theorem Lst_set {L:Array Bool} {i j:Nat} (hi:i<L.size):Lst (L.setIfInBounds i true) j↔j=i∨Lst L j:=by
  unfold Lst
  simp only [Array.getD_eq_getD_getElem?,Array.getElem?_setIfInBounds]
  by_cases e:i=j
  · subst e;simp [hi]
  · simp [e,Ne.symm e]
theorem apart_ne {ops:List Oper} (h:apartDst ops=true) {i j d e:Nat} (hi:gslot ops i=some d) (hj:gslot ops j=some e) (hne:i≠j):d≠e:=by
  have li:i<ops.length:=by
    rcases Nat.lt_or_ge i ops.length with h | h
    · exact h
    · simp [gslot,List.getElem?_eq_none h]at hi
  have lj:j<ops.length:=by
    rcases Nat.lt_or_ge j ops.length with h | h
    · exact h
    · simp [gslot,List.getElem?_eq_none h]at hj
  unfold apartDst at h
  rw [List.all_eq_true]at h
  have h1:=h i (List.mem_range.2 li)
  rw [List.all_eq_true]at h1
  have h2:=h1 j (List.mem_range.2 lj)
  rw [hi,hj]at h2
  simpa [hne]using h2
theorem gslot_of {ops:List Oper} {i:Nat} {o:Oper} (h:ops[i]? =some o):gslot ops i=o.dst:=by simp [gslot,h]
theorem put_same {a:Act} {d:Nat} {u:Value} (h:d<a.tmps.size):(a.put (some d) u).tmps[d]? =some u:=by simp [Act.put,h]
theorem put_ne {a:Act} {o:Option Nat} {r:Nat} {u:Value} (h:∀d,o=some d→d≠r):(a.put o u).tmps[r]? =a.tmps[r]? :=by
  cases o with
  | none=>rfl
  | some d=>simp [Act.put,Array.getElem?_setIfInBounds_ne (h d rfl)]
theorem put_size {a:Act} {o:Option Nat} {u:Value}:(a.put o u).tmps.size=a.tmps.size:=by
  cases o with
  | none=>rfl
  | some d=>simp [Act.put]
theorem put_defers {a:Act} {o:Option Nat} {u:Value}:(a.put o u).defers=a.defers:=by cases o<;>rfl
section
variable {E:Tab} {G:Ctab} {ops:Array Oper} {K:St→Prop} {s0:St} {c0:Ctx} {w0:World} {h0:Heap} {pre:List Nat} {lm:Option Nat} {suf:List DEnt} {s:St} {hs:List Held}
  {val:Nat→Option PV} {pb:Nat→Nat} {L:Array Bool} {c:Ctx} {w:World} {a:Act}
theorem Closed.set {ops:List Oper} {L:Array Bool} (h:Closed ops L) {i:Nat} {o:Oper} (ho:ops[i]? =some o) (hi:i<L.size) (hd:∀e∈o.after.toList,Region.binds .any e=true→Lst L e.on):Closed ops (L.setIfInBounds i true):=by
  intro j o' hj ho' e he hb
  rw [Lst_set hi]at hj ⊢
  rcases hj with rfl | hj
  · rw [ho]at ho';cases ho';exact .inr (hd e he hb)
  · exact .inr (h j o' hj ho' e he hb)
theorem DI.src (D:DI E G ops K s0 c0 w0 h0 pre lm suf s hs val pb L c w a) {i:Nat} {o:Oper} (ho:ops.toList[i]? =some o) (hn:¬Lst L i) (hd:∀e∈o.after.toList,Region.binds .any e=true→Lst L e.on)
    {t:Slots} (ht:∀r v,lookS t r=some v→Src ops.toList s0 pre val i r v) (h:Heap) (H:RelH c w h):AbsT E c w t h a:=by
  refine⟨fun r v hv=> ?_,H,D.glob⟩
  rcases ht r v hv with⟨j,h1,h2,h3,h4⟩ | ⟨h1,h2⟩
  · exact D.s1 j r v h1 (reach_in D.closed h3 (fun o' ho'=>by rw [ho]at ho';cases ho';exact hd)) h2 h4
  · exact D.s2 r v (fun j hj hl=>by
      rcases h2 j hj with rfl | hr
      · exact hn hl
      · exact hn (reach_in' D.closed hr hl)) h1
theorem DI.rd (D:DI E G ops K s0 c0 w0 h0 pre lm suf s hs val pb L c w a) {i:Nat} {rs:List Nat} (hi:i∉pre) (h:rdOK ops.toList (ancM (masks ops.toList)) pre i rs=true) (r:Nat) (v:PV) (hv:lookS (cut s.t rs) r=some v):
    Src ops.toList s0 pre val i r v:=by
  obtain⟨hr,hv⟩:=cut_look hv
  unfold rdOK at h
  rw [List.all_eq_true]at h
  have key:∀j,gslot ops.toList j=some r→j=i∨(if pre.contains j then ancM (masks ops.toList) i j else ancM (masks ops.toList) j i)=true:=by
    intro j hj
    have lj:j<ops.toList.length:=by
      rcases Nat.lt_or_ge j ops.toList.length with h | h
      · exact h
      · simp [gslot,List.getElem?_eq_none h]at hj
    have:=h j (List.mem_range.2 lj)
    rw [hj]at this
    simp only [Bool.or_eq_true,Bool.not_eq_true',beq_iff_eq]at this
    rcases this with(h1 | h1) | h1
    · simp [hr]at h1
    · exact .inl h1
    · exact .inr h1
  by_cases e:∃j,gslot ops.toList j=some r∧j∈pre
  · obtain⟨j,h1,h2⟩:=e
    refine .inl ⟨j,h1,h2,?_,by rw [←D.t1 j r h1 h2];exact hv⟩
    rcases key j h1 with rfl | hk
    · exact absurd h2 hi
    · rw [if_pos (by simpa using h2)]at hk;exact anc_reach hk
  · have hnw:∀j,gslot ops.toList j=some r→j∉pre:=fun j hj hp=>e ⟨j,hj,hp⟩
    refine .inr ⟨by rw [←D.t2 r hnw];exact hv,fun j hj=> ?_⟩
    rcases key j hj with rfl | hk
    · exact .inl rfl
    · rw [if_neg (by simpa using hnw j hj)]at hk;exact .inr (anc_reach hk)
theorem pend_keep {c c':Ctx} {w w':World} {h h':Heap} (g:Grow c w h c' w' h') {b:Nat} {x:Go.Obj} (hb:w.heap[b]? =some x) (hno:¬Owned c h b) (hk:∀f,¬c.K f b):
    w'.heap[b]? =some x∧¬Owned c' h' b∧∀f,¬c'.K f b:=by
  have hlt:=lt_of_some hb
  refine⟨(g.kept b hlt hno).trans hb,fun ho=> ?_,fun f hf=> ?_⟩
  · rcases g.newO b ho with h | h
    · exact hno h
    · omega
  · rcases g.newK f b hf with h | h | h
    · exact hk f h
    · omega
    · exact hno h
theorem DI.listed (D:DI E G ops K s0 c0 w0 h0 pre lm suf s hs val pb L c w a) (hap:apartDst ops.toList=true) {i:Nat} {o:Oper} (ho:ops.toList[i]? =some o) (hp:i∈pre) (hd:∀e∈o.after.toList,Region.binds .any e=true→Lst L e.on)
    (hm:dOK s.m o.dst) {c':Ctx} {w':World} (g:Grow c w s.h c' w' s.h) (H:RelH c' w' s.h) (hn:c'.n=c.n) {u:Value} (hu:∀v,val i=some v→RelV c' w' u v):
    DI E G ops K s0 c0 w0 h0 pre lm suf s hs val pb (L.setIfInBounds i true) c' w' (a.put o.dst u):=by
  have hi:i<L.size:=by rw [D.size];have:=(List.getElem?_eq_some_iff.1 ho).1;simpa using this
  have hoff:∀j r,gslot ops.toList j=some r→j≠i→(a.put o.dst u).tmps[r]? =a.tmps[r]? :=fun j r hj hne=>put_ne (fun d hd e=>apart_ne hap ((gslot_of ho).trans hd) hj (Ne.symm hne) e)
  exact {
    run:=D.run,chk:=D.chk,cov:=D.cov
    done:=fun j h1 h2=>(Lst_set hi).2 (.inr (D.done j h1 h2))
    only:=fun j hj=>by
      rcases(Lst_set hi).1 hj with rfl | hj
      · exact .inl hp
      · exact D.only j hj
    closed:=D.closed.set ho hi hd
    size:=by simp [D.size]
    s1:=fun j r v h1 h2 h3 h4=>by
      by_cases e:j=i
      · subst e
        rw [gslot_of ho]at h1
        refine⟨u,?_,hu v h4⟩
        rw [h1]at hm ⊢
        exact put_same (by rw [D.tsize];exact hm)
      · obtain⟨u',a1,a2⟩:=D.s1 j r v h1 (((Lst_set hi).1 h2).resolve_left e) h3 h4
        exact⟨u',by rw [hoff j r h1 e];exact a1,a2.grow D.heap g⟩
    s2:=fun r v h1 h2=>by
      obtain⟨u',a1,a2⟩:=D.s2 r v (fun j hj hl=>h1 j hj ((Lst_set hi).2 (.inr hl))) h2
      exact⟨u',by rw [put_ne (fun d hd e=>h1 i (by rw [gslot_of ho,hd,e]) ((Lst_set hi).2 (.inl rfl)))];exact a1,a2.grow D.heap g⟩
    t1:=D.t1,t2:=D.t2
    pend:=fun j h1 h2=>D.pend j h1 (fun hl=>h2 ((Lst_set hi).2 (.inr hl)))
    pendA:=fun j h1 h2=>by
      have hji:j≠i:=fun e=>h2 (e▸hp)
      obtain⟨o',ty,y,d,vs,Et,p1,p2,p3,p4,p5,p6,p7,p8,p9,p10⟩:=D.pendA j (((Lst_set hi).1 h1).resolve_left hji) h2
      obtain⟨q1,q2,q3⟩:=pend_keep g p6 p8 p9
      exact⟨o',ty,y,d,vs,Et,p1,p2,p3,p4,by rw [hoff j d ((gslot_of p1).trans p4) hji];exact p5,q1,p7,q2,q3,p10⟩
    dist:=fun j k h1 h2 h3 h4=>D.dist j k (((Lst_set hi).1 h1).resolve_left (fun e=>h2 (e▸hp))) h2 (((Lst_set hi).1 h3).resolve_left (fun e=>h4 (e▸hp))) h4
    heap:=H
    glob:=D.glob.grow D.heap g
    grow:=D.grow.trans g
    cn:=hn.trans D.cn
    defers:=by rw [put_defers];exact D.defers
    tsize:=by rw [put_size];exact D.tsize
    sn:=D.sn,sm:=D.sm}
theorem DI.made (D:DI E G ops K s0 c0 w0 h0 pre lm suf s hs val pb L c w a) (hap:apartDst ops.toList=true) {i:Nat} {o:Oper} (ho:ops.toList[i]? =some o) (hp:i∉pre) (hnl:¬Lst L i) (hd:∀e∈o.after.toList,Region.binds .any e=true→Lst L e.on)
    {d:Nat} (hdst:o.dst=some d) (hm:d<s.m) {ty:TypeId} (hop:o.op= .alloc ty) {y:TY} (hy:E.ty ty=some y) {w':World} (g:Grow c w s.h c w' s.h) (H:RelH c w' s.h) {vs:Array Value} {Et:TypeId}
    (hb:w'.heap[w.heap.size]? =some (.cells vs Et (0,0))) (hz:∀c w,F2 (RelC c w) vs.toList y.zero):
    DI E G ops K s0 c0 w0 h0 pre lm suf s hs val (fun j=>if j=i then w.heap.size else pb j) (L.setIfInBounds i true) c w' (a.put o.dst (.pointer (some ⟨w.heap.size,0,none⟩))):=by
  have hi:i<L.size:=by rw [D.size];have:=(List.getElem?_eq_some_iff.1 ho).1;simpa using this
  have hoff:∀j r u,gslot ops.toList j=some r→j≠i→(a.put o.dst u).tmps[r]? =a.tmps[r]? :=fun j r u hj hne=>put_ne (fun d hd e=>apart_ne hap ((gslot_of ho).trans hd) hj (Ne.symm hne) e)
  have hpb:∀j,Lst L j→j∉pre→pb j<w.heap.size:=fun j h1 h2=>by
    obtain⟨_,_,_,_,_,_,_,_,_,_,_,p6,_⟩:=D.pendA j h1 h2;exact lt_of_some p6
  exact {
    run:=D.run,chk:=D.chk,cov:=D.cov
    done:=fun j h1 h2=>(Lst_set hi).2 (.inr (D.done j h1 h2))
    only:=fun j hj=>by
      rcases(Lst_set hi).1 hj with rfl | hj
      · exact .inr (by simp [kindAt,ho,hop,kindOf])
      · exact D.only j hj
    closed:=D.closed.set ho hi hd
    size:=by simp [D.size]
    s1:=fun j r v h1 h2 h3 h4=>by
      have e:j≠i:=fun e=>hp (e▸h3)
      obtain⟨u',a1,a2⟩:=D.s1 j r v h1 (((Lst_set hi).1 h2).resolve_left e) h3 h4
      exact⟨u',by rw [hoff j r _ h1 e];exact a1,a2.grow D.heap g⟩
    s2:=fun r v h1 h2=>by
      obtain⟨u',a1,a2⟩:=D.s2 r v (fun j hj hl=>h1 j hj ((Lst_set hi).2 (.inr hl))) h2
      exact⟨u',by rw [put_ne (fun d hd e=>h1 i (by rw [gslot_of ho,hd,e]) ((Lst_set hi).2 (.inl rfl)))];exact a1,a2.grow D.heap g⟩
    t1:=D.t1,t2:=D.t2
    pend:=fun j h1 h2=>D.pend j h1 (fun hl=>h2 ((Lst_set hi).2 (.inr hl)))
    pendA:=fun j h1 h2=>by
      by_cases e:j=i
      · subst e
        simp only [if_true]
        refine⟨o,ty,y,d,vs,Et,ho,hop,hy,hdst,?_,hb,hz,fun ho'=> ?_,fun f hf=> ?_,D.grow.size⟩
        · rw [hdst];exact put_same (by rw [D.tsize];exact hm)
        · exact absurd (D.heap.lt ho') (Nat.lt_irrefl _)
        · exact absurd (D.heap.low f _ hf) (Nat.lt_irrefl _)
      · obtain⟨o',ty,y,d,vs,Et,p1,p2,p3,p4,p5,p6,p7,p8,p9,p10⟩:=D.pendA j (((Lst_set hi).1 h1).resolve_left e) h2
        obtain⟨q1,q2,q3⟩:=pend_keep g p6 p8 p9
        simp only [e,if_false]
        exact⟨o',ty,y,d,vs,Et,p1,p2,p3,p4,by rw [hoff j d _ ((gslot_of p1).trans p4) e];exact p5,q1,p7,q2,q3,p10⟩
    dist:=fun j k h1 h2 h3 h4 he=>by
      by_cases e:j=i
      · by_cases e':k=i
        · exact e.trans e'.symm
        · simp only [e,e',if_true,if_false]at he
          have:=hpb k (((Lst_set hi).1 h3).resolve_left e') h4;omega
      · by_cases e':k=i
        · simp only [e,e',if_true,if_false]at he
          have:=hpb j (((Lst_set hi).1 h1).resolve_left e) h2;omega
        · simp only [e,e',if_false]at he
          exact D.dist j k (((Lst_set hi).1 h1).resolve_left e) h2 (((Lst_set hi).1 h3).resolve_left e') h4 he
    heap:=H
    glob:=D.glob.grow D.heap g
    grow:=D.grow.trans g
    cn:=D.cn
    defers:=by rw [put_defers];exact D.defers
    tsize:=by rw [put_size];exact D.tsize
    sn:=D.sn,sm:=D.sm}
end
end Go.AE
namespace Go.AE
open Go
variable [LitK]
theorem putS_h {s:St} {d:Option Nat} {v:Option PV}:(s.put d v).h=s.h∧(s.put d v).n=s.n∧(s.put d v).k=s.k∧(s.put d v).m=s.m:=by cases d<;>exact⟨rfl,rfl,rfl,rfl⟩
theorem putS_ne {s:St} {o:Option Nat} {v:Option PV} {r:Nat} (h:∀d,o=some d→d≠r):lookS (s.put o v).t r=lookS s.t r:=by
  cases o with
  | none=>rfl
  | some d=>simp only [St.put,lookS_put];rw [if_neg (h d rfl)]
theorem putS_same {s:St} {d:Nat} {v:Option PV}:lookS (s.put (some d) v).t d=v:=by simp [St.put,lookS_put]
theorem loadA_new {E:Tab} {h:Heap} {l0:Nat} {ob:AObj} (hl:look h l0=none) {ty:TypeId} {p:PV} {K:PV→Prop} (hk:loadA E h ty p K):loadA E ((l0,ob)::h) ty p K:=by
  unfold loadA at hk ⊢
  cases hy:E.ty ty with
  | none=>rw [hy]at hk;exact hk.elim
  | some y=>
    rw [hy]at hk
    simp only [withTY]at hk ⊢
    split
    · rename_i l sz i j
      simp only at hk
      by_cases e:l0=l
      · subst e;rw [hl]at hk;exact hk.elim
      · rw [look_cons_ne ob h e];exact hk
    · exact hk
    · rename_i h1 h2
      split at hk
      · exact absurd rfl (h1 _ _ _ _)
      · exact absurd rfl (h2 _ _ _ _ _)
      · exact hk
theorem pureA_new {E:Tab} {h:Heap} {l0:Nat} {ob:AObj} (hl:look h l0=none) {op:Op} {t:Slots} {K:PV→Prop} (hk:pureA E op t h K):pureA E op t ((l0,ob)::h) K:=by
  by_cases hld:isLoad op=false
  · rw [←pureA_heap hld t h];exact hk
  · cases op<;>first | (exact absurd rfl hld) | skip
    rename_i ty p
    simp only [pureA]at hk ⊢
    obtain⟨v,hv,hk⟩:=withV_some hk
    rw [hv]
    exact loadA_new hl hk
theorem evalF_new {E:Tab} {ops:List Oper} {o:Oper} {h:Heap} {l0:Nat} {ob:AObj} (hl:look h l0=none) {t:Slots} {K:Option PV→Prop} (hk:evalF E ops o t h K):evalF E ops o t ((l0,ob)::h) K:=by
  unfold evalF at hk ⊢
  split at hk
  · exact pureA_new hl hk
  · rename_i j want hg
    cases hd:gslot ops j with
    | none=>rw [hd]at hk;exact hk.elim
    | some d=>
      rw [hd]at hk
      simp only [gcase]at hk ⊢
      rcases guardU_inv hk with⟨f,b,hv,hT,hF⟩ | ⟨hv,hF⟩
      · rw [hv];exact guardU_intro (fun e=>pureA_new hl (hT e)) hF
      · rw [hv];exact hF
theorem findH_ne {i j:Nat} {x:Oper×Slots×Option PV} {hs:List Held} (h:i≠j):findH ((i,x)::hs) j=findH hs j:=by simp [findH,h]
section
variable {E:Tab} {G:Ctab} {ops:Array Oper} {K:St→Prop} {s0:St} {c0:Ctx} {w0:World} {h0:Heap} {pre:List Nat} {lm:Option Nat} {suf:List DEnt} {s:St} {hs:List Held}
  {val:Nat→Option PV} {pb:Nat→Nat} {L:Array Bool} {c:Ctx} {w:World} {a:Act}
structure ChkAt (ops:List Oper) (pre:List Nat) (lm:Option Nat) (i:Nat) (rs cs:List Nat) (r:List DEnt):Prop where
  lt:i<ops.length
  new:i∉pre
  rd:rdOK ops (ancM (masks ops)) pre i rs=true
  after:kindAt ops i=2∨∀q,lm=some q→ancM (masks ops) i q=true
  two:kindAt ops i=2→aNext ops (ancM (masks ops)) i r=true∧(gslot ops i).isSome=true
  three:kindAt ops i=3→∀j∈pre,loadAt ops j=true→ancM (masks ops) i j=true∨j∈cs
  guard:kindAt ops i≠0→kindAt ops i≠3→hasGuard ops i=false
  rest:chkGo ops (ancM (masks ops)) (i::pre) (if kindAt ops i=3 then some i else lm) r=true
theorem chk_at {ops:List Oper} {pre:List Nat} {lm:Option Nat} {i:Nat} {rs cs:List Nat} {r:List DEnt} (h:chkGo ops (ancM (masks ops)) pre lm ((i,rs,cs)::r)=true):ChkAt ops pre lm i rs cs r:=by
  unfold chkGo at h
  simp only [Bool.and_eq_true,decide_eq_true_eq,Bool.not_eq_true',Bool.or_eq_true,beq_iff_eq]at h
  obtain⟨⟨⟨⟨⟨⟨h1,h2⟩,h3⟩,h4⟩,h5⟩,h6⟩,h7⟩:=h
  refine⟨h1,by simpa using h2,h3,h4.imp id (fun h q hq=>by rw [hq]at h;exact h),fun hk=> ?_,fun hk j hj hl=> ?_,fun hk hk3=> ?_,h7⟩
  · rw [hk]at h5
    simpa using h5
  · rw [hk]at h5
    simp only [List.all_eq_true,Bool.or_eq_true,Bool.not_eq_true',List.contains_eq_mem,decide_eq_true_eq]at h5
    rcases h5 j hj with(h | h) | h
    · rw [hl]at h;cases h
    · exact .inl h
    · exact .inr h
  · exact h6.resolve_left (fun h=>h.elim hk hk3)
theorem Src.mono {ops:List Oper} {s0:St} {pre:List Nat} {val:Nat→Option PV} {i r:Nat} {v:PV} {n:Nat} (hn:n∉pre) (x:Option PV) (h:Src ops s0 pre val i r v):Src ops s0 (n::pre) (fun j=>if j=n then x else val j) i r v:=by
  rcases h with⟨j,h1,h2,h3,h4⟩ | h
  · exact .inl ⟨j,h1,List.mem_cons_of_mem _ h2,h3,by show(if j=n then x else val j)=some v;rw [if_neg (fun(e:j=n)=>hn (e▸h2))];exact h4⟩
  · exact .inr h
theorem DI.push {i:Nat} {rs cs:List Nat} {r:List DEnt} (D:DI E G ops K s0 c0 w0 h0 pre lm ((i,rs,cs)::r) s hs val pb L c w a) (hap:apartDst ops.toList=true) {o:Oper} (ho:ops.toList[i]? =some o) (hk:kindAt ops.toList i≤1)
    (hm:dOK s.m o.dst) (v:Option PV) (hs':List Held) (hrun:drawRun E G ops.toList r hs' K (s.put o.dst v)) (hh:∀j,j≠i→findH hs' j=findH hs j)
    (hc:(kindOf o.op=0∧findH hs' i=some (o,cut s.t rs,v)∧evalF E ops.toList o (cut s.t rs) s.h (fun v'=>v'=v))∨(kindOf o.op=1∧o.guard=none∧zA E o.op (cut s.t rs) (fun v'=>v=some v'))):
    DI E G ops K s0 c0 w0 h0 (i::pre) (if kindAt ops.toList i=3 then some i else lm) r (s.put o.dst v) hs' (fun j=>if j=i then v else val j) pb L c w a:=by
  have C:=chk_at D.chk
  have hnl:¬Lst L i:=fun hl=>(D.only i hl).elim C.new (fun h=>by omega)
  obtain⟨ph,pn,pk,pm⟩:= @putS_h _ s o.dst v
  exact {
    run:=hrun
    chk:=C.rest
    cov:=fun j hj=>by
      rcases D.cov j hj with h | h
      · exact .inl (List.mem_cons_of_mem _ h)
      · simp only [List.map_cons,List.mem_cons]at h
        rcases h with rfl | h
        · exact .inl (by simp)
        · exact .inr h
    done:=fun j h1 h2=>by
      rcases List.mem_cons.1 h1 with rfl | h1
      · omega
      · exact D.done j h1 h2
    only:=fun j hj=>(D.only j hj).imp (List.mem_cons_of_mem _) id
    closed:=D.closed,size:=D.size
    s1:=fun j x v' h1 h2 h3 h4=>by
      have e:j≠i:=fun e=>hnl (e▸h2)
      simp only [e,if_false]at h4
      exact D.s1 j x v' h1 h2 ((List.mem_cons.1 h3).resolve_left e) h4
    s2:=D.s2
    t1:=fun j x h1 h2=>by
      by_cases e:j=i
      · subst e
        rw [gslot_of ho]at h1
        rw [h1,if_pos rfl];exact putS_same
      · rw [if_neg e,putS_ne (fun d hd e'=>apart_ne hap ((gslot_of ho).trans hd) h1 (Ne.symm e) e')]
        exact D.t1 j x h1 ((List.mem_cons.1 h2).resolve_left e)
    t2:=fun x h1=>by
      rw [putS_ne (fun d hd e'=>h1 i (by rw [gslot_of ho,hd,e']) (by simp))]
      exact D.t2 x (fun j hj hp=>h1 j hj (List.mem_cons_of_mem _ hp))
    pend:=fun j h1 h2=>by
      by_cases e:j=i
      · subst e
        refine⟨o,cut s.t rs,ho,by rw [pm];exact hm,fun x v' hv=>Src.mono C.new v (D.rd C.new C.rd x v' hv),?_⟩
        simp only [if_true]
        rw [ph]
        exact hc
      · obtain⟨o',t,p1,p2,p3,p4⟩:=D.pend j ((List.mem_cons.1 h1).resolve_left e) h2
        refine⟨o',t,p1,by rw [pm];exact p2,fun x v' hv=>Src.mono C.new v (p3 x v' hv),?_⟩
        simp only [e,if_false]
        rw [ph,hh j e]
        exact p4
    pendA:=fun j h1 h2=>by rw [ph];exact D.pendA j h1 (fun hp=>h2 (List.mem_cons_of_mem _ hp))
    dist:=fun j k h1 h2 h3 h4=>D.dist j k h1 (fun hp=>h2 (List.mem_cons_of_mem _ hp)) h3 (fun hp=>h4 (List.mem_cons_of_mem _ hp))
    heap:=by rw [ph];exact D.heap
    glob:=D.glob
    grow:=by rw [ph];exact D.grow
    cn:=by rw [pn,pk];exact D.cn
    defers:=D.defers
    tsize:=by rw [pm];exact D.tsize
    sn:=by rw [pn];exact D.sn
    sm:=by rw [pm];exact D.sm}
theorem kind_of {ops:List Oper} {i:Nat} {o:Oper} (h:ops[i]? =some o):kindAt ops i=kindOf o.op:=by simp [kindAt,h]
theorem DI.adv (hap:apartDst ops.toList=true):∀(suf:List DEnt) {pre:List Nat} {lm:Option Nat} {s:St} {hs:List Held} {val:Nat→Option PV},DI E G ops K s0 c0 w0 h0 pre lm suf s hs val pb L c w a→
    ∃pre' lm' suf' s' hs' val',DI E G ops K s0 c0 w0 h0 pre' lm' suf' s' hs' val' pb L c w a∧∀i rs cs r,suf'=(i,rs,cs)::r→2≤kindAt ops.toList i
  | [],pre,lm,s,hs,val,D=>⟨pre,lm,[],s,hs,val,D,fun _ _ _ _ h=>by cases h⟩
  | (i,rs,cs)::r,pre,lm,s,hs,val,D=>by
    have C:=chk_at D.chk
    by_cases hk:2≤kindAt ops.toList i
    · exact⟨pre,lm,_,s,hs,val,D,fun i' _ _ _ h=>by cases h;exact hk⟩
    · have hrun:=D.run
      unfold drawRun at hrun
      cases ho:ops.toList[i]? with
      | none=>rw [ho]at hrun;exact hrun.elim
      | some o=>
        rw [ho]at hrun
        obtain⟨hm,hrun⟩:=hrun
        have hko:=kind_of ho
        split at hrun
        · rename_i h0
          obtain⟨v,hv,he⟩:=evalF_fun _ _ _ _ _ _ hrun
          exact DI.adv hap r (D.push hap ho (by omega) hm v _ hv (fun j hj=>findH_ne (Ne.symm hj)) (.inl ⟨h0,by simp [findH],he⟩))
        · rename_i h0
          obtain⟨v,hv,he⟩:=zA_fun _ _ _ _ hrun
          have hg:=C.guard (by omega) (by omega)
          have hg':o.guard=none:=by simpa [hasGuard,ho]using hg
          refine DI.adv hap r (D.push hap ho (by omega) hm (some v) _ hv (fun j hj=>rfl) (.inr ⟨h0,hg',?_⟩))
          have:(fun v'=>some v=some v')=(fun v'=>v'=v):=by funext x;simp [eq_comm]
          rw [this];exact he
        · omega
        · rename_i h1 h2 h3
          have:kindOf o.op=0∨kindOf o.op=1:=by omega
          rcases this with h | h
          · exact absurd h h1
          · exact absurd h h2
end
end Go.AE
namespace Go.AE
open Go
variable [LitK]
section
variable {E:Tab} {G:Ctab} {ops:Array Oper} {K:St→Prop} {s0:St} {c0:Ctx} {w0:World} {h0:Heap} {pre:List Nat} {lm:Option Nat} {suf:List DEnt} {s:St} {hs:List Held}
  {val:Nat→Option PV} {pb:Nat→Nat} {L:Array Bool} {c:Ctx} {w:World} {a:Act}
theorem DI.reg {i:Nat} {rs cs:List Nat} {r:List DEnt} (D:DI E G ops K s0 c0 w0 h0 pre lm ((i,rs,cs)::r) s hs val pb L c w a) (hap:apartDst ops.toList=true) (hk:kindAt ops.toList i=2) (hl:Lst L i):
    ∃s' val' c',DI E G ops K s0 c0 w0 h0 (i::pre) lm r s' hs val' pb L c' w a:=by
  have C:=chk_at D.chk
  obtain⟨o,ty,y,d,vs,Et,ho,hop,hy,hdst,hu,hb,hz,hno,hnk,hge⟩:=D.pendA i hl C.new
  have hrun:=D.run
  unfold drawRun at hrun
  rw [ho]at hrun
  obtain⟨hm,hrun⟩:=hrun
  have h2:kindOf o.op=2:=by rw [←kind_of ho];exact hk
  rw [h2]at hrun
  simp only [heapA,hop,hy,withTY]at hrun
  obtain⟨hz0,hrun⟩:=hrun
  have hrest:chkGo ops.toList (ancM (masks ops.toList)) (i::pre) lm r=true:=by have:=C.rest;rw [hk]at this;exact this
  rw [←D.cn]at hrun
  obtain⟨ph,pn,pk,pm⟩:= @putS_h _ {s with h:=(c.n,.box y.zero)::s.h,k:=s.k+1} o.dst (some (.c (.ptr c.n y.size 0 0)))
  have hle:=c.name_le (some (pb i))
  have hO:RelO (c.name (some (pb i))) w c.n (.box y.zero):=⟨pb i,vs.toList,Et,by simp [Ctx.name,upd],hb,hz _ _⟩
  have H':=D.heap.reg hO hno hnk
  have hfresh:look s.h c.n=none:=by
    cases hx:look s.h c.n with
    | none=>rfl
    | some ob=>exact absurd (D.heap.obj _ _ hx).1 (Nat.lt_irrefl _)
  have mono:∀ {u:Value} {v:PV},RelV c w u v→RelV (c.name (some (pb i))) w u v:=fun h=>h.mono hle (fun _ _ _=>rfl) (.refl _)
  refine⟨_,fun j=>if j=i then some (.c (.ptr c.n y.size 0 0))else val j,c.name (some (pb i)),{
    run:=hrun
    chk:=hrest
    cov:=fun j hj=>by
      rcases D.cov j hj with h | h
      · exact .inl (List.mem_cons_of_mem _ h)
      · simp only [List.map_cons,List.mem_cons]at h
        rcases h with rfl | h
        · exact .inl (by simp)
        · exact .inr h
    done:=fun j h1 h2=>by
      rcases List.mem_cons.1 h1 with rfl | h1
      · exact hl
      · exact D.done j h1 h2
    only:=fun j hj=>(D.only j hj).imp (List.mem_cons_of_mem _) id
    closed:=D.closed,size:=D.size
    s1:=fun j x v' h1 h2 h3 h4=>by
      by_cases e:j=i
      · subst e
        simp only [if_true,Option.some.injEq]at h4
        subst h4
        rw [gslot_of ho,hdst]at h1
        cases h1
        refine⟨_,hu,?_⟩
        have:=RelC.ptr (c:=c.name (some (pb j))) (w:=w) c.n y.size 0 0 (pb j) (Nat.lt_succ_self _) (by simp [Ctx.name,upd])
        exact .c _ _ (by simpa using this)
      · simp only [e,if_false]at h4
        obtain⟨u,a1,a2⟩:=D.s1 j x v' h1 h2 ((List.mem_cons.1 h3).resolve_left e) h4
        exact⟨u,a1,mono a2⟩
    s2:=fun x v' h1 h2=>let⟨u,a1,a2⟩:=D.s2 x v' h1 h2;⟨u,a1,mono a2⟩
    t1:=fun j x h1 h2=>by
      by_cases e:j=i
      · subst e
        rw [gslot_of ho]at h1
        rw [h1,if_pos rfl];exact putS_same
      · rw [if_neg e,putS_ne (fun d hd e'=>apart_ne hap ((gslot_of ho).trans hd) h1 (Ne.symm e) e')]
        exact D.t1 j x h1 ((List.mem_cons.1 h2).resolve_left e)
    t2:=fun x h1=>by
      rw [putS_ne (fun d hd e'=>h1 i (by rw [gslot_of ho,hd,e']) (by simp))]
      exact D.t2 x (fun j hj hp=>h1 j hj (List.mem_cons_of_mem _ hp))
    pend:=fun j h1 h2=>by
      have e:j≠i:=fun e=>h2 (e▸hl)
      obtain⟨o',t,p1,p2,p3,p4⟩:=D.pend j ((List.mem_cons.1 h1).resolve_left e) h2
      refine⟨o',t,p1,by rw [pm];exact p2,fun x v' hv=>Src.mono C.new _ (p3 x v' hv),?_⟩
      simp only [e,if_false]
      rw [ph]
      rcases p4 with⟨q1,q2,q3⟩ | q
      · exact .inl ⟨q1,q2,evalF_new hfresh q3⟩
      · exact .inr q
    pendA:=fun j h1 h2=>by
      have e:j≠i:=fun e=>h2 (e▸List.mem_cons_self)
      obtain⟨o',ty,y',d,vs,Et,p1,p2,p3,p4,p5,p6,p7,p8,p9,p10⟩:=D.pendA j h1 (fun hp=>h2 (List.mem_cons_of_mem _ hp))
      refine⟨o',ty,y',d,vs,Et,p1,p2,p3,p4,p5,p6,p7,?_,p9,p10⟩
      rw [ph]
      rintro⟨l,ob,b1,b2,b3⟩
      by_cases e':c.n=l
      · subst e'
        have:(c.name (some (pb i))).μ c.n=some (pb i):=by simp [Ctx.name,upd]
        rw [this]at b3
        exact e (D.dist j i h1 (fun hp=>h2 (List.mem_cons_of_mem _ hp)) hl C.new (Option.some.inj b3).symm)
      · rw [look_cons_ne _ _ e']at b1
        exact p8 ⟨l,ob,b1,b2,by rw [←hle.μ l (D.heap.obj l ob b1).1];exact b3⟩
    dist:=fun j k h1 h2 h3 h4=>D.dist j k h1 (fun hp=>h2 (List.mem_cons_of_mem _ hp)) h3 (fun hp=>h4 (List.mem_cons_of_mem _ hp))
    heap:=by rw [ph];exact H'
    glob:=D.glob
    grow:=by rw [ph];exact D.grow.reg D.heap hge
    cn:=by
      rw [pn,pk]
      show c.n+1=nm s.n (s.k+1)
      rw [D.cn];simp [nm,Nat.add_assoc]
    defers:=D.defers
    tsize:=by rw [pm];exact D.tsize
    sn:=by rw [pn];exact D.sn
    sm:=by rw [pm];exact D.sm}⟩
theorem reck_at {E:Tab} {ops:List Oper} {h:Heap} {hs:List Held} {j:Nat}:∀ {cs:List Nat},reck E ops h hs cs→j∈cs→∀ {o:Oper} {t:Slots} {v:Option PV},findH hs j=some (o,t,v)→evalF E ops o t h (fun v'=>v'=v)
  | [],_,hj,_,_,_,_=>by cases hj
  | x::cs,hr,hj,o,t,v,hf=>by
    rcases List.mem_cons.1 hj with rfl | hj
    · have:=hr.1
      rw [hf]at this
      exact this
    · exact reck_at hr.2 hj hf
theorem DI.step {i:Nat} {rs cs:List Nat} {r:List DEnt} (D:DI E G ops K s0 c0 w0 h0 pre lm ((i,rs,cs)::r) s hs val pb L c w a)
    (hap:apartDst ops.toList=true) (hk:kindAt ops.toList i=3) {o:Oper} (ho:ops.toList[i]? =some o) (hd:∀e∈o.after.toList,Region.binds .any e=true→Lst L e.on) (hm:dOK s.m o.dst)
    {u:Value} {v:PV} {c':Ctx} {w':World} {h':Heap} {k':Nat} (g:Grow c w s.h c' w' h') (H:RelH c' w' h') (hn:c'.n=nm s.n k') (hrel:RelV c' w' u v)
    (hld:∀j o' t,j∈pre→¬Lst L j→ops.toList[j]? =some o'→isLoad o'.op=true→findH hs j=some (o',t,val j)→evalF E ops.toList o' t s.h (fun v'=>v'=val j)→evalF E ops.toList o' t h' (fun v'=>v'=val j))
    (hrun:drawRun E G ops.toList r hs K (St.put {s with h:=h',k:=k'} o.dst (some v))):
    DI E G ops K s0 c0 w0 h0 (i::pre) (if kindAt ops.toList i=3 then some i else lm) r (St.put {s with h:=h',k:=k'} o.dst (some v)) hs (fun j=>if j=i then some v else val j) pb (L.setIfInBounds i true) c' w' (a.put o.dst u):=by
  have C:=chk_at D.chk
  have hnl:¬Lst L i:=fun hl=>(D.only i hl).elim C.new (fun h=>by omega)
  have hi:i<L.size:=by rw [D.size];simpa using C.lt
  obtain⟨ph,pn,pk,pm⟩:= @putS_h _ {s with h:=h',k:=k'} o.dst (some v)
  have hoff:∀j r u,gslot ops.toList j=some r→j≠i→(a.put o.dst u).tmps[r]? =a.tmps[r]? :=fun j r u hj hne=>put_ne (fun d hd e=>apart_ne hap ((gslot_of ho).trans hd) hj (Ne.symm hne) e)
  exact {
    run:=hrun
    chk:=C.rest
    cov:=fun j hj=>by
      rcases D.cov j hj with h | h
      · exact .inl (List.mem_cons_of_mem _ h)
      · simp only [List.map_cons,List.mem_cons]at h
        rcases h with rfl | h
        · exact .inl (by simp)
        · exact .inr h
    done:=fun j h1 h2=>(Lst_set hi).2 (by
      rcases List.mem_cons.1 h1 with rfl | h1
      · exact .inl rfl
      · exact .inr (D.done j h1 h2))
    only:=fun j hj=>by
      rcases(Lst_set hi).1 hj with rfl | hj
      · exact .inl (by simp)
      · exact(D.only j hj).imp (List.mem_cons_of_mem _) id
    closed:=D.closed.set ho hi hd
    size:=by simp [D.size]
    s1:=fun j x v' h1 h2 h3 h4=>by
      by_cases e:j=i
      · subst e
        simp only [if_true,Option.some.injEq]at h4
        subst h4
        rw [gslot_of ho]at h1
        refine⟨u,?_,hrel⟩
        rw [h1]at hm ⊢
        exact put_same (by rw [D.tsize];exact hm)
      · simp only [e,if_false]at h4
        obtain⟨u',a1,a2⟩:=D.s1 j x v' h1 (((Lst_set hi).1 h2).resolve_left e) ((List.mem_cons.1 h3).resolve_left e) h4
        exact⟨u',by rw [hoff j x u h1 e];exact a1,a2.grow D.heap g⟩
    s2:=fun x v' h1 h2=>by
      obtain⟨u',a1,a2⟩:=D.s2 x v' (fun j hj hl=>h1 j hj ((Lst_set hi).2 (.inr hl))) h2
      exact⟨u',by rw [put_ne (fun d hd e=>h1 i (by rw [gslot_of ho,hd,e]) ((Lst_set hi).2 (.inl rfl)))];exact a1,a2.grow D.heap g⟩
    t1:=fun j x h1 h2=>by
      by_cases e:j=i
      · subst e
        rw [gslot_of ho]at h1
        rw [h1,if_pos rfl];exact putS_same
      · rw [if_neg e,putS_ne (fun d hd e'=>apart_ne hap ((gslot_of ho).trans hd) h1 (Ne.symm e) e')]
        exact D.t1 j x h1 ((List.mem_cons.1 h2).resolve_left e)
    t2:=fun x h1=>by
      rw [putS_ne (fun d hd e'=>h1 i (by rw [gslot_of ho,hd,e']) (by simp))]
      exact D.t2 x (fun j hj hp=>h1 j hj (List.mem_cons_of_mem _ hp))
    pend:=fun j h1 h2=>by
      have e:j≠i:=fun e=>h2 ((Lst_set hi).2 (.inl e))
      have hnj:¬Lst L j:=fun hl=>h2 ((Lst_set hi).2 (.inr hl))
      have hjp:=(List.mem_cons.1 h1).resolve_left e
      obtain⟨o',t,p1,p2,p3,p4⟩:=D.pend j hjp hnj
      refine⟨o',t,p1,by rw [pm];exact p2,fun x v' hv=>Src.mono C.new _ (p3 x v' hv),?_⟩
      simp only [e,if_false]
      rw [ph]
      rcases p4 with⟨q1,q2,q3⟩ | q
      · refine .inl ⟨q1,q2,?_⟩
        by_cases hlo:isLoad o'.op=true
        · exact hld j o' t hjp hnj p1 hlo q2 q3
        · show evalF E ops.toList o' t h' _
          rw [←evalF_heap (by simpa using hlo) t s.h h'];exact q3
      · exact .inr q
    pendA:=fun j h1 h2=>by
      have e:j≠i:=fun e=>h2 (e▸List.mem_cons_self)
      obtain⟨o',ty,y',d,vs,Et,p1,p2,p3,p4,p5,p6,p7,p8,p9,p10⟩:=D.pendA j (((Lst_set hi).1 h1).resolve_left e) (fun hp=>h2 (List.mem_cons_of_mem _ hp))
      obtain⟨q1,q2,q3⟩:=pend_keep g p6 p8 p9
      exact⟨o',ty,y',d,vs,Et,p1,p2,p3,p4,by rw [hoff j d u ((gslot_of p1).trans p4) e];exact p5,q1,p7,by rw [ph];exact q2,q3,p10⟩
    dist:=fun j k h1 h2 h3 h4=>by
      have e:j≠i:=fun e=>h2 (e▸List.mem_cons_self)
      have e':k≠i:=fun e=>h4 (e▸List.mem_cons_self)
      exact D.dist j k (((Lst_set hi).1 h1).resolve_left e) (fun hp=>h2 (List.mem_cons_of_mem _ hp)) (((Lst_set hi).1 h3).resolve_left e') (fun hp=>h4 (List.mem_cons_of_mem _ hp))
    heap:=by rw [ph];exact H
    glob:=D.glob.grow D.heap g
    grow:=by rw [ph];exact D.grow.trans g
    cn:=by rw [pn,pk];exact hn
    defers:=by rw [put_defers];exact D.defers
    tsize:=by rw [put_size,pm];exact D.tsize
    sn:=by rw [pn];exact D.sn
    sm:=by rw [pm];exact D.sm}
theorem DI.mut (hE:TabOK E) (hG:CtabOK E G) {Q:Exit→Act→World→Prop} {i:Nat} {rs cs:List Nat} {r:List DEnt} (D:DI E G ops K s0 c0 w0 h0 pre lm ((i,rs,cs)::r) s hs val pb L c w a)
    (hap:apartDst ops.toList=true) (hk:kindAt ops.toList i=3) {o:Oper} (ho:ops.toList[i]? =some o) (hd:∀e∈o.after.toList,Region.binds .any e=true→Lst L e.on) {next:Act→World→Prop} (hm:dOK s.m o.dst)
    (hrun:mutA E G o (cut s.t rs) s fun v h k=>reck E ops.toList h hs cs∧drawRun E G ops.toList r hs K (St.put {s with h:=h,k:=k} o.dst (some v)))
    (hnext:∀lm' s' val' c' w' u,DI E G ops K s0 c0 w0 h0 (i::pre) lm' r s' hs val' pb (L.setIfInBounds i true) c' w' (a.put o.dst u)→next (a.put o.dst u) w'):o.wp E.P a w next Q:=by
  have C:=chk_at D.chk
  have hnl:¬Lst L i:=fun hl=>(D.only i hl).elim C.new (fun h=>by omega)
  have A:=D.src ho hnl hd (D.rd C.new C.rd) s.h D.heap
  refine mutA_sound hE hG A D.cn o ?_ hrun
  rintro u v c' w' h' k' g H hn hrel ⟨hck,hrun⟩
  refine hnext _ _ _ c' w' u (D.step hap hk ho hd hm g H hn hrel (fun j o' t hjp hnj p1 hlo q2 q3=> ?_) hrun)
  rcases C.three hk j hjp (by simp only [loadAt,p1];exact hlo)with hx | hx
  · exact absurd (reach_in D.closed (anc_reach hx) (fun o'' ho'=>by rw [ho]at ho';cases ho';exact hd)) hnj
  · exact reck_at hck hx q2
theorem not_pre {ops:List Oper} {anc:Nat→Nat→Bool} {q:Nat}:∀ {suf:List DEnt} {pre:List Nat} {lm:Option Nat},chkGo ops (ancM (masks ops)) pre lm suf=true→q∈suf.map (·.1)→q∉pre
  | [],_,_,_,hq=>by cases hq
  | (i,rs,cs)::r,pre,lm,h,hq=>by
    have C:=chk_at h
    simp only [List.map_cons,List.mem_cons]at hq
    rcases hq with rfl | hq
    · exact C.new
    · exact fun hp=>not_pre (anc:=anc) C.rest hq (List.mem_cons_of_mem _ hp)
theorem chk_anc {ops:List Oper} {i:Nat} (hk:kindAt ops i≠2):∀ {suf:List DEnt} {pre:List Nat} {lm:Option Nat},chkGo ops (ancM (masks ops)) pre lm suf=true→i∈suf.map (·.1)→
    (∃q,q∈suf.map (·.1)∧kindAt ops q=3∧ancM (masks ops) i q=true)∨∀q,lm=some q→ancM (masks ops) i q=true
  | [],_,_,_,hq=>by cases hq
  | (x,rs,cs)::r,pre,lm,h,hq=>by
    have C:=chk_at h
    simp only [List.map_cons,List.mem_cons]at hq
    rcases hq with rfl | hq
    · exact .inr (C.after.resolve_left hk)
    · rcases chk_anc hk C.rest hq with⟨q,h1,h2,h3⟩ | h1
      · exact .inl ⟨q,by simp only [List.map_cons,List.mem_cons];exact .inr h1,h2,h3⟩
      · by_cases hx:kindAt ops x=3
        · rw [if_pos hx]at h1
          exact .inl ⟨x,by simp,hx,h1 x rfl⟩
        · rw [if_neg hx]at h1;exact .inr h1
theorem chk_float {ops:List Oper} {i:Nat} (hk:kindAt ops i≤1):∀ {suf:List DEnt} {pre:List Nat} {lm:Option Nat},chkGo ops (ancM (masks ops)) pre lm suf=true→i∈suf.map (·.1)→(∀x rs cs r,suf=(x,rs,cs)::r→kindAt ops x=2∨kindAt ops x=3)→
    ∃q,q∈suf.map (·.1)∧kindAt ops q=3∧ancM (masks ops) i q=true
  | [],_,_,_,hq,_=>by cases hq
  | (x,rs,cs)::r,pre,lm,h,hq,hh=>by
    have C:=chk_at h
    simp only [List.map_cons,List.mem_cons]at hq ⊢
    have hx:=hh x rs cs r rfl
    have hne:i≠x:=fun e=>by subst e;omega
    have hq:=hq.resolve_left hne
    rcases hx with hx | hx
    · have hn:=(C.two hx).1
      have hr:∀y rs cs r',r=(y,rs,cs)::r'→kindAt ops y=2∨kindAt ops y=3:=fun y rs cs r' e=>by
        subst e
        unfold aNext at hn
        split at hn
        · rename_i e;exact .inl e
        · simp only [Bool.and_eq_true,beq_iff_eq]at hn;exact .inr hn.1
      obtain⟨q,h1,h2,h3⟩:=chk_float hk C.rest hq hr
      exact⟨q,.inr h1,h2,h3⟩
    · rcases chk_anc (by omega) C.rest hq with⟨q,h1,h2,h3⟩ | h1
      · exact⟨q,.inr h1,h2,h3⟩
      · rw [if_pos hx]at h1
        exact⟨x,.inl rfl,hx,h1 x rfl⟩
theorem chk_next {ops:List Oper} {i x:Nat} (hk:kindAt ops i=3):∀ {r:List DEnt} {pre:List Nat} {lm:Option Nat},chkGo ops (ancM (masks ops)) pre lm r=true→i∈r.map (·.1)→aNext ops (ancM (masks ops)) x r=true→
    ancM (masks ops) i x=true∨∃q,q∈r.map (·.1)∧kindAt ops q=3∧ancM (masks ops) i q=true
  | [],_,_,_,hq,_=>by cases hq
  | (y,rs,cs)::r,pre,lm,h,hq,hn=>by
    have C:=chk_at h
    simp only [List.map_cons,List.mem_cons]at hq ⊢
    unfold aNext at hn
    split at hn
    · rename_i hy
      have hq:=hq.resolve_left (fun e=>by subst e;omega)
      rcases chk_next hk C.rest hq hn with h1 | ⟨q,h1,h2,h3⟩
      · exact .inl h1
      · exact .inr ⟨q,.inr h1,h2,h3⟩
    · simp only [Bool.and_eq_true,beq_iff_eq]at hn
      rcases hq with rfl | hq
      · exact .inl hn.2
      · rcases chk_anc (by omega) C.rest hq with⟨q,h1,h2,h3⟩ | h1
        · exact .inr ⟨q,.inr h1,h2,h3⟩
        · rw [if_pos hn.1]at h1
          exact .inr ⟨y,.inl rfl,hn.1,h1 y rfl⟩
end
end Go.AE
namespace Go.AE
open Go
variable [LitK]
section
variable {E:Tab} {G:Ctab} {ops:Array Oper} {K:St→Prop} {s0:St} {c0:Ctx} {w0:World} {h0:Heap} {pre:List Nat} {lm:Option Nat} {suf:List DEnt} {s:St} {hs:List Held}
  {val:Nat→Option PV} {pb:Nat→Nat} {L:Array Bool} {c:Ctx} {w:World} {a:Act}
def HeadOK (ops:List Oper) (suf:List DEnt):Prop:=∀x rs cs r,suf=(x,rs,cs)::r→kindAt ops x=2∨kindAt ops x=3
theorem kind_le (op:Op):kindOf op≤3:=by unfold kindOf;split<;>(try split)<;>omega
theorem DI.advH (D:DI E G ops K s0 c0 w0 h0 pre lm suf s hs val pb L c w a) (hap:apartDst ops.toList=true):
    ∃pre' lm' suf' s' hs' val',DI E G ops K s0 c0 w0 h0 pre' lm' suf' s' hs' val' pb L c w a∧HeadOK ops.toList suf':=by
  obtain⟨pre3,lm3,suf3,s3,hs3,val3,D3,hh3⟩:=DI.adv hap suf D
  refine⟨_,_,_,_,_,_,D3,fun x rs cs r' e=> ?_⟩
  have:=hh3 x rs cs r' e
  subst e
  have C3:=chk_at D3.chk
  have hxo:ops.toList[x]? =some (ops.toList[x]'C3.lt):=List.getElem?_eq_getElem C3.lt
  have hk':=kind_of hxo
  have:=kind_le (ops.toList[x]'C3.lt).op
  omega
theorem head_next {ops:List Oper} {x:Nat} {r:List DEnt} (hn:aNext ops (ancM (masks ops)) x r=true):HeadOK ops r:=fun y rs cs r' e=>by
  subst e
  unfold aNext at hn
  split at hn
  · rename_i e;exact .inl e
  · simp only [Bool.and_eq_true,beq_iff_eq]at hn;exact .inr hn.1
theorem DI.no (D:DI E G ops K s0 c0 w0 h0 pre lm suf s hs val pb L c w a) {i:Nat} {o:Oper} (ho:ops.toList[i]? =some o) (hd:∀e∈o.after.toList,Region.binds .any e=true→Lst L e.on)
    {q:Nat} (h1:q∈suf.map (·.1)) (h2:kindAt ops.toList q=3) (h3:ancM (masks ops.toList) i q=true):False:=by
  have hl:=reach_in D.closed (anc_reach h3) (fun o' ho'=>by rw [ho]at ho';cases ho';exact hd)
  rcases D.only q hl with h | h
  · exact not_pre (anc:=fun _ _=>true) D.chk h1 h
  · omega
theorem DI.toM (hap:apartDst ops.toList=true) {i:Nat} {o:Oper} (ho:ops.toList[i]? =some o) (hk:kindAt ops.toList i=3) (hd:∀e∈o.after.toList,Region.binds .any e=true→Lst L e.on):
    ∀(suf:List DEnt) {pre:List Nat} {lm:Option Nat} {s:St} {val:Nat→Option PV} {c:Ctx},DI E G ops K s0 c0 w0 h0 pre lm suf s hs val pb L c w a→HeadOK ops.toList suf→i∈suf.map (·.1)→
    ∃pre' lm' rs cs r s' val' c',DI E G ops K s0 c0 w0 h0 pre' lm' ((i,rs,cs)::r) s' hs val' pb L c' w a
  | [],_,_,_,_,_,_,_,hq=>by cases hq
  | (x,rs,cs)::r,pre,lm,s,val,c,D,hh,hq=>by
    have C:=chk_at D.chk
    by_cases e:i=x
    · subst e;exact⟨pre,lm,rs,cs,r,s,val,c,D⟩
    · have hq':i∈r.map (·.1):=by
        simp only [List.map_cons,List.mem_cons]at hq
        exact hq.resolve_left e
      rcases hh x rs cs r rfl with hx | hx
      · have hn:=(C.two hx).1
        rcases chk_next hk C.rest hq' hn with h1 | ⟨q,h1,h2,h3⟩
        · have hl:=reach_in D.closed (anc_reach h1) (fun o' ho'=>by rw [ho]at ho';cases ho';exact hd)
          obtain⟨s',val',c',D'⟩:=D.reg hap hx hl
          exact DI.toM hap ho hk hd r D' (head_next hn) hq'
        · exact(D.no ho hd (by simp only [List.map_cons,List.mem_cons];exact .inr h1) h2 h3).elim
      · rcases chk_anc (by omega) C.rest hq' with⟨q,h1,h2,h3⟩ | h1
        · exact(D.no ho hd (by simp only [List.map_cons,List.mem_cons];exact .inr h1) h2 h3).elim
        · rw [if_pos hx]at h1
          exact(D.no ho hd (by simp) hx (h1 x rfl)).elim
theorem DI.fin (hap:apartDst ops.toList=true) (hall:∀i,i<ops.size→Lst L i):∀(suf:List DEnt) {pre:List Nat} {lm:Option Nat} {s:St} {val:Nat→Option PV} {c:Ctx},DI E G ops K s0 c0 w0 h0 pre lm suf s hs val pb L c w a→
    ∃c' s',Grow c0 w0 h0 c' w s'.h∧AbsS E s' c' w a∧K s'
  | [],pre,lm,s,val,c,D=>by
    refine⟨c,s,D.grow,⟨⟨fun r v hv=> ?_,D.heap,D.glob⟩,D.cn,D.defers,D.tsize⟩,D.run⟩
    by_cases e:∃j,gslot ops.toList j=some r
    · obtain⟨j,hj⟩:=e
      have lj:j<ops.size:=by
        rcases Nat.lt_or_ge j ops.toList.length with h | h
        · simpa using h
        · simp [gslot,List.getElem?_eq_none h]at hj
      have hp:j∈pre:=(D.cov j lj).resolve_right (by simp)
      exact D.s1 j r v hj (hall j lj) hp (by rw [←D.t1 j r hj hp];exact hv)
    · have hno:∀j,gslot ops.toList j≠some r:=fun j hj=>e ⟨j,hj⟩
      exact D.s2 r v (fun j hj=>absurd hj (hno j)) (by rw [←D.t2 r (fun j hj=>absurd hj (hno j))];exact hv)
  | (x,rs,cs)::r,pre,lm,s,val,c,D=>by
    have C:=chk_at D.chk
    have hl:=hall x (by simpa using C.lt)
    have hk:=(D.only x hl).resolve_left C.new
    obtain⟨s',val',c',D'⟩:=D.reg hap hk hl
    exact DI.fin hap hall r D'
def cnt (n:Nat) (L:Array Bool):Nat:=((List.range n).filter fun i=> !L.getD i false).length
theorem filter_lt {p q:Nat→Bool} (hpq:∀x,q x=true→p x=true) {i:Nat} (hp:p i=true) (hq:q i=false):∀ {l:List Nat},i∈l→(l.filter q).length< (l.filter p).length:=by
  have hle:∀l:List Nat,(l.filter q).length≤(l.filter p).length:=by
    intro l
    induction l with
    | nil=>simp
    | cons x l ih=>
      simp only [List.filter_cons]
      cases hx:q x with
      | true=>rw [if_pos rfl,if_pos (hpq x hx)];simp;exact ih
      | false=>
        rw [if_neg (by simp)]
        split
        · simp;omega
        · exact ih
  intro l hi
  induction l with
  | nil=>cases hi
  | cons x l ih=>
    simp only [List.filter_cons]
    rcases List.mem_cons.1 hi with rfl | hi
    · rw [if_pos hp,if_neg (by simp [hq])]
      have:=hle l
      simp;omega
    · have:=ih hi
      cases hx:q x with
      | true=>rw [if_pos rfl,if_pos (hpq x hx)];simp;exact this
      | false=>
        rw [if_neg (by simp)]
        split
        · simp;omega
        · exact this
theorem cnt_set {n:Nat} {L:Array Bool} {i:Nat} (hi:i<n) (hs:L.size=n) (hn:¬Lst L i):cnt n (L.setIfInBounds i true)<cnt n L:=by
  have key:∀j,Lst (L.setIfInBounds i true) j↔j=i∨Lst L j:=fun j=>Lst_set (by omega)
  refine filter_lt (i:=i) (fun x hx=> ?_) ?_ ?_ (List.mem_range.2 hi)
  · simp only [Bool.not_eq_true']at hx ⊢
    cases hl:L.getD x false with
    | false=>rfl
    | true=>
      have:Lst (L.setIfInBounds i true) x:=(key x).2 (.inr hl)
      unfold Lst at this
      rw [hx]at this;cases this
  · simp only [Bool.not_eq_true']
    cases hl:L.getD i false with
    | false=>rfl
    | true=>exact absurd hl hn
  · have:Lst (L.setIfInBounds i true) i:=(key i).2 (.inl rfl)
    unfold Lst at this
    simp [this]
theorem all_listed (htop:topo ops.toList=true) (hs:L.size=ops.size) (hr:Region.ready .any ops L=[]):∀n i,i<n→i<ops.size→Lst L i:=by
  intro n
  induction n with
  | zero=>intro i h;omega
  | succ n ih=>
    intro i hin hi
    by_cases hl:Lst L i
    · exact hl
    · exfalso
      have hmem:i∈Region.ready .any ops L:=by
        rw [mem_ready]
        refine⟨?_,ops[i],Array.getElem?_eq_getElem hi,fun e he hb=> ?_⟩
        · unfold Lst at hl
          simp only [Array.getD_eq_getD_getElem?]at hl ⊢
          rw [Array.getElem?_eq_getElem (by omega)]at hl ⊢
          simpa using hl
        · unfold topo at htop
          rw [List.all_eq_true]at htop
          have h1:=htop i (List.mem_range.2 (by simpa using hi))
          have h2:ops.toList[i]? =some ops[i]:=by simp [hi]
          rw [h2]at h1
          simp only [List.all_eq_true,Bool.or_eq_true,Bool.not_eq_true',decide_eq_true_eq]at h1
          rcases h1 e (by simpa using he)with h | h
          · rw [hb]at h;cases h
          · exact ih e.on (by omega) (by omega)
      rw [hr]at hmem;cases hmem
theorem draw_go (hE:TabOK E) (hG:CtabOK E G) (hap:apartDst ops.toList=true) (htop:topo ops.toList=true) (hal:∀(i:Nat) (o:Oper) (ty:TypeId) (d:Nat),ops.toList[i]? =some o→o.op= .alloc ty→o.dst=some d→d<s0.m∧∃y,E.ty ty=some y) {Q:Exit→St→Prop} (hK:K=Q .normal):∀(fuel:Nat) (L:Array Bool) (a:Act) (w:World),
    cnt ops.size L≤fuel→(∃pre lm suf s hs val pb c,DI E G ops K s0 c0 w0 h0 pre lm suf s hs val pb L c w a∧HeadOK ops.toList suf)→wpAny E.P .any ops (LiftQ E c0 w0 h0 Q) fuel L a w:=by
  have fin:∀(L:Array Bool) (a:Act) (w:World),(∃pre lm suf s hs val pb c,DI E G ops K s0 c0 w0 h0 pre lm suf s hs val pb L c w a∧HeadOK ops.toList suf)→(∀i,i<ops.size→Lst L i)→LiftQ E c0 w0 h0 Q .normal a w:=by
    rintro L a w ⟨pre,lm,suf,s,hs,val,pb,c,D,_⟩ hall
    obtain⟨c',s',h1,h2,h3⟩:=D.fin hap hall suf
    exact⟨c',s',h1,h2,by rw [←hK];exact h3⟩
  intro fuel
  induction fuel with
  | zero=>
    intro L a w hc hD
    have hall:∀i,i<ops.size→Lst L i:=fun i hi=>by
      by_cases hl:Lst L i
      · exact hl
      · obtain⟨pre,lm,suf,s,hs,val,pb,c,D,_⟩:=hD
        have:=cnt_set hi D.size hl
        omega
    refine⟨?_,fin L a w hD hall⟩
    cases hr:Region.ready .any ops L with
    | nil=>rfl
    | cons i r=>
      exfalso
      have hi:i∈Region.ready .any ops L:=by rw [hr];simp
      obtain⟨h1,o,h2,_⟩:=mem_ready.1 hi
      have hlt:=(Array.getElem?_eq_some_iff.1 h2).1
      have:=hall i hlt
      unfold Lst at this
      obtain⟨pre,lm,suf,s,hs,val,pb,c,D,_⟩:=hD
      have hs:=D.size
      simp only [Array.getD_eq_getD_getElem?]at h1 this
      rw [Array.getElem?_eq_getElem (by omega)]at h1 this
      simp at h1 this
      rw [h1]at this;cases this
  | succ fuel ih=>
    intro L a w hc hD
    refine⟨fun hr=> ?_,fun i hi=> ?_⟩
    · obtain⟨pre,lm,suf,s,hs,val,pb,c,D,hh⟩:=hD
      exact fin L a w ⟨pre,lm,suf,s,hs,val,pb,c,D,hh⟩ (fun i hi=>all_listed htop D.size hr (i+1) i (Nat.lt_succ_self _) hi)
    · obtain⟨pre,lm,suf,s,hs,val,pb,c,D,hh⟩:=hD
      obtain⟨h1,o,h2,hd'⟩:=mem_ready.1 hi
      have hlt:=(Array.getElem?_eq_some_iff.1 h2).1
      have hnl:¬Lst L i:=by
        have hs:=D.size
        unfold Lst
        simp only [Array.getD_eq_getD_getElem?]at h1 ⊢
        rw [Array.getElem?_eq_getElem (by omega)]at h1 ⊢
        simp at h1 ⊢
        exact h1
      have ho:ops.toList[i]? =some o:=by simpa using h2
      have hd:∀e∈o.after.toList,Region.binds .any e=true→Lst L e.on:=fun e he hb=>hd' e (by simpa using he) hb
      have hc':cnt ops.size (L.setIfInBounds i true)≤fuel:=by have:=cnt_set hlt D.size hnl;omega
      have hko:=kind_of ho
      unfold wpOp
      simp only [h2]
      rcases Nat.lt_or_ge 1 (kindAt ops.toList i)with hk | hk
      · by_cases hk2:kindAt ops.toList i=2
        ·
          have hp:i∉pre:=fun hp=>hnl (D.done i hp hk)
          have hin:i∈suf.map (·.1):=(D.cov i hlt).resolve_left hp
          obtain⟨d,hdst,hg⟩:∃d,o.dst=some d∧o.guard=none:=by
            have:∀(suf:List DEnt) (pre:List Nat) (lm:Option Nat),chkGo ops.toList (ancM (masks ops.toList)) pre lm suf=true→i∈suf.map (·.1)→∃d,o.dst=some d∧o.guard=none:=by
              intro suf
              induction suf with
              | nil=>intro pre lm _ h;cases h
              | cons x r ihr=>
                obtain⟨x,rs,cs⟩:=x
                intro pre lm hck hin
                have C:=chk_at hck
                simp only [List.map_cons,List.mem_cons]at hin
                rcases hin with rfl | hin
                · have q1:=(C.two hk2).2
                  have q2:=C.guard (by omega) (by omega)
                  rw [gslot_of ho]at q1
                  obtain⟨d,hd⟩:=Option.isSome_iff_exists.1 q1
                  exact⟨d,hd,by simpa [hasGuard,ho]using q2⟩
                · exact ihr _ _ C.rest hin
            exact this suf pre lm D.chk hin
          have hwant:Region.wanted o (yielded ops a.tmps)=true:=by simp [Region.wanted,hg]
          rw [if_pos hwant]
          obtain⟨ty,hop⟩:∃ty,o.op= .alloc ty:=by
            have hkk:kindOf o.op=2:=by rw [←hko];exact hk2
            unfold kindOf at hkk
            split at hkk
            · rename_i ty heq;exact⟨ty,heq⟩
            · split at hkk<;>cases hkk
            · split at hkk<;>cases hkk
          obtain⟨hm,y,hy⟩:=hal i o ty d ho hop hdst
          obtain⟨w',vs,Et,hrun,g,H,hb,hz⟩:=allocop_sound hE D.heap o hop hy a.eval
          refine .inl ?_
          unfold Oper.wp
          rw [hrun,Oper.upon_value]
          exact ih _ _ _ hc' ⟨_,_,_,_,_,_,_,_,D.made hap ho hp hnl hd hdst (by rw [D.sm];exact hm) hop hy g H hb hz,hh⟩
        ·
          have hk3:kindAt ops.toList i=3:=by
            have:kindOf o.op≤3:=by unfold kindOf;split<;>(try split)<;>omega
            omega
          have hp:i∉pre:=fun hp=>hnl (D.done i hp hk)
          have hin:i∈suf.map (·.1):=(D.cov i hlt).resolve_left hp
          obtain⟨pre',lm',rs,cs,r,s',val',c',D'⟩:=D.toM hap ho hk3 hd suf hh hin
          have C:=chk_at D'.chk
          have hrun:=D'.run
          unfold drawRun at hrun
          rw [ho]at hrun
          obtain⟨hm,hrun⟩:=hrun
          have h3:kindOf o.op=3:=by rw [←kind_of ho];exact hk3
          rw [h3]at hrun
          simp only at hrun
          have next:∀lm2 s2 val2 c2 w2 u,DI E G ops K s0 c0 w0 h0 (i::pre') lm2 r s2 hs val2 pb (L.setIfInBounds i true) c2 w2 (a.put o.dst u)→wpAny E.P .any ops (LiftQ E c0 w0 h0 Q) fuel (L.setIfInBounds i true) (a.put o.dst u) w2:=by
            intro lm2 s2 val2 c2 w2 u D2
            obtain⟨pre3,lm3,suf3,s3,hs3,val3,D3,hh3⟩:=D2.advH hap
            exact ih _ _ _ hc' ⟨_,_,_,_,_,_,_,_,D3,hh3⟩
          cases hgd:o.guard with
          | none=>
            rw [hgd]at hrun
            simp only at hrun
            have hwant:Region.wanted o (yielded ops a.tmps)=true:=by simp [Region.wanted,hgd]
            rw [if_pos hwant]
            exact .inl (D'.mut hE hG hap hk3 ho hd hm hrun next)
          | some g=>
            obtain⟨j,want⟩:=g
            rw [hgd]at hrun
            simp only at hrun
            cases hdj:gslot ops.toList j with
            | none=>rw [hdj]at hrun;exact hrun.elim
            | some d=>
            rw [hdj]at hrun
            simp only [gcase]at hrun
            have hnl':¬Lst L i:=hnl
            have A:=D'.src ho hnl' hd (D'.rd C.new C.rd) s'.h D'.heap
            have skip:drawRun E G ops.toList r hs K (s'.put o.dst (some undP))→wpAny E.P .any ops (LiftQ E c0 w0 h0 Q) fuel (L.setIfInBounds i true) (a.put o.dst undef) w:=fun hr=>
              next _ _ _ c' w undef (D'.step hap hk3 ho hd hm (h':=s'.h) (k':=s'.k) (.refl _ _ _) D'.heap D'.cn (tup0 _ _) (fun _ _ _ _ _ _ _ _ q=>q) hr)
            rcases guardU_inv hrun with⟨f,b,hv,hT,hF⟩ | ⟨hv,hF⟩
            · obtain⟨u,hu,hr⟩:=A.slot d _ hv
              have:=rel_bool hr
              subst this
              have hw:Region.wanted o (yielded ops a.tmps)=(b==want):=by
                simp only [Region.wanted,hgd];exact guard_bool hdj hu
              by_cases e:b=want
              · rw [if_pos (by rw [hw];simp [e])]
                exact .inl (D'.mut hE hG hap hk3 ho hd hm (hT e) next)
              · rw [if_neg (by rw [hw];simp [e])]
                exact skip (hF e)
            · obtain⟨u,hu,hr⟩:=A.slot d _ hv
              have hw:Region.wanted o (yielded ops a.tmps)=false:=by
                have hj:(ops[j]?).bind (·.dst)=some d:=by simpa [gslot]using hdj
                have hun:∀b,u≠ .bool b:=by
                  intro b e;subst e;cases hr
                simp only [Region.wanted,hgd,yielded,hj]
                simp only [Option.bind_some,hu]
                cases u<;>simp_all
              rw [if_neg (by rw [hw];simp)]
              exact skip hF
      ·
        have hp:i∈pre:=by
          rcases D.cov i hlt with h | h
          · exact h
          · obtain⟨q,q1,q2,q3⟩:=chk_float hk D.chk h hh
            exact(D.no ho hd q1 q2 q3).elim
        obtain⟨o',t,p1,p2,p3,p4⟩:=D.pend i hp hnl
        rw [ho]at p1;cases p1
        have A:=D.src ho hnl hd p3 s.h D.heap
        rcases p4 with⟨q1,q2,q3⟩ | ⟨q1,q2,q3⟩
        · rcases evalF_sound hE A (ops:=ops) q3 with⟨hw,u,v,hrun,hrel,hv⟩ | ⟨hw,hv⟩
          · rw [if_pos hw]
            refine .inl ?_
            unfold Oper.wp
            rw [hrun,Oper.upon_value]
            exact ih _ _ _ hc' ⟨_,_,_,_,_,_,_,_,D.listed hap ho hp hd p2 (.refl _ _ _) D.heap rfl (fun v' hv'=>by rw [←hv]at hv';cases hv';exact hrel),hh⟩
          · rw [if_neg (by rw [hw];simp)]
            exact ih _ _ _ hc' ⟨_,_,_,_,_,_,_,_,D.listed hap ho hp hd p2 (.refl _ _ _) D.heap rfl (fun v' hv'=>by rw [←hv]at hv';cases hv';exact tup0 _ _),hh⟩
        · have hwant:Region.wanted o (yielded ops a.tmps)=true:=by simp [Region.wanted,q2]
          rw [if_pos hwant]
          obtain⟨u,c',w',v,hrun,g,H,hn,hrel,hv⟩:=zop_sound hE A o q3
          refine .inl ?_
          unfold Oper.wp
          rw [hrun,Oper.upon_value]
          exact ih _ _ _ hc' ⟨_,_,_,_,_,_,_,_,D.listed hap ho hp hd p2 g H hn (fun v' hv'=>by rw [hv]at hv';cases hv';exact hrel),hh⟩
end
def allocsOK (E:Tab) (m:Nat):List Oper→Prop
  | []=>True
  | o::r=>(match o.op with | .alloc ty=>dOK m o.dst∧withTY (E.ty ty) fun _=>True | _=>True)∧allocsOK E m r
theorem allocsOK_at {E:Tab} {m:Nat}:∀ {l:List Oper},allocsOK E m l→∀(i:Nat) (o:Oper) (ty:TypeId) (d:Nat),l[i]? =some o→o.op= .alloc ty→o.dst=some d→d<m∧∃y,E.ty ty=some y
  | [],_,i,o,ty,d,h,_,_=>by simp at h
  | x::r,hl,i,o,ty,d,h,ho,hd=>by
    cases i with
    | zero=>
      simp at h;subst h
      have:=hl.1
      rw [ho]at this
      simp only at this
      rw [hd]at this
      obtain⟨y,hy,_⟩:=withTY_some this.2
      exact⟨this.1,y,hy⟩
    | succ i=>exact allocsOK_at hl.2 i o ty d (by simpa using h) ho hd
def allocsB (E:Tab) (m:Nat):List Oper→Bool
  | []=>true
  | o::r=>(match o.op with | .alloc ty=>(match o.dst with | some d=>decide (d<m) | none=>true)&& (E.ty ty).isSome | _=>true)&&allocsB E m r
theorem allocsB_ok {E:Tab} {m:Nat}:∀ {l:List Oper},allocsB E m l=true→allocsOK E m l
  | [],_=>trivial
  | o::r,h=>by
    unfold allocsB at h
    simp only [Bool.and_eq_true]at h
    refine⟨?_,allocsB_ok h.2⟩
    have h1:=h.1
    split
    · rename_i ty ho
      rw [ho]at h1
      simp only [Bool.and_eq_true]at h1
      refine⟨?_,?_⟩
      · cases hd:o.dst with
        | none=>exact trivial
        | some d=>rw [hd]at h1;simpa [dOK]using h1.1
      · cases hy:E.ty ty with
        | none=>rw [hy]at h1;simp at h1
        | some y=>exact trivial
    · exact trivial
def Static (E:Tab) (tbl:Nat→List DEnt) (id:Nat) (ops:Array Oper) (m:Nat):Prop:=(chkDraw ops.toList (tbl id)&&allocsB E m ops.toList)=true
def drA (E:Tab) (G:Ctab) (tbl:Nat→List DEnt):DrawA:=fun id ops K s=>
  Static E tbl id ops s.m∧drawRun E G ops.toList (tbl id) [] K s
theorem drA_ok {E:Tab} (hE:TabOK E) {G:Ctab} (hG:CtabOK E G) (hm:E.P.follows .mixedOrders=true) (tbl:Nat→List DEnt):DrawOK E (drA E G tbl):=by
  rintro id ops Q s c0 w0 h0 c w a A g ⟨hc,hrun⟩
  unfold Static chkDraw at hc
  simp only [Bool.and_eq_true]at hc
  obtain⟨⟨⟨⟨htop,hap⟩,hcov⟩,hgo⟩,hal⟩:=hc
  replace hal:=allocsB_ok hal
  refine wp_region_any hm ?_
  have hnl:∀i,¬Lst (Array.replicate ops.size false) i:=fun i h=>by
    unfold Lst at h
    simp only [Array.getD_eq_getD_getElem?,Array.getElem?_replicate]at h
    split at h<;>simp at h
  have gd:=Grow.drawn c w s.h (w.drawn+1)
  have D:DI E G ops (Q .normal) s c0 w0 h0 [] none (tbl id) s [] (fun _=>none) (fun _=>0) (Array.replicate ops.size false) c {w with drawn:=w.drawn+1} a:={
    run:=hrun
    chk:=hgo
    cov:=fun i hi=>by
      rw [List.all_eq_true]at hcov
      have:=hcov i (List.mem_range.2 (by simpa using hi))
      exact .inr (by simpa using this)
    done:=fun i h=>by cases h
    only:=fun i h=>absurd h (hnl i)
    closed:=fun i o h=>absurd h (hnl i)
    size:=by simp
    s1:=fun j r v _ h=>absurd h (hnl j)
    s2:=fun r v _ h=>let⟨u,h1,h2⟩:=A.abs.slot r v h;⟨u,h1,h2.grow A.abs.heap gd⟩
    t1:=fun j r _ h=>by cases h
    t2:=fun r _=>rfl
    pend:=fun i h=>by cases h
    pendA:=fun i h=>absurd h (hnl i)
    dist:=fun i j h=>absurd h (hnl i)
    heap:=A.abs.heap.drawn _
    glob:=A.abs.glob.grow A.abs.heap gd
    grow:=g.trans gd
    cn:=A.n
    defers:=A.defers
    tsize:=A.size
    sn:=rfl,sm:=rfl}
  obtain⟨pre',lm',suf',s',hs',val',D',hh⟩:=D.advH hap
  refine draw_go hE hG hap htop (allocsOK_at hal) rfl _ _ _ _ ?_ ⟨_,_,_,_,_,_,_,_,D',hh⟩
  unfold cnt
  exact Nat.le_trans (List.length_filter_le _ _) (by simp)
end Go.AE
namespace Go.TX
open Go Go.AE
@[ext] structure Ins where
  op:Int
  d:Int
  a:Int
  k:Int
  deriving DecidableEq,Inhabited
structure Form where
  d:Bool
  a:Bool
  most:Int
  words:List ByteArray
  deriving Inhabited
@[ext] structure Mono where
  coef:Int
  atoms:List Int
  deriving DecidableEq,Inhabited
@[ext] structure Atom where
  kind:Int
  k:Int
  x:List Mono
  y:List Mono
  deriving DecidableEq,Inhabited
@[ext] structure IOp where
  kind:Int
  x:Int
  y:Int
  k:Int
  at_:Int
  deriving DecidableEq,Inhabited
@[ext] structure Blk where
  pc:Int
  len:Int
  ops:List IOp
  fin:Int
  x:Int
  y:Int
  k:Int
  deriving DecidableEq,Inhabited
@[ext] structure Mach where
  regs:List Int
  pc:Int
  mem:List Int
  save:Int
  let_:Bool
  waits:Bool
  halt:Int
  ins:List Int
  outs:List Int
  count:Int
  deriving DecidableEq,Inhabited
@[ext] structure Ev where
  kind:Int
  at_:Int
  x:List Mono
  y:List Mono
  regs:List (List Mono)
  deriving DecidableEq,Inhabited
@[ext] structure Sym where
  events:List Ev
  regs:List (List Mono)
  fin:Int
  x:List Mono
  y:List Mono
  k:Int
  deriving DecidableEq,Inhabited
@[ext] structure Cac where
  words:List Int
  blk:Blk
  deriving DecidableEq,Inhabited
@[ext] structure Cer where
  base:Blk
  made:Blk
  deriving DecidableEq,Inhabited
@[ext] structure Ask where
  own:Bool
  bytes:List Int
  deriving DecidableEq,Inhabited
@[ext] structure Eng where
  mach:Mach
  cache:List Cac
  certs:List Cer
  deriving DecidableEq,Inhabited
inductive Co where
  | i64 | u8 | bool | str | ins | form | mono | poly | atom | tab | iop | blk | mach | ev | sym | cac | cer | ask | eng | ints
  deriving DecidableEq,Inhabited,Repr
inductive Sh where
  | int (k:IntKind) | bool | str | rows (c:Co)
  deriving DecidableEq,Inhabited
abbrev Sh.i:Sh:= .int .i64
def blkF:List Sh:=[.i,.i,.rows .iop,.i,.i,.i,.i]
def machF:List Sh:=[.rows .i64,.i,.rows .i64,.i,.bool,.bool,.i,.rows .i64,.rows .i64,.i]
@[reducible] def Co.fields : Co → List Sh
  | .i64=> [.i] | .u8=> [.int .u8] | .bool=> [.bool] | .str=> [.str]
  | .ins=> [.i,.i,.i,.i]
  | .form=> [.bool,.bool,.i,.rows .str]
  | .mono=> [.i,.rows .i64]
  | .poly=> [.rows .mono]
  | .atom=> [.i,.i,.rows .mono,.rows .mono]
  | .tab=> [.rows .atom]
  | .iop=> [.i,.i,.i,.i,.i]
  | .blk=>blkF
  | .mach=>machF
  | .ev=> [.i,.i,.rows .mono,.rows .mono,.rows .poly]
  | .sym=> [.rows .ev,.rows .poly,.i,.rows .mono,.rows .mono,.i]
  | .cac=> .rows .i64::blkF
  | .cer=>blkF++blkF
  | .ask=> [.bool,.rows .u8]
  | .eng=>machF++ [.rows .cac,.rows .cer]
  | .ints=> [.rows .i64]
@[reducible] def Co.den : Co → Type
  | .i64=>Int | .u8=>Int | .bool=>Bool | .str=>ByteArray
  | .ins=>Ins | .form=>Form | .mono=>Mono | .poly=>List Mono | .atom=>Atom | .tab=>List Atom | .iop=>IOp
  | .blk=>Blk | .mach=>Mach | .ev=>Ev | .sym=>Sym | .cac=>Cac | .cer=>Cer | .ask=>Ask | .eng=>Eng | .ints=>List Int
instance (c:Co):Inhabited c.den:=match c with
  | .i64=>inferInstanceAs (Inhabited Int) | .u8=>inferInstanceAs (Inhabited Int) | .bool=>inferInstanceAs (Inhabited Bool) | .str=>inferInstanceAs (Inhabited ByteArray)
  | .ins=>inferInstanceAs (Inhabited Ins) | .form=>inferInstanceAs (Inhabited Form) | .mono=>inferInstanceAs (Inhabited Mono) | .poly=>inferInstanceAs (Inhabited (List Mono))
  | .atom=>inferInstanceAs (Inhabited Atom) | .tab=>inferInstanceAs (Inhabited (List Atom)) | .iop=>inferInstanceAs (Inhabited IOp) | .blk=>inferInstanceAs (Inhabited Blk)
  | .mach=>inferInstanceAs (Inhabited Mach) | .ev=>inferInstanceAs (Inhabited Ev) | .sym=>inferInstanceAs (Inhabited Sym) | .cac=>inferInstanceAs (Inhabited Cac)
  | .cer=>inferInstanceAs (Inhabited Cer) | .ask=>inferInstanceAs (Inhabited Ask) | .eng=>inferInstanceAs (Inhabited Eng)
  | .ints=>inferInstanceAs (Inhabited (List Int))
inductive LTy where
  | i | b | s | l (c:Co) | x (c:Co)
  deriving DecidableEq,Inhabited
@[reducible] def Sh.lty : Sh → LTy
  | .int _=> .i | .bool=> .b | .str=> .s | .rows c=> .l c
def Co.flat (c:Co):Bool:=c.fields.all fun s=>match s with | .rows _=>false | _=>true
@[reducible] def Co.ltys (c : Co) : List LTy := c.fields.map Sh.lty
structure Car where
  I:Type
  B:Type
  S:Type
  L:Co→Type
  X:Co→Type
@[reducible] def LT (A : Car) : LTy → Type
  | .i=>A.I | .b=>A.B | .s=>A.S | .l c=>A.L c | .x c=>A.X c
@[reducible] def Tup (A : Car) : List LTy → Type
  | []=>Unit
  | t::r=>LT A t×Tup A r
inductive LV (A:Car) where
  | i (x:A.I) | b (x:A.B) | s (x:A.S) | l (c:Co) (x:A.L c) | x (c:Co) (v:A.X c)
def toLV (A:Car):(t:LTy)→LT A t→LV A
  | .i,x=> .i x | .b,x=> .b x | .s,x=> .s x | .l c,x=> .l c x | .x c,x=> .x c x
def unpack (A:Car):(ts:List LTy)→Tup A ts→List (LV A)
  | [],_=> []
  | t::r,x=>toLV A t x.1::unpack A r x.2
def ofLV (A:Car):(t:LTy)→LV A→Option (LT A t)
  | .i,.i x=>some x | .b,.b x=>some x | .s,.s x=>some x
  | .l c,.l c' x=>if h:c'=c then some (h▸x)else none
  | .x c,.x c' x=>if h:c'=c then some (h▸x)else none
  | _,_=>none
def pack (A:Car):(ts:List LTy)→List (LV A)→Option (Tup A ts)
  | [],[]=>some ()
  | t::r,v::vs=>match ofLV A t v with
    | some a=>match pack A r vs with | some b=>some (a,b) | none=>none
    | none=>none
  | _,_=>none
structure Alg extends Car where
  M:Type→Type
  lit:Int→I
  bl:Bool→B
  st:ByteArray→S
  arith:BinOp→IntKind→I→I→I
  cmp:BinOp→I→I→B
  addN:I→I→I
  subN:I→I→I
  neg:IntKind→I→I
  conv:IntKind→I→I
  minI:I→I→I
  maxI:I→I→I
  notB:B→B
  andB:B→B→B
  orB:B→B→B
  eqB:B→B→B
  iteI:B→I→I→I
  iteB:B→B→B→B
  iteL:B→(c:Co)→L c→L c→L c
  iteX:B→(c:Co)→X c→X c→X c
  len:(c:Co)→L c→I
  nilL:(c:Co)→L c
  get:(c:Co)→L c→I→X c
  set:(c:Co)→L c→I→X c→L c
  app:(c:Co)→L c→L c→L c
  sub:(c:Co)→L c→I→I→L c
  rep:(c:Co)→I→X c→L c
  lst:(c:Co)→List (X c)→L c
  glob:Nat→(c:Co)→L c
  fI:(c:Co)→Nat→X c→I
  fB:(c:Co)→Nat→X c→B
  fS:(c:Co)→Nat→X c→S
  fL:(c:Co)→Nat→(c':Co)→X c→L c'
  mkX:(c:Co)→Tup toCar c.ltys→X c
  eqX:(c:Co)→X c→X c→B
  ret:(ts:List LTy)→Tup toCar ts→M (Tup toCar ts)
  letT: {ρ:Type}→(ts:List LTy)→Tup toCar ts→(Tup toCar ts→M ρ)→M ρ
  fail: {ρ:Type}→M ρ
  chk: {ρ:Type}→B→M ρ→M ρ
  cond: {ρ:Type}→B→M ρ→M ρ→M ρ
  bind: {ρ:Type}→(ts:List LTy)→M (Tup toCar ts)→(Tup toCar ts→M ρ)→M ρ
  bindS: {ρ:Type}→(ts:List LTy)→M (Sum (Tup toCar ts) ρ)→(Tup toCar ts→M ρ)→M ρ
  inl: {ρ:Type}→(ts:List LTy)→Tup toCar ts→M (Sum (Tup toCar ts) ρ)
  inr: {ρ:Type}→(ts:List LTy)→M ρ→M (Sum (Tup toCar ts) ρ)
  iter: {ρ:Type}→(ts:List LTy)→(Tup toCar ts→M (Sum (Tup toCar ts) ρ))→Tup toCar ts→M ρ
end Go.TX
