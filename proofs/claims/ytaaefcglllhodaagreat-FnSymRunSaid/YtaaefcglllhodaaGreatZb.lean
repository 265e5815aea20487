/- Part 2 of a proof: what the last part needs. No condition. -/
import Derived.Test.YtaaefcglllhodaaGreatZa
set_option linter.all false
set_option linter.unusedSectionVars false
set_option linter.unusedVariables false
set_option linter.unusedSimpArgs false
namespace Go.TX
open Go Go.AE
@[ext] structure Ins where
 op:Int
 d:Int
 a:Int
 k:Int
 deriving DecidableEq,Inhabited
structure Form where
 d:Bool
 a:Bool
 most:Int
 words:List ByteArray
 deriving Inhabited
@[ext] structure aj where
 aW:Int
 atoms:List Int
 deriving DecidableEq,Inhabited
@[ext] structure Atom where
 kind:Int
 k:Int
 x:List aj
 y:List aj
 deriving DecidableEq,Inhabited
@[ext] structure IOp where
 kind:Int
 x:Int
 y:Int
 k:Int
 at_:Int
 deriving DecidableEq,Inhabited
@[ext] structure Blk where
 pc:Int
 len:Int
 ops:List IOp
 fin:Int
 x:Int
 y:Int
 k:Int
 deriving DecidableEq,Inhabited
@[ext] structure aH where
 regs:List Int
 pc:Int
 mem:List Int
 save:Int
 cZ:Bool
 waits:Bool
 halt:Int
 ins:List Int
 outs:List Int
 count:Int
 deriving DecidableEq,Inhabited
@[ext] structure Ev where
 kind:Int
 at_:Int
 x:List aj
 y:List aj
 regs:List (List aj)
 deriving DecidableEq,Inhabited
@[ext] structure Sym where
 events:List Ev
 regs:List (List aj)
 fin:Int
 x:List aj
 y:List aj
 k:Int
 deriving DecidableEq,Inhabited
@[ext] structure Cac where
 words:List Int
 blk:Blk
 deriving DecidableEq,Inhabited
@[ext] structure Cer where
 base:Blk
 made:Blk
 deriving DecidableEq,Inhabited
@[ext] structure Ask where
 own:Bool
 bytes:List Int
 deriving DecidableEq,Inhabited
@[ext] structure Eng where
 gG:aH
 cache:List Cac
 Yb:List Cer
 deriving DecidableEq,Inhabited
inductive Co where
 | i64 | u8 | bool | str | ins | form | mono | poly | atom | tab | iop | blk | gG | ev | sym | cac | cer | ask | eng | ints
 deriving DecidableEq,Inhabited,Repr
inductive Sh where
 | int (k:IntKind) | bool | str | rows (c:Co)
 deriving DecidableEq,Inhabited
abbrev Sh.i:Sh:= .int .i64
def afY:List Sh:=[.i,.i,.rows .iop,.i,.i,.i,.i]
def Yc:List Sh:=[.rows .i64,.i,.rows .i64,.i,.bool,.bool,.i,.rows .i64,.rows .i64,.i]
abbrev Co.fields : Co -> List Sh
 | .i64=> [.i] | .u8=> [.int .u8] | .bool=> [.bool] | .str=> [.str]
 | .ins=> [.i,.i,.i,.i]
 | .form=> [.bool,.bool,.i,.rows .str]
 | .mono=> [.i,.rows .i64]
 | .poly=> [.rows .mono]
 | .atom=> [.i,.i,.rows .mono,.rows .mono]
 | .tab=> [.rows .atom]
 | .iop=> [.i,.i,.i,.i,.i]
 | .blk=>afY
 | .gG=>Yc
 | .ev=> [.i,.i,.rows .mono,.rows .mono,.rows .poly]
 | .sym=> [.rows .ev,.rows .poly,.i,.rows .mono,.rows .mono,.i]
 | .cac=> .rows .i64::afY
 | .cer=>afY++afY
 | .ask=> [.bool,.rows .u8]
 | .eng=>Yc++ [.rows .cac,.rows .cer]
 | .ints=> [.rows .i64]
abbrev Co.den : Co -> Type
 | .i64=>Int | .u8=>Int | .bool=>Bool | .str=>ByteArray
 | .ins=>Ins | .form=>Form | .mono=>aj | .poly=>List aj | .atom=>Atom | .tab=>List Atom | .iop=>IOp
 | .blk=>Blk | .gG=>aH | .ev=>Ev | .sym=>Sym | .cac=>Cac | .cer=>Cer | .ask=>Ask | .eng=>Eng | .ints=>List Int
instance (c:Co):Inhabited c.den:=match c with
 | .i64=>inferInstanceAs (Inhabited Int) | .u8=>inferInstanceAs (Inhabited Int) | .bool=>inferInstanceAs (Inhabited Bool) | .str=>inferInstanceAs (Inhabited ByteArray)
 | .ins=>inferInstanceAs (Inhabited Ins) | .form=>inferInstanceAs (Inhabited Form) | .mono=>inferInstanceAs (Inhabited aj) | .poly=>inferInstanceAs (Inhabited (List aj))
 | .atom=>inferInstanceAs (Inhabited Atom) | .tab=>inferInstanceAs (Inhabited (List Atom)) | .iop=>inferInstanceAs (Inhabited IOp) | .blk=>inferInstanceAs (Inhabited Blk)
 | .gG=>inferInstanceAs (Inhabited aH) | .ev=>inferInstanceAs (Inhabited Ev) | .sym=>inferInstanceAs (Inhabited Sym) | .cac=>inferInstanceAs (Inhabited Cac)
 | .cer=>inferInstanceAs (Inhabited Cer) | .ask=>inferInstanceAs (Inhabited Ask) | .eng=>inferInstanceAs (Inhabited Eng)
 | .ints=>inferInstanceAs (Inhabited (List Int))
inductive LTy where
 | i | b | s | l (c:Co) | x (c:Co)
 deriving DecidableEq,Inhabited
abbrev Sh.lty : Sh -> LTy
 | .int _=> .i | .bool=> .b | .str=> .s | .rows c=> .l c
def Co.flat(c:Co):Bool:=c.fields.all λs=>match s with | .rows _=>false | _=>true
abbrev Co.pJ(c : Co) : List LTy := c.fields.map Sh.lty
structure Car where
 I:Type
 B:Type
 S:Type
 L:Co->Type
 X:Co->Type
abbrev LT(A : Car) : LTy -> Type
 | .i=>A.I | .b=>A.B | .s=>A.S | .l c=>A.L c | .x c=>A.X c
abbrev Tup(A : Car) : List LTy -> Type
 | []=>Unit
 | t::r=>LT A t×Tup A r
inductive LV (A:Car) where
 | i (x:A.I) | b (x:A.B) | s (x:A.S) | l (c:Co) (x:A.L c) | x (c:Co) (v:A.X c)
def apK(A:Car):(t:LTy)->LT A t->LV A
 | .i,x=> .i x | .b,x=> .b x | .s,x=> .s x | .l c,x=> .l c x | .x c,x=> .x c x
def unpack(A:Car):(ts:List LTy)->Tup A ts->List (LV A)
 | [],_=> []
 | t::r,x=>apK A t x.1::unpack A r x.2
def aj8(A:Car):(t:LTy)->LV A->Option (LT A t)
 | .i,.i x=>some x | .b,.b x=>some x | .s,.s x=>some x
 | .l c,.l c' x=>if h:c'=c then some (h▸x)else none
 | .x c,.x c' x=>if h:c'=c then some (h▸x)else none
 | _,_=>none
def pack(A:Car):(ts:List LTy)->List (LV A)->Option (Tup A ts)
 | [],[]=>some ()
 | t::r,v::vs=>match aj8 A t v with
  | some a=>match pack A r vs with | some b=>some (a,b) | none=>none
  | none=>none
 | _,_=>none
structure Alg extends au:Car where
 M:Type->Type
 lit:Int->I
 bl:Bool->B
 st:ByteArray->S
 arith:BinOp->IntKind->I->I->I
 cmp:BinOp->I->I->B
 addN:I->I->I
 LA:I->I->I
 neg:IntKind->I->I
 conv:IntKind->I->I
 NS:I->I->I
 jg:I->I->I
 yM:B->B
 LB:B->B->B
 orB:B->B->B
 eqB:B->B->B
 eqS:S->S->B
 NT:L .u8->S
 NU:B->I->I->I
 I6:B->B->B->B
 NV:B->(c:Co)->L c->L c->L c
 Xe:B->(c:Co)->X c->X c->X c
 len:(c:Co)->L c->I
 EG:(c:Co)->L c
 get:(c:Co)->L c->I->X c
 set:(c:Co)->L c->I->X c->L c
 app:(c:Co)->L c->L c->L c
 sub:(c:Co)->L c->I->I->L c
 rep:(c:Co)->I->X c->L c
 lst:(c:Co)->List (X c)->L c
 glob:Nat->(c:Co)->L c
 fI:(c:Co)->Nat->X c->I
 fB:(c:Co)->Nat->X c->B
 fS:(c:Co)->Nat->X c->S
 fL:(c:Co)->Nat->(c':Co)->X c->L c'
 mkX:(c:Co)->Tup au c.pJ->X c
 eqX:(c:Co)->X c->X c->B
 ret:(ts:List LTy)->Tup au ts->M (Tup au ts)
 sN: {ρ:Type}->(ts:List LTy)->Tup au ts->(Tup au ts->M ρ)->M ρ
 fail: {ρ:Type}->M ρ
 chk: {ρ:Type}->B->M ρ->M ρ
 cond: {ρ:Type}->B->M ρ->M ρ->M ρ
 bind: {ρ:Type}->(ts:List LTy)->M (Tup au ts)->(Tup au ts->M ρ)->M ρ
 tV: {ρ:Type}->(ts:List LTy)->M (Sum (Tup au ts) ρ)->(Tup au ts->M ρ)->M ρ
 inl: {ρ:Type}->(ts:List LTy)->Tup au ts->M (Sum (Tup au ts) ρ)
 inr: {ρ:Type}->(ts:List LTy)->M ρ->M (Sum (Tup au ts) ρ)
 iter: {ρ:Type}->(ts:List LTy)->(Tup au ts->M (Sum (Tup au ts) ρ))->Tup au ts->M ρ
inductive Leaf (A:Car) where
 | int (k:IntKind) (x:A.I) | bool (x:A.B) | str (x:A.S) | rows (c:Co) (xs:A.L c)
inductive TC (A:Car) where
 | d (f:Bool) (x:Leaf A)
 | nil
 | clip (f:Bool) (c:Co) (xs:A.L c)
 | own (l:Nat)
 | os (l:Nat) (lo n:A.I)
 | pb (l sz j:Nat)
 | pr (l:Nat) (i:A.I) (j:Nat)
 | rp (f:Bool) (c:Co) (xs:A.L c) (i:A.I) (j:Nat)
 | gp (g:Nat) (c:Co)
 | fn (g:FuncId) (caps:List (Nat×Nat))
 | np
inductive TV (A:Car) where
 | c (x:TC A)
 | agg (cs:List (TC A))
 | sv (f:Bool) (c:Co) (x:A.X c)
 | tup (vs:List (TV A))
inductive dQ (A:Car) where
 | box (v:TV A)
 | rows (f:Bool) (c:Co) (xs:A.L c)
 | gone (c:Co) (n:A.I)
structure XT where
 ty:TypeId->Option TY
 co:TypeId->Option Co
 glob:Nat->Option Co
 ieq:TypeId->Option Co
section
variable (A:Alg)
def aj9(c:Co)(j:Nat)(x:A.X c):Sh->Leaf A.au
 | .int k=> .int k (A.fI c j x)
 | .bool=> .bool (A.fB c j x)
 | .str=> .str (A.fS c j x)
 | .rows c'=> .rows c' (A.fL c j c' x)
def fJ(c:Co)(x:A.X c):Nat->List Sh->List (Leaf A.au)
 | _,[]=> []
 | j,s::r=>aj9 A c j x s::fJ c x (j+1) r
def oO(f:Bool)(c:Co)(x:A.X c):List (TC A.au):=(fJ A c x 0 c.fields).map (.d f)
def bU:TV A.au->List (TC A.au)
 | .c x=> [x]
 | .agg cs=>cs
 | .sv f c x=>oO A f c x
 | .tup _=> []
def Leaf.lv{A:Car}:Leaf A->LV A
 | .int _ x=> .i x | .bool x=> .b x | .str x=> .s x | .rows c xs=> .l c xs
def Leaf.flag{A:Car}(f:Bool):Leaf A->Bool
 | .rows _ _=>f | _=>true
def jd{A:Car}:Leaf A->Sh
 | .int k _=> .int k | .bool _=> .bool | .str _=> .str | .rows c _=> .rows c
def eU(h:List (dQ A.au))(s:Sh)(x:TC A.au):Option (Bool×LV A.au×List Nat):=
 match x with
 | .d f y=>if jd y=s then some (y.flag f,y.lv,[])else none
 | .nil=>match s with | .rows c=>some (true,.l c (A.EG c),[]) | _=>none
 | .clip f c xs=>if Sh.rows c=s then some (f,.l c xs,[])else none
 | .own l=>match h[l]? with | some (.rows f c xs)=>if Sh.rows c=s then some (f,.l c xs,[l])else none | _=>none
 | _=>none
def aR(h:List (dQ A.au)):List Sh->List (TC A.au)->Option (Bool×List (LV A.au)×List Nat)
 | [],[]=>some (true,[],[])
 | s::r,x::xs=>match eU A h s x with
  | some (f,y,l)=>match aR h r xs with | some (g,ys,ls)=>if l.all λi=> !ls.contains i then some (f&&g,y::ys,l++ls)else none | none=>none
  | none=>none
 | _,_=>none
def toX(h:List (dQ A.au))(c:Co)(v:TV A.au):Option (Bool×A.X c×List Nat):=
 match v with
 | .sv f c' x=>if e:c'=c then some (f || c.flat,e▸x,[])else none
 | .tup _=>none
 | v=>match aR A h c.fields (bU A v)with
  | some (f,ys,ls)=>match pack A.au c.pJ ys with | some t=>some (f,A.mkX c t,ls) | none=>none
  | none=>none
def bF:TV A.au->Bool | .agg _ | .sv .. =>true | _=>false
def jI(y:TY)(j:Nat)(whole:TV A.au)(cs:List (TC A.au)):Option (TV A.au):=
 if y.desc.agg then
  (if(j==0)&& (y.size==cs.length)&&bF A whole then some whole else if Nat.ble (j+y.size) cs.length then some (.agg ((cs.drop j).take y.size))else none)
 else match cs[j]? with
  | some x=>(match y.desc with
   | .int k=>(match x with | .d _ (.int k' _)=>if k=k' then some (.c x)else none | _=>none)
   | _=>some (.c x))
  | none=>none
abbrev PR:=Option (List A.B×TV A.au)
def okV(v:TV A.au):PR A:=some ([],v)
def okI(k:IntKind)(x:A.I):PR A:=some ([],.c (.d true (.int k x)))
def okB(x:A.B):PR A:=some ([],.c (.d true (.bool x)))
def LC(v:Option (TV A.au)):PR A:=match v with | some v=>some ([],v) | none=>none
def evX(X:XT)(e:Nat->Option (TV A.au)):Operand->Option (TV A.au)
 | .tmp i=>e i
 | .const v=>match v with
  | .int k n=>some (.c (.d true (.int k (A.lit n))))
  | .bool b=>some (.c (.d true (.bool (A.bl b))))
  | .string s=>some (.c (.d true (.str (A.st s))))
  | .slice none 0 0=>some (.c .nil)
  | .pointer none=>some (.c .np)
  | _=>none
 | .global g=>match X.glob g with | some c=>some (.c (.gp g c)) | none=>none
 | .func f=>some (.c (.fn f []))
def LD(X:XT)(h:List (dQ A.au))(ty:TypeId)(p:TV A.au):PR A:=
 match X.ty ty with
 | none=>none
 | some y=>match p with
  | .c (.pb l sz j)=>match h[l]? with
   | some (.box v)=>if(bU A v).length==sz then LC A (jI A y j v (bU A v))else none
   | _=>none
  | .c (.pr l i j)=>match h[l]? with
   | some (.rows f c xs)=>match jI A y j (.sv f c (A.get c xs i)) (oO A f c (A.get c xs i))with
    | some v=>some ([A.cmp .leq (A.lit 0) i,A.cmp .lss i (A.len c xs)],v)
    | none=>none
   | _=>none
  | .c (.rp f c xs i j)=>LC A (jI A y j (.sv f c (A.get c xs i)) (oO A f c (A.get c xs i)))
  | .c (.gp g c)=>match y.desc with | .slice _=>some ([],.c (.d false (.rows c (A.glob g c)))) | _=>none
  | _=>none
def I7:BinOp->Bool
 | .add | .sub | .mul | .quo | .rem | .and | .or | .xor | .shl | .shr=>true
 | _=>false
def Yd:BinOp->Bool
 | .eql | .neq | .lss | .leq | .gtr | .geq=>true
 | _=>false
def akb(X:XT)(op:BinOp)(ty:TypeId)(a b:TV A.au):PR A:=
  match a,b with
  | .c (.d _ (.int k x)),.c (.d _ (.int k' y))=>
    if k=k'\/UF op=true then
      (match op with
       | .quo | .rem=>some ([A.cmp .neq y (A.lit 0)],.c (.d true (.int k (A.arith op k x y))))
       | .shl | .shr=>some ([A.cmp .leq (A.lit 0) y],.c (.d true (.int k (A.arith op k x y))))
       | op=>if I7 op then okI A k (A.arith op k x y)else if Yd op then okB A (A.cmp op x y)else none)
    else none
  | .c (.d _ (.bool x)),.c (.d _ (.bool y))=>match X.ty ty with
    | some z=>match z.desc with
      | .bool=>(match op with | .eql=>okB A (A.eqB x y) | .neq=>okB A (A.yM (A.eqB x y)) | _=>none)
      | _=>none
    | none=>none
  | .c (.d _ (.str x)),.c (.d _ (.str y))=>match X.ty ty with
    | some z=>match z.desc with
      | .str=>(match op with | .eql=>okB A (A.eqS x y) | .neq=>okB A (A.yM (A.eqS x y)) | _=>none)
      | _=>none
    | none=>none
  | .c (.os _ _ m),.c .nil=>match X.ty ty with
    | some z=>match z.desc with
      | .slice _=>(match op with
        | .eql=>some ([A.cmp .neq m (A.lit 0)],.c (.d true (.bool (A.bl false))))
        | .neq=>some ([A.cmp .neq m (A.lit 0)],.c (.d true (.bool (A.bl true))))
        | _=>none)
      | _=>none
    | none=>none
  | .c (.d _ (.rows c xs)),.c .nil=>match X.ty ty with
    | some z=>match z.desc with
      | .slice _=>(match op with
        | .eql=>some ([A.cmp .neq (A.len c xs) (A.lit 0)],.c (.d true (.bool (A.bl false))))
        | .neq=>some ([A.cmp .neq (A.len c xs) (A.lit 0)],.c (.d true (.bool (A.bl true))))
        | _=>none)
      | _=>none
    | none=>none
  | v,w=>match X.ieq ty with
    | some c=>match toX A [] c v,toX A [] c w with
      | some (_,x,_),some (_,y,_)=>(match op with | .eql=>okB A (A.eqX c x y) | .neq=>okB A (A.yM (A.eqX c x y)) | _=>none)
      | _,_=>none
    | none=>none
def akc(h:List (dQ A.au))(v:TV A.au):TV A.au:=match v with
 | .c (.own l)=>(match h[l]? with | some (.rows _ c xs)=> .c (.os l (A.lit 0) (A.len c xs)) | _=>v)
 | _=>v
def unX(op:UnOp)(a:TV A.au):PR A:=
 match op,a with
 | .not,.c (.d _ (.bool b))=>okB A (A.yM b)
 | .neg,.c (.d _ (.int k n))=>okI A k (A.neg k n)
 | _,_=>none
def Ye(X:XT)(src dst:TypeId)(a:TV A.au):PR A:=
 match X.ty src,X.ty dst with
 | some z,some y=>match y.desc,a with
  | .int k,.c (.d _ (.int _ n))=>okI A k (A.conv k n)
  | .str,.c (.d _ (.rows .u8 xs))=>(match z.desc with
   | .slice e=>(match X.ty e with
    | some t=>(match t.desc with | .int .u8=>some ([],.c (.d true (.str (A.NT xs)))) | _=>none)
    | none=>none)
   | _=>none)
  | _,_=>none
 | _,_=>none
def yN(X:XT)(s:TypeId)(a:TV A.au)(f:Nat):PR A:=
 match X.ty s with
 | some y=>match y.desc with
  | .struct fs=>match fs[f]? with
   | some (off,ft)=>match X.ty ft with
    | some z=>if z.size==0 then none else(match a with
     | .c (.pb l sz j)=>okV A (.c (.pb l sz (j+off)))
     | .c (.pr l i j)=>okV A (.c (.pr l i (j+off)))
     | .c (.rp g c xs i j)=>okV A (.c (.rp g c xs i (j+off)))
     | _=>none)
    | none=>none
   | none=>none
  | _=>none
 | none=>none
def NW(X:XT)(s:TypeId)(a:TV A.au)(f:Nat):PR A:=
 match X.ty s with
 | some y=>match y.desc with
  | .struct fs=>match fs[f]? with
   | some (off,ft)=>match X.ty ft with
    | some z=>if bF A a&&Nat.ble (off+z.size) (bU A a).length then
      (if z.desc.agg then okV A (.agg (((bU A a).drop off).take z.size))else match (bU A a)[off]? with | some x=>okV A (.c x) | none=>none)
     else none
    | none=>none
   | none=>none
  | _=>none
 | none=>none
def jT(X:XT)(e:TypeId)(c:Co):Bool:=match X.ty e with | some z=>z.size==c.fields.length | none=>false
def yO(X:XT)(h:List (dQ A.au))(t:TypeId)(a ix:TV A.au):PR A:=
 match X.ty t with
 | some y=>match y.desc,ix with
  | .slice e,.c (.d _ (.int _ i))=>match a with
   | .c (.d f (.rows c xs))=>if jT X e c then some ([A.cmp .leq (A.lit 0) i,A.cmp .lss i (A.len c xs)],.c (.rp f c xs i 0))else none
   | .c (.clip f c xs)=>if jT X e c then some ([A.cmp .leq (A.lit 0) i,A.cmp .lss i (A.len c xs)],.c (.rp f c xs i 0))else none
   | .c (.own l)=>match h[l]? with
    | some (.rows _ c xs)=>if jT X e c then some ([A.cmp .leq (A.lit 0) i,A.cmp .lss i (A.len c xs)],.c (.pr l i 0))else none
    | _=>none
   | .c (.os l lo n)=>match h[l]? with
    | some (.rows _ c _)=>if jT X e c then some ([A.cmp .leq (A.lit 0) i,A.cmp .lss i n,A.cmp .leq (A.lit 0) lo],.c (.pr l (A.addN lo i) 0))else none
    | _=>none
   | _=>none
  | _,_=>none
 | none=>none
def akd(h:List (dQ A.au))(a:TV A.au):PR A:=
 match a with
 | .c (.d _ (.rows c xs))=>okI A .i64 (A.len c xs)
 | .c (.clip _ c xs)=>okI A .i64 (A.len c xs)
 | .c (.own l)=>match h[l]? with | some (.rows _ c xs)=>okI A .i64 (A.len c xs) | _=>none
 | .c (.os _ _ n)=>okI A .i64 n
 | .c .nil=>okI A .i64 (A.lit 0)
 | _=>none
def ake(a:TV A.au):PR A:=
 match a with
 | .c (.pb l s j)=>okV A (.c (.pb l s j))
 | .c (.pr l i j)=>okV A (.c (.pr l i j))
 | .c (.rp f c xs i j)=>okV A (.c (.rp f c xs i j))
 | _=>none
def I8(X:XT)(e:Nat->Option (TV A.au))(o:Option Operand)(dflt:A.I):Option A.I:=
 match o with
 | none=>some dflt
 | some x=>match evX A X e x with | some (.c (.d _ (.int _ n)))=>some n | _=>none
def NY(X:XT)(e:Nat->Option (TV A.au))(h:List (dQ A.au))(ty:TypeId)(a:TV A.au)(lo hi mx:Option Operand):PR A:=
 match X.ty ty with
 | some y=>match y.desc with
  | .slice el=>match I8 A X e lo (A.lit 0)with
   | some l=>match a with
    | .c (.d f (.rows c xs))=>if jT X el c then
      match I8 A X e hi (A.len c xs)with
      | some r=>match mx with
       | none=>some ([A.cmp .leq (A.lit 0) l,A.cmp .leq l r,A.cmp .leq r (A.len c xs)],.c (.d f (.rows c (A.sub c xs l r))))
       | some _=>match I8 A X e mx (A.lit 0)with
        | some m=>if hi.isSome then some ([A.cmp .leq (A.lit 0) l,A.cmp .leq l r,A.cmp .leq r (A.len c xs),A.cmp .eql m r],.c (.clip f c (A.sub c xs l r)))else none
        | none=>none
      | none=>none
     else none
    | .c (.own w)=>match h[w]?,mx with
     | some (.rows _ c xs),none=>if jT X el c then
       match I8 A X e hi (A.len c xs)with
       | some r=>some ([A.cmp .leq (A.lit 0) l,A.cmp .leq l r,A.cmp .leq r (A.len c xs)],.c (.os w l (A.LA r l)))
       | none=>none
      else none
     | _,_=>none
    | .c (.os w l0 n)=>match h[w]?,mx with
     | some (.rows _ c _),none=>if jT X el c then
       match I8 A X e hi n with
       | some r=>some ([A.cmp .leq (A.lit 0) l,A.cmp .leq l r,A.cmp .leq r n,A.cmp .leq (A.lit 0) l0],.c (.os w (A.addN l0 l) (A.LA r l)))
       | none=>none
      else none
     | _,_=>none
    | .c .nil=>match mx,I8 A X e hi (A.lit 0)with
     | none,some r=>if(X.ty el).isSome then some ([A.cmp .eql l (A.lit 0),A.cmp .eql r (A.lit 0)],.c .nil)else none
     | _,_=>none
    | _=>none
   | none=>none
  | _=>none
 | none=>none
def LG(X:XT)(e:Nat->Option (TV A.au))(fs:List (Nat×TypeId)):List (Nat×Operand)->List (TC A.au)->Option (List (TC A.au))
 | [],cs=>some cs
 | (i,x)::rest,cs=>match fs[i]? with
  | some (off,ft)=>match X.ty ft,evX A X e x with
   | some z,some v=>if((bU A v).length==z.size)&& !(z.size==0)&&Nat.ble (off+z.size) cs.length then
    LG X e fs rest (cs.take off++bU A v++cs.drop (off+(bU A v).length))else none
   | _,_=>none
  | none=>none
def UY:Cell->Option (TC A.au)
 | .d true (.int k n)=>some (.d true (.int k (A.lit n)))
 | .d true (.bool b)=>some (.d true (.bool (A.bl b)))
 | .d true (.str s)=>some (.d true (.str (A.st s)))
 | .nil=>some .nil
 | .np=>some .np
 | _=>none
def jA:List Cell->Option (List (TC A.au))
 | []=>some []
 | x::r=>match UY A x,jA r with | some y,some ys=>some (y::ys) | _,_=>none
def NZ(X:XT)(e:Nat->Option (TV A.au))(ty:TypeId)(parts:List (Nat×Operand)):PR A:=
 match X.ty ty with
 | some y=>match y.desc with
  | .struct fs=>if fs.all λft=>(X.ty ft.2).isSome then
    match jA A y.zero with
    | some z=>match LG A X e fs parts z with | some cs=>okV A (.agg cs) | none=>none
    | none=>none
   else none
  | _=>none
 | none=>none
def LH(X:XT)(e:Nat->Option (TV A.au)):List Operand->Option (List (Nat×Nat))
 | []=>some []
 | x::r=>match evX A X e x with
  | some (.c (.pb l sz 0))=>match LH X e r with | some ys=>some ((l,sz)::ys) | none=>none
  | _=>none
def Yf(b:A.B):TC A.au->TC A.au->Option (TC A.au)
 | .d f (.int k x),.d g (.int k' y)=>if k=k' then some (.d (f&&g) (.int k (A.NU b x y)))else none
 | .d f (.bool x),.d g (.bool y)=>some (.d (f&&g) (.bool (A.I6 b x y)))
 | .d f (.rows c xs),.d g (.rows c' ys)=>if e:c'=c then some (.d (f&&g) (.rows c (A.NV b c xs (e▸ys))))else none
 | _,_=>none
def N7(b:A.B):TV A.au->TV A.au->Option (TV A.au)
 | .c x,.c y=>match Yf A b x y with | some z=>some (.c z) | none=>none
 | _,_=>none
def EH(X:XT)(e:Nat->Option (TV A.au))(h:List (dQ A.au))(c:Call):PR A:=
 match c.callee with
 | .builtin .len=>match c.args.toList,c.argTypes.toList with
  | [x],[ty]=>match X.ty ty,evX A X e x with
   | some y,some v=>(match y.desc with | .slice _=>akd A h v | _=>none)
   | _,_=>none
  | _,_=>none
 | .builtin .cap=>match c.args.toList,c.argTypes.toList with
  | [x],[ty]=>match X.ty ty,evX A X e x with
   | some y,some (.c .nil)=>(match y.desc with | .slice _=>okI A .i64 (A.lit 0) | _=>none)
   | _,_=>none
  | _,_=>none
 | .builtin .min=>match c.args.toList with
  | [x,y]=>match evX A X e x,evX A X e y with
   | some (.c (.d _ (.int k m))),some (.c (.d _ (.int _ n)))=>okI A k (A.NS m n)
   | _,_=>none
  | _=>none
 | .builtin .max=>match c.args.toList with
  | [x,y]=>match evX A X e x,evX A X e y with
   | some (.c (.d _ (.int k m))),some (.c (.d _ (.int _ n)))=>okI A k (A.jg m n)
   | _,_=>none
  | _=>none
 | _=>none
def zJ(v:Option (TV A.au))(K:TV A.au->PR A):PR A:=match v with | some v=>K v | none=>none
def UZ(X:XT)(e:Nat->Option (TV A.au))(h:List (dQ A.au))(op:Op):PR A:=
 match op with
 | .move x | .assign x=>zJ A (evX A X e x) λv=>okV A v
 | .load ty p=>zJ A (evX A X e p) λv=>LD A X h ty v
 | .nilCheck x=>zJ A (evX A X e x) λv=>ake A v
 | .binOp op ty x y _=>zJ A (evX A X e x) λa=>zJ A (evX A X e y) λb=>akb A X op ty (akc A h a) b
 | .unOp op _ x=>zJ A (evX A X e x) λa=>unX A op a
 | .convert s d x=>zJ A (evX A X e x) λa=>Ye A X s d a
 | .fieldAddr s x f=>zJ A (evX A X e x) λa=>yN A X s a f
 | .field s x f=>zJ A (evX A X e x) λa=>NW A X s a f
 | .indexAddr ty x i=>zJ A (evX A X e x) λa=>zJ A (evX A X e i) λb=>yO A X h ty a b
 | .slice ty x lo hi mx=>zJ A (evX A X e x) λa=>NY A X e h ty a lo hi mx
 | .extract x i=>zJ A (evX A X e x) λa=>match a with | .tup vs=>LC A vs[i]? | _=>none
 | .build ty parts=>NZ A X e ty parts.toList
 | .makeFunc fn first caps=>match fn with
  | .func g=>if first.toList.isEmpty then(match LH A X e caps.toList with | some cs=>okV A (.c (.fn g cs)) | none=>none)else none
  | _=>none
 | .call c=>EH A X e h c
 | _=>none
structure HR where
 chk:List A.B
 v:TV A.au
 h:List (dQ A.au)
 touched:List Nat
def bA(h:List (dQ A.au)):List Nat->List (dQ A.au)
 | []=>h
 | l::r=>bA (match h[l]? with | some (.rows _ c xs)=>h.set l (.gone c (A.len c xs)) | _=>h) r
def jg:Int:=1073741824
def zdB(l:List Cell):Bool:=l.all λx=>match x with | .d _ _=>true | .nil=>true | _=>false
def akf(h:List (dQ A.au))(c:Co)(zx:Option (A.X c))(v:TV A.au):Option (Bool×A.L c):=
 match v with
 | .c (.d _ (.int _ n))=>match zx with | some x=>some (true,A.rep c n x) | none=>none
 | .c .nil=>some (true,A.EG c)
 | .c (.d f (.rows c' xs))=>if e:c'=c then some (f,e▸xs)else none
 | .c (.clip f c' xs)=>if e:c'=c then some (f,e▸xs)else none
 | .c (.own l)=>match h[l]? with | some (.rows f c' xs)=>if e:c'=c then some (f,e▸xs)else none | _=>none
 | .c (.os l lo n)=>match h[l]? with | some (.rows f c' xs)=>if e:c'=c then some (f,e▸A.sub c' xs lo (A.addN lo n))else none | _=>none
 | _=>none
def jU(h:List (dQ A.au))(v:TV A.au):List A.B:=
 match v with
 | .c (.os l lo n)=>match h[l]? with
  | some (.rows _ c' xs)=> [A.cmp .leq (A.lit 0) lo,A.cmp .leq (A.lit 0) n,A.cmp .leq (A.addN lo n) (A.len c' xs)]
  | _=> []
 | .c (.d _ (.int _ n))=> [A.cmp .leq (A.lit 0) n,A.cmp .leq n (A.lit jg)]
 | _=> []
def EI(X:XT)(t2:TypeId)(v:TV A.au):Bool:=
 match X.ty t2 with
 | some y2=>(match y2.desc,v with | .slice _,.c (.d _ (.int ..))=>false | .slice _,.c _=>true | .int _,.c (.d _ (.int ..))=>true | _,_=>false)
 | none=>false
def Va(z:TY)(c:Co):Option (A.X c):=
 match jA A z.zero with
 | some zs=>(match toX A [] c (.agg zs)with | some (_,x,_)=>some x | none=>none)
 | none=>none
def I9(X:XT)(h:List (dQ A.au))(ty t2:TypeId)(a b:TV A.au):Option (HR A):=
 match X.ty ty with
 | some y=>match y.desc with
  | .slice e=>match X.ty e,X.co e with
   | some z,some c=>if jT X e c&& !(z.size==0)&&Nat.ble z.bytes 1024&&EI A X t2 b&&zdB z.zero then
     match (akf A h c (Va A z c) b).map λp=>(p.1 || c.flat,p.2)with
     | some (f2,ds)=>match a with
      | .c .nil=>some ⟨jU A h b++ [A.cmp .leq (A.len c ds) (A.lit jg)],.c (.own h.length),h++ [.rows f2 c ds],[]⟩
      | .c (.own l)=>match h[l]? with
       | some (.rows f1 c1 xs)=>if q:c1=c then
         some ⟨jU A h b++ [A.cmp .leq (A.addN (A.len c1 xs) (A.len c ds)) (A.lit jg)],.c (.own h.length),
          h.set l (.gone c1 (A.len c1 xs))++ [.rows (f1&&f2) c (A.app c (q▸xs) ds)],[l]⟩
        else none
       | _=>none
      | .c (.os l lo n)=>match h[l]? with
       | some (.rows f1 c1 xs)=>if q:c1=c then
         some ⟨jU A h b++ [A.cmp .eql lo (A.lit 0),A.cmp .leq (A.lit 0) n,A.cmp .leq n (A.len c1 xs),A.cmp .leq (A.addN n (A.len c ds)) (A.lit jg)],.c (.own h.length),
          h.set l (.gone c1 (A.len c1 xs))++ [.rows (f1&&f2) c (A.app c (A.sub c (q▸xs) (A.lit 0) n) ds)],[l]⟩
        else none
       | _=>none
      | .c (.clip f1 c1 xs)=>if q:c1=c then
        some ⟨jU A h b++ [A.orB (A.cmp .lss (A.lit 0) (A.len c ds)) (A.cmp .eql (A.len c1 xs) (A.lit 0)),A.cmp .leq (A.addN (A.len c1 xs) (A.len c ds)) (A.lit jg)],.c (.own h.length),
         h++ [.rows (f1&&f2) c (A.app c (q▸xs) ds)],[]⟩
       else none
      | _=>none
     | none=>none
    else none
   | _,_=>none
  | _=>none
 | none=>none
def qB(X:XT)(e:Nat->Option (TV A.au))(c:Co):List (dQ A.au)->List (Nat×Operand)->Option (Bool×List (A.X c)×List (dQ A.au)×List Nat)
 | h,[]=>some (true,[],h,[])
 | h,(_,x)::r=>match evX A X e x with
  | some v=>match toX A h c v with
   | some (f,y,ls)=>match qB X e c (bA A h ls) r with
    | some (g,ys,h',ls')=>some (f&&g,y::ys,h',ls++ls')
    | none=>none
   | none=>none
  | none=>none
def LJ(c:Co)(cs:List (LV A.au))(j:Nat)(y:LV A.au):Option (A.X c):=
 match pack A.au c.pJ (cs.set j y)with | some t=>some (A.mkX c t) | none=>none
def tX(X:XT)(h:List (dQ A.au))(ty:TypeId)(p v:TV A.au):Option (HR A):=
 match X.ty ty with
 | some y=>if(y.size==0) || !((bU A v).length==y.size)then none else match p with
  | .c (.pb l sz j)=>match h[l]? with
   | some (.box w)=>
    if(j==0)&& ((bU A v).length==(bU A w).length)&& ((bU A w).length==sz)&& (bF A v==bF A w)then some ⟨[],.tup [],h.set l (.box v),[l]⟩
    else if Nat.ble (j+(bU A v).length) (bU A w).length&& ((bU A w).length==sz)then
     some ⟨[],.tup [],h.set l (.box (.agg ((bU A w).take j++bU A v++(bU A w).drop (j+(bU A v).length)))),[l]⟩
    else none
   | _=>none
  | .c (.pr l i j)=>match h[l]? with
   | some (.rows f c xs)=>
    if(j==0)&& (y.size==c.fields.length)then
     match toX A h c v with
     | some (g,x,ls)=>if ls.contains l then none else
       some ⟨[A.cmp .leq (A.lit 0) i,A.cmp .lss i (A.len c xs)],.tup [],(bA A h ls).set l (.rows (f&&g) c (A.set c xs i x)),l::ls⟩
     | none=>none
    else match bU A v,c.fields[j]? with
     | [x],some s=>match eU A h s x with
      | some (g,y,ls)=>if ls.contains l then none else
       match LJ A c ((fJ A c (A.get c xs i) 0 c.fields).map Leaf.lv) j y with
       | some z=>some ⟨[A.cmp .leq (A.lit 0) i,A.cmp .lss i (A.len c xs)],.tup [],(bA A h ls).set l (.rows (f&&g) c (A.set c xs i z)),l::ls⟩
       | none=>none
      | none=>none
     | _,_=>none
   | _=>none
  | _=>none
 | none=>none
def N8(X:XT)(h:List (dQ A.au))(ty:TypeId)(v:TV A.au):Option (HR A):=
 match X.ty ty with
 | some y=>match y.desc with
  | .slice e=>match X.ty e,X.co e with
   | some z,some c=>match jA A z.zero with
    | some zs=>match toX A [] c (.agg zs)with
     | some (_,x,_)=>if jT X e c&& !(z.size==0)then
      match v with
      | .c .nil=>some ⟨[],.tup [],h,[]⟩
      | .c (.own l)=>match h[l]? with
       | some (.rows f c1 xs)=>if c1=c then some ⟨[],.tup [],h.set l (.rows f c (A.rep c (A.len c1 xs) x)),[l]⟩else none
       | _=>none
      | .c (.os l lo n)=>match h[l]? with
       | some (.rows f c1 xs)=>if q:c1=c then
         some ⟨jU A h v,.tup [],h.set l (.rows f c (A.app c (A.app c (A.sub c (q▸xs) (A.lit 0) lo) (A.rep c n x)) (A.sub c (q▸xs) (A.addN lo n) (A.len c1 xs)))),[l]⟩
        else none
       | _=>none
      | _=>none
      else none
     | none=>none
    | none=>none
   | _,_=>none
  | _=>none
 | none=>none
def EJ(X:XT)(e:Nat->Option (TV A.au))(h:List (dQ A.au))(op:Op):Option (HR A):=
 match op with
 | .alloc ty=>match X.ty ty with
  | some y=>match jA A y.zero with
   | some [x]=>if y.desc.agg then some ⟨[],.c (.pb h.length y.size 0),h++ [.box (.agg [x])],[]⟩else some ⟨[],.c (.pb h.length y.size 0),h++ [.box (.c x)],[]⟩
   | some (x::r)=>some ⟨[],.c (.pb h.length y.size 0),h++ [.box (.agg (x::r))],[]⟩
   | _=>none
  | none=>none
 | .box _ x=>match evX A X e x with
  | some v=>if(bU A v).length==0 then none else some ⟨[],.c (.pb h.length (bU A v).length 0),h++ [.box v],[]⟩
  | none=>none
 | .buildSlice ty len parts=>match X.ty ty with
  | some y=>match y.desc with
   | .slice el=>match X.ty el,X.co el with
    | some z,some c=>if jT X el c&& !(z.size==0)&& (parts.toList.map (·.1)==List.range len)&&Nat.ble (len*z.size) 16777216 then
      match qB A X e c h parts.toList with
      | some (f,xs,h',ls)=>some ⟨[],.c (.own h'.length),h'++ [.rows f c (A.lst c xs)],ls⟩
      | none=>none
     else none
    | _,_=>none
   | _=>none
  | none=>none
 | .makeSlice ty l cp=>match X.ty ty with
  | some y=>match y.desc with
   | .slice el=>match X.ty el,X.co el with
    | some z,some c=>match jA A z.zero,evX A X e l,evX A X e cp with
     | some zs,some (.c (.d _ (.int _ m))),some (.c (.d _ (.int _ m')))=>match toX A [] c (.agg zs)with
      | some (_,x,_)=>if jT X el c&& !(z.size==0)&&Nat.ble z.bytes 1024 then
        some ⟨[A.cmp .eql m' m,A.cmp .leq (A.lit 0) m,A.cmp .leq m (A.lit jg)],.c (.own h.length),h++ [.rows true c (A.rep c m x)],[]⟩
       else none
      | none=>none
     | _,_,_=>none
    | _,_=>none
   | _=>none
  | none=>none
 | .store ty p x=>match evX A X e p,evX A X e x with
  | some pv,some v=>tX A X h ty pv v
  | _,_=>none
 | .call c=>match c.callee,c.args.toList,c.argTypes.toList with
  | .builtin .append,[a,b],[ty,t2]=>match evX A X e a,evX A X e b with
   | some av,some bv=>I9 A X h ty t2 av bv
   | _,_=>none
  | .builtin .clear,[a],[ty]=>match evX A X e a with
   | some av=>N8 A X h ty av
   | none=>none
  | _,_,_=>none
 | _=>none
end
end Go.TX
namespace Go.TX
open Go Go.AE
variable [aB]
inductive SkC where
 | int (k:IntKind) | bool | str | rows (f:Bool) (c:Co) | nil | own (l:Nat) | pb (l sz j:Nat) | pr (l j:Nat) | rp (f:Bool) (c:Co) (j:Nat) | gp (g:Nat) (c:Co)
 | fn (g:FuncId) (caps:List (Nat×Nat)) | np | clip (f:Bool) (c:Co)
 deriving DecidableEq,Inhabited,Repr
inductive SkV where
 | c (x:SkC) | agg (cs:List SkC) | sv (f:Bool) (c:Co)
 deriving DecidableEq,Inhabited,Repr
inductive SkO where
 | box (v:SkV) | rows (f:Bool) (c:Co) | gone
 deriving DecidableEq,Inhabited,Repr
structure Gy where
 slots:List (Nat×SkV)
 objs:List SkO
 deriving DecidableEq,Inhabited
abbrev SkC.tys : SkC -> List LTy
 | .int _=> [.i] | .bool=> [.b] | .str=> [.s] | .rows _ c=> [.l c] | .pr _ _=> [.i] | .rp _ c _=> [.l c,.i] | .clip _ c=> [.l c] | _=> []
abbrev SkC.Du : List SkC -> List LTy
 | []=> []
 | x::r=>x.tys++SkC.Du r
abbrev SkV.tys : SkV -> List LTy
 | .c x=>x.tys | .agg cs=>SkC.Du cs | .sv _ q=> [.x q]
abbrev SkV.Du : List SkV -> List LTy
 | []=> []
 | x::r=>x.tys++SkV.Du r
abbrev SkO.tys : SkO -> List LTy
 | .box v=>v.tys | .rows _ c=> [.l c] | .gone=> []
abbrev SkO.Du : List SkO -> List LTy
 | []=> []
 | x::r=>x.tys++SkO.Du r
abbrev Gy.tys(k : Gy) : List LTy := SkV.Du (k.slots.map (·.2)) ++ SkO.Du k.objs
structure Sig where
 args:List SkV
 objs:List SkO
 res:List SkV
 dR:List SkO
 deriving DecidableEq,Inhabited
abbrev Sig.inp(s : Sig) : List LTy := SkV.Du s.args ++ SkO.Du s.objs
abbrev Sig.out(s : Sig) : List LTy := SkV.Du s.res ++ SkO.Du s.dR
def SkC.fresh:SkC->Bool | .rows f _=>f | .clip f _=>f | .rp f _ _=>f | .gp _ _=>false | _=>true
def SkV.fresh:SkV->Bool | .c x=>x.fresh | .agg cs=>cs.all SkC.fresh | .sv f q=>f || q.flat
def SkO.fresh:SkO->Bool | .box v=>v.fresh | .rows f _=>f | .gone=>true
def Sig.fresh(s:Sig):Bool:=s.res.all SkV.fresh&&s.dR.all SkO.fresh
structure Ct(A:Car)(s:Sig) where
 pre:Tup A s.inp->A.B
 fn:Tup A s.inp->Tup A s.out
abbrev Calls(A:Car):=FuncId->List (Sigma (Ct A))
inductive Ann where
 | u | seq (a b:Ann) | cond (a b:Ann) | block (a:Ann) | loop (k:Gy) (a:Ann) | cut (k:Gy) (a:Ann)
 deriving Inhabited
section
variable (A:Alg)
structure ES where
 ren:List (Option (Option Nat))
 fro:List (Nat×Bool)
 tr:List (Nat×A.I)
 ck:List A.B
 lv:List (LV A.au)
def ES.push(s:ES A)(x:LV A.au):ES A:={s with lv:=x::s.lv}
def qC(s:ES A)(i:Nat)(v:Option Nat):Option (ES A):=
 match s.ren[i]? with
 | some none=>some {s with ren:=s.ren.set i (some v)}
 | some (some w)=>if w=v then some s else none
 | none=>none
def extC(h:List (dQ A.au))(k:SkC)(v:TC A.au)(s:ES A):Option (ES A):=
 match k with
 | .int k=>match v with | .d _ (.int k' x)=>if k=k' then some (s.push A (.i x))else none | _=>none
 | .bool=>match v with | .d _ (.bool x)=>some (s.push A (.b x)) | _=>none
 | .str=>match v with | .d _ (.str x)=>some (s.push A (.s x)) | _=>none
 | .rows f c=>match v with
  | .os l lo n=>match h[l]? with
   | some (.rows g c' xs)=>if c=c'/\(!f || g)then some {(s.push A (.l c' (A.sub c' xs lo (A.addN lo n))))with fro:=(l,f)::s.fro,ck:=jU A h (.c v)++s.ck}else none
   | _=>none
  | v=>match eU A h (.rows c) v with
   | some (g,x,ls)=>if !f || g then some {(s.push A x)with fro:=ls.map (λl=>(l,f))++s.fro}else none
   | none=>none
 | .nil=>match v with | .nil=>some s | _=>none
 | .own i=>match v with
  | .own l=>if s.tr.any (·.1==i)then none else qC A s i (some l)
  | .nil=>qC A s i none
  | .os l lo n=>match s.ren[i]?,h[l]? with
   | some none,some (.rows _ c xs)=>some {s with ren:=s.ren.set i (some (some l)),tr:=(i,n)::s.tr,ck:=[A.cmp .eql lo (A.lit 0),A.cmp .leq (A.lit 0) n,A.cmp .leq n (A.len c xs)]++s.ck}
   | _,_=>none
  | _=>none
 | .pb i sz j=>match v with | .pb l sz' j'=>if sz=sz'/\j=j' then qC A s i (some l)else none | _=>none
 | .pr i j=>match v with | .pr l x j'=>if j=j'/\ !(s.tr.any (·.1==i))then(match qC A s i (some l)with | some s=>some (s.push A (.i x)) | none=>none)else none | _=>none
 | .rp f c j=>match v with | .rp g c' xs x j'=>if c=c'/\j=j'/\(!f || g)then some ((s.push A (.l c' xs)).push A (.i x))else none | _=>none
 | .gp g c=>match v with | .gp g' c'=>if g=g'/\c=c' then some s else none | _=>none
 | .fn g caps=>match v with
  | .fn g' CS=>if g=g'/\caps.map (·.2)=CS.map (·.2)then
    (caps.zip CS).foldlM (λs p=>qC A s p.1.1 (some p.2.1)) s else none
  | _=>none
 | .np=>match v with | .np=>some s | _=>none
 | .clip f c=>match v with | .clip g c' xs=>if c=c'/\(!f || g)then some (s.push A (.l c' xs))else none | _=>none
def EK(h:List (dQ A.au)):List SkC->List (TC A.au)->ES A->Option (ES A)
 | [],[],s=>some s
 | k::r,v::vs,s=>match extC A h k v s with | some s=>EK h r vs s | none=>none
 | _,_,_=>none
def Gz(h:List (dQ A.au))(k:SkV)(v:TV A.au)(s:ES A):Option (ES A):=
 match k with
 | .c k=>match v with | .c x=>extC A h k x s | _=>none
 | .agg ks=>if bF A v then EK A h ks (bU A v) s else none
 | .sv f c=>if bF A v then match toX A h c v with
  | some (g,x,ls)=>if !f || g then some {(s.push A (.x c x))with fro:=ls.map (λl=>(l,f))++s.fro}else none
  | none=>none
  else none
def nZ(h:List (dQ A.au)):List SkV->List (TV A.au)->ES A->Option (ES A)
 | [],[],s=>some s
 | k::r,v::vs,s=>match Gz A h k v s with | some s=>nZ h r vs s | none=>none
 | _,_,_=>none
def qD(s:ES A)(i:Nat):Option A.I:=match s.tr.find? (·.1==i)with | some x=>some x.2 | none=>none
def N9(h:List (dQ A.au))(i:Nat)(k:SkO)(s:ES A):Option (ES A):=
 match k,s.ren[i]? with
 | .gone,_=>some s
 | .box k,some (some (some l))=>match h[l]? with | some (.box v)=>Gz A h k v s | _=>none
 | .rows f c,some (some (some l))=>match h[l]? with
  | some (.rows g c' xs)=>if c=c'/\(!f || g || c.flat)then some (s.push A (.l c' (match qD A s i with | some n=>A.sub c' xs (A.lit 0) n | none=>xs)))else none
  | _=>none
 | .rows _ c,some (some none)=>some (s.push A (.l c (A.EG c)))
 | _,_=>none
def zK(h:List (dQ A.au)):Nat->List SkO->ES A->Option (ES A)
 | _,[],s=>some s
 | i,k::r,s=>match N9 A h i k s with | some s=>zK h (i+1) r s | none=>none
def bI:List (Option (Option Nat))->List Nat
 | []=> []
 | some (some l)::r=>l::bI r
 | _::r=>bI r
def distinct:List Nat->Bool
 | []=>true
 | x::r=> !r.contains x&&distinct r
def qE:Option SkO->Bool | some .gone=>true | _=>false
def pK:List SkO->List (Option (Option Nat))->Bool
 | .gone::os,some _::_=>false
 | _::os,_::r=>pK os r
 | _,_=>true
def Yg(h:List (dQ A.au))(l:Nat):Bool:=match h[l]? with | some (.rows ..)=>true | _=>false
def ES.fine(h:List (dQ A.au))(s:ES A)(os:List SkO):Bool:=distinct (bI s.ren)&& (s.fro.all λp=> !(bI s.ren).contains p.1&&Yg A h p.1)&&pK os s.ren
def es0(k:Nat)(os:List SkO):ES A:={ren:=(List.range os.length).map λi=>if Nat.blt i k&& !qE os[i]? then some (some i)else none,fro:=[],tr:=[],ck:=[],lv:=[]}
end
section
variable (A:Car)
def Yh(nm:Nat->Nat):SkC->List (LV A)->Option (TC A×List (LV A))
 | .int k,.i x::r=>some (.d true (.int k x),r)
 | .bool,.b x::r=>some (.d true (.bool x),r)
 | .str,.s x::r=>some (.d true (.str x),r)
 | .rows f _,.l c x::r=>some (.d f (.rows c x),r)
 | .nil,r=>some (.nil,r)
 | .own i,r=>some (.own (nm i),r)
 | .pb i sz j,r=>some (.pb (nm i) sz j,r)
 | .pr i j,.i x::r=>some (.pr (nm i) x j,r)
 | .rp f _ j,.l c x:: .i y::r=>some (.rp f c x y j,r)
 | .gp g c,r=>some (.gp g c,r)
 | .fn g caps,r=>some (.fn g (caps.map λp=>(nm p.1,p.2)),r)
 | .np,r=>some (.np,r)
 | .clip f _,.l c x::r=>some (.clip f c x,r)
 | _,_=>none
def Ja(nm:Nat->Nat):List SkC->List (LV A)->Option (List (TC A)×List (LV A))
 | [],r=>some ([],r)
 | k::ks,r=>match Yh A nm k r with
  | some (x,r)=>match Ja nm ks r with | some (xs,r)=>some (x::xs,r) | none=>none
  | none=>none
def zL(nm:Nat->Nat):SkV->List (LV A)->Option (TV A×List (LV A))
 | .c k,r=>match Yh A nm k r with | some (x,r)=>some (.c x,r) | none=>none
 | .agg ks,r=>match Ja A nm ks r with | some (xs,r)=>some (.agg xs,r) | none=>none
 | .sv f _,.x c x::r=>some (.sv f c x,r)
 | _,_=>none
def qF(nm:Nat->Nat):List SkV->List (LV A)->Option (List (TV A)×List (LV A))
 | [],r=>some ([],r)
 | k::ks,r=>match zL A nm k r with
  | some (x,r)=>match qF nm ks r with | some (xs,r)=>some (x::xs,r) | none=>none
  | none=>none
def Yi(nm:Nat->Nat)(old:dQ A):SkO->List (LV A)->Option (dQ A×List (LV A))
 | .box k,r=>match zL A nm k r with | some (v,r)=>some (.box v,r) | none=>none
 | .rows f _,.l c x::r=>some (.rows f c x,r)
 | .gone,r=>some (old,r)
 | _,_=>none
def qG(nm:Nat->Nat)(old:Nat->dQ A):Nat->List SkO->List (LV A)->Option (List (dQ A)×List (LV A))
 | _,[],r=>some ([],r)
 | i,k::ks,r=>match Yi A nm (old i) k r with
  | some (x,r)=>match qG nm old (i+1) ks r with | some (xs,r)=>some (x::xs,r) | none=>none
  | none=>none
end
section
variable (A:Alg)
structure SV where
 tag:Option Nat
 v:TV A.au
structure GE where
 slot:Option Nat
 want:Bool
 par:Option Nat
 g:A.B
 dead:Bool
structure RSt where
 t:List (Nat×SV A)
 gs:List (GE A)
 h:List (dQ A.au)
 m:Nat
 deriving Inhabited
def dF:List (Nat×SV A)->Nat->Option (SV A)
 | [],_=>none
 | (i,v)::r,j=>if i==j then some v else dF r j
def lV(d:Nat)(e:GE A):GE A:=match e.slot with | some x=>if x==d then {e with slot:=none}else e | none=>e
def RSt.put(s:RSt A)(d:Option Nat)(tag:Option Nat)(v:TV A.au):RSt A:=
 match d with | none=>s | some d=> {s with t:=(d,⟨tag,v⟩)::s.t,gs:=s.gs.map (lV A d)}
def RSt.del(s:RSt A)(d:Option Nat):RSt A:=
 match d with | none=>s | some d=> {s with t:=s.t.filter λp=> !(p.1==d),gs:=s.gs.map (lV A d)}
def Vb(m:Nat):Option Nat->Bool | none=>true | some d=>Nat.blt d m
def Oa(gs:List (GE A)):Nat->Option Nat->List Nat
 | 0,_=> []
 | _,none=> []
 | f+1,some t=>t::(match gs[t]? with | some e=>Oa gs f e.par | none=> [])
def eZ(gs:List (GE A))(t:Option Nat):List Nat:=Oa A gs (gs.length+1) t
def wV:List (GE A)->Nat->Bool->Nat->Option Nat
 | [],_,_,_=>none
 | e::r,d,w,i=>if(e.slot==some d)&& (e.want==w)then some i else wV r d w (i+1)
def gK(lk:Nat->Option (SV A))(al:List Nat)(i:Nat):Option (TV A.au):=
 match lk i with
 | some ⟨none,v⟩=>some v
 | some ⟨some t,v⟩=>if al.contains t then some v else none
 | none=>none
inductive GR where
 | bad | skip | run (gs:List (GE A)) (t:Nat) (g:A.B)
def EL(lk:Nat->Option (SV A))(gs:List (GE A))(d:Nat)(want:Bool):GR A:=
 match lk d with
 | none=> .bad
 | some ⟨tg,v⟩=>match wV A gs d want 0 with
  | some t=>match gs[t]? with | some e=>if e.dead then .skip else .run gs t e.g | none=> .bad
  | none=>match v with
   | .c (.d _ (.bool b))=>
    let g0:=if want then b else A.yM b
    match tg with
    | none=> .run (gs++ [⟨some d,want,none,g0,false⟩]) gs.length g0
    | some t'=>match gs[t']? with
     | some e=> .run (gs++ [⟨some d,want,some t',A.LB e.g g0,false⟩]) gs.length (A.LB e.g g0)
     | none=> .bad
   | .tup []=>match tg with | none=> .skip | some _=> .bad
   | _=> .bad
def zN(gs:List (GE A))(t:Nat):List (GE A):=match gs[t]? with | some e=>gs.set t {e with dead:=true} | none=>gs
def tY(X:XT)(lk:Nat->Option (SV A))(gs:List (GE A))(h:List (dQ A.au))(cur:Option Nat)(op:Op):PR A:=
 let al:=eZ A gs cur
 match op with
 | .pick c a b=>match evX A X (gK A lk al) c with
  | some (.c (.d _ (.bool q)))=>
   let alt (w:Bool):List Nat:=match c with
    | .tmp d=>(match wV A gs d w 0 with | some t=>eZ A gs (some t)++al | none=>al)
    | _=>al
   match evX A X (gK A lk (alt true)) a,evX A X (gK A lk (alt false)) b with
   | some (.tup []),some y=>some ([A.yM q],y)
   | some x,some (.tup [])=>some ([q],x)
   | some x,some y=>LC A (N7 A q x y)
   | _,_=>none
  | _=>none
 | op=>UZ A X (gK A lk al) h op
def LK(X:XT)(e:Nat->Option (TV A.au)):List Operand->Option (List (TV A.au))
 | []=>some []
 | x::r=>match evX A X e x with | some v=>(match LK X e r with | some vs=>some (v::vs) | none=>none) | none=>none
def newNames:List (Option (Option Nat))->Nat->Nat->List Nat
 | _,_,0=> []
 | [],n,k+1=>n::newNames [] (n+1) k
 | some (some l)::r,n,k+1=>l::newNames r n k
 | _::r,n,k+1=>n::newNames r (n+1) k
def tZ(h:List (dQ A.au))(l:Nat):dQ A.au:=
 match h[l]? with | some (.rows _ c xs)=> .gone c (A.len c xs) | some (.gone c n)=> .gone c n | _=> .gone .i64 (A.lit 0)
def iB(h:List (dQ A.au)):List Nat->List (dQ A.au)->List (dQ A.au)
 | l::ls,o::os=>iB (if Nat.blt l h.length then h.set l o else h++ [o]) ls os
 | _,_=>h
def apL:List (TV A.au)->TV A.au | [v]=>v | vs=> .tup vs
structure CR where
 ck:List A.B
 ts:List LTy
 y:Tup A.au ts
 k:Tup A.au ts->Option (TV A.au×List (dQ A.au))
 touched:List Nat
 pure:Bool
def qH(h:List (dQ A.au))(s:Sig)(ct:Ct A.au s)(args:List (TV A.au)):Option (CR A):=
  match nZ A h s.args args (es0 A 0 s.objs)with
  | some e=>match zK A h 0 s.objs e with
    | some e=>if ES.fine A h e s.objs&&e.tr.isEmpty then match pack A.au s.inp e.lv.reverse with
      | some x=>
        let br:=s.fresh&&e.fro.all λp=> !p.2
        some { ck := e.ck ++ [ct.pre x], ts := s.out, y := ct.fn x, touched := bI e.ren ++ (if br then [] else e.fro.map (·.1)), pure := s.objs.isEmpty && s.dR.isEmpty && (br || e.fro.isEmpty)
               k:=λy=>
                 let h1:=if br then h else bA A h (e.fro.map (·.1))
                 let nms:=newNames e.ren h1.length s.dR.length
                 let nm:=λi=>nms.getD i 0
                 match qF A.au nm s.res (unpack A.au s.out y)with
                 | some (vs,r)=>match qG A.au nm (λi=>tZ A h1 (nm i)) 0 s.dR r with
                   | some (os,_)=>some (apL A vs,iB A h1 nms os)
                   | none=>none
                 | none=>none}
      | none=>none
      else none
    | none=>none
  | none=>none
def zO(h:List (dQ A.au))(args:List (TV A.au)):List (Sigma (Ct A.au))->Option (CR A)
 | []=>none
 | ⟨s,ct⟩::r=>match qH A h s ct args with | some x=>some x | none=>zO h args r
def Vd(X:XT)(C:Calls A.au)(e:Nat->Option (TV A.au))(h:List (dQ A.au))(op:Op):Option (CR A):=
 match op with
 | .call c=>match c.callee with
  | .value f=>match evX A X e f,LK A X e c.args.toList with
   | some (.c (.fn g caps)),some vs=>zO A h (vs++caps.map λp=> .c (.pb p.1 p.2 0)) (C g)
   | _,_=>none
  | _=>none
 | _=>none
def Xf(X:XT)(C:Calls A.au)(e:Nat->Option (TV A.au))(h:List (dQ A.au))(op:Op):Option (CR A):=
 match iJ op with
 | 1=>match op with
  | .store ty p x=>match evX A X e p,evX A X e x with
   | some pv,some v=>match tX A X h ty pv v with
    | some r=>match v with
     | .c (.d f (.int q n))=>some {ck:=r.chk,ts:=[.i],y:=(n,()),k:=λy=>(match tX A X h ty pv (.c (.d f (.int q y.1)))with | some r=>some (r.v,r.h) | none=>none),touched:=r.touched,pure:=false}
     | .c (.d f (.bool n))=>some {ck:=r.chk,ts:=[.b],y:=(n,()),k:=λy=>(match tX A X h ty pv (.c (.d f (.bool y.1)))with | some r=>some (r.v,r.h) | none=>none),touched:=r.touched,pure:=false}
     | .c (.d f (.rows c n))=>some {ck:=r.chk,ts:=[.l c],y:=(n,()),k:=λy=>(match tX A X h ty pv (.c (.d f (.rows c y.1)))with | some r=>some (r.v,r.h) | none=>none),touched:=r.touched,pure:=false}
     | .sv f c n=>some {ck:=r.chk,ts:=[.x c],y:=(n,()),k:=λy=>(match tX A X h ty pv (.sv f c y.1)with | some r=>some (r.v,r.h) | none=>none),touched:=r.touched,pure:=false}
     | _=>some {ck:=r.chk,ts:=[],y:=(),k:=λ_=>some (r.v,r.h),touched:=r.touched,pure:=false}
    | none=>none
   | _,_=>none
  | _=>match EJ A X e h op with
   | some r=>match r.v with
    | .c (.own l)=>match r.h[l]? with
     | some (.rows f c xs)=>some {ck:=r.chk,ts:=[.l c],y:=(xs,()),k:=λy=>some (r.v,r.h.set l (.rows f c y.1)),touched:=r.touched,pure:=false}
     | _=>none
    | _=>some {ck:=r.chk,ts:=[],y:=(),k:=λ_=>some (r.v,r.h),touched:=r.touched,pure:=false}
   | none=>none
 | _=>Vd A X C e h op
def Ve{ρ:Type}(op:Op)(v:TV A.au)(K:TV A.au->A.M ρ):A.M ρ:=
 match op with
 | .assign _=>match v with
  | .c (.d f (.int k x))=>A.sN [.i] (x,()) λy=>K (.c (.d f (.int k y.1)))
  | .c (.d f (.bool x))=>A.sN [.b] (x,()) λy=>K (.c (.d f (.bool y.1)))
  | .c (.d f (.rows c x))=>A.sN [.l c] (x,()) λy=>K (.c (.d f (.rows c y.1)))
  | v=>K v
 | _=>K v
def gL{ρ:Type}:List A.B->A.M ρ->A.M ρ
 | [],m=>m
 | b::r,m=>A.chk b (gL r m)
def under(g:A.B)(ps:List A.B):List A.B:=ps.map λp=>A.orB (A.yM g) p
def rE{ρ:Type}(r:CR A)(K:TV A.au->List (dQ A.au)->A.M ρ):A.M ρ:=
 match r.ts,r.y,r.k with
 | [],y,k=>(match k y with | some (v,h)=>K v h | none=>A.fail)
 | ts,y,k=>A.sN ts y λy=>match k y with | some (v,h)=>K v h | none=>A.fail
def fF{ρ:Type}(X:XT)(C:Calls A.au)(ops:List Oper):List Oper->(RSt A->A.M ρ)->RSt A->A.M ρ
 | [],K,s=>K s
 | o::r,K,s=>if Vb s.m o.dst then match o.guard with
  | none=>if iJ o.op==0 then match tY A X (dF A s.t) s.gs s.h none o.op with
    | some (ps,v)=>gL A ps (Ve A o.op v λv=>fF X C ops r K (s.put A o.dst none v))
    | none=>A.fail
   else match Xf A X C (gK A (dF A s.t) []) s.h o.op with
    | some cr=>gL A cr.ck (rE A cr λv h=>fF X C ops r K (RSt.put A {s with h:=h} o.dst none v))
    | none=>A.fail
  | some (j,want)=>match gslot ops j with
   | some d=>match EL A (dF A s.t) s.gs d want with
    | .skip=>fF X C ops r K (s.put A o.dst none (.tup []))
    | .run gs t g=>if iJ o.op==0 then match tY A X (dF A s.t) gs s.h (some t) o.op with
      | some (ps,v)=>gL A (under A g ps) (fF X C ops r K (RSt.put A {s with gs:=gs} o.dst (some t) v))
      | none=>A.fail
     else match Xf A X C (gK A (dF A s.t) (eZ A gs (some t))) s.h o.op with
      | some cr=>if cr.pure then gL A (under A g cr.ck) (rE A cr λv _=>fF X C ops r K (RSt.put A {s with gs:=gs} o.dst (some t) v))
       else A.cond g (gL A cr.ck (rE A cr λv h=>fF X C ops r K (RSt.put A {s with h:=h,gs:=gs} o.dst none v)))
        (fF X C ops r K (RSt.put A {s with gs:=zN A gs t} o.dst none (.tup [])))
      | none=>A.fail
    | .bad=>A.fail
   | none=>A.fail
  else A.fail
def uf:TV A.au->List Nat
 | .c (.pb l _ _)=> [l] | .c (.pr l _ _)=> [l] | _=> []
def gT(X:XT)(e:Nat->Option (TV A.au)):Op->List Nat
 | .load _ x=>match evX A X e x with | some v=>uf A v | none=> []
 | _=> []
def Jb(hs:List (Nat×List Nat))(touched:List Nat)(j:Nat):Bool:=hs.any λp=>(p.1==j)&&p.2.all λl=> !touched.contains l
def nD(hs:List (Nat×List Nat))(touched:List Nat):List (Nat×List Nat):=hs.filter λp=>p.2.all λl=> !touched.contains l
def zX(X:XT)(e:Nat->Option (TV A.au))(h:List (dQ A.au))(op:Op):PR A:=
 match op with
 | .buildSlice ty len parts=>match X.ty ty with
  | some y=>match y.desc with
   | .slice el=>match X.ty el,X.co el with
    | some z,some c=>if jT X el c&& !(z.size==0)&& (parts.toList.map (·.1)==List.range len)&&Nat.ble (len*z.size) 16777216 then
      match qB A X e c h parts.toList with
      | some (f,xs,_,[])=>some ([],.c (.clip f c (A.lst c xs)))
      | _=>none
     else none
    | _,_=>none
   | _=>none
  | none=>none
 | _=>none
def DK(e:Nat->Option (TV A.au))(k:A.I):List (Int×Nat)->Option A.B
 | []=>some (A.bl false)
 | (k',r)::rest=>match e r with
  | some (.c (.d _ (.bool b)))=>(match DK e k rest with | some q=>some (A.I6 (A.cmp .eql k (A.lit k')) b q) | none=>none)
  | _=>none
def Ob(X:XT)(ops:List Oper)(e:Nat->Option (TV A.au))(h:List (dQ A.au))(op:Op):Option (Option (List A.B×TV A.au)):=
 match op with
 | .makeMap .. =>some none
 | .insert _ _ _ v=>(match v with | .tmp r=>(match e r with | some _=>some none | none=>none) | _=>none)
 | .move x=>if kV x then some none else none
 | .lookup _ _ (.tmp q) _=>(match e q with
  | some (.c (.d _ (.int .i64 n)))=>(match DK A e n (lM ops)with | some b=>some (some ([],.c (.d true (.bool b)))) | none=>none)
  | _=>none)
 | op=>(match zX A X e h op with | some r=>some (some r) | none=>none)
def iK{ρ:Type}(X:XT)(C:Calls A.au)(ops:List Oper):List fC->List (Nat×List Nat)->(RSt A->A.M ρ)->RSt A->A.M ρ
 | [],_,K,s=>K s
 | (i,rs,cs)::r,hs,K,s=>match ops[i]? with
  | none=>A.fail
  | some o=>if Vb s.m o.dst then
   let lk:=λi=>if rs.contains i then dF A s.t i else none
   match kindOf o.op with
   | 0=>if hs.any λp=>p.1==i then A.fail else match o.guard with
    | none=>match tY A X lk s.gs s.h none o.op with
     | some (ps,v)=>gL A ps (Ve A o.op v λv=>iK X C ops r ((i,gT A X (gK A lk []) o.op)::hs) K (s.put A o.dst none v))
     | none=>A.fail
    | some (j,want)=>match gslot ops j with
     | some d=>match EL A lk s.gs d want with
      | .skip=>iK X C ops r ((i,[])::hs) K (s.put A o.dst none (.tup []))
      | .run gs t g=>match tY A X lk gs s.h (some t) o.op with
       | some (ps,v)=>gL A (under A g ps) (iK X C ops r ((i,gT A X (gK A lk (eZ A gs (some t))) o.op)::hs) K (RSt.put A {s with gs:=gs} o.dst (some t) v))
       | none=>A.fail
      | .bad=>A.fail
     | none=>A.fail
   | 1=>match Ob A X ops (gK A lk []) s.h o.op with
    | some (some (ps,v))=>gL A ps (iK X C ops r hs K (s.put A o.dst none v))
    | some none=>iK X C ops r hs K (s.del A o.dst)
    | none=>A.fail
   | 2=>match EJ A X (λ_=>none) s.h o.op with
    | some hr=>gL A hr.chk (iK X C ops r hs K (RSt.put A {s with h:=hr.h} o.dst none hr.v))
    | none=>A.fail
   | _=>match o.guard with
    | none=>match Xf A X C (gK A lk []) s.h o.op with
     | some cr=>
      if cs.all (Jb hs cr.touched)then gL A cr.ck (rE A cr λv h=>iK X C ops r (nD hs cr.touched) K (RSt.put A {s with h:=h} o.dst none v))else A.fail
     | none=>A.fail
    | some (j,want)=>match gslot ops j with
     | some d=>match EL A lk s.gs d want with
      | .skip=>iK X C ops r hs K (s.put A o.dst none (.tup []))
      | .run gs t g=>match Xf A X C (gK A lk (eZ A gs (some t))) s.h o.op with
       | some cr=>if cs.all (Jb hs cr.touched)then
         if cr.pure then gL A (under A g cr.ck) (rE A cr λv _=>iK X C ops r hs K (RSt.put A {s with gs:=gs} o.dst (some t) v))
         else A.cond g (gL A cr.ck (rE A cr λv h=>iK X C ops r (nD hs cr.touched) K (RSt.put A {s with h:=h,gs:=gs} o.dst none v)))
          (iK X C ops r hs K (RSt.put A {s with gs:=zN A gs t} o.dst none (.tup [])))
        else A.fail
       | none=>A.fail
      | .bad=>A.fail
     | none=>A.fail
   else A.fail
def ug(t:List (Nat×SV A))(h:List (dQ A.au)):List (Nat×SkV)->ES A->Option (ES A)
 | [],e=>some e
 | p::r,e=>match dF A t p.1 with
  | some ⟨none,v⟩=>(match Gz A h p.2 v e with | some e=>ug t h r e | none=>none)
  | _=>none
def EM(k:Nat)(sk:Gy)(s:RSt A):Option (List A.B×Tup A.au sk.tys):=
 if !Nat.ble k sk.objs.length then none else match ug A s.t s.h sk.slots (es0 A k sk.objs)with
 | some e=>match zK A s.h 0 sk.objs e with
  | some e=>if ES.fine A s.h e sk.objs then(match pack A.au sk.tys e.lv.reverse with | some x=>some (e.ck,x) | none=>none)else none
  | none=>none
 | none=>none
def rF(sk:Gy)(m:Nat)(x:Tup A.au sk.tys):RSt A:=
 match qF A.au (λi=>i) (sk.slots.map (·.2)) (unpack A.au sk.tys x)with
 | some (vs,r)=>match qG A.au (λi=>i) (λ_=> .gone .i64 (A.lit 0)) 0 sk.objs r with
  | some (os,_)=> {t:=(sk.slots.map (·.1)).zip (vs.map λv=>⟨none,v⟩),gs:=[],h:=os,m:=m}
  | none=>default
 | none=>default
def plain:Code->Bool
 | .skip=>true | .region .. =>true | .seq a b=>plain a&&plain b | .cond _ x y=>plain x&&plain y
 | _=>false
def Oc{ρ:Type}(k:Nat)(sk:Gy)(pl:Bool)(s:RSt A)(K:Exit->RSt A->A.M ρ)(W: {σ:Type}->(Exit->RSt A->A.M σ)->A.M σ):A.M ρ:=
 if pl then A.bind sk.tys (W λe s'=>match e with
  | .normal=>(match EM A k sk s' with | some (ck,t)=>gL A ck (A.ret sk.tys t) | none=>A.fail)
  | _=>A.fail) λt=>K .normal (rF A sk s.m t)
 else A.tV sk.tys (W λe s'=>match e with
  | .normal=>(match EM A k sk s' with | some (ck,t)=>gL A ck (A.inl sk.tys t) | none=>A.fail)
  | e=>A.inr sk.tys (K e s')) λt=>K .normal (rF A sk s.m t)
def bJ(X:XT)(C:Calls A.au)(ord:Nat->List fC)(chk:Nat->Array Oper->Nat->Bool)(k:Nat): {ρ:Type}->Ann->Code->RSt A->(Exit->RSt A->A.M ρ)->A.M ρ
 | _,_,.skip,s,K=>K .normal s
 | _,an,.region id ops draw,s,K=>
  let W: {σ:Type}->(Exit->RSt A->A.M σ)->A.M σ:=λK=>
   if draw then(if chk id ops s.m then iK A X C ops.toList (ord id) [] (λs=>K .normal s) s else A.fail)
   else fF A X C ops.toList ops.toList (λs=>K .normal s) s
  match an with
  | .cut sk .u=>Oc A k sk true s K W
  | _=>W K
 | _,an,.seq x y,s,K=>match an with
  | .seq a b=>bJ X C ord chk k a x s λe s'=>match e with | .normal=>bJ X C ord chk k b y s' K | e=>K e s'
  | .u=>bJ X C ord chk k .u x s λe s'=>match e with | .normal=>bJ X C ord chk k .u y s' K | e=>K e s'
  | _=>A.fail
 | _,an,.cond c x y,s,K=>match evX A X (gK A (dF A s.t) []) c with
  | some (.c (.d _ (.bool b)))=>match an with
   | .cond a1 a2=>A.cond b (bJ X C ord chk k a1 x s K) (bJ X C ord chk k a2 y s K)
   | .u=>A.cond b (bJ X C ord chk k .u x s K) (bJ X C ord chk k .u y s K)
   | .cut sk (.cond a1 a2)=>Oc A k sk (plain x&&plain y) s K λK'=>A.cond b (bJ X C ord chk k a1 x s K') (bJ X C ord chk k a2 y s K')
   | _=>A.fail
  | _=>A.fail
 | _,an,.block id b,s,K=>match an with
  | .block a=>bJ X C ord chk k a b s λe s'=>match e with | .exit i=>if i==id then K .normal s' else K (.exit i) s' | e=>K e s'
  | .u=>bJ X C ord chk k .u b s λe s'=>match e with | .exit i=>if i==id then K .normal s' else K (.exit i) s' | e=>K e s'
  | .cut sk (.block a)=>Oc A k sk false s K λK'=>bJ X C ord chk k a b s λe s'=>match e with | .exit i=>if i==id then K' .normal s' else K' (.exit i) s' | e=>K' e s'
  | _=>A.fail
 | _,.loop sk a,.loop b,s,K=>match EM A k sk s with
  | some (ck,x0)=>gL A ck (A.iter sk.tys (λx=>bJ X C ord chk k a b (rF A sk s.m x) λe s'=>match e with
    | .normal=>(match EM A k sk s' with | some (ck,t)=>gL A ck (A.inl sk.tys t) | none=>A.fail)
    | e=>A.inr sk.tys (K e s')) x0)
  | none=>A.fail
 | _,_,.exit id,s,K=>K (.exit id) s
 | _,_,.ret,s,K=>K .ret s
 | _,_,_,_,_=>A.fail
def Od(X:XT)(s:RSt A):List ResultVar->Option (List (TV A.au))
 | []=>some []
 | .tmp t::r=>match dF A s.t t with
  | some ⟨none,v⟩=>(match Od X s r with | some vs=>some (v::vs) | none=>none)
  | _=>none
 | .cell t ty::r=>match dF A s.t t with
  | some ⟨none,p⟩=>match LD A X s.h ty p with
   | some ([],v)=>(match Od X s r with | some vs=>some (v::vs) | none=>none)
   | _=>none
  | _=>none
def Xg(X:XT)(sg:Sig)(fn:Func)(s:RSt A):A.M (Tup A.au sg.out):=
 match Od A X s fn.results.toList with
  | some rs=>match nZ A s.h sg.res rs (es0 A sg.objs.length sg.dR)with
   | some e=>match zK A s.h 0 sg.dR e with
    | some e=>if ES.fine A s.h e sg.dR then(match pack A.au sg.out e.lv.reverse with | some y=>gL A e.ck (A.ret sg.out y) | none=>A.fail)else A.fail
    | none=>A.fail
   | none=>A.fail
  | none=>A.fail
def pO(X:XT)(C:Calls A.au)(ord:Nat->List fC)(chk:Nat->Array Oper->Nat->Bool)(an:Ann)(sg:Sig)(fn:Func)(code:Code)(x:Tup A.au sg.inp):A.M (Tup A.au sg.out):=
 if !Nat.ble sg.objs.length sg.dR.length then A.fail else match qF A.au (λi=>i) sg.args (unpack A.au sg.inp x)with
 | some (vs,r)=>match qG A.au (λi=>i) (λ_=> .gone .i64 (A.lit 0)) 0 sg.objs r with
  | some (os,_)=>
   bJ A X C ord chk sg.objs.length an code {t:=(List.range vs.length).zip (vs.map λv=>⟨none,v⟩),gs:=[],h:=os,m:=vs.length+(fn.ntmps-vs.length)} λe s=>
    match e with
    | .ret | .normal=>Xg A X sg fn s
    | _=>A.fail
  | none=>A.fail
 | none=>A.fail
end
end Go.TX
namespace Go.TX
open Go Go.AE
abbrev aG:Car:={I:=Int,B:=Bool,S:=ByteArray,L:=λc=>List c.den,X:=Co.den}
def afZ(b:Blk):List (LV aG):=[.i b.pc,.i b.len,.l .iop b.ops,.i b.fin,.i b.x,.i b.y,.i b.k]
def ahs(m:aH):List (LV aG):=[.l .i64 m.regs,.i m.pc,.l .i64 m.mem,.i m.save,.b m.cZ,.b m.waits,.i m.halt,.l .i64 m.ins,.l .i64 m.outs,.i m.count]
def Co.zP:(c:Co)->c.den->List (LV aG)
 | .i64,n=> [.i n] | .u8,n=> [.i n] | .bool,b=> [.b b] | .str,s=> [.s s]
 | .ins,i=> [.i i.op,.i i.d,.i i.a,.i i.k]
 | .form,f=> [.b f.d,.b f.a,.i f.most,.l .str f.words]
 | .mono,m=> [.i m.aW,.l .i64 m.atoms]
 | .poly,p=> [.l .mono p]
 | .atom,a=> [.i a.kind,.i a.k,.l .mono a.x,.l .mono a.y]
 | .tab,t=> [.l .atom t]
 | .iop,o=> [.i o.kind,.i o.x,.i o.y,.i o.k,.i o.at_]
 | .blk,b=>afZ b
 | .gG,m=>ahs m
 | .ev,e=> [.i e.kind,.i e.at_,.l .mono e.x,.l .mono e.y,.l .poly e.regs]
 | .sym,s=> [.l .ev s.events,.l .poly s.regs,.i s.fin,.l .mono s.x,.l .mono s.y,.i s.k]
 | .cac,c=> .l .i64 c.words::afZ c.blk
 | .cer,c=>afZ c.base++afZ c.made
 | .ask,a=> [.b a.own,.l .u8 a.bytes]
 | .eng,e=>ahs e.gG++ [.l .cac e.cache,.l .cer e.Yb]
 | .ints,t=> [.l .i64 t]
abbrev iC:=Tup aG
def Co.mk:(c:Co)->iC c.pJ->c.den
 | .i64,t=>t.1 | .u8,t=>t.1 | .bool,t=>t.1 | .str,t=>t.1
 | .ins,t=>⟨t.1,t.2.1,t.2.2.1,t.2.2.2.1⟩
 | .form,t=>⟨t.1,t.2.1,t.2.2.1,t.2.2.2.1⟩
 | .mono,t=>⟨t.1,t.2.1⟩
 | .poly,t=>t.1
 | .atom,t=>⟨t.1,t.2.1,t.2.2.1,t.2.2.2.1⟩
 | .tab,t=>t.1
 | .iop,t=>⟨t.1,t.2.1,t.2.2.1,t.2.2.2.1,t.2.2.2.2.1⟩
 | .blk,t=>⟨t.1,t.2.1,t.2.2.1,t.2.2.2.1,t.2.2.2.2.1,t.2.2.2.2.2.1,t.2.2.2.2.2.2.1⟩
 | .gG,t=>⟨t.1,t.2.1,t.2.2.1,t.2.2.2.1,t.2.2.2.2.1,t.2.2.2.2.2.1,t.2.2.2.2.2.2.1,t.2.2.2.2.2.2.2.1,t.2.2.2.2.2.2.2.2.1,t.2.2.2.2.2.2.2.2.2.1⟩
 | .ev,t=>⟨t.1,t.2.1,t.2.2.1,t.2.2.2.1,t.2.2.2.2.1⟩
 | .sym,t=>⟨t.1,t.2.1,t.2.2.1,t.2.2.2.1,t.2.2.2.2.1,t.2.2.2.2.2.1⟩
 | .cac,t=>⟨t.1,⟨t.2.1,t.2.2.1,t.2.2.2.1,t.2.2.2.2.1,t.2.2.2.2.2.1,t.2.2.2.2.2.2.1,t.2.2.2.2.2.2.2.1⟩⟩
 | .cer,t=>⟨⟨t.1,t.2.1,t.2.2.1,t.2.2.2.1,t.2.2.2.2.1,t.2.2.2.2.2.1,t.2.2.2.2.2.2.1⟩,
  ⟨t.2.2.2.2.2.2.2.1,t.2.2.2.2.2.2.2.2.1,t.2.2.2.2.2.2.2.2.2.1,t.2.2.2.2.2.2.2.2.2.2.1,t.2.2.2.2.2.2.2.2.2.2.2.1,t.2.2.2.2.2.2.2.2.2.2.2.2.1,t.2.2.2.2.2.2.2.2.2.2.2.2.2.1⟩⟩
 | .ask,t=>⟨t.1,t.2.1⟩
 | .eng,t=>⟨⟨t.1,t.2.1,t.2.2.1,t.2.2.2.1,t.2.2.2.2.1,t.2.2.2.2.2.1,t.2.2.2.2.2.2.1,t.2.2.2.2.2.2.2.1,t.2.2.2.2.2.2.2.2.1,t.2.2.2.2.2.2.2.2.2.1⟩,t.2.2.2.2.2.2.2.2.2.2.1,t.2.2.2.2.2.2.2.2.2.2.2.1⟩
 | .ints,t=>t.1
def bytesOf(l:List UInt8):ByteArray:=⟨l.toArray⟩
def akg:List Form:=[
 ⟨false,false,3,[bytesOf [115,116,111,112],bytesOf [114,101,116,117,114,110],bytesOf [108,101,116],bytesOf [107,101,101,112]]⟩,
 ⟨true,false,255,[bytesOf [115,101,116]]⟩,⟨true,true,0,[bytesOf [109,111,118,101]]⟩,⟨true,true,3,[bytesOf [97,100,100]]⟩,⟨true,true,3,[bytesOf [115,117,98]]⟩,
 ⟨true,true,3,[bytesOf [109,117,108]]⟩,⟨true,true,3,[bytesOf [97,110,100]]⟩,⟨true,true,3,[bytesOf [120,111,114]]⟩,⟨true,true,15,[bytesOf [115,104,105,102,116]]⟩,
 ⟨true,true,255,[bytesOf [108,111,97,100]]⟩,⟨true,true,255,[bytesOf [115,116,111,114,101]]⟩,⟨true,true,255,[bytesOf [115,97,109,101]]⟩,⟨true,true,255,[bytesOf [108,101,115,115]]⟩,
 ⟨false,true,0,[bytesOf [103,111]]⟩,⟨true,false,0,[bytesOf [111,117,116]]⟩,⟨true,false,0,[bytesOf [105,110]]⟩]
def Yj:(c:Co)->List c.den
 | .form=>akg
 | _=> []
def Dv{α ρ:Type}(k:α->(ρ->Prop)->Prop)(Q:ρ->Prop):α ⊕ ρ->Prop
 | .inl x=>k x Q
 | .inr r=>Q r
def itW{α ρ:Type}:Nat->(α->(α ⊕ ρ->Prop)->Prop)->α->(ρ->Prop)->Prop
 | 0,_,_,_=>False
 | n+1,f,x,Q=>f x (Dv (itW n f) Q)
def Vf{α ρ:Type}(f:α->(α ⊕ ρ->Prop)->Prop)(x:α)(Q:ρ->Prop):Prop:=
 ∃(I:α->Prop) (μ:α->Nat),I x/\∀y,I y->f y (Dv (λz _=>I z/\μ z<μ y) Q)
def jB(op:BinOp)(k:IntKind)(x y:Int):Int:=
 match op with
 | .add=>k.wrap (x+y) | .sub=>k.wrap (x-y) | .mul=>k.wrap (x*y) | .quo=>k.wrap (x.tdiv y) | .rem=>x.tmod y
 | .and=>fV .and k x y | .or=>fV .or k x y | .xor=>fV .xor k x y
 | .shl=>k.wrap (x*2^ (min y.toNat k.bits)) | .shr=>x.fdiv (2^ (min y.toNat k.bits))
 | _=>0
def bg(op:BinOp)(x y:Int):Bool:=
 match op with
 | .eql=>decide (x=y) | .neq=> !decide (x=y) | .lss=>decide (x<y) | .leq=>decide (x<=y) | .gtr=>decide (y<x) | .geq=>decide (y<=x)
 | _=>false
def Yk(x y:Ins):Bool:=decide (x=y)
def Yl(x y:IOp):Bool:=decide (x=y)
def atZ:(c:Co)->c.den->c.den->Bool
 | .ins,x,y=>Yk x y | .iop,x,y=>Yl x y | _,_,_=>false
def fZ(c:Co)(j:Nat)(x:c.den):Int:=match (c.zP x)[j]? with | some (.i n)=>n | _=>0
def af0(c:Co)(j:Nat)(x:c.den):Bool:=match (c.zP x)[j]? with | some (.b n)=>n | _=>false
def at0(c:Co)(j:Nat)(x:c.den):ByteArray:=match (c.zP x)[j]? with | some (.s n)=>n | _=>default
def je(c:Co)(j:Nat)(c':Co)(x:c.den):List c'.den:=match (c.zP x)[j]? with | some (.l q xs)=>if e:q=c' then e▸xs else [] | _=> []
abbrev std(N : Nat) : Alg where
 au:=aG
 M:=fun ρ=>(ρ->Prop)->Prop
 lit:=λn=>(n:Int)
 bl:=λb=>(b:Bool)
 st:=λs=>(s:ByteArray)
 arith:=jB
 cmp:=bg
 addN:=λ(x y:Int)=>x+y
 LA:=λ(x y:Int)=>x-y
 neg:=λk (x:Int)=>k.wrap (0-x)
 conv:=λk (x:Int)=>k.wrap x
 NS:=λ(m n:Int)=>if n<m then n else m
 jg:=λ(m n:Int)=>if m<n then n else m
 yM:=λ(b:Bool)=> !b
 LB:=λ(a b:Bool)=>a&&b
 orB:=λ(a b:Bool)=>a || b
 eqB:=λ(a b:Bool)=>a==b
 eqS:=λ(a b:ByteArray)=>a.toList==b.toList
 NT:=λ(xs:List Int)=>strOfNums xs
 NU:=λ(b:Bool) (x y:Int)=>bif b then x else y
 I6:=λ(b:Bool) (x y:Bool)=>bif b then x else y
 NV:=λ(b:Bool) c (x y:List c.den)=>(bif b then x else y:List c.den)
 Xe:=λ(b:Bool) _ x y=>bif b then x else y
 len:=λc (xs:List c.den)=>(xs.length:Int)
 EG:=λc=>([]:List c.den)
 get:=λc (xs:List c.den) (i:Int)=>xs.getD i.toNat default
 set:=λc (xs:List c.den) (i:Int) x=>xs.set i.toNat x
 app:=λc (xs ys:List c.den)=>xs++ys
 sub:=λc (xs:List c.den) (lo hi:Int)=>(xs.take hi.toNat).drop lo.toNat
 rep:=λc (n:Int) x=>List.replicate n.toNat x
 lst:=λc (xs:List c.den)=>xs
 glob:=λ_ c=>Yj c
 fI:=fZ
 fB:=af0
 fS:=at0
 fL:=je
 mkX:=Co.mk
 eqX:=atZ
 ret:=λ_ t Q=>Q t
 fail:=λ_=>False
 sN:=λ_ t k=>k t
 chk:=λ(b:Bool) m Q=>b=true/\m Q
 cond:=λ(b:Bool) x y Q=>(b=true->x Q)/\(b=false->y Q)
 bind:=λ_ m k Q=>m λt=>k t Q
 tV:=λ_ m k Q=>m (Dv k Q)
 inl:=λ_ t Q=>Q (.inl t)
 inr:=λ_ m Q=>m λr=>Q (.inr r)
 iter:=λ_ f x Q=>Vf f x Q
abbrev Co.size(c:Co):Nat:=c.fields.length
def apM(n:Int):List D:=[.int .i64 n]
def EN(xs:List Int):D:= .rows 1 (xs.map apM)
def aht(m:aj):List D:=[.int .i64 m.aW,EN m.atoms]
def EO(p:List aj):D:= .rows 2 (p.map aht)
def Ym(p:List aj):List D:=[EO p]
def ahu(a:Atom):List D:=[.int .i64 a.kind,.int .i64 a.k,EO a.x,EO a.y]
def apN(o:IOp):List D:=[.int .i64 o.kind,.int .i64 o.x,.int .i64 o.y,.int .i64 o.k,.int .i64 o.at_]
def apO(s:ByteArray):List D:=[.str s]
def u8R(n:Int):List D:=[.int .u8 n]
def af2(b:Blk):List D:=[.int .i64 b.pc,.int .i64 b.len,.rows 5 (b.ops.map apN),.int .i64 b.fin,.int .i64 b.x,.int .i64 b.y,.int .i64 b.k]
def ahv(m:aH):List D:=[EN m.regs,.int .i64 m.pc,EN m.mem,.int .i64 m.save,.bool m.cZ,.bool m.waits,.int .i64 m.halt,EN m.ins,EN m.outs,.int .i64 m.count]
def evR(e:Ev):List D:=[.int .i64 e.kind,.int .i64 e.at_,EO e.x,EO e.y,.rows 1 (e.regs.map Ym)]
def apP(c:Cac):List D:=EN c.words::af2 c.blk
def apQ(c:Cer):List D:=af2 c.base++af2 c.made
def Co.row:(c:Co)->c.den->List D
 | .i64,n=>apM n | .u8,n=>u8R n | .bool,b=> [.bool b] | .str,s=>apO s
 | .ins,i=> [.int .i64 i.op,.int .i64 i.d,.int .i64 i.a,.int .i64 i.k]
 | .form,f=> [.bool f.d,.bool f.a,.int .i64 f.most,.rows 1 (f.words.map apO)]
 | .mono,m=>aht m | .poly,p=>Ym p | .atom,a=>ahu a | .tab,t=> [.rows 4 (t.map ahu)] | .iop,o=>apN o
 | .blk,b=>af2 b | .gG,m=>ahv m | .ev,e=>evR e
 | .sym,s=> [.rows 5 (s.events.map evR),.rows 1 (s.regs.map Ym),.int .i64 s.fin,EO s.x,EO s.y,.int .i64 s.k]
 | .cac,c=>apP c | .cer,c=>apQ c | .ask,a=> [.bool a.own,.rows 1 (a.bytes.map u8R)]
 | .eng,e=>ahv e.gG++ [.rows 8 (e.cache.map apP),.rows 14 (e.Yb.map apQ)]
 | .ints,t=> [EN t]
def aL(c:Co)(xs:List c.den):List (List D):=xs.map c.row
def nG:Leaf aG->D
 | .int k x=> .int k x | .bool b=> .bool b | .str s=> .str s | .rows c xs=> .rows c.size (aL c xs)
def lvD:Sh->LV aG->D
 | .int k,.i n=> .int k n
 | _,.i n=> .int .i64 n
 | _,.b b=> .bool b
 | _,.s s=> .str s
 | _,.l c xs=> .rows c.size (aL c xs)
 | _,.x _ _=> .bool false
def Yn(c:Co)(x:c.den):c.row x=List.zipWith lvD c.fields (c.zP x):=by cases c<;>rfl
def vY(c:Co)(x:c.den):(c.row x).length=c.size:=by cases c<;>rfl
def LM(c:Co)(x:c.den):(c.zP x).length=c.size:=by cases c<;>rfl
def kN(N:Nat)(c:Co)(x:c.den):(fJ (std N) c x 0 c.fields).map nG=c.row x:=by cases c<;>rfl
def Bz(N:Nat)(c:Co)(x:c.den):(fJ (std N) c x 0 c.fields).map jd=c.fields:=by cases c<;>rfl
def G8(N:Nat)(c:Co)(x:c.den):(fJ (std N) c x 0 c.fields).map Leaf.lv=c.zP x:=by cases c<;>rfl
def Xh{t:LTy}{v:LV aG}{a:LT aG t}(h:aj8 aG t v=some a):apK aG t a=v:=by
 cases t<;>cases v<;>simp only [aj8,reduceCtorEq]at h<;>(try (cases h;rfl))
 all_goals
  split at h
  .rename_i e;subst e;cases h;rfl
  .cases h
def unpack_pack:∀ {ts:List LTy} {vs:List (LV aG)} {t:iC ts},pack aG ts vs=some t->unpack aG ts t=vs
 | [],[],_,_=>rfl
 | [],_::_,_,h=>by simp [pack]at h
 | _::_,[],_,h=>by simp [pack]at h
 | t::r,v::vs,x,h=>by
  unfold pack at h;split at h
  .rename_i a ha;split at h
   .rename_i b hb;cases h;simp only [unpack];rw [Xh ha,unpack_pack hb]
   .cases h
  .cases h
def Vg(c:Co)(t:iC c.pJ):c.zP (c.mk t)=unpack aG c.pJ t:=by cases c<;>rfl
abbrev SC:=TC aG
abbrev SVal:=TV aG
abbrev aM:=dQ aG
abbrev NM:=Nat->Option (Nat×Nat)
def Leaf.scalar:Leaf aG->Bool | .rows _ _=>false | _=>true
inductive RC (N:NM):Cell->SC->Prop
 | d {f g:Bool} {x:D} {y:Leaf aG}:x=nG y->(g=true->f=true\/y.scalar=true)->RC N (.d f x) (.d g y)
 | nil:RC N .nil .nil
 | clip {f g:Bool} {c:Co} {xs:List c.den}:(g=true->f=true)->RC N (.clip f c.size (aL c xs)) (.clip g c xs)
 | own {l sz n:Nat}:N l=some (sz,n)->RC N (.os l sz 0 n) (.own l)
 | os {l sz lo n m:Nat}:N l=some (sz,m)->RC N (.os l sz lo n) (.os l (lo:Int) (n:Int))
 | pb {l sz j:Nat}:RC N (.ptr l sz 0 j) (.pb l sz j)
 | pr {l sz i j m:Nat}:N l=some (sz,m)->RC N (.ptr l sz i j) (.pr l (i:Int) j)
 | rp {f g:Bool} {c:Co} {xs:List c.den} {i j:Nat}:(g=true->f=true)->i<xs.length->RC N (.rp f c.size (aL c xs) i j) (.rp g c xs (i:Int) j)
 | gp {g:Nat} {c:Co}:RC N (.rp false 1 [[.rows c.size (aL c (Yj c))]] 0 0) (.gp g c)
 | fn {g:FuncId} {caps:List (Nat×Nat)}:RC N (.fn g (caps.map λp=> .ptr p.1 p.2 0 0)) (.fn g caps)
 | np:RC N .np .np
def cellsS(v:SVal):List SC:=bU (std 0) v
def EP(n:Nat)(c:Co)(x:c.den):∀(l:List Sh) (j:Nat),fJ (std n) c x j l=fJ (std 0) c x j l
 | [],_=>rfl
 | s::r,j=>by
  simp only [fJ]
  first | done | rw [EP n c x r]
def LP(n:Nat)(f:Bool)(c:Co)(x:c.den):oO (std n) f c x=oO (std 0) f c x:=congrArg (List.map (TC.d f)) (EP n c x _ _)
def dx(n:Nat)(v:SVal):bU (std n) v=cellsS v:=by
 cases v with
 | sv f c x=>exact LP n f c x
 | _=>rfl
inductive PV0 (N:NM):PV->SVal->Prop
 | c {x:Cell} {y:SC}:RC N x y->PV0 N (.c x) (.c y)
 | agg {cs:List Cell} {v:SVal}:bF (std 0) v=true->F2 (RC N) cs (cellsS v)->PV0 N (.agg cs) v
inductive PVR (N:NM):PV->SVal->Prop
 | one {p:PV} {v:SVal}:PV0 N p v->PVR N p v
 | tup {ps:List PV} {vs:List SVal}:F2 (PV0 N) ps vs->PVR N (.tup ps) (.tup vs)
def nmh(h:List aM):NM:=λl=>match h[l]? with
 | some (.rows _ c xs)=>some (c.size,(xs:List c.den).length)
 | some (.gone c n)=>some (c.size,(n:Int).toNat)
 | _=>none
inductive OR (N:NM):fH->aM->Prop
 | box {cs:List Cell} {v:SVal}:F2 (RC N) cs (cellsS v)->OR N (.box cs) (.box v)
 | rows {f g:Bool} {c:Co} {xs:List c.den}:(g=true->f=true)->OR N (.rows f c.size (aL c xs)) (.rows g c xs)
 | gone {c:Co} {n:Int}:OR N .gone (.gone c n)
structure fD(h':Heap)(h:List aM):Prop where
 old:∀l o,h[l]? =some o->∃o',AE.look h' l=some o'/\OR (nmh h) o' o
 new:∀l,h.length<=l->AE.look h' l=none
def RC.mono{N M:NM}(hN:∀l x,N l=some x->M l=some x){x:Cell}{y:SC}(h:RC N x y):RC M x y:=by
 cases h with
 | d h1 h2=>exact .d h1 h2
 | nil=>exact .nil
 | clip h=>exact .clip h
 | own h=>exact .own (hN _ _ h)
 | os h=>exact .os (hN _ _ h)
 | pb=>exact .pb
 | pr h=>exact .pr (hN _ _ h)
 | rp h h'=>exact .rp h h'
 | gp=>exact .gp
 | fn=>exact .fn
 | np=>exact .np
def PV0.mono{N M:NM}(hN:∀l x,N l=some x->M l=some x){x:PV}{y:SVal}(h:PV0 N x y):PV0 M x y:=by
 cases h with
 | c h=>exact .c (h.mono hN)
 | agg h1 h2=>exact .agg h1 (h2.mono λ_ _ h=>h.mono hN)
def PVR.mono{N M:NM}(hN:∀l x,N l=some x->M l=some x){x:PV}{y:SVal}(h:PVR N x y):PVR M x y:=by
 cases h with
 | one h=>exact .one (h.mono hN)
 | tup h=>exact .tup (h.mono λ_ _ h=>h.mono hN)
def OR.mono{N M:NM}(hN:∀l x,N l=some x->M l=some x){x:fH}{y:aM}(h:OR N x y):OR M x y:=by
 cases h with
 | box h=>exact .box (h.mono λ_ _ h=>h.mono hN)
 | rows h=>exact .rows h
 | gone=>exact .gone
def PVR.cell{N:NM}{p:PV}{y:SC}(h:PVR N p (.c y)):∃x,p= .c x/\RC N x y:=by
 cases h with | one h=>cases h with
  | c h=>exact⟨_,rfl,h⟩
  | agg h _=>simp [bF]at h
def PVR.ofC{N:NM}{x:Cell}{y:SC}(h:RC N x y):PVR N (.c x) (.c y):= .one (.c h)
def RC.int{N:NM}{x:Cell}{f:Bool}{k:IntKind}{n:Int}(h:RC N x (.d f (.int k n))):∃g,x= .d g (.int k n):=by
 cases h with | d h1 h2=>exact⟨_,by rw [h1];rfl⟩
def RC.bool{N:NM}{x:Cell}{f:Bool}{b:Bool}(h:RC N x (.d f (.bool b))):∃g,x= .d g (.bool b):=by
 cases h with | d h1 h2=>exact⟨_,by rw [h1];rfl⟩
def PVR.int{N:NM}{p:PV}{f:Bool}{k:IntKind}{n:Int}(h:PVR N p (.c (.d f (.int k n)))):∃g,p= .c (.d g (.int k n)):=by
 obtain⟨x,rfl,hc⟩:=h.cell;obtain⟨g,rfl⟩:=RC.int hc;exact⟨g,rfl⟩
def PVR.bool{N:NM}{p:PV}{f:Bool}{b:Bool}(h:PVR N p (.c (.d f (.bool b)))):∃g,p= .c (.d g (.bool b)):=by
 obtain⟨x,rfl,hc⟩:=h.cell;obtain⟨g,rfl⟩:=RC.bool hc;exact⟨g,rfl⟩
def PVR.ci{N:NM}(k:IntKind)(n:Int)(f:Bool):PVR N (ci k n) (.c (.d f (.int k n))):= .ofC (.d rfl λ_=> .inl rfl)
def PVR.cb{N:NM}(b f:Bool):PVR N (AE.cb b) (.c (.d f (.bool b))):= .ofC (.d rfl λ_=> .inl rfl)
def PVR.cells{N:NM}{p:PV}{v:SVal}(h:PVR N p v):F2 (RC N) (aO p) (cellsS v):=by
 cases h with
 | one h=>cases h with
  | c h=>exact .cons h .nil
  | agg _ h=>exact h
 | tup h=>exact .nil
def PVR.len{N:NM}{p:PV}{v:SVal}(h:PVR N p v):(aO p).length=(cellsS v).length:=h.cells.length
def F2.ahw{N:NM}{f g:Bool}(hf:g=true->f=true):∀(ys:List (Leaf aG)),F2 (RC N) ((ys.map nG).map (.d f)) (ys.map (.d g))
 | []=> .nil
 | _::ys=> .cons (.d rfl λh=> .inl (hf h)) (F2.ahw hf ys)
def Xi{N:NM}(n:Nat){f g:Bool}(hf:g=true->f=true)(c:Co)(x:c.den):F2 (RC N) ((c.row x).map (.d f)) (oO (std n) g c x):=by
 unfold oO;rw [<-kN n c x];exact F2.ahw hf _
structure XOK(X:XT)(E:Tab):Prop where
 ty:X.ty=E.ty
 glob:∀g c,X.glob g=some c->E.glob g=some (.rows c.size (aL c (Yj c)))
 ieq:∀t c,X.ieq t=some c->(c= .ins/\E.ieq t=some 4)\/(c= .iop/\E.ieq t=some 5)
def Gv(T:(PV->Prop)->Prop)(N:NM)(v:SVal):Prop:=∃pv,PVR N pv v/\∀K,K pv->T K
def Gv.mk{T:(PV->Prop)->Prop}{N:NM}{v:SVal}(pv:PV)(h:PVR N pv v)(hk:∀K,K pv->T K):Gv T N v:=⟨pv,h,hk⟩
def EvR(X:XT)(E:Tab)(n:Nat)(N:NM)(t:Slots)(e:Nat->Option SVal):Prop:=∀i v,e i=some v->∃pv,aX t i=some pv/\PVR N pv v
def dG{X:XT}{E:Tab}(hX:XOK X E){n:Nat}{N:NM}{t:Slots}{e:Nat->Option SVal}(he:EvR X E n N t e){x:Operand}{v:SVal}(h:evX (std n) X e x=some v):
  ∃pv,ev E t x=some pv/\PVR N pv v:=by
 cases x with
 | tmp i=>exact he i v h
 | const c=>
  simp only [evX]at h;split at h<;>cases h
  .exact⟨_,rfl,.ci _ _ _⟩
  .exact⟨_,rfl,.cb _ _⟩
  .exact⟨_,rfl,.ofC (.d rfl λ_=> .inl rfl)⟩
  .exact⟨_,rfl,.ofC .nil⟩
  .exact⟨_,rfl,.ofC .np⟩
 | global g=>
  simp only [evX]at h;split at h
  .rename_i c hc;cases h;refine⟨_,by simp only [ev,hX.glob g c hc,Option.map_some],.ofC .gp⟩
  .cases h
 | func f=>cases h;exact⟨_,rfl,.ofC (RC.fn (caps:=[]))⟩
def iH{o:Option PV}{pv:PV}(h:o=some pv)(K:PV->Prop):K pv->aT o K:=by rw [h];exact id
def Oe{d:kF}(h:d.agg=true):∃fs,d= .struct fs:=by cases d<;>simp [kF.agg]at h;exact⟨_,rfl⟩
def og(n:Nat)(w:SVal):bF (std n) w=bF (std 0) w:=by cases w<;>rfl
def Yo{n:Nat}{N:NM}{f g:Bool}(hf:g=true->f=true){c:Co}{x:c.den}{y:TY}{j:Nat}{v:SVal}
  (h:jI (std n) y j (.sv g c x) (oO (std n) g c x)=some v):Gv (sQ f y (c.row x) j) N v:=by
 have hrc:=Xi (N:=N) n hf c x;have hl:(oO (std n) g c x).length=(c.row x).length:=by have:=hrc.length;rw [List.length_map]at this;exact this.symm
 unfold jI at h;split at h
 .rename_i hagg;obtain⟨fs,hfs⟩:=Oe hagg;have key:∀v,F2 (RC N) ((((c.row x).drop j).take y.size).map (.d f)) (cellsS v)->bF (std 0) v=true->j+y.size<=(c.row x).length->Gv (sQ f y (c.row x) j) N v:=by
   intro v h1 h2 h3;refine⟨_,.one (.agg h2 h1),λK hk=> ?_⟩;unfold sQ;rw [hfs];exact⟨h3,hk⟩
  split at h
  .rename_i h0;simp only [Bool.and_eq_true,beq_iff_eq]at h0;obtain⟨⟨rfl,hs⟩,_⟩:=h0;cases h;refine key _ ?_ rfl ah;have:((c.row x).drop 0).take y.size=c.row x:=by rw [List.drop_zero,List.take_of_length_le ah]
   rw [this];have:=hrc;rw [LP]at this;exact this
  .split at h
   .rename_i h1;cases h;have h1:=Nat.le_of_ble_eq_true h1;refine key _ ?_ rfl ah;rw [List.map_take,List.map_drop];exact(hrc.drop j).take y.size
   .cases h
 .rename_i hagg;split at h
  .rename_i q hq;obtain⟨a,ha,hra⟩:=hrc.get hq;rw [List.getElem?_map]at ha;cases hd:(c.row x)[j]? with
   | none=>rw [hd]at ha;simp at ha
   | some d=>
   rw [hd]at ha;simp at ha;subst ha;split at h
   .rename_i k hk;split at h
    .rename_i f' k' m;split at h
     .rename_i e;subst e;cases h;obtain⟨g',hg'⟩:=RC.int hra;cases hg';exact⟨_,.ci k m _,λK hK=>by unfold sQ;rw [hk];exact⟨⟨m,hd⟩,λm' hm'=>by rw [hd]at hm';cases hm';exact hK⟩⟩
     .cases h
    .cases h
   .rename_i hni;cases h;refine⟨_,.ofC hra,λK hK=> ?_⟩;have hjl:j< (c.row x).length:=(List.getElem?_eq_some_iff.1 hd).1;unfold sQ;cases hyd:y.desc with
    | struct fs=>rw [hyd]at hagg;simp [kF.agg]at hagg
    | int k=>exact absurd hyd (hni k)
    | scalar=>exact⟨hjl,λx' hx'=>by rw [hd]at hx';cases hx';exact hK⟩
    | str=>exact⟨hjl,λx' hx'=>by rw [hd]at hx';cases hx';exact hK⟩
    | bool=>exact⟨hjl,λx' hx'=>by rw [hd]at hx';cases hx';exact hK⟩
    | slice e=>exact⟨hjl,λx' hx'=>by rw [hd]at hx';cases hx';exact hK⟩
  .cases h
def Vh{n:Nat}{N:NM}{f g:Bool}(hf:g=true->f=true){c:Co}{xs:List c.den}{y:TY}{i j:Nat}{v:SVal}(hi:i<xs.length)
  (h:jI (std n) y j (.sv g c (xs.getD i default)) (oO (std n) g c (xs.getD i default))=some v):Gv (XK f (aL c xs) i j y) N v:=by
 obtain⟨pv,h1,h2⟩:=Yo (N:=N) hf h;refine⟨pv,h1,λK hK=>⟨by simpa [aL]using hi,λrow hr=> ?_⟩⟩;simp only [aL,List.getElem?_map,List.getElem?_eq_getElem hi,Option.map_some,Option.some.injEq]at hr;subst hr;have:xs.getD i default=xs[i]:=by simp [List.getD,List.getElem?_eq_getElem hi]
 rw [<-this];exact h2 K hK
def af3{n:Nat}{N:NM}{cs:List Cell}{w v:SVal}{y:TY}{j:Nat}(hc:F2 (RC N) cs (cellsS w))(h:jI (std n) y j w (bU (std n) w)=some v):Gv (IE cs j y) N v:=by
 have hl:(bU (std n) w).length=cs.length:=by rw [dx];exact hc.length.symm
 unfold jI at h;split at h
 .rename_i hagg;split at h
  .rename_i h0;simp only [Bool.and_eq_true,beq_iff_eq]at h0;obtain⟨⟨rfl,hs⟩,hw⟩:=h0;cases h;refine⟨.agg ((cs.drop 0).take y.size),.one (.agg (by rw [<-og n];exact hw) ?_),λK hK=> ?_⟩
   .rw [List.drop_zero,List.take_of_length_le ah];exact hc
   .unfold IE;rw [if_pos hagg];exact⟨ah,hK⟩
  .split at h
   .rename_i h1;cases h;have h1:=Nat.le_of_ble_eq_true h1;refine⟨.agg ((cs.drop j).take y.size),.one (.agg rfl ?_),λK hK=>by unfold IE;rw [if_pos hagg];exact⟨ah,hK⟩⟩;have:=(hc.drop j).take y.size;rw [<-dx n]at this;exact this
   .cases h
 .rename_i hagg;split at h
  .rename_i q hq;rw [dx]at hq;obtain⟨a,ha,hra⟩:=hc.get hq;have hv:v= .c q:=by
    split at h
    .split at h
     .split at h
      .cases h;rfl
      .cases h
     .cases h
    .cases h;rfl
   subst hv;exact⟨_,.ofC hra,λK hK=>by unfold IE;rw [if_neg hagg,ha];exact hK⟩
  .cases h
def fD.names{h':Heap}{h:List aM}(H:fD h' h){l:Nat}{o:aM}(ho:h[l]? =some o):∃o',AE.look h' l=some o'/\OR (nmh h) o' o:=H.old l o ho
def LQ{X:XT}{E:Tab}(hX:XOK X E){n:Nat}{h':Heap}{h:List aM}(H:fD h' h){ty:TypeId}{p:PV}{q v:SVal}{ps:List Bool}(hp:PVR (nmh h) p q)
  (hk:LD (std n) X h ty q=some (ps,v)) (hps:∀b∈ps,b=true):Gv (kG E h' ty p) (nmh h) v:=by
 unfold LD at hk;rw [hX.ty]at hk;cases hy:E.ty ty with
 | none=>rw [hy]at hk;cases hk
 | some y=>
 rw [hy]at hk;simp only at hk;have lift:∀ {T:(PV->Prop)->Prop},Gv T (nmh h) v->(∀K,T K->kG E h' ty p K)->Gv (kG E h' ty p) (nmh h) v:=λ⟨pv,h1,h2⟩ f=>⟨pv,h1,λK hK=>f K (h2 K hK)⟩
 split at hk
 .rename_i l sz j;obtain⟨x,rfl,hc⟩:=hp.cell;cases hc;split at hk
  .rename_i w hw;split at hk
   .obtain⟨o',ho',hO⟩:=H.old l _ hw;cases hO with | box hF=>
    unfold LC at hk;split at hk
    .rename_i u hu;cases hk;refine lift (af3 hF hu) λK hT=> ?_
     unfold kG;rw [hy];simp only [aD];rw [ho'];exact⟨rfl,hT⟩
    .cases hk
   .cases hk
  .cases hk
 .rename_i l i j;obtain⟨x,rfl,hc⟩:=hp.cell;cases hc with | pr hN=>
  rename_i sz i m;split at hk
  .rename_i f c xs hw;obtain⟨o',ho',hO⟩:=H.old l _ hw;cases hO with | rows hf=>
   split at hk
   .rename_i u hu;cases hk;have h2:=hps ((std n).cmp .lss (i:Int) ((std n).len c xs)) (by simp);have hi:i< (xs:List c.den).length:=by simpa [std,bg]using h2
    have hs:sz=c.size:=by simp only [nmh,hw,Option.some.injEq,Prod.mk.injEq]at hN;exact hN.1.symm
    refine lift (Vh (n:=n) hf hi (by simpa [std]using hu)) λK hT=> ?_
    unfold kG;rw [hy];simp only [aD];rw [ho'];exact⟨hs,hT⟩
   .cases hk
  .cases hk
 .rename_i f c xs i j;obtain⟨x,rfl,hc⟩:=hp.cell;cases hc with | rp hf hi=>
  unfold LC at hk;split at hk
  .rename_i u hu;cases hk;refine lift (Vh (n:=n) hf hi (by simpa [std]using hu)) λK hT=> ?_
   unfold kG;rw [hy];exact hT
  .cases hk
 .rename_i g c;obtain⟨x,rfl,hc⟩:=hp.cell;cases hc;split at hk
  .rename_i e he;cases hk;refine⟨_,.ofC (.d (f:=false) rfl (λh=>by cases h)),λK hK=> ?_⟩;unfold kG;rw [hy];simp only [aD];refine⟨by simp,λrow hr=> ?_⟩;simp at hr;subst hr;unfold sQ;rw [he];exact⟨by simp,λx hx=>by simp at hx;subst hx;exact hK⟩
  .cases hk
 .cases hk
def akh{n:Nat}{N:NM}{p:PV}{q v:SVal}{ps:List Bool}(hp:PVR N p q)(hk:ake (std n) q=some (ps,v)):Gv (Nj p) N v:=by
 unfold ake at hk;split at hk
 .cases hk;obtain⟨x,rfl,hc⟩:=hp.cell;cases hc;exact⟨_,.ofC .pb,λK hK=>hK⟩
 .cases hk;obtain⟨x,rfl,hc⟩:=hp.cell;cases hc with | pr h=>exact⟨_,.ofC (.pr h),λK hK=>hK⟩
 .cases hk;obtain⟨x,rfl,hc⟩:=hp.cell;cases hc with | rp h h'=>exact⟨_,.ofC (.rp h h'),λK hK=>hK⟩
 .cases hk
def apR{n:Nat}{N:NM}{op:UnOp}{p:PV}{q v:SVal}{ps:List Bool}(hp:PVR N p q)(hk:unX (std n) op q=some (ps,v)):Gv (unA op p) N v:=by
 unfold unX at hk;split at hk
 .cases hk;obtain⟨g,rfl⟩:=hp.bool;exact⟨_,.cb _ _,λK hK=>hK⟩
 .cases hk;obtain⟨g,rfl⟩:=hp.int;exact⟨_,.ci _ _ _,λK hK=>hK⟩
 .cases hk
def G9:∀xs:List Int,KT (aL .u8 xs)=some xs
 | []=>rfl
 | x::r=>by
  have ih:=G9 r;show(match ajX (Co.row .u8 x),KT (aL .u8 r)with | some n,some l=>some (n::l) | _,_=>none)=_;rw [ih];rfl
def af4{X:XT}{E:Tab}(hX:XOK X E){n:Nat}{N:NM}{s d:TypeId}{p:PV}{q v:SVal}{ps:List Bool}(hp:PVR N p q)(hk:Ye (std n) X s d q=some (ps,v)):Gv (D6 E s d p) N v:=by
 unfold Ye at hk;rw [hX.ty]at hk;split at hk
 .rename_i y1 y2 h1 h2;split at hk
  .rename_i k f k' m hd;cases hk;obtain⟨g,rfl⟩:=hp.int;refine⟨_,.ci _ _ _,λK hK=> ?_⟩;unfold D6;rw [h2];simp only [aD];rw [hd];simp only;rw [h1];exact hK
  .rename_i f xs hd;split at hk
   .rename_i e hs;split at hk
    .rename_i t ht;split at hk
     .rename_i hte;cases hk;obtain⟨x,rfl,hc⟩:=hp.cell;have hc':∃g,x= .d g (.rows Co.u8.size (aL .u8 xs)):=by cases hc with | d e1 _=>exact⟨_,by rw [e1];rfl⟩
      obtain⟨g,rfl⟩:=hc';refine⟨.c (.d true (.str (strOfNums xs))),.ofC (.d rfl λ_=> .inl rfl),λK hK=> ?_⟩;unfold D6;rw [h2];simp only [aD];rw [hd];simp only;rw [h1];simp only;rw [hs];simp only;rw [ht];simp only;refine⟨hte,?_⟩;rw [G9];exact hK
     .cases hk
    .cases hk
   .cases hk
  .cases hk
 .cases hk
def Jc{X:XT}{E:Tab}(hX:XOK X E){n:Nat}{N:NM}{s:TypeId}{i:Nat}{p:PV}{q v:SVal}{ps:List Bool}(hp:PVR N p q)(hk:yN (std n) X s q i=some (ps,v)):Gv (iN E s p i) N v:=by
 unfold yN at hk;rw [hX.ty]at hk;split at hk
 .rename_i y hy;split at hk
  .rename_i fs hd;split at hk
   .rename_i off ft hf;split at hk
    .rename_i z hz;split at hk
     .cases hk
     .rename_i hne;have hne:z.size≠0:=by simpa using hne
      have fin:∀K,(match p with | .c (.ptr l sz i j)=>K (.c (.ptr l sz i (j+off))) | .c (.rp r sz es i j)=>K (.c (.rp r sz es i (j+off))) | _=>False)->iN E s p i K:=by
       intro K hK;unfold iN;rw [hy];simp only [aD];rw [hd];simp only;rw [hf];simp only;rw [hz];exact⟨hne,hK⟩
      split at hk
      .cases hk;obtain⟨x,rfl,hc⟩:=hp.cell;cases hc;exact⟨_,.ofC .pb,λK hK=>fin K hK⟩
      .cases hk;obtain⟨x,rfl,hc⟩:=hp.cell;cases hc with | pr h=>exact⟨_,.ofC (.pr h),λK hK=>fin K hK⟩
      .cases hk;obtain⟨x,rfl,hc⟩:=hp.cell;cases hc with | rp h h'=>exact⟨_,.ofC (.rp h h'),λK hK=>fin K hK⟩
      .cases hk
    .cases hk
   .cases hk
  .cases hk
 .cases hk
def PVR.struct{N:NM}{p:PV}{v:SVal}(h:PVR N p v)(hs:bF (std 0) v=true):∃cs,p= .agg cs/\F2 (RC N) cs (cellsS v):=by
 cases h with
 | one h=>cases h with
  | c _=>simp [bF]at hs
  | agg _ h=>exact⟨_,rfl,h⟩
 | tup _=>simp [bF]at hs
def Yp{X:XT}{E:Tab}(hX:XOK X E){n:Nat}{N:NM}{s:TypeId}{i:Nat}{p:PV}{q v:SVal}{ps:List Bool}(hp:PVR N p q)(hk:NW (std n) X s q i=some (ps,v)):Gv (sU E s p i) N v:=by
 unfold NW at hk;rw [hX.ty]at hk;split at hk
 .rename_i y hy;split at hk
  .rename_i fs hd;split at hk
   .rename_i off ft hf;split at hk
    .rename_i z hz;split at hk
     .rename_i hc;simp only [Bool.and_eq_true]at hc;obtain⟨hst,hle⟩:=hc;have hle:=Nat.le_of_ble_eq_true hle;obtain⟨cs,rfl,hF⟩:=hp.struct (by rw [<-og n];exact hst);have hl:(bU (std n) q).length=cs.length:=by rw [dx];exact hF.length.symm
      have fin:∀K,(if z.desc.agg then K (.agg ((cs.drop off).take z.size))else Cz cs[off]? λx=>K (.c x))->sU E s (.agg cs) i K:=by
       intro K hK;unfold sU;rw [hy];simp only [aD];rw [hd];simp only;rw [hf];simp only;rw [hz];exact⟨ah,hK⟩
      split at hk
      .rename_i hagg;cases hk;refine⟨.agg ((cs.drop off).take z.size),.one (.agg rfl ?_),λK hK=>fin K (by rw [if_pos hagg];exact hK)⟩;have:=(hF.drop off).take z.size;rw [<-dx n]at this;exact this
      .rename_i hagg;split at hk
       .rename_i x hx;cases hk;rw [dx]at hx;obtain⟨a,ha,hra⟩:=hF.get hx;exact⟨_,.ofC hra,λK hK=>fin K (by rw [if_neg hagg,ha];exact hK)⟩
       .cases hk
     .cases hk
    .cases hk
   .cases hk
  .cases hk
 .cases hk
def Xj{N:NM}{op:BinOp}{k:IntKind}{x y:Int}{v:SVal}{ps:List Bool}{n:Nat}
    (hk:(match op with
       | .quo | .rem=>some ([(std n).cmp .neq y ((std n).lit 0)],.c (.d true (.int k ((std n).arith op k x y))))
       | .shl | .shr=>some ([(std n).cmp .leq ((std n).lit 0) y],.c (.d true (.int k ((std n).arith op k x y))))
       | op=>if I7 op then okI (std n) k ((std n).arith op k x y)else if Yd op then okB (std n) ((std n).cmp op x y)else none:PR (std n))=some (ps,v))
    (hps:∀b∈ps,b=true):Gv (Bb op k x y) N v:=by
  cases op<;>simp only [I7,Yd,okI,okB,if_true,Bool.false_eq_true,if_false,Option.some.injEq,Prod.mk.injEq,reduceCtorEq]at hk<;>
    first
    | exact hk.elim
    | (obtain⟨rfl,rfl⟩:=hk;exact⟨_,.ci _ _ _,λK hK=>hK⟩)
    | (obtain⟨rfl,rfl⟩:=hk;exact⟨_,.cb _ _,λK hK=>hK⟩)
    | (obtain ⟨rfl, rfl⟩ := hk
       have h:=hps _ (List.mem_singleton.2 rfl);refine⟨_,.ci _ _ _,λK hK=>⟨?_,hK⟩⟩;simpa [bg]using h)
def F2.Jd{N:NM}:∀ {cs:List Cell} {ys:List SC},F2 (RC N) cs ys->∀(ns:List Int),(∃fs:List Bool,ys=List.zipWith (λf n=>TC.d f (.int .i64 n)) fs ns/\fs.length=ns.length)->iy cs=some ns
 | [],_,h,ns,⟨fs,e,hl⟩=>by
  cases h;cases ns with
  | nil=>rfl
  | cons a b=>cases fs with
   | nil=>simp at hl
   | cons c d=>simp at e
 | _::_,_,.cons h1 h2,ns,⟨fs,e,hl⟩=>by
  cases ns with
  | nil=>cases fs<;>simp at e
  | cons a b=>cases fs with
   | nil=>simp at hl
   | cons c d=>
    simp only [List.zipWith_cons_cons,List.cons.injEq]at e;obtain⟨rfl,rfl⟩:=e;obtain⟨g,rfl⟩:=RC.int h1;have:=F2.Jd h2 b ⟨d,rfl,by simpa using hl⟩;simp [iy,Nk,this]
def rG{n:Nat}{h:List aM}:∀ {ss:List Sh} {ys:List SC} {f:Bool} {vs:List (LV aG)} {ls:List Nat},(∀s∈ss,s=Sh.i)->aR (std n) h ss ys=some (f,vs,ls)->
  ∃ns:List Int,vs=ns.map LV.i/\∃fs:List Bool,ys=List.zipWith (λf n=>TC.d f (.int .i64 n)) fs ns/\fs.length=ns.length
 | [],[],f,vs,ls,_,hk=>by simp [aR]at hk;obtain⟨_,rfl,_⟩:=hk;exact⟨[],rfl,[],rfl,rfl⟩
 | [],_::_,_,_,_,_,hk=>by simp [aR]at hk
 | _::_,[],_,_,_,_,hk=>by simp [aR]at hk
 | s::ss,y::ys,f,vs,ls,hs,hk=>by
  unfold aR at hk;split at hk
  .rename_i f1 y1 l1 h1;split at hk
   .rename_i g ys1 ls1 h2;split at hk<;>cases hk
    obtain⟨ns,rfl,fs,rfl,hl⟩:=rG (λs hs'=>hs s (List.mem_cons_of_mem _ hs')) h2;have:=hs s (by simp);subst this;unfold eU at h1;split at h1
    .rename_i f0 lf;split at h1
     .rename_i e;cases lf with
      | int k x=>simp [jd,Sh.i]at e;subst e;cases h1;exact⟨x::ns,rfl,f0::fs,rfl,by simp [hl]⟩
      | bool x=>simp [jd,Sh.i]at e
      | str x=>simp [jd,Sh.i]at e
      | rows c x=>simp [jd,Sh.i]at e
     .cases h1
    .simp [Sh.i]at h1
    .split at h1
     .rename_i e;simp [Sh.i]at e
     .cases h1
    .split at h1
     .split at h1
      .rename_i e;simp [Sh.i]at e
      .cases h1
     .cases h1
    .cases h1
   .cases hk
  .cases hk
theorem LU(x:Ins):Co.zP .ins x=[x.op,x.d,x.a,x.k].map LV.i:=rfl
theorem LW(x:IOp):Co.zP .iop x=[x.kind,x.x,x.y,x.k,x.at_].map LV.i:=rfl
def Xk{a b:List Int}(h:a.map (LV.i (A:=aG))=b.map LV.i):a=b:=by
 induction a generalizing b with
 | nil=>cases b<;>simp_all
 | cons x a ih=>cases b with
  | nil=>simp at h
  | cons y b=>simp only [List.map_cons,List.cons.injEq,LV.i.injEq]at h;rw [h.1,ih h.2]
theorem zQ{n:Nat}{N:NM}{c:Co}(hc:∀s∈c.fields,s=Sh.i){q:SVal}{p:PV}{f:Bool}{x:c.den}{ls:List Nat}(hp:PVR N p q)(hk:toX (std n) [] c q=some (f,x,ls))(ns:List Int)(hns:c.zP x=ns.map LV.i):
  iy (aO p)=some ns:=by
 unfold toX at hk;split at hk
 .rename_i f' c' x';split at hk
  .rename_i e;subst e;cases hk;have h:=hp.cells;have hx:cellsS (.sv f' c' x')=(fJ (std 0) c' x' 0 c'.fields).map (.d f'):=rfl;rw [hx]at h;refine F2.Jd h ns ?_;have h1:=G8 0 c' x';have h2:=Bz 0 c' x';rw [hns]at h1
   revert h1 h2
   generalize fJ (std 0) c' x' 0 c'.fields=lv;intro h1 h2;have h3:∀y∈lv,jd y=Sh.i:=λy hy=>hc _ (by rw [<-h2];exact List.mem_map_of_mem hy)
   clear h2 hns hp h hx hc
   induction lv generalizing ns with
   | nil=>cases ns with | nil=>exact⟨[],rfl,rfl⟩ | cons a b=>simp at h1
   | cons y lv ih=>cases ns with
    | nil=>simp at h1
    | cons a b=>
     simp only [List.map_cons,List.cons.injEq]at h1;obtain⟨fs,e,hl⟩:=ih b h1.2 (λy hy=>h3 y (List.mem_cons_of_mem _ hy));have hy:=h3 y (by simp);cases y with
     | int k x=>simp [jd,Sh.i]at hy;subst hy;simp [Leaf.lv]at h1;exact⟨f'::fs,by simp [e,h1.1],by simp [hl]⟩
     | bool x=>simp [jd,Sh.i]at hy
     | str x=>simp [jd,Sh.i]at hy
     | rows c x=>simp [jd,Sh.i]at hy
  .cases hk
 .cases hk
 .split at hk
  .rename_i f1 ys ls1 h1;split at hk
   .rename_i t ht;cases hk;obtain⟨ms,rfl,fs,hy,hl⟩:=rG hc h1;rw [dx]at hy;have h2:c.zP (c.mk t)=ms.map LV.i:=by rw [Vg,unpack_pack ht]
    rw [show(std n).mkX c t=c.mk t from rfl]at hns;rw [h2]at hns;have:=Xk hns;subst this;exact F2.Jd hp.cells ms ⟨fs,hy,hl⟩
   .cases hk
  .cases hk
def ER{N:NM}{p:PV}{q:SVal}(hp:PVR N p q){ns:List Int}(h:iy (aO p)=some ns)(hl:2<=ns.length):∃cs,p= .agg cs/\iy cs=some ns:=by
 cases p with
 | c x=>
  simp only [aO,iy]at h;split at h
  .rename_i h1 h2;cases h;simp at h2;subst h2;simp at hl
  .cases h
 | agg cs=>exact⟨cs,rfl,h⟩
 | tup vs=>simp [aO,iy]at h;subst h;simp at hl
def apS{x y:Ins}:([x.op,x.d,x.a,x.k]==[y.op,y.d,y.a,y.k])=Yk x y:=by
 unfold Yk;rw [Bool.eq_iff_iff];cases x;cases y;simp
def apT{x y:IOp}:([x.kind,x.x,x.y,x.k,x.at_]==[y.kind,y.x,y.y,y.k,y.at_])=Yl x y:=by
 unfold Yl;rw [Bool.eq_iff_iff];cases x;cases y;simp
def aU(c:Co)(xs:List c.den):(aL c xs).length=xs.length:=by simp [aL]
def aki{X:XT}{E:Tab}(hX:XOK X E){n:Nat}{N:NM}{op:BinOp}{ty:TypeId}{p p':PV}{a b v:SVal}{ps:List Bool}(hp:PVR N p a)(hp':PVR N p' b)
  (hk:akb (std n) X op ty a b=some (ps,v)) (hps:∀b∈ps,b=true):Gv (Bc E op ty p p') N v:=by
 unfold akb at hk;split at hk
 .rename_i f k x f' k' y;obtain⟨g,rfl⟩:=hp.int;obtain⟨g',rfl⟩:=hp'.int;split at hk
  .rename_i e;obtain⟨pv,h1,h2⟩:=Xj (N:=N) hk hps;exact⟨pv,h1,λK hK=>⟨e,h2 K hK⟩⟩
  .cases hk
 .rename_i f x f' y;obtain⟨g,rfl⟩:=hp.bool;obtain⟨g',rfl⟩:=hp'.bool;rw [hX.ty]at hk;split at hk
  .rename_i z hz;split at hk
   .rename_i hd;split at hk
    .cases hk;exact⟨_,.cb _ _,λK hK=>by unfold Bc;simp only;rw [hz];exact⟨hd,hK⟩⟩
    .cases hk;exact⟨_,.cb _ _,λK hK=>by unfold Bc;simp only;rw [hz];exact⟨hd,hK⟩⟩
    .cases hk
   .cases hk
  .cases hk
 .rename_i f x f' y;have str:∀ {p:PV} {f:Bool} {s:ByteArray},PVR N p (.c (.d f (.str s)))->∃g,p= .c (.d g (.str s)):=λh=>by
   obtain⟨x,rfl,hc⟩:=h.cell;cases hc with | d e1 _=>exact⟨_,by rw [e1];rfl⟩
  obtain⟨g,rfl⟩:=str hp;obtain⟨g',rfl⟩:=str hp';rw [hX.ty]at hk;split at hk
  .rename_i z hz;split at hk
   .rename_i hd;split at hk
    .cases hk;exact⟨_,.cb _ _,λK hK=>by unfold Bc;simp only;rw [hz];exact⟨hd,hK⟩⟩
    .cases hk;exact⟨_,.cb _ _,λK hK=>by unfold Bc;simp only;rw [hz];exact⟨hd,hK⟩⟩
    .cases hk
   .cases hk
  .cases hk
 .rename_i l lo m;obtain⟨x,rfl,hr⟩:=hp.cell;obtain⟨x',rfl,hr'⟩:=hp'.cell;rw [hX.ty]at hk;split at hk
  .rename_i z hz;split at hk
   .rename_i el hd;cases hr with
    | @os l sz lo n0 m0 hN=>
    cases hr';have ne:(!decide ((n0:Int)=0))=true->n0≠0:=λh e=>by
     simp only [Bool.not_eq_true',decide_eq_false_iff_not]at h;exact h ah
    split at hk
    .cases hk;exact⟨_,.cb _ _,λK hK=>⟨ne (hps _ (List.mem_singleton.2 rfl)),by rw [hz];exact⟨⟨el,hd⟩,hK⟩⟩⟩
    .cases hk;exact⟨_,.cb _ _,λK hK=>⟨ne (hps _ (List.mem_singleton.2 rfl)),by rw [hz];exact⟨⟨el,hd⟩,hK⟩⟩⟩
    .cases hk
   .cases hk
  .cases hk
 .rename_i f c xs;obtain⟨x,rfl,hr⟩:=hp.cell;obtain⟨x',rfl,hr'⟩:=hp'.cell;rw [hX.ty]at hk;split at hk
  .rename_i z hz;split at hk
   .rename_i el hd;cases hr with
    | d e1 _=>
    cases hr';subst e1;have ne:(!decide ((xs.length:Int)=0))=true->aL c xs≠ []:=λh e=>by
     have:=aU c xs;rw [e]at this;simp only [Bool.not_eq_true',decide_eq_false_iff_not]at h;exact h (by rw [<-this];rfl)
    split at hk
    .cases hk;exact⟨_,.cb _ _,λK hK=>⟨ne (hps _ (List.mem_singleton.2 rfl)),by rw [hz];exact⟨⟨el,hd⟩,hK⟩⟩⟩
    .cases hk;exact⟨_,.cb _ _,λK hK=>⟨ne (hps _ (List.mem_singleton.2 rfl)),by rw [hz];exact⟨⟨el,hd⟩,hK⟩⟩⟩
    .cases hk
   .cases hk
  .cases hk
 .split at hk
  .rename_i c hc;split at hk
   .rename_i f1 x l1 f2 y l2 hx hy;have main:∀(m:Nat) (xs ys:List Int),E.ieq ty=some m->xs.length=m->ys.length=m->2<=m->iy (aO p)=some xs->iy (aO p')=some ys->(xs==ys)=(std n).eqX c x y->Gv (Bc E op ty p p') N v:=by
     intro m xs ys he hlx hly h2 hax hay hq;obtain⟨cs,rfl,hcs⟩:=ER hp hax ah;obtain⟨ds,rfl,hds⟩:=ER hp' hay ah;split at hk
     .cases hk;exact⟨_,.cb _ _,λK hK=>by unfold Bc;simp only;rw [hcs];simp only [sS];rw [hds];exact⟨by rw [he,hlx],ah,by simp only [hq];exact hK⟩⟩
     .cases hk;exact⟨_,.cb _ _,λK hK=>by unfold Bc;simp only;rw [hcs];simp only [sS];rw [hds];exact⟨by rw [he,hlx],ah,by simp only [hq];exact hK⟩⟩
     .cases hk
    rcases hX.ieq ty c hc with⟨rfl,he⟩ | ⟨rfl,he⟩
    .exact main 4 _ _ he rfl rfl ah (zQ (by decide) hp hx _ (LU x)) (zQ (by decide) hp' hy _ (LU y)) apS
    .exact main 5 _ _ he rfl rfl ah (zQ (by decide) hp hx _ (LW x)) (zQ (by decide) hp' hy _ (LW y)) apT
   .cases hk
  .cases hk
def gB{X:XT}{E:Tab}(hX:XOK X E){e:TypeId}{c:Co}(h:jT X e c=true):∃z,E.ty e=some z/\z.size=c.size:=by
 unfold jT at h;rw [hX.ty]at h;split at h
 .rename_i z hz;exact⟨z,hz,by simpa using h⟩
 .cases h
def dS{h:List aM}{l:Nat}{f:Bool}{c:Co}{xs:List c.den}(hl:h[l]? =some (.rows f c xs)):nmh h l=some (c.size,xs.length):=by simp only [nmh,hl]
def af5{n:Nat}{h:List aM}{p:PV}{v:SVal}(hp:PVR (nmh h) p v):PVR (nmh h) p (akc (std n) h v):=by
 unfold akc;split
 .rename_i l;split
  .rename_i f c xs hl;obtain⟨x,rfl,hr⟩:=hp.cell;cases hr with
   | @own l sz m hN=>
    have e:=dS hl;rw [hN]at e;cases e;exact .ofC (.os hN)
  .exact hp
 .exact hp
def Je{X:XT}{E:Tab}(hX:XOK X E){n:Nat}{h:List aM}{t:TypeId}{p p':PV}{a b v:SVal}{ps:List Bool}(hp:PVR (nmh h) p a)(hp':PVR (nmh h) p' b)
  (hk:yO (std n) X h t a b=some (ps,v)) (hps:∀b∈ps,b=true):Gv (jv E t p p') (nmh h) v:=by
 unfold yO at hk;rw [hX.ty]at hk;split at hk
 .rename_i y hy;split at hk
  .rename_i e f k i hd;obtain⟨i,rfl⟩:∃i':Int,i'=i:=⟨i,rfl⟩;obtain⟨g,rfl⟩:=hp'.int
   have fin:∀z,E.ty e=some z->∀K,(match p with
     | .c (.d f (.rows sz es))=>(es≠ []->sz=z.size)/\0<=i/\i<es.length/\K (.c (.rp f sz es i.toNat 0))
     | .c (.clip f sz es)=>(es≠ []->sz=z.size)/\0<=i/\i<es.length/\K (.c (.rp f sz es i.toNat 0))
     | .c (.os l sz lo n)=>sz=z.size/\0<=i/\i<n/\K (.c (.ptr l sz (lo+i.toNat) 0))
     | _=>False)->jv E t p (.c (.d g (.int k i))) K:=by
    intro z hz K hK;unfold jv;rw [hy];simp only [aD];rw [hd];simp only;rw [hz];exact hK
   split at hk
   .rename_i f0 c xs;split at hk
    .rename_i hs;cases hk;obtain⟨z,hz,hzs⟩:=gB hX hs;obtain⟨x,rfl,hc⟩:=hp.cell;cases hc with | d hx hf=>
     subst hx;have h0:(0:Int)<=i:=by simpa [bg]using hps (bg .leq 0 i) (by simp)
     have h1:i< (xs:List c.den).length:=by simpa [bg]using hps (bg .lss i ((xs:List c.den).length:Int)) (by simp)
     refine⟨_,.ofC (x:= .rp _ c.size (aL c xs) i.toNat 0) (by
      have:=RC.rp (N:=nmh h) (c:=c) (xs:=xs) (i:=i.toNat) (j:=0) (λh=>(hf h).resolve_right (by simp [Leaf.scalar])) ah;rw [Int.toNat_of_nonneg h0]at this;exact this),λK hK=>fin z hz K ⟨λ_=>hzs.symm,h0,by rw [aU];omega,hK⟩⟩
    .cases hk
   .rename_i f0 c xs;split at hk
    .rename_i hs;cases hk;obtain⟨z,hz,hzs⟩:=gB hX hs;obtain⟨x,rfl,hc⟩:=hp.cell;cases hc with | clip hf=>
     have h0:(0:Int)<=i:=by simpa [bg]using hps (bg .leq 0 i) (by simp)
     have h1:i< (xs:List c.den).length:=by simpa [bg]using hps (bg .lss i ((xs:List c.den).length:Int)) (by simp)
     refine⟨_,.ofC (x:= .rp _ c.size (aL c xs) i.toNat 0) (by
      have:=RC.rp (N:=nmh h) (c:=c) (xs:=xs) (i:=i.toNat) (j:=0) hf ah;rw [Int.toNat_of_nonneg h0]at this;exact this),λK hK=>fin z hz K ⟨λ_=>hzs.symm,h0,by rw [aU];omega,hK⟩⟩
    .cases hk
   .rename_i l;split at hk
    .rename_i f1 c xs hl;split at hk
     .rename_i hs;cases hk;obtain⟨z,hz,hzs⟩:=gB hX hs;obtain⟨x,rfl,hc⟩:=hp.cell;cases hc with | own hN=>
      have hN':=hN;rw [dS hl]at hN';cases hN';have h0:(0:Int)<=i:=by simpa [bg]using hps (bg .leq 0 i) (by simp)
      have h1:i< (xs:List c.den).length:=by simpa [bg]using hps (bg .lss i ((xs:List c.den).length:Int)) (by simp)
      refine⟨_,.ofC (x:= .ptr l c.size (0+i.toNat) 0) (by
       have:=RC.pr (N:=nmh h) (i:=i.toNat) (j:=0) hN;rw [Int.toNat_of_nonneg h0]at this;rw [Nat.zero_add];exact this),λK hK=>fin z hz K ⟨hzs.symm,h0,h1,hK⟩⟩
     .cases hk
    .cases hk
   .rename_i l lo n;split at hk
    .rename_i f1 c xs hl;split at hk
     .rename_i hs;cases hk;obtain⟨z,hz,hzs⟩:=gB hX hs;obtain⟨x,rfl,hc⟩:=hp.cell;cases hc with | os hN=>
      rename_i sz lo n m;have hN':=hN;rw [dS hl]at hN';cases hN';have h0:(0:Int)<=i:=by simpa [bg]using hps (bg .leq 0 i) (by simp)
      have h1:i< (n:Int):=by simpa [bg]using hps (bg .lss i (n:Int)) (by simp)
      refine⟨_,.ofC (x:= .ptr l c.size (lo+i.toNat) 0) (by
       have:=RC.pr (N:=nmh h) (i:=lo+i.toNat) (j:=0) hN;rw [show((lo+i.toNat:Nat):Int)=(lo:Int)+i by omega]at this;exact this),λK hK=>fin z hz K ⟨hzs.symm,h0,h1,hK⟩⟩
     .cases hk
    .cases hk
   .cases hk
  .cases hk
 .cases hk
def akj{n:Nat}{h:List aM}{p:PV}{q v:SVal}{ps:List Bool}(hp:PVR (nmh h) p q)(hk:akd (std n) h q=some (ps,v)):Gv (KU p) (nmh h) v:=by
 unfold akd at hk;split at hk
 .cases hk;obtain⟨x,rfl,hc⟩:=hp.cell;cases hc with | d hx _=>subst hx;exact⟨_,.ci _ _ _,λK hK=>by unfold KU nG;simp only;rw [aU];exact hK⟩
 .cases hk;obtain⟨x,rfl,hc⟩:=hp.cell;cases hc with | clip _=>exact⟨_,.ci _ _ _,λK hK=>by unfold KU;simp only;rw [aU];exact hK⟩
 .obtain⟨x,rfl,hc⟩:=hp.cell;cases hc with | own hN=>
  split at hk
  .rename_i f c xs hl;cases hk;rw [dS hl]at hN;cases hN;exact⟨_,.ci _ _ _,λK hK=>hK⟩
  .cases hk
 .cases hk;obtain⟨x,rfl,hc⟩:=hp.cell;cases hc;exact⟨_,.ci _ _ _,λK hK=>hK⟩
 .cases hk;obtain⟨x,rfl,hc⟩:=hp.cell;cases hc;exact⟨_,.ci _ _ _,λK hK=>hK⟩
 .cases hk
def qI{X:XT}{E:Tab}(hX:XOK X E){n:Nat}{N:NM}{t:Slots}{e:Nat->Option SVal}(he:EvR X E n N t e){o:Option Operand}{d m:Int}(hk:I8 (std n) X e o d=some m){K:Int->Prop}(h:K m):zw E t o d K:=by
 cases o with
 | none=>simp only [I8,Option.some.injEq]at hk;subst hk;exact h
 | some x=>
  simp only [I8]at hk;split at hk
  .rename_i f k m' hx;cases hk;obtain⟨pv,h1,h2⟩:=dG hX he hx;obtain⟨g,rfl⟩:=h2.int;unfold zw;simp only;rw [h1];exact h
  .cases hk
def vZ(c:Co)(xs:List c.den)(l r:Nat):((aL c xs).take r).drop l=aL c ((xs.take r).drop l):=by simp [aL,List.map_take,List.map_drop]
def Yq{X:XT}{E:Tab}(hX:XOK X E){n:Nat}{h:List aM}{t:Slots}{e:Nat->Option SVal}(he:EvR X E n (nmh h) t e){ty:TypeId}{p:PV}{q v:SVal}{lo hi mx:Option Operand}{ps:List Bool}(hp:PVR (nmh h) p q)
    (hk:NY (std n) X e h ty q lo hi mx=some (ps,v)) (hps:∀b∈ps,b=true):Gv (sV E t ty p lo hi mx) (nmh h) v:=by
  unfold NY at hk;rw [hX.ty]at hk;split at hk
  · rename_i y hy;split at hk
    · rename_i el hd;split at hk
      · rename_i l hl;obtain⟨l,rfl⟩:∃l':Int,l'=l:=⟨l,rfl⟩
        have fin:∀z,E.ty el=some z->∀K,(match p with
          | .c (.d f (.rows sz es))=>(es≠ []->sz=z.size)/\(zw E t hi es.length λh=>0<=l/\l<=h/\h<=es.length/\
              (match mx with
               | none=>K (.c (.d f (.rows sz ((es.take h.toNat).drop l.toNat))))
               | some _=>zw E t mx 0 λm=>hi.isSome=true/\m=h/\K (.c (.clip f sz ((es.take h.toNat).drop l.toNat)))))
          | .c (.os b sz lo0 n)=>sz=z.size/\mx=none/\(zw E t hi n λh=>0<=l/\l<=h/\h<=n/\K (.c (.os b sz (lo0+l.toNat) (h.toNat-l.toNat))))
          | .c .nil=>mx=none/\(zw E t hi 0 λh=>l=0/\h=0/\K (.c .nil))
          | _=>False)->sV E t ty p lo hi mx K:=by
          intro z hz K hK;unfold sV;rw [hy];simp only [aD];rw [hd];simp only;rw [hz];exact qI hX he hl hK
        split at hk
        · rename_i f0 c xs;split at hk
          · rename_i hs;obtain⟨z,hz,hzs⟩:=gB hX hs;obtain⟨x,rfl,hc⟩:=hp.cell;cases hc with | d hx hf=>
            subst hx;split at hk
            · rename_i r hr;obtain⟨r,rfl⟩:∃l':Int,l'=r:=⟨r,rfl⟩;split at hk
              · rename_i hm;cases hk;have h0:(0:Int)<=l:=by simpa [bg]using hps (bg .leq 0 l) (by simp)
                have h1:l<=r:=by simpa [bg]using hps (bg .leq l r) (by simp)
                have h2:r<=(xs:List c.den).length:=by simpa [bg]using hps (bg .leq r ((xs:List c.den).length:Int)) (by simp)
                refine⟨_,.ofC (.d (y:= .rows c ((xs.take r.toNat).drop l.toNat)) rfl hf),λK hK=>fin z hz K ⟨λ_=>hzs.symm,?_⟩⟩;rw [aU];refine qI hX he hr ⟨h0,h1,h2,?_⟩;simp only [vZ];exact hK
              · rename_i mo hm;split at hk
                · rename_i m hmm;obtain⟨m,rfl⟩:∃l':Int,l'=m:=⟨m,rfl⟩;split at hk
                  · rename_i hsome;cases hk;have h0:(0:Int)<=l:=by simpa [bg]using hps (bg .leq 0 l) (by simp)
                    have h1:l<=r:=by simpa [bg]using hps (bg .leq l r) (by simp)
                    have h2:r<=(xs:List c.den).length:=by simpa [bg]using hps (bg .leq r ((xs:List c.den).length:Int)) (by simp)
                    have h3:m=r:=by simpa [bg]using hps (bg .eql m r) (by simp)
                    refine⟨_,.ofC (.clip (c:=c) (xs:=((xs.take r.toNat).drop l.toNat)) (λh=>(hf h).resolve_right (by simp [Leaf.scalar]))),λK hK=>fin z hz K ⟨λ_=>hzs.symm,?_⟩⟩;rw [aU];refine qI hX he hr ⟨h0,h1,h2,?_⟩;simp only [vZ];exact qI hX he hmm ⟨hsome,h3,hK⟩
                  · cases hk
                · cases hk
            · cases hk
          · cases hk
        · rename_i w;split at hk
          · rename_i f1 c xs hw;split at hk
            · rename_i hs;obtain⟨z,hz,hzs⟩:=gB hX hs;obtain⟨x,rfl,hc⟩:=hp.cell;cases hc with | own hN=>
              have hN':=hN;rw [dS hw]at hN';cases hN';split at hk
              · rename_i r hr;cases hk;obtain⟨r,rfl⟩:∃l':Int,l'=r:=⟨r,rfl⟩;have h0:(0:Int)<=l:=by simpa [bg]using hps (bg .leq 0 l) (by simp)
                have h1:l<=r:=by simpa [bg]using hps (bg .leq l r) (by simp)
                have h2:r<=(xs:List c.den).length:=by simpa [bg]using hps (bg .leq r ((xs:List c.den).length:Int)) (by simp)
                refine⟨_,.ofC (x:= .os w c.size (0+l.toNat) (r.toNat-l.toNat)) (by
                  have:=RC.os (N:=nmh h) (lo:=0+l.toNat) (n:=r.toNat-l.toNat) hN;rw [show((0+l.toNat:Nat):Int)=l by omega,show((r.toNat-l.toNat:Nat):Int)=r-l by omega]at this;exact this),λK hK=>fin z hz K ⟨hzs.symm,rfl,?_⟩⟩
                exact qI hX he hr ⟨h0,h1,h2,hK⟩
              · cases hk
            · cases hk
          · cases hk
        · rename_i w l0 n0;split at hk
          · rename_i f1 c xs hw;split at hk
            · rename_i hs;obtain⟨z,hz,hzs⟩:=gB hX hs;obtain⟨x,rfl,hc⟩:=hp.cell;cases hc with | os hN=>
              rename_i sz l0 n0 m;have hN':=hN;rw [dS hw]at hN';cases hN';split at hk
              · rename_i r hr;cases hk;obtain⟨r,rfl⟩:∃l':Int,l'=r:=⟨r,rfl⟩;have h0:(0:Int)<=l:=by simpa [bg]using hps (bg .leq 0 l) (by simp)
                have h1:l<=r:=by simpa [bg]using hps (bg .leq l r) (by simp)
                have h2:r<=(n0:Int):=by simpa [bg]using hps (bg .leq r (n0:Int)) (by simp)
                refine⟨_,.ofC (x:= .os w c.size (l0+l.toNat) (r.toNat-l.toNat)) (by
                  have:=RC.os (N:=nmh h) (lo:=l0+l.toNat) (n:=r.toNat-l.toNat) hN;rw [show((l0+l.toNat:Nat):Int)=(l0:Int)+l by omega,show((r.toNat-l.toNat:Nat):Int)=r-l by omega]at this;exact this),λK hK=>fin z hz K ⟨hzs.symm,rfl,?_⟩⟩
                exact qI hX he hr ⟨h0,h1,h2,hK⟩
              · cases hk
            · cases hk
          · cases hk
        · split at hk
          · rename_i r hr;split at hk
            · rename_i hsm;cases hk;obtain⟨r,rfl⟩:∃l':Int,l'=r:=⟨r,rfl⟩;obtain⟨x,rfl,hc⟩:=hp.cell;cases hc;have h1:l=0:=by simpa [bg]using hps (bg .eql l 0) (by simp)
              have h2:r=0:=by simpa [bg]using hps (bg .eql r 0) (by simp)
              obtain⟨z,hz⟩:=Option.isSome_iff_exists.1 hsm;exact⟨_,.ofC .nil,λK hK=>fin z hz K ⟨rfl,qI hX he hr ⟨h1,h2,hK⟩⟩⟩
            · cases hk
          · cases hk
        · cases hk
      · cases hk
    · cases hk
  · cases hk
def Yr{n:Nat}{N:NM}{x:Cell}{y:SC}(h:UY (std n) x=some y):RC N x y:=by
 unfold UY at h;split at h<;>first | (cases h;exact .d rfl λ_=> .inl rfl) | (cases h;exact .nil) | (cases h;exact .np) | cases h
def BA{n:Nat}{N:NM}:∀ {xs:List Cell} {ys:List SC},jA (std n) xs=some ys->F2 (RC N) xs ys
 | [],ys,h=>by simp [jA]at h;subst h;exact .nil
 | x::xs,ys,h=>by
  simp only [jA]at h;split at h
  .rename_i y ys' h1 h2;cases h;exact .cons (Yr h1) (BA h2)
  .cases h
def Vi{X:XT}{E:Tab}(hX:XOK X E){n:Nat}{N:NM}{t:Slots}{e:Nat->Option SVal}(he:EvR X E n N t e)(fs:List (Nat×TypeId)):
  ∀(parts:List (Nat×Operand)) {cs':List Cell} {cs out:List SC},F2 (RC N) cs' cs->LG (std n) X e fs parts cs=some out->∃out',F2 (RC N) out' out/\∀K,K out'->rz E t (kS E fs) parts cs' K
 | [],cs',cs,out,hc,hk=>by simp only [LG,Option.some.injEq]at hk;subst hk;exact⟨_,hc,λK hK=>hK⟩
 | (i,x)::rest,cs',cs,out,hc,hk=>by
  simp only [LG]at hk;rw [hX.ty]at hk;split at hk
  .rename_i off ft hf;split at hk
   .rename_i z v hz hv;split at hk
    .rename_i hcond;simp only [Bool.and_eq_true,beq_iff_eq,Bool.not_eq_true',beq_eq_false_iff_ne,ne_eq]at hcond;obtain⟨⟨h1,h2⟩,h3⟩:=hcond;have h3:=Nat.le_of_ble_eq_true h3;obtain⟨pv,hp,hr⟩:=dG hX he hv;have hcells:=hr.cells;have hlen:(aO pv).length=(bU (std n) v).length:=by rw [dx];exact hcells.length
     have hcl:cs'.length=cs.length:=hc.length;rw [dx]at hk;have hnew:F2 (RC N) (splice cs' (aO pv) off) (cs.take off++cellsS v++cs.drop (off+(cellsS v).length)):=by
      unfold splice;rw [show(aO pv).length=(cellsS v).length from hcells.length];exact((hc.take off).append hcells).append (hc.drop _)
     obtain⟨out',ho,hK⟩:=Vi hX he fs rest hnew hk;refine⟨out',ho,λK hK'=> ?_⟩;unfold rz;have hpl:kS E fs i=some (off,z.size):=by unfold kS;rw [hf];simp only;rw [hz]
     rw [hpl];simp only;rw [hp];exact⟨ah,h2,ah,hK K hK'⟩
    .cases hk
   .cases hk
  .cases hk
def Yt{X:XT}{E:Tab}(hX:XOK X E){n:Nat}{N:NM}{t:Slots}{e:Nat->Option SVal}(he:EvR X E n N t e){ty:TypeId}{parts:List (Nat×Operand)}{v:SVal}{ps:List Bool}
  (hk:NZ (std n) X e ty parts=some (ps,v)):Gv (Bd E t ty parts) N v:=by
 unfold NZ at hk;split at hk
 .rename_i y hy;rw [hX.ty]at hy;split at hk
  .rename_i fs hd;split at hk
   .rename_i hall;split at hk
    .rename_i z hz;split at hk
     .rename_i cs hcs;cases hk;obtain⟨out',ho,hK⟩:=Vi hX he fs parts (BA hz) hcs;refine⟨_,.one (.agg rfl ho),λK hK'=> ?_⟩;unfold Bd;rw [hy];simp only [aD];rw [hd];refine⟨λft hft=> ?_,hK _ hK'⟩;have:=List.all_eq_true.1 hall ft hft;rw [hX.ty]at this;exact this
     .cases hk
    .cases hk
   .cases hk
  .cases hk
 .cases hk
def Vj{X:XT}{E:Tab}(hX:XOK X E){n:Nat}{N:NM}{t:Slots}{e:Nat->Option SVal}(he:EvR X E n N t e):
  ∀(xs:List Operand) {cs:List (Nat×Nat)},LH (std n) X e xs=some cs->∀K,K (cs.map λp=>Cell.ptr p.1 p.2 0 0)->rA E t xs K
 | [],cs,hk,K,hK=>by simp only [LH,Option.some.injEq]at hk;subst hk;exact hK
 | x::r,cs,hk,K,hK=>by
  simp only [LH]at hk;split at hk
  .rename_i l sz hx;split at hk
   .rename_i ys hys;cases hk;obtain⟨pv,h1,h2⟩:=dG hX he hx;obtain⟨c,rfl,hc⟩:=h2.cell;cases hc;unfold rA;rw [h1];exact Vj hX he r hys _ hK
   .cases hk
  .cases hk
def LY{n:Nat}{N:NM}{q:Bool}{x y z:SVal}{px py:PV}(hx:q=true->PVR N px x)(hy:q=false->PVR N py y)(hk:N7 (std n) q x y=some z):PVR N (bif q then px else py) z:=by
 unfold N7 at hk;split at hk
 .rename_i a b;split at hk
  .rename_i c hc;cases hk;unfold Yf at hc;split at hc
   .rename_i f k m g k' m';split at hc
    .rename_i e;subst e;cases hc;cases q with
     | true=>obtain⟨g,rfl⟩:=(hx rfl).int;exact .ofC (.d rfl λ_=> .inr rfl)
     | false=>obtain⟨g,rfl⟩:=(hy rfl).int;exact .ofC (.d rfl λ_=> .inr rfl)
    .cases hc
   .cases hc;cases q with
    | true=>obtain⟨g,rfl⟩:=(hx rfl).bool;exact .ofC (.d rfl λ_=> .inr rfl)
    | false=>obtain⟨g,rfl⟩:=(hy rfl).bool;exact .ofC (.d rfl λ_=> .inr rfl)
   .rename_i f c xs g c' ys;split at hc
    .rename_i e;subst e;cases hc;cases q with
     | true=>
      obtain⟨u,rfl,h⟩:=(hx rfl).cell;cases h with | d h1 h2=>exact .ofC (.d h1 λh=> .inl ((h2 (by simp at h;exact h.1)).resolve_right (by simp [Leaf.scalar])))
     | false=>
      obtain⟨u,rfl,h⟩:=(hy rfl).cell;cases h with | d h1 h2=>exact .ofC (.d h1 λh=> .inl ((h2 (by simp at h;exact h.2)).resolve_right (by simp [Leaf.scalar])))
    .cases hc
   .cases hc
  .cases hk
 .cases hk
def LZ{X:XT}{E:Tab}(hX:XOK X E){n:Nat}{h':Heap}{h:List aM}{t:Slots}{e:Nat->Option SVal}(he:EvR X E n (nmh h) t e){c:Call}{v:SVal}{ps:List Bool}
  (hk:EH (std n) X e h c=some (ps,v)):Gv (gF E (.call c) t h') (nmh h) v:=by
 unfold EH at hk;split at hk
 .rename_i hb;split at hk
  .rename_i x ty hx hty;split at hk
   .rename_i y q hy hq;rw [hX.ty]at hy;split at hk
    .rename_i el hd;obtain⟨pv,h1,h2⟩:=dG hX he hq;obtain⟨pv',h3,h4⟩:=akj h2 hk;refine⟨pv',h3,λK hK=> ?_⟩;show rC E t c K;unfold rC;rw [hb];simp only;rw [hx,hty];simp only;rw [hy];simp only [aD];rw [hd];exact⟨trivial,iH h1 _ (h4 K hK)⟩
    .cases hk
   .cases hk
  .cases hk
 .rename_i hb;split at hk
  .rename_i x ty hx hty;split at hk
   .rename_i y hy hq;rw [hX.ty]at hy;split at hk
    .rename_i el hd;cases hk;obtain⟨pv,h1,h2⟩:=dG hX he hq;obtain⟨x',rfl,hc⟩:=h2.cell;cases hc;refine⟨_,.ci _ _ _,λK hK=> ?_⟩;show rC E t c K;unfold rC;rw [hb];simp only;rw [hx,hty];simp only;rw [hy];simp only [aD];rw [hd];exact⟨trivial,iH h1 _ hK⟩
    .cases hk
   .cases hk
  .cases hk
 .rename_i hb;split at hk
  .rename_i x y hx;split at hk
   .rename_i f k m g k' m' h1 h2;cases hk;obtain⟨p1,q1,r1⟩:=dG hX he h1;obtain⟨p2,q2,r2⟩:=dG hX he h2;obtain⟨_,rfl⟩:=r1.int;obtain⟨_,rfl⟩:=r2.int;refine⟨_,.ci _ _ _,λK hK=> ?_⟩;show rC E t c K;unfold rC;rw [hb];simp only;rw [hx];simp only;rw [q1];simp only [aT];rw [q2];exact hK
   .cases hk
  .cases hk
 .rename_i hb;split at hk
  .rename_i x y hx;split at hk
   .rename_i f k m g k' m' h1 h2;cases hk;obtain⟨p1,q1,r1⟩:=dG hX he h1;obtain⟨p2,q2,r2⟩:=dG hX he h2;obtain⟨_,rfl⟩:=r1.int;obtain⟨_,rfl⟩:=r2.int;refine⟨_,.ci _ _ _,λK hK=> ?_⟩;show rC E t c K;unfold rC;rw [hb];simp only;rw [hx];simp only;rw [q1];simp only [aT];rw [q2];exact hK
   .cases hk
  .cases hk
 .cases hk
def dW{n:Nat}{v:Option SVal}{K:SVal->PR (std n)}{r:List Bool×SVal}(h:zJ (std n) v K=some r):∃u,v=some u/\K u=some r:=by
 cases v with
 | none=>cases h
 | some u=>exact⟨u,rfl,h⟩
theorem Yu{X:XT}{E:Tab}(hX:XOK X E){n:Nat}{h':Heap}{h:List aM}(H:fD h' h){t:Slots}{e:Nat->Option SVal}(he:EvR X E n (nmh h) t e){op:Op}{v:SVal}{ps:List Bool}
  (hk:UZ (std n) X e h op=some (ps,v)) (hps:∀b∈ps,b=true):Gv (gF E op t h') (nmh h) v:=by
 have up1:∀ {x:Operand} {pv:PV} {T:PV->(PV->Prop)->Prop},ev E t x=some pv->Gv (T pv) (nmh h) v->(∀K,gF E op t h' K=aT (ev E t x) λa=>T a K)->Gv (gF E op t h') (nmh h) v:=
  λh1 ⟨pv',h2,h3⟩ hT=>⟨pv',h2,λK hK=>by rw [hT];exact iH h1 _ (h3 K hK)⟩
 have up2:∀ {x y:Operand} {p1 p2:PV} {T:PV->PV->(PV->Prop)->Prop},ev E t x=some p1->ev E t y=some p2->Gv (T p1 p2) (nmh h) v->(∀K,gF E op t h' K=aT (ev E t x) λa=>aT (ev E t y) λb=>T a b K)->Gv (gF E op t h') (nmh h) v:=
  λh1 h1' ⟨pv',h2,h3⟩ hT=>⟨pv',h2,λK hK=>by rw [hT];exact iH h1 _ (iH h1' _ (h3 K hK))⟩
 unfold UZ at hk;split at hk
 .obtain⟨u,hu,hk⟩:=dW hk;cases hk;obtain⟨pv,h1,h2⟩:=dG hX he hu;exact⟨pv,h2,λK hK=>iH h1 _ hK⟩
 .obtain⟨u,hu,hk⟩:=dW hk;cases hk;obtain⟨pv,h1,h2⟩:=dG hX he hu;exact⟨pv,h2,λK hK=>iH h1 _ hK⟩
 .obtain⟨u,hu,hk⟩:=dW hk;obtain⟨pv,h1,h2⟩:=dG hX he hu;exact up1 h1 (LQ hX H h2 hk hps) λK=>rfl
 .obtain⟨u,hu,hk⟩:=dW hk;obtain⟨pv,h1,h2⟩:=dG hX he hu;exact up1 (T:=Nj) h1 (akh h2 hk) λK=>rfl
 .obtain⟨u,hu,hk⟩:=dW hk;obtain⟨w,hw,hk⟩:=dW hk;obtain⟨pv,h1,h2⟩:=dG hX he hu;obtain⟨pv',h1',h2'⟩:=dG hX he hw;exact up2 h1 h1' (aki hX (af5 h2) h2' hk hps) λK=>rfl
 .obtain⟨u,hu,hk⟩:=dW hk;obtain⟨pv,h1,h2⟩:=dG hX he hu;exact up1 h1 (apR h2 hk) λK=>rfl
 .obtain⟨u,hu,hk⟩:=dW hk;obtain⟨pv,h1,h2⟩:=dG hX he hu;exact up1 h1 (af4 hX h2 hk) λK=>rfl
 .obtain⟨u,hu,hk⟩:=dW hk;obtain⟨pv,h1,h2⟩:=dG hX he hu;exact up1 (T:=λa K=>iN E _ a _ K) h1 (Jc hX h2 hk) λK=>rfl
 .obtain⟨u,hu,hk⟩:=dW hk;obtain⟨pv,h1,h2⟩:=dG hX he hu;exact up1 (T:=λa K=>sU E _ a _ K) h1 (Yp hX h2 hk) λK=>rfl
 .obtain⟨u,hu,hk⟩:=dW hk;obtain⟨w,hw,hk⟩:=dW hk;obtain⟨pv,h1,h2⟩:=dG hX he hu;obtain⟨pv',h1',h2'⟩:=dG hX he hw;exact up2 h1 h1' (Je hX h2 h2' hk hps) λK=>rfl
 .obtain⟨u,hu,hk⟩:=dW hk;obtain⟨pv,h1,h2⟩:=dG hX he hu;exact up1 (T:=λa K=>sV E t _ a _ _ _ K) h1 (Yq hX he h2 hk hps) λK=>rfl
 .obtain⟨u,hu,hk⟩:=dW hk;obtain⟨pv,h1,h2⟩:=dG hX he hu;rename_i x i;split at hk
  .rename_i vs;unfold LC at hk;split at hk
   .rename_i w hw;cases hk;cases h2 with
    | one h2=>cases h2 with
     | agg hs _=>simp [bF]at hs
    | tup hF=>
     obtain⟨a,ha,hra⟩:=hF.get hw;exact⟨a,.one hra,λK hK=>iH h1 _ (by unfold oZ;simp only;rw [ha];exact hK)⟩
   .cases hk
  .cases hk
 .exact Yt hX he hk
 .rename_i fn first caps
  split at hk
  .rename_i g;split at hk
   .rename_i hf;split at hk
    .rename_i cs hcs;cases hk;refine⟨_,.ofC .fn,λK hK=> ?_⟩;exact⟨Array.ext' (by simpa using hf),Vj hX he _ hcs _ hK⟩
    .cases hk
   .cases hk
  .cases hk
 .exact LZ hX he hk
 .cases hk
def Gone(h:List aM)(l:Nat):Prop:=∃c n,h[l]? =some (.gone c n)
def Same(h k:List aM):Prop:=∀l x,nmh h l=some x->nmh k l=some x
def Same.refl(h:List aM):Same h h:=λ_ _ h=>h
def Same.trans{a b c:List aM}(h:Same a b)(k:Same b c):Same a c:=λl x hx=>k l x (h l x hx)
def fD.set{h':Heap}{h:List aM}(H:fD h' h){l:Nat}{o:aM}{o':fH}(hl:l<h.length)(hs:Same h (h.set l o))(ho:OR (nmh (h.set l o)) o' o):fD ((l,o')::h') (h.set l o) where
 old:=λk x hx=>by
  by_cases e:l=k
  .subst e;rw [List.getElem?_set_self hl]at hx;cases hx;exact⟨o',aK _ _ _,ho⟩
  .rw [List.getElem?_set_ne e]at hx;obtain⟨x',h1,h2⟩:=H.old k x hx;exact⟨x',by rw [aA _ _ e];exact h1,h2.mono hs⟩
 new:=λk hk=>by
  rw [List.length_set]at hk;rw [aA _ _ ah];exact H.new k hk
def BD(h:List aM)(o:aM):Same h (h++ [o]):=λl x hx=>by
 have hl:l<h.length:=by
  rcases Nat.lt_or_ge l h.length with hl | hl
  .exact hl
  .simp [nmh,List.getElem?_eq_none hl]at hx
 simp only [nmh,List.getElem?_append_left hl];exact hx
def fD.push{h':Heap}{h:List aM}(H:fD h' h){o:aM}{o':fH}(ho:OR (nmh (h++ [o])) o' o):fD ((h.length,o')::h') (h++ [o]) where
 old:=λk x hx=>by
  by_cases e:h.length=k
  .subst e;simp at hx;subst hx;exact⟨o',aK _ _ _,ho⟩
  .have hk:k<h.length:=by
    have:=(List.getElem?_eq_some_iff.1 hx).1;simp at this;omega
   rw [List.getElem?_append_left hk]at hx;obtain⟨x',h1,h2⟩:=H.old k x hx;exact⟨x',by rw [aA _ _ e];exact h1,h2.mono (BD h o)⟩
 new:=λk hk=>by
  simp at hk;rw [aA _ _ ah];exact H.new k ah
def Og{h:List aM}{l k:Nat}{o:aM}(e:l≠k):nmh (h.set l o) k=nmh h k:=by simp only [nmh,List.getElem?_set_ne e]
def kP{h:List aM}{l:Nat}{o o':aM}(ho:h[l]? =some o)(hq:nmh [o] 0=nmh [o'] 0):nmh (h.set l o')=nmh h:=by
 funext k
 by_cases e:l=k
 .subst e;have hl:=(List.getElem?_eq_some_iff.1 ho).1;simp only [nmh,List.getElem?_set_self hl,ho];simpa [nmh]using hq.symm
 .exact Og e
def fG(h:List aM)(l:Nat):List aM:=match h[l]? with | some (.rows _ c xs)=>h.set l (.gone c ((xs:List c.den).length:Int)) | _=>h
def gH(n:Nat)(h:List aM)(l:Nat)(r:List Nat):bA (std n) h (l::r)=bA (std n) (fG h l) r:=by
 rw [bA];unfold fG;split
 .rename_i hl;rw [hl]
 .rename_i hl
  congr 1
  split
  .rename_i h2;exact absurd h2 (hl _ _ _)
  .rfl
def nH(n:Nat):∀(a b:List Nat) (h:List aM),bA (std n) h (a++b)=bA (std n) (bA (std n) h a) b
 | [],_,_=>rfl
 | l::r,b,h=>by simp only [List.cons_append,gH];exact nH n r b _
def Hg(h:List aM)(l:Nat):nmh (fG h l)=nmh h:=by
 unfold fG;split
 .rename_i f c xs hl;exact kP hl (by simp [nmh])
 .rfl
def uh(n:Nat):∀(ls:List Nat) (h:List aM),nmh (bA (std n) h ls)=nmh h
 | [],_=>rfl
 | l::r,h=>by rw [gH,uh n r,Hg]
def wo{h:List aM}{l k:Nat}(e:l≠k):(fG h l)[k]? =h[k]? :=by
 unfold fG;split
 .exact List.getElem?_set_ne e
 .rfl
def jJ(n:Nat):∀(ls:List Nat) (h:List aM) {k:Nat},k∉ls->(bA (std n) h ls)[k]? =h[k]?
 | [],_,_,_=>rfl
 | l::r,h,k,hk=>by
  rw [gH,jJ n r _ (λh=>hk (List.mem_cons_of_mem _ h)),wo (λe=>hk (by simp [e]))]
def wu(h:List aM)(l:Nat):(fG h l).length=h.length:=by
 unfold fG;split<;>simp
def lg(n:Nat):∀(ls:List Nat) (h:List aM),(bA (std n) h ls).length=h.length
 | [],_=>rfl
 | l::r,h=>by rw [gH,lg n r,wu]
def fD.fG{h':Heap}{h:List aM}(H:fD h' h){l:Nat}{f:Bool}{c:Co}{xs:List c.den}(hl:h[l]? =some (.rows f c xs)):fD ((l,.gone)::h') (TX.fG h l):=by
 have e:TX.fG h l=h.set l (.gone c (xs.length:Int)):=by unfold TX.fG;rw [hl]
 rw [e];exact H.set (List.getElem?_eq_some_iff.1 hl).1 (λk x hx=>by rw [kP hl (by simp [nmh])];exact hx) .gone
structure iI(h':Heap)(h:List aM)(h'':Heap)(k:List aM)(td:List Nat):Prop where
 same:Same h k
 len:h.length<=k.length
 gone:∀l,Gone h l->Gone k l
 keep:∀l,l<h.length->l∉td->k[l]? =h[l]? /\AE.look h'' l=AE.look h' l
def iI.refl(h':Heap)(h:List aM)(td:List Nat):iI h' h h' h td:=⟨.refl h,Nat.le_refl _,λ_ h=>h,λ_ _ _=>⟨rfl,rfl⟩⟩
def iI.trans{a' b' c':Heap}{a b c:List aM}{s t:List Nat}(x:iI a' a b' b s)(y:iI b' b c' c t):iI a' a c' c (s++t) where
 same:=x.same.trans y.same
 len:=Nat.le_trans x.len y.len
 gone:=λl h=>y.gone l (x.gone l h)
 keep:=λl hl hn=>by
  obtain⟨h1,h2⟩:=x.keep l hl (λh=>hn (List.mem_append_left _ h));obtain⟨h3,h4⟩:=y.keep l (Nat.lt_of_lt_of_le hl x.len) (λh=>hn (List.mem_append_right _ h));exact⟨h3.trans h1,h4.trans h2⟩
def iI.mono{a' b':Heap}{a b:List aM}{s t:List Nat}(x:iI a' a b' b s)(h:∀l,l∈s->l∈t):iI a' a b' b t:=⟨x.same,x.len,x.gone,λl hl hn=>x.keep l hl (λhs=>hn (h l hs))⟩
def iI.fG{h':Heap}{h:List aM}(l:Nat){o':fH}:iI h' h ((l,o')::h') (TX.fG h l) [l] where
 same:=λk x hx=>by rw [Hg];exact hx
 len:=by rw [wu];exact Nat.le_refl _
 gone:=λk ⟨c,m,hk⟩=>by
  unfold TX.fG;split
  .rename_i f co xs hl;by_cases e:l=k
   .subst e;rw [hl]at hk;cases hk
   .exact⟨c,m,by rw [List.getElem?_set_ne e];exact hk⟩
  .exact⟨c,m,hk⟩
 keep:=λk _ hn=>by
  have e:l≠k:=λe=>hn (by simp [e])
  exact⟨wo e,aA _ _ e⟩
def iI.push{h':Heap}{h:List aM}(o:aM)(o':fH)(td:List Nat):iI h' h ((h.length,o')::h') (h++ [o]) td where
 same:=BD h o
 len:=by simp
 gone:=λk ⟨c,m,hk⟩=>⟨c,m,by rw [List.getElem?_append_left (List.getElem?_eq_some_iff.1 hk).1];exact hk⟩
 keep:=λl hl _=>⟨List.getElem?_append_left hl,aA _ _ ah⟩
def iI.set{h':Heap}{h:List aM}{l:Nat}{o:aM}{o':fH}(hs:Same h (h.set l o))(hg:¬Gone h l):iI h' h ((l,o')::h') (h.set l o) [l] where
 same:=hs
 len:=by simp
 gone:=λk ⟨c,m,hk⟩=>by
  by_cases e:l=k
  .subst e;exact absurd ⟨c,m,hk⟩ hg
  .exact⟨c,m,by rw [List.getElem?_set_ne e];exact hk⟩
 keep:=λk _ hn=>by
  have e:l≠k:=λe=>hn (by simp [e])
  exact⟨List.getElem?_set_ne e,aA _ _ e⟩
def iU(y:Leaf aG):(nG y).mg=y.scalar:=by cases y<;>rfl
def ET(y:Leaf aG):lvD (jd y) y.lv=nG y:=by cases y<;>rfl
def CU{n:Nat}{h':Heap}{h:List aM}{done:List Nat}(H:fD h' (bA (std n) h done)){x:Cell}{y:SC}(hr:RC (nmh h) x y){s:Sh}{f:Bool}{v:LV aG}{ls:List Nat}
  (hk:eU (std n) h s y=some (f,v,ls)) (hd:∀l∈ls,l∉done):
  ∃g h'',(f=true->g=true)/\fD h'' (bA (std n) h (done++ls))/\iI h' (bA (std n) h done) h'' (bA (std n) h (done++ls)) ls/\∀K,K g (lvD s v) h''->CB h' x K:=by
 unfold eU at hk;split at hk
 .rename_i f0 lf;split at hk
  .rename_i e;cases hk;cases hr with | d hx hf=>
   rename_i g0 x0;subst hx;refine⟨g0 || (nG lf).mg,h',λh=> ?_,by rw [List.append_nil];exact H,by rw [List.append_nil];exact .refl _ _ _,λK hK=> ?_⟩
   .rw [iU];cases lf with
    | rows c xs=>simp only [Leaf.flag]at h;rcases hf h with h | h<;>simp_all [Leaf.scalar]
    | _=>simp [Leaf.scalar]
   .subst e;rw [ET]at hK;exact hK
  .cases hk
 .cases hr;split at hk
  .rename_i c;cases hk;exact⟨true,h',λ_=>rfl,by rw [List.append_nil];exact H,by rw [List.append_nil];exact .refl _ _ _,λK hK=>⟨c.size,hK⟩⟩
  .cases hk
 .rename_i f0 c xs;cases hr with | clip hf=>
  split at hk
  .rename_i e;subst e;cases hk;exact⟨_,h',hf,by rw [List.append_nil];exact H,by rw [List.append_nil];exact .refl _ _ _,λK hK=>hK⟩
  .cases hk
 .rename_i l;cases hr with | own hN=>
  split at hk
  .rename_i f0 c xs hl;split at hk
   .rename_i e;subst e;cases hk;rw [dS hl]at hN;cases hN;have hl':(bA (std n) h done)[l]? =some (.rows f c xs):=by rw [jJ n _ _ (hd l (by simp))];exact hl
    obtain⟨o',ho',hO⟩:=H.old l _ hl';cases hO with | rows hf=>
    rename_i g0;refine⟨g0,(l,.gone)::h',hf,by rw [nH,gH];exact H.fG hl',by rw [nH,gH];exact iI.fG l,λK hK=> ?_⟩;unfold CB;simp only;rw [ho'];refine⟨rfl,by rw [aU];omega,?_⟩;have:((aL c xs).drop 0).take xs.length=aL c xs:=by rw [List.drop_zero,List.take_of_length_le (by rw [aU];omega)]
    rw [this];exact hK
   .cases hk
  .cases hk
 .cases hk
def wW{n:Nat}{h:List aM}:∀ {ss:List Sh} {ys:List SC} {xs:List Cell} {h':Heap} {done:List Nat} (_:fD h' (bA (std n) h done)) (_:F2 (RC (nmh h)) xs ys) {f:Bool} {vs:List (LV aG)} {ls:List Nat},
  aR (std n) h ss ys=some (f,vs,ls)->(∀l∈ls,l∉done)->
  ∃g h'',(f=true->g=true)/\fD h'' (bA (std n) h (done++ls))/\iI h' (bA (std n) h done) h'' (bA (std n) h (done++ls)) ls/\∀K,K g (List.zipWith lvD ss vs) h''->oK h' xs K
 | [],[],xs,h',done,H,hF,f,vs,ls,hk,hd=>by
  simp [aR]at hk;obtain⟨rfl,rfl,rfl⟩:=hk;cases hF;exact⟨true,h',λ_=>rfl,by rw [List.append_nil];exact H,by rw [List.append_nil];exact .refl _ _ _,λK hK=>hK⟩
 | [],_::_,_,_,_,_,_,_,_,_,hk,_=>by simp [aR]at hk
 | _::_,[],_,_,_,_,_,_,_,_,hk,_=>by simp [aR]at hk
 | s::ss,y::ys,xs,h',done,H,hF,f,vs,ls,hk,hd=>by
  cases hF with | cons h1 h2=>
  unfold aR at hk;split at hk
  .rename_i f1 v1 l1 hv1;split at hk
   .rename_i g2 vs2 ls2 hv2;split at hk
    .rename_i akk;cases hk;have akk:∀l∈ls2,l∉l1:=λl hl hl1=>by
      have:=List.all_eq_true.1 akk l hl1;simp [hl]at this
     obtain⟨ga,ha,qa1,qa2,qa3,qa4⟩:=CU H h1 hv1 (λl hl=>hd l (List.mem_append_left _ hl));obtain⟨gb,hb,qb1,qb2,qb3,qb4⟩:=wW (done:=done++l1) qa2 h2 hv2 (λl hl hm=>by
      rcases List.mem_append.1 hm with hm | hm
      .exact hd l (List.mem_append_right _ hl) hm
      .exact akk l hl hm)
     rw [List.append_assoc]at qb2 qb3;refine⟨ga&&gb,hb,λh=>by simp at h;simp [qa1 h.1,qb1 h.2],qb2,qa3.trans qb3,λK hK=> ?_⟩;exact qa4 _ (qb4 _ hK)
    .cases hk
   .cases hk
  .cases hk
def zR(c:Co)(t:iC c.pJ){vs:List (LV aG)}(h:pack aG c.pJ vs=some t):List.zipWith lvD c.fields vs=c.row (c.mk t):=by
 rw [Yn,Vg,unpack_pack h]
def wX{N:NM}:∀ {ys:List (Leaf aG)} {xs:List Cell} {f:Bool},F2 (RC N) xs (ys.map (.d f))->∀(h':Heap),∃g,(f=true\/(∀y∈ys,y.scalar=true)->g=true)/\∀K,K g (ys.map nG) h'->oK h' xs K
 | [],_,_,h,h'=>by cases h;exact⟨true,λ_=>rfl,λK hK=>hK⟩
 | y::ys,_,f,.cons h1 h2,h'=>by
  obtain⟨g,q1,q2⟩:=wX h2 h';cases h1 with | d hx hf=>
  rename_i g0 x0;subst hx;refine⟨(g0 || (nG y).mg)&&g,λh=> ?_,λK hK=>q2 _ hK⟩;rw [iU];rcases h with h | h
  .rcases hf h with h' | h'<;>simp [h',q1 (.inl h)]
  .simp [h y (by simp),q1 (.inr λy hy=>h y (List.mem_cons_of_mem _ hy))]
def jK(c:Co)(h:c.flat=true)(x:c.den):∀y∈fJ (std 0) c x 0 c.fields,y.scalar=true:=by
 intro y hy;have h1:=Bz 0 c x;have h2:jd y∈c.fields:=by rw [<-h1];exact List.mem_map_of_mem hy
 have h3:=List.all_eq_true.1 h _ h2;cases y<;>simp_all [jd,Leaf.scalar]
theorem Yv{n:Nat}{h':Heap}{h:List aM}(H:fD h' h){p:PV}{q:SVal}(hp:PVR (nmh h) p q){c:Co}{f:Bool}{x:c.den}{ls:List Nat}(hk:toX (std n) h c q=some (f,x,ls)):
  ∃g h'',(f=true->g=true)/\fD h'' (bA (std n) h ls)/\iI h' h h'' (bA (std n) h ls) ls/\(aO p).length=c.size/\∀K,K g (c.row x) h''->oK h' (aO p) K:=by
 unfold toX at hk;split at hk
 .rename_i f' c' x';split at hk
  .rename_i e;subst e;cases hk;have hF:=hp.cells;have hx:cellsS (.sv f' c' x')=(fJ (std 0) c' x' 0 c'.fields).map (.d f'):=rfl;have hlen:(aO p).length=c'.size:=by
    rw [hF.length,hx,List.length_map];have:=congrArg List.length (Bz 0 c' x');simpa using this
   rw [hx]at hF;obtain⟨g,q1,q2⟩:=wX hF h';refine⟨g,h',λh=>q1 ?_,H,.refl _ _ _,hlen,λK hK=>q2 K (by rw [kN];exact hK)⟩;rcases Bool.or_eq_true _ _▸h with h | h
   .exact .inl h
   .exact .inr (jK c' h x')
  .cases hk
 .cases hk
 .split at hk
  .rename_i f1 ys ls1 h1;split at hk
   .rename_i t ht;cases hk;have hF:=hp.cells;rw [dx]at h1;obtain⟨g,h'',q1,q2,q3,q4⟩:=wW (done:=[]) H hF h1 (λ_ _=>by simp);rw [List.nil_append]at q2 q3;refine⟨g,h'',q1,q2,q3,?_,λK hK=>q4 K (by rw [zR c t ht];exact hK)⟩;have hl:=congrArg List.length (unpack_pack ht);have hl2:(cellsS q).length=c.fields.length:=by
     clear q2 q3 q4 hF ht hl q1
     revert h1
     generalize cellsS q=zs;generalize c.fields=ss;intro h1
     induction ss generalizing zs f ys ls with
     | nil=>cases zs<;>simp_all [aR]
     | cons s ss ih=>cases zs with
      | nil=>simp [aR]at h1
      | cons z zs=>
       simp only [aR]at h1;split at h1
       .split at h1
        .rename_i hh;simp [ih _ _ hh]
        .cases h1
       .cases h1
    rw [hF.length,hl2]
   .cases hk
  .cases hk
def Hv{m:Nat}(T:(PV->Heap->Nat->Prop)->Prop)(n:Nat)(h':Heap)(h:List aM)(r:HR (std m)):Prop:=
 ∃pv h'' k',PVR (nmh r.h) pv r.v/\fD h'' r.h/\iI h' h h'' r.h r.touched/\r.h.length=nm n k'/\∀K,K pv h'' k'->T K
def Yw:∀ {l:List Cell},zdB l=true->∃ds,ZD l ds
 | [],_=>⟨[],.nil⟩
 | x::r,h=>by
  simp only [zdB,List.all_cons,Bool.and_eq_true]at h;obtain⟨ds,hd⟩:=Yw (l:=r) h.2;have h1:=h.1;cases x with
  | d f y=>exact⟨y::ds,.d f y hd⟩
  | nil=>exact⟨.rows 0 []::ds,.nl 0 hd⟩
  | _=>simp at h1
def EU{α:Type}(l:List α)(lo n:Nat):(l.drop lo).take n=(l.take (lo+n)).drop lo:=by
 rw [List.drop_take];congr 1;omega
def CV{n:Nat}:∀ {zc:List Cell} {zs:List SC} {ss:List Sh} {f:Bool} {vs:List (LV aG)} {ls:List Nat},jA (std n) zc=some zs->aR (std n) [] ss zs=some (f,vs,ls)->ZD zc (List.zipWith lvD ss vs)
 | [],zs,ss,f,vs,ls,h1,h2=>by
  simp [jA]at h1;subst h1;cases ss with
  | nil=>simp [aR]at h2;obtain⟨_,rfl,_⟩:=h2;exact .nil
  | cons s ss=>simp [aR]at h2
 | x::zc,zs,ss,f,vs,ls,h1,h2=>by
  simp only [jA]at h1;split at h1
  .rename_i y ys hy hys;cases h1;cases ss with
   | nil=>simp [aR]at h2
   | cons s ss=>
    simp only [aR]at h2;split at h2
    .rename_i f1 v1 l1 hv;split at h2
     .rename_i g vs' ls' hvs;split at h2<;>cases h2
      have ih:=CV hys hvs;simp only [List.zipWith_cons_cons];unfold UY at hy;split at hy
      .cases hy;simp only [eU]at hv;split at hv
       .rename_i e;cases hv;subst e;exact .d _ _ ih
       .cases hv
      .cases hy;simp only [eU]at hv;split at hv
       .rename_i e;cases hv;subst e;exact .d _ _ ih
       .cases hv
      .cases hy;simp only [eU]at hv;split at hv
       .rename_i e;cases hv;subst e;exact .d _ _ ih
       .cases hv
      .cases hy;simp only [eU]at hv;split at hv
       .cases hv;exact .nl _ ih
       .cases hv
      .cases hy;simp [eU]at hv
      .cases hy
     .cases h2
    .cases h2
  .cases h1
def Yx{n:Nat}{zc:List Cell}{zs:List SC}{c:Co}{f:Bool}{x:c.den}{ls:List Nat}(h1:jA (std n) zc=some zs)(h2:toX (std n) [] c (.agg zs)=some (f,x,ls)):ZD zc (c.row x):=by
 simp only [toX]at h2;split at h2
 .rename_i f1 ys l1 hl;split at h2
  .rename_i t ht;cases h2;have:=CV h1 (by simpa [bU]using hl);rw [zR c t ht]at this;exact this
  .cases h2
 .cases h2
def af6{n:Nat}{h':Heap}{h:List aM}(H:fD h' h){c:Co}{p:PV}{v:SVal}{f:Bool}{ds:List c.den}(hp:PVR (nmh h) p v){zx:Option c.den}{zd:List D}(hzx:∀x,zx=some x->zd=c.row x)(hk:akf (std n) h c zx v=some (f,ds))
  (hps:∀b∈jU (std n) h v,b=true):∃g sz,(f=true->g=true)/\(aL c ds≠ []->sz=c.size)/\∀K,K g sz (aL c ds)->Ns h' zd p K:=by
 unfold akf at hk;split at hk
 .rename_i fq kq q;cases hxx:zx with
  | none=>rw [hxx]at hk;cases hk
  | some x=>
   rw [hxx]at hk;cases hk;obtain⟨g0,rfl⟩:=hp.int;have e:=hzx x hxx;have h1:(0:Int)<=q:=by simpa [bg]using hps (bg .leq 0 q) (by simp [jU])
   have h2:q<=jg:=by simpa [bg]using hps (bg .leq q jg) (by simp [jU])
   obtain⟨q,rfl⟩:∃w:Int,w=q:=⟨q,rfl⟩;refine⟨true,zd.length,λ_=>rfl,λ_=>by rw [e,vY],λK hK=> ?_⟩;unfold Ns;simp only;refine⟨h1,by simp only [jg,yF]at h2 ⊢;omega,?_⟩;have er:aL c (List.replicate q.toNat x)=List.replicate q.toNat zd:=by rw [e];simp [aL]
   rw [<-er];exact hK
 .cases hk;obtain⟨x,rfl,hc⟩:=hp.cell;cases hc;exact⟨true,0,λ_=>rfl,λh=>absurd rfl h,λK hK=>hK⟩
 .rename_i f0 c' xs;split at hk
  .rename_i e;subst e;cases hk;obtain⟨x,rfl,hc⟩:=hp.cell;cases hc with | d hx hf=>
   subst hx;exact⟨_,c'.size,λh=>(hf h).resolve_right (by simp [Leaf.scalar]),λ_=>rfl,λK hK=>hK⟩
  .cases hk
 .rename_i f0 c' xs;split at hk
  .rename_i e;subst e;cases hk;obtain⟨x,rfl,hc⟩:=hp.cell;cases hc with | clip hf=>
   exact⟨_,c'.size,hf,λ_=>rfl,λK hK=>hK⟩
  .cases hk
 .rename_i l;split at hk
  .rename_i f0 c' xs hl;split at hk
   .rename_i e;subst e;cases hk;obtain⟨x,rfl,hc⟩:=hp.cell;cases hc with | own hN=>
    rw [dS hl]at hN;cases hN;obtain⟨o',ho',hO⟩:=H.old l _ hl;cases hO with | rows hf=>
    refine⟨_,c'.size,hf,λ_=>rfl,λK hK=> ?_⟩;unfold Ns;simp only;rw [ho'];refine⟨rfl,by rw [aU];omega,?_⟩;rw [List.drop_zero,List.take_of_length_le (by rw [aU];exact Nat.le_refl _)];exact hK
   .cases hk
  .cases hk
 .rename_i l lo m;split at hk
  .rename_i f0 c' xs hl;split at hk
   .rename_i e;subst e;cases hk;obtain⟨x,rfl,hc⟩:=hp.cell;cases hc with | os hN=>
    rename_i sz lo m q;rw [dS hl]at hN;cases hN;obtain⟨o',ho',hO⟩:=H.old l _ hl;cases hO with | rows hf=>
    simp only [jU,hl]at hps;have h3:(lo:Int)+(m:Int)<=(xs:List c'.den).length:=by
     have:=hps (bg .leq ((lo:Int)+(m:Int)) ((xs:List c'.den).length:Int)) (by simp);simpa [bg]using this
    refine⟨_,c'.size,hf,λ_=>rfl,λK hK=> ?_⟩;unfold Ns;simp only;rw [ho'];refine⟨rfl,by rw [aU];omega,?_⟩;have e:aL c' (((xs:List c'.den).take ((lo:Int)+(m:Int)).toNat).drop ((lo:Int)).toNat)=((aL c' xs).drop lo).take m:=by
     rw [EU,<-vZ]
     congr 2<;>omega
    rw [<-e];exact hK
   .cases hk
  .cases hk
 .cases hk
def Hl(c:Co)(xs ys:List c.den):aL c (xs++ys)=aL c xs++aL c ys:=by simp [aL]
def PVR.own{h:List aM}{l sz n:Nat}(hN:nmh h l=some (sz,n)):PVR (nmh h) (.c (.os l sz 0 n)) (.c (.own l)):= .ofC (.own hN)
def pQ(h:List aM)(f:Bool)(c:Co)(xs:List c.den):nmh (h++ [.rows f c xs]) h.length=some (c.size,xs.length):=by
 simp [nmh]
def EW{h:List aM}{l:Nat}{f:Bool}{c:Co}{xs:List c.den}(hl:h[l]? =some (.rows f c xs)):¬Gone h l:=λ⟨_,_,h2⟩=>by rw [hl]at h2;cases h2
def Xl{X:XT}{E:Tab}(hX:XOK X E){m:Nat}{h':Heap}{h:List aM}(H:fD h' h){n k:Nat}(hn:h.length=nm n k){ty t2:TypeId}{pa pb:PV}{a b:SVal}(ha:PVR (nmh h) pa a)(hb:PVR (nmh h) pb b)
  {r:HR (std m)} (hk:I9 (std m) X h ty t2 a b=some r) (hps:∀b∈r.chk,b=true):
  Hv (λK=>aD (E.ty ty) λy=>match y.desc with
   | .slice e=>aD (E.ty e) λz=>(aD (E.ty t2) λy2=>pz y2.desc pb)/\zy h' n k z pa pb K
   | _=>False) n h' h r:=by
 unfold I9 at hk;rw [hX.ty]at hk;split at hk
 .rename_i y hy;split at hk
  .rename_i e hd;split at hk
   .rename_i z c hz hco;split at hk
    .rename_i hcond;simp only [Bool.and_eq_true,Bool.not_eq_true',beq_eq_false_iff_ne,ne_eq]at hcond;obtain⟨⟨⟨⟨hsz,hne⟩,hby⟩,hsrc⟩,hzd⟩:=hcond;have hby:=Nat.le_of_ble_eq_true hby;obtain⟨zd,hzd,hzx⟩:∃zd,ZD z.zero zd/\∀x,Va (std m) z c=some x->zd=c.row x:=by
      cases hq:Va (std m) z c with
      | none=>obtain⟨zd,hzd⟩:=Yw hzd;exact⟨zd,hzd,λx h=>by cases h⟩
      | some x=>
       unfold Va at hq;split at hq
       .rename_i zs hzs;split at hq
        .rename_i fz x' lz hx;cases hq;exact⟨_,Yx hzs hx,λy h=>by cases h;rfl⟩
        .cases hq
       .cases hq
     obtain⟨z',hz',hzs⟩:=gB hX hsz;rw [hz]at hz';cases hz';have hst:aD (E.ty t2) λy2=>pz y2.desc pb:=by
      unfold EI at hsrc;rw [hX.ty]at hsrc;split at hsrc
      .rename_i y2 hy2;rw [hy2];simp only [aD];split at hsrc
       .cases hsrc
       .rename_i e2 x hne2 he2;obtain⟨x',rfl,hc⟩:=hb.cell;unfold pz;cases hc with
        | d hx hf=>
         rename_i f g x0 y0;subst hx;cases y0 with
         | int k q=>exact absurd rfl (hne2 _ _ _)
         | _=>rw [he2];trivial
        | _=>rw [he2];trivial
       .rename_i kk fq kq q he2;obtain⟨g0,rfl⟩:=hb.int;unfold pz;rw [he2];trivial
       .cases hsrc
      .cases hsrc
     split at hk
     .rename_i f2 ds hds;obtain⟨⟨f0,ds0⟩,hds,he2⟩:=Option.map_eq_some_iff.1 hds;simp only [Prod.mk.injEq]at he2;obtain⟨hf2,he3⟩:=he2;have he3:=he3.symm;subst he3
      have main:(∀b'∈jU (std m) h b,b'=true)->∀(v:SVal) (k':List aM) (td:List Nat),(∀(g sz:_),(f2=true->g=true)->(aL c ds≠ []->sz=c.size)->∃pv h'' j,PVR (nmh k') pv v/\fD h'' k'/\iI h' h h'' k' td/\k'.length=nm n j/\
        ∀K:PV->Heap->Nat->Prop,K pv h'' j->tC h' n k z pa g (aL c ds) K)->r.h=k'->r.v=v->r.touched=td->Hv (λK=>aD (E.ty ty) λy=>match y.desc with
         | .slice e=>aD (E.ty e) λz=>(aD (E.ty t2) λy2=>pz y2.desc pb)/\zy h' n k z pa pb K
         | _=>False) n h' h r:=by
       intro hsc v k' td hm e1 e2 e3;obtain⟨g,sz,hg,hs,hK⟩:=af6 H hb hzx hds hsc;obtain⟨pv,h'',j,q1,q2,q3,q4,q5⟩:=hm (g || Ef (aL c ds)) sz (λh=>by
        rw [<-hf2]at h;rcases Bool.or_eq_true _ _▸h with h | h
        .simp [hg h]
        .have:Ef (aL c ds)=true:=by
          unfold Ef aL;simp only [List.all_map,List.all_eq_true,Function.comp_apply];intro x _ d hd;rw [<-kN 0]at hd;obtain⟨y,hy,rfl⟩:=List.mem_map.1 hd;rw [iU];exact jK c h x y hy
         simp [this]) hs
       subst e1;subst e2;subst e3;refine⟨pv,h'',j,q1,q2,q3,q4,λK hKK=> ?_⟩;rw [hy];simp only [aD];rw [hd];simp only;rw [hz];exact⟨hst,zd,hzd,hne,hby,hK _ ⟨λh=>(hs h).trans hzs.symm,q5 K hKK⟩⟩
      split at hk
      .cases hk;obtain⟨x,rfl,hc⟩:=ha.cell;cases hc;refine main (λb hb=>hps b (by simp [hb])) _ _ _ (λg sz hg hs=> ?_) rfl rfl rfl;have hlen:(ds.length:Int)<=jg:=by simpa [bg]using hps (bg .leq (ds.length:Int) jg) (by simp)
       refine⟨_,(h.length,.rows g c.size (aL c ds))::h',k+1,.own (pQ h f2 c ds),H.push (.rows hg),.push _ _ _,by simp [nm]at hn ⊢;omega,λK hK=> ?_⟩;refine⟨by rw [aU];simp [jg,yF]at hlen ⊢;omega,?_⟩;rw [<-hn,hzs,aU];exact hK
      .rename_i l;split at hk
       .rename_i f1 c1 xs hl;split at hk
        .rename_i q;subst q;cases hk;obtain⟨x,rfl,hc⟩:=ha.cell;cases hc with | own hN=>
         rw [dS hl]at hN;cases hN;obtain⟨o',ho',hO⟩:=H.old l _ hl;cases hO with | rows hf=>
         rename_i f';refine main (λb hb=>hps b (by simp [hb])) _ _ _ (λg sz hg hs=> ?_) rfl rfl rfl;have hlen:((xs:List c1.den).length:Int)+(ds.length:Int)<=jg:=by simpa [bg]using hps (bg .leq ((xs.length:Int)+(ds.length:Int)) jg) (by simp)
         have hG:=H.fG hl;have eG:fG h l=h.set l (.gone c1 (xs.length:Int)):=by unfold fG;rw [hl]
         have hGl:(fG h l).length=h.length:=wu h l;have hP:=hG.push (o:= .rows (f1&&f2) c1 (xs++ds)) (o':= .rows (f'&&g) c1.size (aL c1 (xs++ds))) (.rows (λh=>by simp at h;simp [hf h.1,hg h.2]));rw [hGl]at hP;have hE:=(iI.fG (h':=h') (h:=h) l (o':= .gone)).trans (iI.push (h':=(l,.gone)::h') (h:=fG h l) (.rows (f1&&f2) c1 (xs++ds)) (.rows (f'&&g) c1.size (aL c1 (xs++ds))) []);rw [hGl]at hE;refine⟨.c (.os h.length c1.size 0 (xs++ds).length),_,k+1,?_,by rw [<-eG];exact hP,by rw [<-eG];exact hE,by simp [nm]at hn ⊢;omega,λK hK=> ?_⟩
         .have:=pQ (fG h l) (f1&&f2) c1 (xs++ds);rw [hGl]at this;rw [<-eG];exact .own this
         .unfold tC;simp only;rw [ho'];simp only [nS];refine⟨by trivial,by rw [aU];exact Nat.le_refl _,by trivial,hzs.symm,by rw [aU];simp [jg,yF]at hlen ⊢;omega,?_⟩;rw [List.take_of_length_le (by rw [aU];exact Nat.le_refl _),<-hn,hzs,aU,<-Hl,<-List.length_append];exact hK
        .cases hk
       .cases hk
      .rename_i l lo q0;split at hk
       .rename_i f1 c1 xs hl;split at hk
        .rename_i q;subst q;cases hk;obtain⟨x,rfl,hc⟩:=ha.cell;cases hc with | os hN=>
         rename_i sz lo q0 mm;rw [dS hl]at hN;cases hN;obtain⟨o',ho',hO⟩:=H.old l _ hl;cases hO with | rows hf=>
         rename_i f';refine main (λb hb=>hps b (by simp [hb])) _ _ _ (λg sz hg hs=> ?_) rfl rfl rfl;have hlo:(lo:Int)=0:=by simpa [bg]using hps (bg .eql (lo:Int) 0) (by simp)
         have hq:(q0:Int)<=(xs:List c1.den).length:=by simpa [bg]using hps (bg .leq (q0:Int) (xs.length:Int)) (by simp)
         have hlen:(q0:Int)+(ds.length:Int)<=jg:=by simpa [bg]using hps (bg .leq ((q0:Int)+(ds.length:Int)) jg) (by simp)
         have hG:=H.fG hl;have eG:fG h l=h.set l (.gone c1 (xs.length:Int)):=by unfold fG;rw [hl]
         have hGl:(fG h l).length=h.length:=wu h l;have es:(((xs:List c1.den).take ((q0:Int)).toNat).drop ((0:Int)).toNat)=xs.take q0:=by simp
         have hP:=hG.push (o:= .rows (f1&&f2) c1 (xs.take q0++ds)) (o':= .rows (f'&&g) c1.size (aL c1 (xs.take q0++ds))) (.rows (λh=>by simp at h;simp [hf h.1,hg h.2]));rw [hGl]at hP;have hE:=(iI.fG (h':=h') (h:=h) l (o':= .gone)).trans (iI.push (h':=(l,.gone)::h') (h:=fG h l) (.rows (f1&&f2) c1 (xs.take q0++ds)) (.rows (f'&&g) c1.size (aL c1 (xs.take q0++ds))) []);rw [hGl]at hE;have hgoal:(h.set l (.gone c1 (xs.length:Int))++ [dQ.rows (f1&&f2) c1 ((((xs:List c1.den).take ((q0:Int)).toNat).drop ((0:Int)).toNat)++ds)])=fG h l++ [.rows (f1&&f2) c1 (xs.take q0++ds)]:=by rw [es,eG]
         refine⟨.c (.os h.length c1.size 0 (xs.take q0++ds).length),_,k+1,?_,by show fD _ (h.set l (.gone c1 (xs.length:Int))++ [dQ.rows (f1&&f2) c1 ((((xs:List c1.den).take ((q0:Int)).toNat).drop ((0:Int)).toNat)++ds)]);rw [hgoal];exact hP,
          by show iI _ _ _ (h.set l (.gone c1 (xs.length:Int))++ [dQ.rows (f1&&f2) c1 ((((xs:List c1.den).take ((q0:Int)).toNat).drop ((0:Int)).toNat)++ds)]) _;rw [hgoal];exact hE,by simp [nm]at hn ⊢;omega,λK hK=> ?_⟩
         .have:=pQ (fG h l) (f1&&f2) c1 (xs.take q0++ds);rw [hGl]at this;show PVR (nmh (h.set l (.gone c1 (xs.length:Int))++ [dQ.rows (f1&&f2) c1 ((((xs:List c1.den).take ((q0:Int)).toNat).drop ((0:Int)).toNat)++ds)])) _ _;rw [hgoal];exact .own this
         .unfold tC;simp only;rw [ho'];simp only [nS];refine⟨ah,by rw [aU];omega,by trivial,hzs.symm,by rw [aU];simp [jg,yF]at hlen ⊢;omega,?_⟩;have e1:(aL c1 xs).take q0++aL c1 ds=aL c1 (xs.take q0++ds):=by simp [aL,List.map_take]
          have e2:q0+ds.length=(xs.take q0++ds).length:=by simp;omega
          rw [<-hn,hzs,aU,e1,e2];exact hK
        .cases hk
       .cases hk
      .rename_i f1 c1 xs;split at hk
       .rename_i q;subst q;cases hk;obtain⟨x,rfl,hc⟩:=ha.cell;cases hc with | clip hf=>
        rename_i f';refine main (λb hb=>hps b (by simp [hb])) _ _ _ (λg sz hg hs=> ?_) rfl rfl rfl;have hor:(decide ((0:Int)< (ds.length:Int)) || decide (((xs:List c1.den).length:Int)=0))=true:=by
         have:=hps ((bg .lss 0 (ds.length:Int)) || (bg .eql (xs.length:Int) 0)) (by simp);simpa [bg]using this
        have hlen:((xs:List c1.den).length:Int)+(ds.length:Int)<=jg:=by simpa [bg]using hps (bg .leq ((xs.length:Int)+(ds.length:Int)) jg) (by simp)
        refine⟨.c (.os h.length c1.size 0 (xs++ds).length),(h.length,.rows (f'&&g) c1.size (aL c1 (xs++ds)))::h',k+1,.own (pQ h (f1&&f2) c1 (xs++ds)),H.push (.rows (λh=>by simp at h;simp [hf h.1,hg h.2])),.push _ _ _,by simp [nm]at hn ⊢;omega,λK hK=> ?_⟩;refine⟨λ_=>hzs.symm,λhe=> ?_,by rw [aU,aU];simp [jg,yF]at hlen ⊢;omega,?_⟩
        .simp only [Bool.or_eq_true,decide_eq_true_eq]at hor;rcases hor with h1 | h1
         .have:ds=[]:=by simpa [aL]using he
          subst this;simp at h1
         .have:xs=[]:=List.length_eq_zero_iff.1 ah;subst this;rfl
        .rw [<-hn,hzs,aU,aU,<-Hl,<-List.length_append];exact hK
       .cases hk
      .cases hk
     .cases hk
    .cases hk
   .cases hk
  .cases hk
 .cases hk
def Hv2(T:(PV->Heap->Nat->Prop)->Prop)(n:Nat)(h':Heap)(h:List aM)(v:SVal)(k:List aM)(td:List Nat):Prop:=
 ∃pv h'' j,PVR (nmh k) pv v/\fD h'' k/\iI h' h h'' k td/\k.length=nm n j/\∀K,K pv h'' j->T K
def pF{k:IntKind}:∀ {es:List (List D)} {l:List Int},kL k es=some l->l.map (ic k)=es
 | [],l,h=>by simp [kL]at h;subst h;rfl
 | e::r,l,h=>by
  unfold kL at h;split at h
  .rename_i hh;cases hh
  .rename_i k' n r' hh;cases hh;split at h
   .rename_i e;subst e;split at h
    .rename_i l' hl;cases h;simp [ic,pF hl]
    .cases h
   .cases h
  .cases h
def Le(d:kF)(es:List (List D)):ir d es=es:=by
 unfold ir;split
 .split
  .rename_i xs h;exact pF h
  .rfl
 .rfl
def L6{X:XT}{E:Tab}(hX:XOK X E){n:Nat}{t:Slots}{e:Nat->Option SVal}{c:Co}:∀ {parts:List (Nat×Operand)} {h':Heap} {h:List aM} (_:fD h' h) (_:EvR X E n (nmh h) t e) {f:Bool} {xs:List c.den} {k:List aM} {ls:List Nat},
  qB (std n) X e c h parts=some (f,xs,k,ls)->
  ∃g h'',(f=true->g=true)/\fD h'' k/\iI h' h h'' k ls/\nmh k=nmh h/\k.length=h.length/\xs.length=parts.length/\∀K,K g (aL c xs) h''->tu E t c.size h' parts K
 | [],h',h,H,he,f,xs,k,ls,hk=>by
  simp only [qB,Option.some.injEq,Prod.mk.injEq]at hk;obtain⟨rfl,rfl,rfl,rfl⟩:=hk;exact⟨true,h',λ_=>rfl,H,.refl _ _ _,rfl,rfl,rfl,λK hK=>hK⟩
 | (i,x)::r,h',h,H,he,f,xs,k,ls,hk=>by
  simp only [qB]at hk;split at hk
  .rename_i v hv;split at hk
   .rename_i f1 y l1 hy;split at hk
    .rename_i g1 ys k1 l2 hys;cases hk;obtain⟨pv,p1,p2⟩:=dG hX he hv;obtain⟨ga,ha,q1,q2,q3,q4,q5⟩:=Yv H p2 hy;have hnm:nmh (bA (std n) h l1)=nmh h:=uh n l1 h;obtain⟨gb,hb,r1,r2,r3,r4,r5,r6,r7⟩:=L6 hX q2 (by rw [hnm];exact he) hys;refine⟨ga&&gb,hb,λh=>by simp at h;simp [q1 h.1,r1 h.2],r2,q3.trans r3,r4.trans hnm,by rw [r5,lg],by simp [r6],λK hK=> ?_⟩;unfold tu;rw [p1];exact⟨q4,q5 _ (r7 _ hK)⟩
    .cases hk
   .cases hk
  .cases hk
def af7(c:Co)(old:c.den)(j:Nat)(y:LV aG){s:Sh}(hs:c.fields[j]? =some s){t:iC c.pJ}(ht:pack aG c.pJ ((c.zP old).set j y)=some t):c.row (c.mk t)=(c.row old).set j (lvD s y):=by
 have h1:=zR c t ht;rw [<-h1,Yn];apply List.ext_getElem?;intro i;rw [List.getElem?_zipWith,List.getElem?_set,List.getElem?_set,List.getElem?_zipWith];have hlen:(List.zipWith lvD c.fields (c.zP old)).length=c.size:=by simp [LM]
 rw [hlen,LM];have hj:j<c.size:=(List.getElem?_eq_some_iff.1 hs).1;by_cases e:j=i
 .subst e;simp [hj,(List.getElem?_eq_some_iff.1 hs).2]
 .simp [e]
def BF(h:Heap)(p v:PV)(K:Heap->Prop):Prop:=
 match p with
 | .c (.ptr l sz i j)=>nS (AE.look h l) λo=>match o with
  | .box cs=>i=0/\j+(aO v).length<=cs.length/\K ((l,.box (splice cs (aO v) j))::h)
  | .rows f sz' es=>sz=sz'/\i<es.length/\oK h (aO v) λg ds h'=>AE.look h' l=some (.rows f sz' es)/\j+ds.length<=sz/\
   ∀row,es[i]? =some row->K ((l,.rows (f&&g) sz (es.set i (if j=0/\ds.length=sz then ds else gN row ds j)))::h')
  | .gone=>False
 | _=>False
def Yy{X:XT}{E:Tab}(hX:XOK X E){m:Nat}{h':Heap}{h:List aM}(H:fD h' h){n k:Nat}(hn:h.length=nm n k){ty:TypeId}{pp pv:PV}{p v:SVal}(hp:PVR (nmh h) pp p)(hv:PVR (nmh h) pv v)
  {r:HR (std m)} (hk:tX (std m) X h ty p v=some r) (hps:∀b∈r.chk,b=true):
  Hv2 (λK=>aD (E.ty ty) λy=>Bg h' y pp pv λh''=>K (.tup []) h'' k) n h' h r.v r.h r.touched:=by
 have Xm:∀N,PVR N (.tup []) (.tup []):=λN=> .tup .nil
 unfold tX at hk;rw [hX.ty]at hk;have hyy:∃y,E.ty ty=some y:=by
  cases h:E.ty ty with
  | none=>rw [h]at hk;cases hk
  | some y=>exact⟨y,rfl⟩
 obtain⟨y,hy⟩:=hyy;rw [hy]at hk;simp only at hk;split at hk
 .cases hk
 .rename_i hc0;simp only [Bool.or_eq_true,beq_iff_eq,Bool.not_eq_true',beq_eq_false_iff_ne,ne_eq,not_or,Decidable.not_not]at hc0;obtain⟨hne,hvl⟩:=hc0;have hcells:=hv.cells;have hcl:(aO pv).length=(cellsS v).length:=hcells.length;rw [dx]at hvl;have pre:∀ {td:List Nat} {k':List aM} {h'':Heap} {vv:SVal},PVR (nmh k') (.tup []) vv->fD h'' k'->iI h' h h'' k' td->k'.length=h.length->(∀K:PV->Heap->Nat->Prop,K (.tup []) h'' k->BF h' pp pv λh1=>K (.tup []) h1 k)->Hv2 (λK=>aD (E.ty ty) λy=>Bg h' y pp pv λh''=>K (.tup []) h'' k) n h' h vv k' td:=by
   intro td k' h'' vv a0 a1 a2 a3 a4;refine⟨.tup [],h'',k,a0,a1,a2,by rw [a3,hn],λK hK=> ?_⟩;rw [hy];simp only [aD];exact⟨by rw [hcl,hvl],by simpa using hne,a4 K hK⟩
  split at hk
  .rename_i l sz j;split at hk
   .rename_i w hw;obtain⟨x,rfl,hc⟩:=hp.cell;cases hc;obtain⟨o',ho',hO⟩:=H.old l _ hw;cases hO with | box hF=>
    rename_i cs;have au6:cs.length=(cellsS w).length:=hF.length;have hll:l<h.length:=(List.getElem?_eq_some_iff.1 hw).1;have hng:¬Gone h l:=λ⟨_,_,h2⟩=>by rw [hw]at h2;cases h2
    have apU:∀w2,F2 (RC (nmh h)) (splice cs (aO pv) j) (cellsS w2)->j+(aO pv).length<=cs.length->Hv2 (λK=>aD (E.ty ty) λy=>Bg h' y (.c (.ptr l sz 0 j)) pv λh''=>K (.tup []) h'' k) n h' h (.tup []) (h.set l (.box w2)) [l]:=by
     intro w2 hF2 hle;have hs:nmh (h.set l (.box w2))=nmh h:=kP hw (by simp [nmh]);refine pre (Xm _) (H.set hll (λk x hx=>by rw [hs];exact hx) (.box (by rw [hs];exact hF2))) (.set (λk x hx=>by rw [hs];exact hx) hng) (by simp) (λK hK=> ?_);unfold BF;simp only;rw [ho'];exact⟨by trivial,hle,hK⟩
    split at hk
    .rename_i hcond;cases hk;simp only [dx,Bool.and_eq_true,beq_iff_eq]at hcond;obtain⟨⟨⟨rfl,h1⟩,h2⟩,_⟩:=hcond;have:splice cs (aO pv) 0=aO pv:=by
      unfold splice;rw [List.take_zero,List.drop_of_length_le ah];simp
     exact apU v (by rw [this];exact hcells) ah
    .split at hk
     .rename_i hcond;cases hk;simp only [dx,Bool.and_eq_true,beq_iff_eq]at hcond;obtain⟨h1,h2⟩:=hcond;have h1:=Nat.le_of_ble_eq_true h1;rw [show bU (std m) w=cellsS w from dx m w,show bU (std m) v=cellsS v from dx m v];refine apU (.agg _) ?_ ah;show F2 _ _ ((cellsS w).take j++cellsS v++(cellsS w).drop (j+(cellsS v).length));unfold splice;rw [hcl];exact((hF.take j).append hcells).append (hF.drop _)
     .cases hk
   .cases hk
  .rename_i l i j;split at hk
   .rename_i f c xs hw;obtain⟨x,rfl,hc⟩:=hp.cell;cases hc with | pr hN=>
    rename_i sz i mm;rw [dS hw]at hN;cases hN;obtain⟨o',ho',hO⟩:=H.old l _ hw;cases hO with | rows hf=>
    rename_i f';have hll:l<h.length:=(List.getElem?_eq_some_iff.1 hw).1
    have hrows:∀(ls:List Nat) (g g':Bool) (h1:Heap) (z:c.den) (ds:List D),l∉ls->(g=true->g'=true)->fD h1 (bA (std m) h ls)->iI h' h h1 (bA (std m) h ls) ls->(i:Int)< (xs:List c.den).length->j+ds.length<=c.size->
      (∀K,K g' ds h1->oK h' (aO pv) K)->(∀row,(aL c xs)[i]? =some row->(if j=0/\ds.length=c.size then ds else gN row ds j)=c.row z)->
      Hv2 (λK=>aD (E.ty ty) λy=>Bg h' y (.c (.ptr l c.size i j)) pv λh''=>K (.tup []) h'' k) n h' h (.tup []) ((bA (std m) h ls).set l (.rows (f&&g) c (xs.set i z))) (l::ls):=by
     intro ls g g' h1 z ds hnl hg R1 R2 hi hjd apV hrow;have hget:(bA (std m) h ls)[l]? =some (.rows f c xs):=by rw [jJ m ls h hnl];exact hw
     have hs:nmh ((bA (std m) h ls).set l (.rows (f&&g) c (xs.set i z)))=nmh (bA (std m) h ls):=kP hget (by simp [nmh]);have at5:l< (bA (std m) h ls).length:=by rw [lg];exact hll
     have hset:aL c (xs.set i z)=(aL c xs).set i (c.row z):=by simp [aL,List.map_set]
     refine pre (Xm _) (R1.set (o':= .rows (f'&&g') c.size (aL c (xs.set i z))) at5 (λk x hx=>by rw [hs];exact hx) (.rows (λh=>by simp at h;simp [hf h.1,hg h.2])))
      ((R2.trans (.set (λk x hx=>by rw [hs];exact hx) (EW hget))).mono (λq hq=>by
       rcases List.mem_append.1 hq with h | h
       .exact List.mem_cons_of_mem _ h
       .simp at h;subst h;simp)) (by rw [List.length_set,lg]) (λK hK=> ?_)
     unfold BF;simp only;rw [ho'];refine⟨by trivial,by rw [aU];omega,apV _ ⟨?_,hjd,λrow hr=> ?_⟩⟩
     .rw [(R2.keep l hll hnl).2];exact ho'
     .rw [hrow row hr,<-hset];exact hK
    split at hk
    .rename_i hcond;simp only [Bool.and_eq_true,beq_iff_eq]at hcond;obtain⟨rfl,hys⟩:=hcond;split at hk
     .rename_i g x ls hx;split at hk
      .cases hk
      .rename_i hnl;cases hk;have hnl:l∉ls:=by simpa using hnl
       obtain⟨g',h1,q1,q2,q3,q4,q5⟩:=Yv H hv hx;have hi:(i:Int)< (xs:List c.den).length:=by simpa [bg]using hps (bg .lss (i:Int) ((xs:List c.den).length:Int)) (by simp)
       exact hrows ls g g' h1 x (c.row x) hnl q1 q2 q3 hi (by rw [vY];omega) q5 (λrow hr=>by rw [if_pos ⟨rfl,vY c x⟩])
     .cases hk
    .rename_i hcond;split at hk
     .rename_i x s hx hs;split at hk
      .rename_i g y ls hyl;split at hk
       .cases hk
       .rename_i hnl;have hnl:l∉ls:=by simpa using hnl
        split at hk
        .rename_i z hz;cases hk;unfold LJ at hz;split at hz
         .rename_i t ht;cases hz;rw [G8]at ht;rw [dx]at hx;rw [hx]at hcells;generalize hpc:aO pv=pcs at hcells;cases hcells with | cons hx1 hx2=>
          cases hx2;rename_i cell;have H0:fD h' (bA (std m) h []):=H;obtain⟨g',h1,q1,q2,q3,q4⟩:=CU (done:=[]) H0 hx1 hyl (λ_ _=>by simp);rw [List.nil_append]at q2 q3;have hi:(i:Int)< (xs:List c.den).length:=by simpa [bg]using hps (bg .lss (i:Int) ((xs:List c.den).length:Int)) (by simp)
          have hjs:j<c.size:=(List.getElem?_eq_some_iff.1 hs).1;refine hrows ls g g' h1 _ [lvD s y] hnl q1 q2 q3 hi (by simp;omega) (λK hK=> ?_) (λrow hr=> ?_)
          .rw [hpc];exact q4 _ (by show K (g'&&true) [lvD s y] h1;rw [Bool.and_true];exact hK)
          .show _=c.row (c.mk t);rw [af7 c _ j y hs ht];have hi':i< (xs:List c.den).length:=by omega
           have hrow:row=c.row ((xs:List c.den).getD ((i:Int)).toNat default):=by
            simp only [aL,List.getElem?_map,List.getElem?_eq_getElem hi',Option.map_some,Option.some.injEq]at hr;subst hr;simp [List.getD,List.getElem?_eq_getElem hi']
           subst hrow;generalize ((xs:List c.den).getD ((i:Int)).toNat default)=old;have hl:=vY c old;have hsp:gN (c.row old) [lvD s y] j=(c.row old).set j (lvD s y):=by
            unfold gN;rw [List.set_eq_take_append_cons_drop,if_pos ah];simp
           split
           .rename_i hh;obtain⟨rfl,hh⟩:=hh;simp at hh;rw [<-hh]at hl
            match hro:c.row old,hl with
            | [a],_=>rfl
           .exact hsp
         .cases hz
        .cases hk
      .cases hk
     .cases hk
   .cases hk
  .cases hk
def Yz{X:XT}{E:Tab}(hX:XOK X E){m:Nat}{h':Heap}{h:List aM}(H:fD h' h){n k:Nat}(hn:h.length=nm n k){ty:TypeId}{pv:PV}{v:SVal}(hv:PVR (nmh h) pv v)
  {r:HR (std m)} (hk:N8 (std m) X h ty v=some r) (hps:∀b∈r.chk,b=true):
  Hv2 (λK=>aD (E.ty ty) λy=>match y.desc with
   | .slice e=>aD (E.ty e) λz=>∃zd,ZD z.zero zd/\tF h' zd z pv λh''=>K (.tup []) h'' k
   | _=>False) n h' h r.v r.h r.touched:=by
 unfold N8 at hk;rw [hX.ty]at hk;split at hk
 .rename_i y hy;split at hk
  .rename_i e hd;split at hk
   .rename_i z c hz hco;split at hk
    .rename_i zs hzs;split at hk
     .rename_i fx x lx hx;split at hk
      .rename_i hcond;simp only [Bool.and_eq_true,Bool.not_eq_true',beq_eq_false_iff_ne,ne_eq]at hcond;obtain⟨hsz,hne⟩:=hcond;obtain⟨z',hz',af8⟩:=gB hX hsz;rw [hz]at hz';cases hz';have hZ:=Yx hzs hx;have Xm:∀N,PVR N (.tup []) (.tup []):=λN=> .tup .nil
       have pre:∀ {td:List Nat} {k':List aM} {h'':Heap} {vv:SVal},PVR (nmh k') (.tup []) vv->fD h'' k'->iI h' h h'' k' td->k'.length=h.length->(∀K:PV->Heap->Nat->Prop,K (.tup []) h'' k->tF h' (c.row x) z pv λh1=>K (.tup []) h1 k)->
         Hv2 (λK=>aD (E.ty ty) λy=>match y.desc with
          | .slice e=>aD (E.ty e) λz=>∃zd,ZD z.zero zd/\tF h' zd z pv λh''=>K (.tup []) h'' k
          | _=>False) n h' h vv k' td:=by
        intro td k' h'' vv a0 a1 a2 a3 a4;refine⟨.tup [],h'',k,a0,a1,a2,by rw [a3,hn],λK hK=> ?_⟩;rw [hy];simp only [aD];rw [hd];simp only;rw [hz];exact⟨_,hZ,a4 K hK⟩
       split at hk
       .cases hk;obtain⟨x',rfl,hc⟩:=hv.cell;cases hc;exact pre (Xm _) H (.refl _ _ _) rfl (λK hK=>hK)
       .rename_i l;split at hk
        .rename_i f c1 xs hl;split at hk
         .rename_i q;subst q;cases hk;obtain⟨x',rfl,hc⟩:=hv.cell;cases hc with | own hN=>
          rw [dS hl]at hN;cases hN;obtain⟨o',ho',hO⟩:=H.old l _ hl;cases hO with | rows hf=>
          have hs:nmh (h.set l (.rows f c1 (List.replicate ((xs:List c1.den).length:Int).toNat x)))=nmh h:=kP hl (by simp [nmh]);refine pre (Xm _) (H.set (o':= .rows _ c1.size (aL c1 (List.replicate ((xs:List c1.den).length:Int).toNat x))) (List.getElem?_eq_some_iff.1 hl).1 (λk x hx=>by rw [hs];exact hx) (.rows hf)) (.set (λk x hx=>by rw [hs];exact hx) (EW hl)) (by simp) (λK hK=> ?_);unfold tF;simp only;rw [ho'];refine⟨by trivial,af8.symm,by simpa using hne,by rw [aU];omega,?_⟩;have e:(aL c1 xs).take 0++List.replicate (xs:List c1.den).length (c1.row x)++(aL c1 xs).drop (0+(xs:List c1.den).length)=aL c1 (List.replicate ((xs:List c1.den).length:Int).toNat x):=by
           rw [List.take_zero,List.drop_of_length_le (by rw [aU];omega)];simp [aL]
          rw [e];exact hK
         .cases hk
        .cases hk
       .rename_i l lo q0;split at hk
        .rename_i f c1 xs hl;split at hk
         .rename_i q;subst q;cases hk;obtain⟨x',rfl,hc⟩:=hv.cell;cases hc with | os hN=>
          rename_i sz lo q0 mm;rw [dS hl]at hN;cases hN;obtain⟨o',ho',hO⟩:=H.old l _ hl;cases hO with | rows hf=>
          have h3:(lo:Int)+(q0:Int)<=(xs:List c1.den).length:=by
           have:=hps (bg .leq ((lo:Int)+(q0:Int)) ((xs:List c1.den).length:Int)) (by simp [jU,hl]);simpa [bg]using this
          have e0:((((xs:List c1.den).take ((lo:Int)).toNat).drop ((0:Int)).toNat++List.replicate ((q0:Int)).toNat x)++(xs.take ((xs.length:Int)).toNat).drop ((lo:Int)+(q0:Int)).toNat)=xs.take lo++List.replicate q0 x++xs.drop (lo+q0):=by
           rw [show((lo:Int)+(q0:Int)).toNat=lo+q0 by omega,show((xs.length:Int)).toNat=xs.length by omega,List.take_length];simp
          show Hv2 _ _ _ _ _ (h.set l (.rows f c1 ((((xs:List c1.den).take ((lo:Int)).toNat).drop ((0:Int)).toNat++List.replicate ((q0:Int)).toNat x)++(xs.take ((xs.length:Int)).toNat).drop ((lo:Int)+(q0:Int)).toNat))) _;rw [e0];have hlen:(xs.take lo++List.replicate q0 x++xs.drop (lo+q0)).length=xs.length:=by simp;omega
          have hs:nmh (h.set l (.rows f c1 (xs.take lo++List.replicate q0 x++xs.drop (lo+q0))))=nmh h:=kP hl (by simp only [nmh,List.getElem?_cons_zero];rw [hlen]);refine pre (Xm _) (H.set (o':= .rows _ c1.size (aL c1 (xs.take lo++List.replicate q0 x++xs.drop (lo+q0)))) (List.getElem?_eq_some_iff.1 hl).1 (λk x hx=>by rw [hs];exact hx) (.rows hf)) (.set (λk x hx=>by rw [hs];exact hx) (EW hl)) (by simp) (λK hK=> ?_);unfold tF;simp only;rw [ho'];refine⟨by trivial,af8.symm,by simpa using hne,by rw [aU];omega,?_⟩;have e:(aL c1 xs).take lo++List.replicate q0 (c1.row x)++(aL c1 xs).drop (lo+q0)=aL c1 (xs.take lo++List.replicate q0 x++xs.drop (lo+q0)):=by
           simp [aL,List.map_take,List.map_drop]
          rw [e];exact hK
         .cases hk
        .cases hk
       .cases hk
      .cases hk
     .cases hk
    .cases hk
   .cases hk
  .cases hk
 .cases hk
def af9{h:List aM}(o:aM){p:PV}{v:SVal}(hp:PVR (nmh h) p v):PVR (nmh (h++ [o])) p v:=hp.mono (BD h o)
def Jf{X:XT}{E:Tab}(hX:XOK X E){m:Nat}{h':Heap}{h:List aM}(H:fD h' h){n k:Nat}(hn:h.length=nm n k){t:Slots}{e:Nat->Option SVal}(he:EvR X E m (nmh h) t e){op:Op}
  {r:HR (std m)} (hk:EJ (std m) X e h op=some r) (hps:∀b∈r.chk,b=true):Hv2 (gP E op t h' n k) n h' h r.v r.h r.touched:=by
 have hpush:∀o:aM,(h++ [o]).length=nm n (k+1):=λo=>by simp [nm]at hn ⊢;omega
 unfold EJ at hk;split at hk
 .rename_i ty;rw [hX.ty]at hk;split at hk
  .rename_i y hy;have main:∀(xs:List SC) (w:SVal),jA (std m) y.zero=some xs->xs≠ []->cellsS w=xs->r=⟨[],.c (.pb h.length y.size 0),h++ [.box w],[]⟩->Hv2 (gP E (.alloc ty) t h' n k) n h' h r.v r.h r.touched:=by
    intro xs w hz hne hw hr;subst hr;have hF:F2 (RC (nmh (h++ [.box w]))) y.zero (cellsS w):=by rw [hw];exact BA hz
    refine⟨.c (.ptr h.length y.size 0 0),(h.length,.box y.zero)::h',k+1,.ofC .pb,H.push (.box hF),.push _ _ _,hpush _,λK hK=> ?_⟩;unfold gP;simp only;rw [hy];refine⟨λhz0=>hne ?_,by rw [<-hn];exact hK⟩;rw [hz0]at hz;simp [jA]at hz;exact hz
   split at hk
   .rename_i x hz;split at hk<;>cases hk
    .exact main _ (.agg [x]) hz (by simp) rfl rfl
    .exact main _ (.c x) hz (by simp) rfl rfl
   .rename_i x r' hsd hz;cases hk;exact main _ (.agg (x::r')) hz (by simp) rfl rfl
   .cases hk
  .cases hk
 .split at hk
  .rename_i v hv;split at hk
   .cases hk
   .rename_i hne;cases hk;obtain⟨pv,p1,p2⟩:=dG hX he hv;have hl:(aO pv).length=(bU (std m) v).length:=by rw [dx];exact p2.len
    refine⟨.c (.ptr h.length (bU (std m) v).length 0 0),(h.length,.box (aO pv))::h',k+1,.ofC .pb,H.push (.box (af9 _ p2).cells),.push _ _ _,hpush _,λK hK=> ?_⟩;unfold gP;simp only;rw [p1];exact⟨by simpa [hl]using hne,by rw [<-hn,hl];exact hK⟩
  .cases hk
 .rename_i ty len parts;rw [hX.ty]at hk;split at hk
  .rename_i y hy;split at hk
   .rename_i el hd;split at hk
    .rename_i z c hz hco;split at hk
     .rename_i hcond;simp only [Bool.and_eq_true,Bool.not_eq_true',beq_iff_eq,beq_eq_false_iff_ne,ne_eq]at hcond;obtain⟨⟨⟨hsz,hne⟩,hrange⟩,hbig⟩:=hcond;have hbig:=Nat.le_of_ble_eq_true hbig;obtain⟨z',hz',hzs⟩:=gB hX hsz;rw [hz]at hz';cases hz';split at hk
      .rename_i f xs k1 ls at6;cases hk;obtain⟨g,h'',q1,q2,q3,q4,q5,q6,q7⟩:=L6 hX H he at6;have hlen:xs.length=len:=by
        have:=congrArg List.length hrange;simp at this;rw [q6];simpa using this
       have hP:=q2.push (o:= .rows f c xs) (o':= .rows g c.size (aL c xs)) (.rows q1);have hE:=(q3.trans (iI.push (h':=h'') (h:=k1) (.rows f c xs) (.rows g c.size (aL c xs)) [])).mono (λl hl=>by simpa using hl);refine⟨.c (.os k1.length c.size 0 xs.length),_,k+1,.own (pQ k1 f c xs),hP,hE,by simp [nm]at hn ⊢;omega,λK hK=> ?_⟩;unfold gP;simp only;rw [hy];simp only [aD];rw [hd];simp only;rw [hz];refine⟨hne,hrange,hbig,?_⟩;rw [hzs];refine q7 _ ?_;rw [Le,<-hn,<-q5,<-hlen];exact hK
      .cases hk
     .cases hk
    .cases hk
   .cases hk
  .cases hk
 .rename_i ty l cp;rw [hX.ty]at hk;split at hk
  .rename_i y hy;split at hk
   .rename_i el hd;split at hk
    .rename_i z c hz hco;split at hk
     .rename_i zs fl kl q fc kc q' hzs hl hc;split at hk
      .rename_i fx x lx hx;split at hk
       .rename_i hcond;cases hk;simp only [Bool.and_eq_true,Bool.not_eq_true',beq_eq_false_iff_ne,ne_eq]at hcond;obtain⟨⟨hsz,hne⟩,hby⟩:=hcond;have hby:=Nat.le_of_ble_eq_true hby;obtain⟨z',hz',af8⟩:=gB hX hsz;rw [hz]at hz';cases hz';obtain⟨pl,l1,l2⟩:=dG hX he hl;obtain⟨pc,c1,c2⟩:=dG hX he hc;obtain⟨_,rfl⟩:=l2.int;obtain⟨_,rfl⟩:=c2.int;have h1:q'=q:=by simpa [bg]using hps (bg .eql q' q) (by simp)
        have h2:(0:Int)<=q:=by simpa [bg]using hps (bg .leq 0 q) (by simp)
        have h3:q<=jg:=by simpa [bg]using hps (bg .leq q jg) (by simp)
        obtain⟨q,rfl⟩:∃w:Int,w=q:=⟨q,rfl⟩;have hr:aL c (List.replicate q.toNat x)=List.replicate q.toNat (c.row x):=by simp [aL]
        refine⟨.c (.os h.length c.size 0 (List.replicate q.toNat x).length),(h.length,.rows true c.size (aL c (List.replicate q.toNat x)))::h',k+1,.own (pQ h true c (List.replicate q.toNat x)),H.push (.rows λh=>h),.push _ _ _,hpush _,λK hK=> ?_⟩;unfold gP;simp only;rw [hy];simp only [aD];rw [hd];simp only;rw [hz];refine⟨_,Yx hzs hx,?_⟩;rw [l1];simp only [aT];rw [c1];refine⟨hne,hby,h1,h2,by simp only [jg,yF]at h3 ⊢;omega,?_⟩;rw [<-hr,<-hn,af8];have:q.toNat=(List.replicate q.toNat x).length:=by simp
        rw [show(PV.c (.os h.length c.size 0 q.toNat))= .c (.os h.length c.size 0 (List.replicate q.toNat x).length)from by rw [<-this]];exact hK
       .cases hk
      .cases hk
     .cases hk
    .cases hk
   .cases hk
  .cases hk
 .rename_i ty p x;split at hk
  .rename_i pv v hp hv;obtain⟨pp,p1,p2⟩:=dG hX he hp;obtain⟨pv',v1,v2⟩:=dG hX he hv;obtain⟨a,b,c,q1,q2,q3,q4,q5⟩:=Yy hX H hn p2 v2 hk hps;refine⟨a,b,c,q1,q2,q3,q4,λK hK=> ?_⟩;have:=q5 K hK;unfold gP;simp only;cases hy:E.ty ty with
   | none=>rw [hy]at this;exact this.elim
   | some y=>
    rw [hy]at this;simp only [aD]at this ⊢;rw [p1];simp only [aT];rw [v1];exact this
  .cases hk
 .rename_i c;split at hk
  .rename_i a b ty t2 h1 h2 h3;split at hk
   .rename_i av bv ha hb;obtain⟨pa,a1,a2⟩:=dG hX he ha;obtain⟨pb,b1,b2⟩:=dG hX he hb;obtain⟨pv,h'',j,q1,q2,q3,q4,q5⟩:=Xl hX H hn a2 b2 hk hps;refine⟨pv,h'',j,q1,q2,q3,q4,λK hK=> ?_⟩;have:=q5 K hK;unfold gP;simp only;rw [h1,h2,h3];simp only;cases hy:E.ty ty with
    | none=>rw [hy]at this;exact this.elim
    | some y=>
     rw [hy]at this;simp only [aD]at this ⊢;split at this
     .rename_i e hd;cases hz:E.ty e with
      | none=>rw [hz]at this;exact this.elim
      | some z=>
       rw [hz]at this;simp only at this;rw [hd];simp only;rw [hz];simp only;rw [a1];simp only [aT];rw [b1];exact this
     .exact this.elim
   .cases hk
  .rename_i a ty h1 h2 h3;split at hk
   .rename_i av ha;obtain⟨pa,a1,a2⟩:=dG hX he ha;obtain⟨pv,h'',j,q1,q2,q3,q4,q5⟩:=Yz hX H hn a2 hk hps;refine⟨pv,h'',j,q1,q2,q3,q4,λK hK=> ?_⟩;have:=q5 K hK;unfold gP;simp only;rw [h1,h2,h3];simp only;cases hy:E.ty ty with
    | none=>rw [hy]at this;exact this.elim
    | some y=>
     rw [hy]at this;simp only [aD]at this ⊢;split at this
     .rename_i e hd;cases hz:E.ty e with
      | none=>rw [hz]at this;exact this.elim
      | some z=>
       rw [hz]at this;simp only at this;obtain⟨zd,hzd,this⟩:=this;rw [hd];simp only;rw [hz];simp only;refine⟨zd,hzd,?_⟩;rw [a1];exact this
     .exact this.elim
   .cases hk
  .cases hk
 .cases hk
structure ELe{m:Nat}(a b:ES (std m)):Prop where
 ren:∀(i:Nat) (v:Option Nat),a.ren[i]? =some (some v)->b.ren[i]? =some (some v)
 len:b.ren.length=a.ren.length
 fro:∀x,x∈a.fro->x∈b.fro
 ck:∀x,x∈a.ck->x∈b.ck
 tr:∀(i:Nat) (v:Option Nat),a.ren[i]? =some (some v)->qD (std m) b i=qD (std m) a i
def ELe.refl{m:Nat}(a:ES (std m)):ELe a a:=⟨λ_ _ h=>h,rfl,λ_ h=>h,λ_ h=>h,λ_ _ _=>rfl⟩
def ELe.trans{m:Nat}{a b c:ES (std m)}(h:ELe a b)(k:ELe b c):ELe a c:=
 ⟨λi v hv=>k.ren i v (h.ren i v hv),k.len.trans h.len,λx hx=>k.fro x (h.fro x hx),λx hx=>k.ck x (h.ck x hx),λi v hv=>(k.tr i v (h.ren i v hv)).trans (h.tr i v hv)⟩
def pR{m:Nat}{s s':ES (std m)}{i:Nat}{v:Option Nat}(h:qC (std m) s i v=some s'):
  s'.ren[i]? =some (some v)/\ELe s s'/\s'.lv=s.lv/\s'.tr=s.tr/\s'.fro=s.fro/\s'.ck=s.ck:=by
 unfold qC at h;split at h
 .rename_i hi;cases h;have hl:=(List.getElem?_eq_some_iff.1 hi).1;refine⟨by simp [hl],⟨λj w hj=> ?_,by simp,λ_ h=>h,λ_ h=>h,λ_ _ _=>rfl⟩,rfl,rfl,rfl,rfl⟩;by_cases e:i=j
  .subst e;rw [hi]at hj;cases hj
  .simp only [List.getElem?_set_ne e];exact hj
 .rename_i w hi;split at h
  .rename_i e;subst e;cases h;exact⟨hi,.refl _,rfl,rfl,rfl,rfl⟩
  .cases h
 .cases h
def WC(c:Ctx)(w:World)(N:NM)(v:Value)(y:SC):Prop:=∃x,bW c w v x/\RC N x y
structure Ren{m:Nat}(e:ES (std m))(h:List aM)(c:Ctx)(nm:Nat->Nat)(fr:Bool)(c2:Ctx)(N2:NM):Prop where
 kt:∀b,c.K true b->c2.K true b
 kf:fr=false->∀b,c.K false b->c2.K false b
 sub:∀b,c.K true b->c.K false b
 apW:∀b,c2.K true b->c2.K false b
 fro:∀l f,(l,f)∈e.fro->(f=true\/fr=false)->∀b,c.μ l=some b->c2.K f b
 name:∀(i l:Nat),e.ren[i]? =some (some (some l))->nm i<c2.n/\c2.μ (nm i)=c.μ l
 names:∀(i l sz n:Nat),e.ren[i]? =some (some (some l))->nmh h l=some (sz,n)->N2 (nm i)=some (sz,match qD (std m) e i with | some k=>min (k:Int).toNat n | none=>n)
 nil:∀(i:Nat),e.ren[i]? =some (some none)->nm i<c2.n/\c2.μ (nm i)=none/\∃sz,N2 (nm i)=some (sz,0)
def Vk{c:Ctx}{w:World}{h':Heap}(H:bH c w h'){l sz lo n:Nat}{v:Value}{f:Bool}{es:List (List D)}(ho:AE.look h' l=some (.rows f sz es))(hlen:lo+n<=es.length)(hv:bW c w v (.os l sz lo n))
  {K2:Nat->Prop} (hK:∀b,c.K f b->K2 b) (hb:∀b,c.μ l=some b->K2 b):dH K2 w v (.rows sz ((es.drop lo).take n)):=by
 have hro:=(H.obj l _ ho).2;cases hv with
 | os0 a _ _ hl hm=>rw [List.take_zero];exact .none _ _ _
 | osE a _ _ _ b hl hm=>rw [List.take_zero];exact .none _ _ _
 | os _ _ _ _ cap b hl hm hn hroom=>
  simp only [iR,hm]at hro;obtain⟨cells,E,hbk,hrow⟩:=hro;obtain⟨u,hu⟩:=hrow.apB;have hlen':((es.drop lo).take n).length=n:=by simp;omega
  have hg:∀i,i<n->((es.drop lo).take n).getD i []=es.getD (lo+i) []:=by
   intro i hi;simp only [List.getD];rw [List.getElem?_take_of_lt hi,List.getElem?_drop]
  refine .rows b (lo*sz) cap sz n _ (λi j=>u (lo+i) j) (hb b hm) hlen'.symm hn ?_ ?_ ?_
  .intro i j hi hj;rw [hlen']at hi;rw [o8 hbk,show lo*sz+i*sz+j=(lo+i)*sz+j by rw [Nat.add_mul]];exact(hu (lo+i) j ah hj).1
  .intro i hi;rw [hlen']at hi;rw [hg i hi];exact(hrow (lo+i) ah).1
  .intro i j hi hj;rw [hlen']at hi;unfold gd;rw [hg i hi];exact((hu (lo+i) j ah hj).2).mono' hK
def bW.apX{c c2:Ctx}{w:World}{v:Value}{l l' sz lo n:Nat}(h:bW c w v (.os l sz lo n))(hl':l'<c2.n)(hm':c2.μ l'=c.μ l):bW c2 w v (.os l' sz lo n):=by
 cases h with
 | os0 a _ _ hl hm=>exact .os0 a l' sz hl' (hm'.trans hm)
 | osE a _ _ _ b hl hm=>exact .osE a l' sz lo b hl' (hm'.trans hm)
 | os _ _ _ _ cap b hl hm hn hroom=>exact .os l' sz lo n cap b hl' (hm'.trans hm) hn hroom
def bW.YA{c c2:Ctx}{w:World}{v:Value}{l l' sz i j:Nat}(h:bW c w v (.ptr l sz i j))(hl':l'<c2.n)(hm':c2.μ l'=c.μ l):bW c2 w v (.ptr l' sz i j):=by
 cases h with | ptr _ _ _ _ b hl hm=>exact .ptr l' sz i j b hl' (hm'.trans hm)
def Vm{m:Nat}{c:Ctx}{w:World}{h':Heap}{h:List aM}(H:bH c w h')(HR:fD h' h){s:Sh}{y:SC}{g:Bool}{x:LV aG}{ls:List Nat}(hk:eU (std m) h s y=some (g,x,ls))
  {v:Value} (hv:WC c w (nmh h) v y) {f:Bool} {K2:Nat->Prop} (hf:f=true->g=true) (hK:∀b,c.K f b->K2 b) (hb:∀l∈ls,∀b,c.μ l=some b->K2 b):dH K2 w v (lvD s x):=by
 have up:∀f',(f=true->f'=true)->∀b,c.K f' b->K2 b:=λf' hff b hb=>hK b (by
  cases f with
  | true=>rw [hff rfl]at hb;exact hb
  | false=>cases f' with
   | true=>exact H.sub b hb
   | false=>exact hb)
 obtain⟨x0,hr,hc⟩:=hv;unfold eU at hk;split at hk
 .rename_i f0 lf;split at hk
  .rename_i e;subst e;cases hk;cases hc with | d hx hff=>
   rename_i f' x1;subst hx;rw [ET];cases hr with | d _ _ _ hd=>
   cases hs:lf.scalar with
   | true=>exact hd.mg _ (by rw [iU];exact hs)
   | false=>
    refine hd.mono' (up _ (λh=>(hff ?_).resolve_right (by simp [hs])));have:=hf h;cases lf<;>simp_all [Leaf.flag,Leaf.scalar]
  .cases hk
 .cases hc;split at hk
  .cases hk;cases hr;exact .none _ _ _
  .cases hk
 .rename_i f0 co xs;cases hc with | clip hff=>
  split at hk
  .rename_i e;subst e;cases hk;cases hr with | clip _ a n _ _ hd=>
   exact hd.mono' (up _ λh=>hff (hf h))
  .cases hk
 .rename_i l;cases hc with | own hN=>
  split at hk
  .rename_i f0 co xs hl;split at hk
   .rename_i e;subst e;cases hk;rw [dS hl]at hN;cases hN;obtain⟨o',ho',hO⟩:=HR.old l _ hl;cases hO with | rows hff=>
    have:=Vk H ho' (by rw [aU];omega) hr (up _ λh=>hff (hf h)) (hb l (by simp));rw [List.drop_zero,List.take_of_length_le (by rw [aU];exact Nat.le_refl _)]at this;exact this
   .cases hk
  .cases hk
 .cases hk
def mG{c2:Ctx}{w:World}{N2:NM}{v:Value}{f:Bool}{y:Leaf aG}(h:dH (c2.K f) w v (nG y)):WC c2 w N2 v (.d f y):=⟨.d f (nG y),.d f v _ h,.d rfl λh=> .inl h⟩
def L8{m:Nat}:∀ {ps:List ((Nat×Nat)×(Nat×Nat))} {s s':ES (std m)},ps.foldlM (λs p=>qC (std m) s p.1.1 (some p.2.1)) s=some s'->
  (∀p∈ps,s'.ren[p.1.1]? =some (some (some p.2.1)))/\ELe s s'/\s'.lv=s.lv
 | [],s,s',h=>by cases h;exact⟨λ_ h=>(by simp at h),.refl _,rfl⟩
 | p::ps,s,s',h=>by
  rw [List.foldlM_cons]at h;cases h1:qC (std m) s p.1.1 (some p.2.1)with
  | none=>rw [h1]at h;cases h
  | some s1=>
   rw [h1]at h;obtain⟨q1,q2,q3⟩:=L8 (ps:=ps) h;obtain⟨r1,r2,r3,_⟩:=pR h1;refine⟨λx hx=> ?_,r2.trans q2,q3.trans r3⟩;cases hx with
   | head=>exact q2.ren _ _ r1
   | tail _ hx=>exact q1 x hx
def ELe.push{m:Nat}(s:ES (std m))(x:LV aG):ELe s (s.push (std m) x):=⟨λ_ _ h=>h,rfl,λ_ h=>h,λ_ h=>h,λ_ _ _=>rfl⟩
def Xo{m:Nat}{h:List aM}{c:Co}{y:SC}{g:Bool}{x:LV aG}{ls:List Nat}(hx:eU (std m) h (.rows c) y=some (g,x,ls)):∃xs:List c.den,x= .l c xs:=by
 unfold eU at hx;split at hx
 .rename_i f0 lf;split at hx
  .rename_i e;cases hx;cases lf with
   | rows c' xs=>simp only [jd,Sh.rows.injEq]at e;subst e;exact⟨xs,rfl⟩
   | _=>simp [jd]at e
  .cases hx
 .cases hx;exact⟨[],rfl⟩
 .split at hx
  .rename_i e;cases hx;simp only [Sh.rows.injEq]at e;subst e;exact⟨_,rfl⟩
  .cases hx
 .split at hx
  .split at hx
   .rename_i e;cases hx;simp only [Sh.rows.injEq]at e;subst e;exact⟨_,rfl⟩
   .cases hx
  .cases hx
 .cases hx
def Vn{m:Nat}{h:List aM}(nm:Nat->Nat){k:SkC}{y:SC}{s s':ES (std m)}(hk:extC (std m) h k y s=some s'):
  ∃new y2,s'.lv=new.reverse++s.lv/\ELe s s'/\(∀rest,Yh aG nm k (new++rest)=some (y2,rest))/\
   ∀ {c:Ctx} {w:World} {h':Heap} {e:ES (std m)} {fr:Bool} {c2:Ctx} {N2:NM} {v:Value},bH c w h'->fD h' h->ELe s' e->(∀b∈e.ck,b=true)->Ren e h c nm fr c2 N2->(fr=true->k.fresh=true)->
    WC c w (nmh h) v y->WC c2 w N2 v y2:=by
 cases k with
 | int k=>
  simp only [extC]at hk;split at hk
  .rename_i f k' x;split at hk
   .rename_i e;subst e;cases hk;refine⟨[.i x],.d true (.int k x),rfl,.push _ _,λrest=>rfl,λH HR he hck R hfr hv=> ?_⟩;obtain⟨x0,hr,hc⟩:=hv;obtain⟨g,rfl⟩:=RC.int hc;cases hr with | d _ _ _ hd=>exact mG (hd.mg _ rfl)
   .cases hk
  .cases hk
 | bool=>
  simp only [extC]at hk;split at hk
  .rename_i f x;cases hk;refine⟨[.b x],.d true (.bool x),rfl,.push _ _,λrest=>rfl,λH HR he hck R hfr hv=> ?_⟩;obtain⟨x0,hr,hc⟩:=hv;obtain⟨g,rfl⟩:=RC.bool hc;cases hr with | d _ _ _ hd=>exact mG (hd.mg _ rfl)
  .cases hk
 | str=>
  simp only [extC]at hk;split at hk
  .rename_i f x;cases hk;refine⟨[.s x],.d true (.str x),rfl,.push _ _,λrest=>rfl,λH HR he hck R hfr hv=> ?_⟩;obtain⟨x0,hr,hc⟩:=hv;cases hc with | d hx _=>
   subst hx;cases hr with | d _ _ _ hd=>exact mG (y:= .str x) (hd.mg _ rfl)
  .cases hk
 | rows f c=>
  simp only [extC]at hk;split at hk
  .rename_i l lo n;split at hk
   .rename_i g c' xs hl;split at hk
    .rename_i hcond;cases hk;obtain⟨rfl,hfg⟩:=hcond
     refine⟨[.l c ((((xs:List c.den).take ((lo:Int)+(n:Int)).toNat)).drop ((lo:Int)).toNat)],.d f (.rows c ((((xs:List c.den).take ((lo:Int)+(n:Int)).toNat)).drop ((lo:Int)).toNat)),rfl,
      ⟨λ_ _ h=>h,rfl,λx hx=>List.mem_cons_of_mem _ hx,λx hx=>List.mem_append_right _ hx,λ_ _ _=>rfl⟩,λrest=>rfl,λ{c0 w h' e fr c2 N2 v} H HR he hck R hfr hv=> ?_⟩
     obtain⟨x0,hr,hc⟩:=hv;cases hc with | os hN=>
     rename_i sz lo n mm;rw [dS hl]at hN;cases hN;obtain⟨o',ho',hO⟩:=HR.old l _ hl;cases hO with | rows hff=>
     rename_i f';have apY:∀b∈jU (std m) h (.c (.os l (lo:Int) (n:Int))),b=true:=λb hb=>hck b (he.ck b (List.mem_append_left _ hb))
     simp only [jU,hl]at apY;have h3:(lo:Int)+(n:Int)<=(xs:List c.den).length:=by
      have:=apY (bg .leq ((lo:Int)+(n:Int)) ((xs:List c.den).length:Int)) (by simp);simpa [bg]using this
     have uj:f=true\/fr=false:=by
      cases fr with
      | false=>exact .inr rfl
      | true=>exact .inl (hfr rfl)
     have hKf:∀b,c0.K f b->c2.K f b:=λb hb=>by
      cases f with
      | true=>exact R.kt b hb
      | false=>exact R.kf (uj.resolve_left (by simp)) b hb
     have hd:=Vk H ho' (lo:=lo) (n:=n) (by rw [aU];omega) hr (K2:=c2.K f) (λb hb=>hKf b (by
      cases f with
      | true=>have:=hff (by simpa using hfg);rw [this]at hb;exact hb
      | false=>cases f' with
       | true=>exact R.sub b hb
       | false=>exact hb)) (λb hb=>R.fro l f (he.fro _ (by simp)) uj b hb)
     have e1:aL c (((xs:List c.den).take ((lo:Int)+(n:Int)).toNat).drop ((lo:Int)).toNat)=((aL c xs).drop lo).take n:=by
      rw [EU,<-vZ]
      congr 2<;>omega
     rw [<-e1]at hd;exact mG (y:= .rows c _) hd
    .cases hk
   .cases hk
  .split at hk
   .rename_i g x ls hx;split at hk
    .rename_i hfg;cases hk;have hxl:=Xo hx;obtain⟨xs,rfl⟩:=hxl;refine⟨[.l c xs],.d f (.rows c xs),rfl,⟨λ_ _ h=>h,rfl,λx hx=>List.mem_append_right _ hx,λx hx=>hx,λ_ _ _=>rfl⟩,λrest=>rfl,λ{c0 w h' e fr c2 N2 v} H HR he hck R hfr hv=> ?_⟩;have uj:f=true\/fr=false:=by
      cases fr with
      | false=>exact .inr rfl
      | true=>exact .inl (hfr rfl)
     have hKf:∀b,c0.K f b->c2.K f b:=λb hb=>by
      cases f with
      | true=>exact R.kt b hb
      | false=>exact R.kf (uj.resolve_left (by simp)) b hb
     exact mG (y:= .rows c xs) (Vm H HR hx hv (λh=>by simpa [h]using hfg) hKf (λl hl b hb=>R.fro l f (he.fro _ (List.mem_append_left _ (List.mem_map.2 ⟨l,hl,rfl⟩))) uj b hb))
    .cases hk
   .cases hk
 | nil=>
  simp only [extC]at hk;split at hk
  .cases hk;refine⟨[],.nil,rfl,.refl _,λrest=>rfl,λH HR he hck R hfr hv=> ?_⟩;obtain⟨x0,hr,hc⟩:=hv;cases hc;cases hr;exact⟨.nil,.nil,.nil⟩
  .cases hk
 | own i=>
  simp only [extC]at hk;split at hk
  .rename_i l;split at hk
   .cases hk
   .rename_i htr;obtain⟨r1,r2,r3,r4,r5,r6⟩:=pR hk;refine⟨[],.own (nm i),by simpa using r3,r2,λrest=>rfl,λH HR he hck R hfr hv=> ?_⟩;obtain⟨x0,hr,hc⟩:=hv;cases hc with | own hN=>
    rename_i sz n;obtain⟨n1,n2⟩:=R.name i l (he.ren _ _ r1);have hn:=R.names i l sz n (he.ren _ _ r1) hN;have ht:qD (std m) s' i=none:=by
     unfold qD;rw [r4];have:s.tr.find? (λx=>x.1==i)=none:=by
      rw [List.find?_eq_none];intro x hx hxi;exact htr (by rw [List.any_eq_true];exact⟨x,hx,hxi⟩)
     rw [this]
    rw [he.tr i _ r1,ht]at hn;exact⟨_,bW.apX hr n1 n2,.own hn⟩
  .obtain⟨r1,r2,r3,r4,r5,r6⟩:=pR hk;refine⟨[],.own (nm i),by simpa using r3,r2,λrest=>rfl,λH HR he hck R hfr hv=> ?_⟩;obtain⟨x0,hr,hc⟩:=hv;cases hc;cases hr;obtain⟨n1,n2,sz,n3⟩:=R.nil i (he.ren _ _ r1);exact⟨.os (nm i) sz 0 0,.os0 none _ sz n1 n2,.own n3⟩
  .rename_i l lo n;split at hk
   .rename_i f0 c xs hri hl;cases hk;have hil:=(List.getElem?_eq_some_iff.1 hri).1;refine⟨[],.own (nm i),rfl,⟨λj w hj=> ?_,by simp,λ_ h=>h,λx hx=>List.mem_append_right _ hx,λj w hj=> ?_⟩,λrest=>rfl,λ{c0 w h' e fr c2 N2 v} H HR he hck R hfr hv=> ?_⟩
    .have e:i≠j:=λe=>by subst e;rw [hri]at hj;cases hj
     simp only [List.getElem?_set_ne e];exact hj
    .have e:i≠j:=λe=>by subst e;rw [hri]at hj;cases hj
     simp [qD,e]
    .obtain⟨x0,hr,hc⟩:=hv;cases hc with | os hN=>
     rename_i sz lo n mm;have hlo:(lo:Int)=0:=by
      have:=hck (bg .eql (lo:Int) 0) (he.ck _ (by simp));simpa [bg]using this
     have:lo=0:=by omega
     subst this;have r1:=he.ren i (some l) (by simp [hil]);have ht:=he.tr i (some l) (by simp [hil]);obtain⟨n1,n2⟩:=R.name i l r1;have hn:=R.names i l sz mm r1 hN;rw [ht]at hn;have hle:(n:Int)<=(xs:List c.den).length:=by
      have:=hck (bg .leq (n:Int) ((xs:List c.den).length:Int)) (he.ck _ (by simp));simpa [bg]using this
     have hmm:=hN;rw [dS hl]at hmm;cases hmm;simp [qD]at hn;rw [Nat.min_eq_left ah]at hn;exact⟨_,bW.apX hr n1 n2,.own hn⟩
   .cases hk
  .cases hk
 | pb i sz j=>
  simp only [extC]at hk;split at hk
  .rename_i l sz' j';split at hk
   .rename_i hcond;obtain⟨rfl,rfl⟩:=hcond;obtain⟨r1,r2,r3,r4,r5,r6⟩:=pR hk;refine⟨[],.pb (nm i) sz j,by simpa using r3,r2,λrest=>rfl,λH HR he hck R hfr hv=> ?_⟩;obtain⟨x0,hr,hc⟩:=hv;cases hc;obtain⟨n1,n2⟩:=R.name i l (he.ren _ _ r1);exact⟨_,bW.YA hr n1 n2,.pb⟩
   .cases hk
  .cases hk
 | pr i j=>
  simp only [extC]at hk;split at hk
  .rename_i l x j';split at hk
   .rename_i hcond;obtain⟨rfl,htr⟩:=hcond;split at hk
    .rename_i s1 hs1;cases hk;obtain⟨r1,r2,r3,r4,r5,r6⟩:=pR hs1;refine⟨[.i x],.pr (nm i) x j,by simp [ES.push,r3],r2.trans (.push _ _),λrest=>rfl,λH HR he hck R hfr hv=> ?_⟩;obtain⟨x0,hr,hc⟩:=hv;cases hc with | pr hN=>
     rename_i sz i0 mm;have r1':=he.ren i (some l) r1;obtain⟨n1,n2⟩:=R.name i l r1';exact⟨_,bW.YA hr n1 n2,.pr (R.names i l sz mm r1' hN)⟩
    .cases hk
   .cases hk
  .cases hk
 | rp f c j=>
  simp only [extC]at hk;split at hk
  .rename_i g c' xs x j';split at hk
   .rename_i hcond;cases hk;obtain⟨rfl,rfl,hfg⟩:=hcond;refine⟨[.l c xs,.i x],.rp f c xs x j,rfl,(ELe.push _ _).trans (.push _ _),λrest=>rfl,λ{c0 w h' e fr c2 N2 v} H HR he hck R hfr hv=> ?_⟩;obtain⟨x0,hr,hc⟩:=hv;cases hc with | rp hff hi=>
    rename_i f' i0;have uj:f=true\/fr=false:=by
     cases fr with
     | false=>exact .inr rfl
     | true=>exact .inl (hfr rfl)
    have hKf:∀b,c0.K f' b->c2.K f b:=λb hb=>by
     cases f with
     | true=>have:=hff (by simpa using hfg);rw [this]at hb;exact R.kt b hb
     | false=>
      refine R.kf (uj.resolve_left (by simp)) b ?_;cases f' with
      | true=>exact R.sub b hb
      | false=>exact hb
    cases hr with | rp _ b off _ _ _ _ u hb h1 h2 h3 h4=>
    exact⟨.rp f c.size (aL c xs) i0 j,.rp f b off _ _ _ _ u (hKf b hb) h1 h2 (λi j hi hj=>(h3 i j hi hj).mono' hKf) h4,.rp (λh=>h) hi⟩
   .cases hk
  .cases hk
 | gp g c=>
  simp only [extC]at hk;split at hk
  .rename_i g' c';split at hk
   .rename_i hcond;cases hk;obtain⟨rfl,rfl⟩:=hcond;refine⟨[],.gp g c,rfl,.refl _,λrest=>rfl,λ{c0 w h' e fr c2 N2 v} H HR he hck R hfr hv=> ?_⟩;obtain⟨x0,hr,hc⟩:=hv;cases hc;have uj:fr=false:=by
     cases fr with
     | false=>rfl
     | true=>have:=hfr rfl;simp [SkC.fresh]at this
    cases hr with | rp _ b off _ _ _ _ u hb h1 h2 h3 h4=>
    exact⟨_,.rp false b off _ _ _ _ u (R.kf uj b hb) h1 h2 (λi j hi hj=>(h3 i j hi hj).mono' (R.kf uj)) h4,.gp⟩
   .cases hk
  .cases hk
 | fn g caps=>
  simp only [extC]at hk;split at hk
  .rename_i g' CS;split at hk
   .rename_i hcond;obtain⟨rfl,hsz⟩:=hcond;obtain⟨q1,q2,q3⟩:=L8 hk;refine⟨[],.fn g (caps.map λp=>(nm p.1,p.2)),by simpa using q3,q2,λrest=>rfl,λ{c0 w h' e fr c2 N2 v} H HR he hck R hfr hv=> ?_⟩;obtain⟨x0,hr,hc⟩:=hv;cases hc;cases hr with | fn _ vs _ hl hcs=>
    have hlen:caps.length=CS.length:=by have:=congrArg List.length hsz;simpa using this
    refine⟨.fn g ((caps.map λp=>(nm p.1,p.2)).map λp=> .ptr p.1 p.2 0 0),.fn g vs _ (by simp at hl ⊢;omega) (λi hi=> ?_),.fn⟩;simp at hi;have hi':i<CS.length:=by omega
    have h1:=hcs i (by simp;exact hi');have hz:(caps.zip CS)[i]? =some (caps[i],CS[i]):=by rw [List.getElem?_zip_eq_some];simp [hi,hi']
    have h2:=q1 _ (List.mem_of_getElem? hz);obtain⟨n1,n2⟩:=R.name _ _ (he.ren _ _ h2);have hsz':caps[i].2=CS[i].2:=by
     have:=congrArg (λl=>l[i]?) hsz;simpa [hi,hi']using this
    simp only [List.getD,List.getElem?_map,List.getElem?_eq_getElem hi',List.getElem?_eq_getElem hi,Option.map_some,Option.getD_some]at h1 ⊢;rw [hsz'];exact bW.YA h1 n1 n2
   .cases hk
  .cases hk
 | np=>
  simp only [extC]at hk;split at hk
  .cases hk;refine⟨[],.np,rfl,.refl _,λrest=>rfl,λH HR he hck R hfr hv=> ?_⟩;obtain⟨x0,hr,hc⟩:=hv;cases hc;cases hr;exact⟨.np,.np,.np⟩
  .cases hk
 | clip f c=>
  simp only [extC]at hk;split at hk
  .rename_i g c' xs;split at hk
   .rename_i hcond;cases hk;obtain⟨rfl,hfg⟩:=hcond;refine⟨[.l c xs],.clip f c xs,rfl,.push _ _,λrest=>rfl,λ{c0 w h' e fr c2 N2 v} H HR he hck R hfr hv=> ?_⟩;obtain⟨x0,hr,hc⟩:=hv;cases hc with | clip hff=>
    rename_i f';have uj:f=true\/fr=false:=by
     cases fr with
     | false=>exact .inr rfl
     | true=>exact .inl (hfr rfl)
    have hKf:∀b,c0.K f' b->c2.K f b:=λb hb=>by
     cases f with
     | true=>have:=hff (by simpa using hfg);rw [this]at hb;exact R.kt b hb
     | false=>
      refine R.kf (uj.resolve_left (by simp)) b ?_;cases f' with
      | true=>exact R.sub b hb
      | false=>exact hb
    cases hr with | clip _ a n _ _ hd=>exact⟨.clip f c.size (aL c xs),.clip f a n _ _ (hd.mono' hKf),.clip λh=>h⟩
   .cases hk
  .cases hk
def L9{m:Nat}{h:List aM}(nm:Nat->Nat):∀ {ks:List SkC} {ys:List SC} {s s':ES (std m)},EK (std m) h ks ys s=some s'->
  ∃new ys2,s'.lv=new.reverse++s.lv/\ELe s s'/\(∀rest,Ja aG nm ks (new++rest)=some (ys2,rest))/\
   ∀ {c:Ctx} {w:World} {h':Heap} {e:ES (std m)} {fr:Bool} {c2:Ctx} {N2:NM} {us:List Value},bH c w h'->fD h' h->ELe s' e->(∀b∈e.ck,b=true)->Ren e h c nm fr c2 N2->(fr=true->ks.all SkC.fresh=true)->
    F2 (WC c w (nmh h)) us ys->F2 (WC c2 w N2) us ys2
 | [],[],s,s',hk=>by
  simp only [EK,Option.some.injEq]at hk;subst hk;exact⟨[],[],rfl,.refl _,λrest=>rfl,λ_ _ _ _ _ _ h=>by cases h;exact .nil⟩
 | [],_::_,s,s',hk=>by simp [EK]at hk
 | _::_,[],s,s',hk=>by simp [EK]at hk
 | k::ks,y::ys,s,s',hk=>by
  simp only [EK]at hk;split at hk
  .rename_i s1 h1;obtain⟨new1,y2,a1,a2,a3,a4⟩:=Vn nm h1;obtain⟨new2,ys2,b1,b2,b3,b4⟩:=L9 nm hk;refine⟨new1++new2,y2::ys2,by rw [b1,a1];simp,a2.trans b2,λrest=> ?_,λH HR he hck R hfr hu=> ?_⟩
   .simp only [Ja,List.append_assoc];rw [a3];simp only;rw [b3]
   .cases hu with | cons u1 u2=>
    exact .cons (a4 H HR (b2.trans he) hck R (λh=>by have:=hfr h;simp at this;exact this.1) u1) (b4 H HR he hck R (λh=>by have:=hfr h;simp at this;simpa using this.2) u2)
  .cases hk
def Ho{c c2:Ctx}{w:World}{N N2:NM}{f f':Bool}(hsub:∀b,c.K true b->c.K false b)(hK:∀b,c.K f b->c2.K f b):∀ {ys:List (Leaf aG)} {us:List Value},(f=true->f'=true\/∀y∈ys,y.scalar=true)->
  F2 (WC c w N) us (ys.map (.d f'))->F2 (WC c2 w N2) us (ys.map (.d f))
 | [],us,_,h=>by cases h;exact .nil
 | y::ys,us,hf,h=>by
  cases h with | cons h1 h2=>
  refine .cons ?_ (Ho hsub hK (λh=>(hf h).imp id λq y hy=>q y (List.mem_cons_of_mem _ hy)) h2);obtain⟨x,hr,hc⟩:=h1;cases hc with | d hx hff=>
  rename_i g0 x0;subst hx;cases hr with | d _ _ _ hd=>
  cases hs:y.scalar with
  | true=>exact mG (hd.mg _ (by rw [iU];exact hs))
  | false=>
   refine mG (hd.mono' λb hb=>hK b ?_);cases f with
   | false=>cases g0 with
    | true=>exact hsub b hb
    | false=>exact hb
   | true=>
    rcases hf rfl with h | h
    .have:=(hff h).resolve_right (by simp [hs]);rw [this]at hb;exact hb
    .have:=h y (by simp);simp [hs]at this
def EZ{c2:Ctx}{w:World}{N2:NM}{f:Bool}:∀ {ys:List (Leaf aG)} {us:List Value},F2 (dH (c2.K f) w) us (ys.map nG)->F2 (WC c2 w N2) us (ys.map (.d f))
 | [],us,h=>by cases h;exact .nil
 | y::ys,us,h=>by cases h with | cons h1 h2=>exact .cons (mG h1) (EZ h2)
def rH{m:Nat}{c:Ctx}{w:World}{h':Heap}{h:List aM}(H:bH c w h')(HR:fD h' h){f:Bool}{K2:Nat->Prop}(hK:∀b,c.K f b->K2 b):
  ∀ {ss:List Sh} {ys:List SC} {us:List Value} {g:Bool} {vs:List (LV aG)} {ls:List Nat},aR (std m) h ss ys=some (g,vs,ls)->F2 (WC c w (nmh h)) us ys->(f=true->g=true)->(∀l∈ls,∀b,c.μ l=some b->K2 b)->
   F2 (dH K2 w) us (List.zipWith lvD ss vs)
 | [],[],us,g,vs,ls,hk,hu,hf,hb=>by simp [aR]at hk;obtain⟨_,rfl,_⟩:=hk;cases hu;exact .nil
 | [],_::_,_,_,_,_,hk,_,_,_=>by simp [aR]at hk
 | _::_,[],_,_,_,_,hk,_,_,_=>by simp [aR]at hk
 | s::ss,y::ys,us,g,vs,ls,hk,hu,hf,hb=>by
  cases hu with | cons h1 h2=>
  unfold aR at hk;split at hk
  .rename_i f1 v1 l1 hv1;split at hk
   .rename_i g2 vs2 ls2 hv2;split at hk<;>cases hk
    refine .cons (Vm H HR hv1 h1 (λh=> ?_) hK λl hl=>hb l (List.mem_append_left _ hl)) (rH H HR hK hv2 h2 (λh=> ?_) λl hl=>hb l (List.mem_append_right _ hl))
    .have:=hf h;simp at this;exact this.1
    .have:=hf h;simp at this;exact this.2
   .cases hk
  .cases hk
def Ma{m:Nat}{c c2:Ctx}{w:World}{h':Heap}{h:List aM}{N2:NM}(H:bH c w h')(HR:fD h' h){f:Bool}(hK:∀b,c.K f b->c2.K f b){co:Co}{q:SVal}{g:Bool}{x:co.den}{ls:List Nat}
  (hk:toX (std m) h co q=some (g,x,ls)) {us:List Value} (hu:F2 (WC c w (nmh h)) us (cellsS q)) (hf:f=true->g=true) (hb:∀l∈ls,∀b,c.μ l=some b->c2.K f b):F2 (WC c2 w N2) us (cellsS (.sv f co x)):=by
 unfold toX at hk;split at hk
 .rename_i f' c' x';split at hk
  .rename_i e;subst e;cases hk;refine Ho H.sub hK (λh=> ?_) hu;have:=hf h;rcases Bool.or_eq_true _ _▸this with h | h
   .exact .inl h
   .exact .inr (jK c' h x')
  .cases hk
 .cases hk
 .split at hk
  .rename_i f1 ys ls1 h1;split at hk
   .rename_i t ht;cases hk;rw [dx]at h1;have:=rH H HR hK h1 hu hf hb;rw [zR co t ht,<-kN 0 co]at this;exact EZ this
   .cases hk
  .cases hk
def oh:SVal->Bool | .tup _=>true | _=>false
theorem Vo{m:Nat}{h:List aM}(nm:Nat->Nat){k:SkV}{q:SVal}{s s':ES (std m)}(hk:Gz (std m) h k q s=some s'):
  oh q=false/\∃new q2,s'.lv=new.reverse++s.lv/\ELe s s'/\(∀rest,zL aG nm k (new++rest)=some (q2,rest))/\oh q2=false/\bF (std 0) q2=bF (std 0) q/\
   ∀ {c:Ctx} {w:World} {h':Heap} {e:ES (std m)} {fr:Bool} {c2:Ctx} {N2:NM} {us:List Value},bH c w h'->fD h' h->ELe s' e->(∀b∈e.ck,b=true)->Ren e h c nm fr c2 N2->(fr=true->k.fresh=true)->
    F2 (WC c w (nmh h)) us (cellsS q)->F2 (WC c2 w N2) us (cellsS q2):=by
 cases k with
 | c k=>
  simp only [Gz]at hk;split at hk
  .rename_i x;obtain⟨new,y2,a1,a2,a3,a4⟩:=Vn nm hk;refine⟨rfl,new,.c y2,a1,a2,λrest=>by simp only [zL];rw [a3],rfl,rfl,λH HR he hck R hfr hu=> ?_⟩;cases hu with | cons h1 h2=>cases h2;exact .cons (a4 H HR he hck R hfr h1) .nil
  .cases hk
 | agg ks=>
  simp only [Gz]at hk;split at hk
  .rename_i hst;rw [dx]at hk;obtain⟨new,y2,a1,a2,a3,a4⟩:=L9 nm hk;refine⟨by cases q<;>simp_all [bF,oh],new,.agg y2,a1,a2,λrest=>by simp only [zL];rw [a3],rfl,by rw [og m]at hst;rw [hst];rfl,λH HR he hck R hfr hu=>a4 H HR he hck R hfr hu⟩
  .cases hk
 | sv f co=>
  simp only [Gz]at hk;split at hk
  .rename_i hst;split at hk
   .rename_i g x ls hx;split at hk
    .rename_i hfg;cases hk;refine⟨by cases q<;>simp_all [bF,oh],[.x co x],.sv f co x,rfl,⟨λ_ _ h=>h,rfl,λx hx=>List.mem_append_right _ hx,λx hx=>hx,λ_ _ _=>rfl⟩,λrest=>rfl,rfl,by rw [og m]at hst;rw [hst];rfl,λ{c w h' e fr c2 N2 us} H HR he hck R hfr hu=> ?_⟩;by_cases Mc:co.flat=true
     ·
      have h1:F2 (WC {c2 with K:=λg b=>c2.K g b\/c.K g b\/∃l∈ls,c.μ l=some b} w N2) us (cellsS (.sv f co x)):=Ma H HR (λb hb=>Or.inr (Or.inl hb)) hx hu (λh=>by simpa [h]using hfg) (λl hl b hb=>Or.inr (Or.inr ⟨l,hl,hb⟩));have hsc:=jK co Mc x;have hcs:cellsS (.sv f co x)=(fJ (std 0) co x 0 co.fields).map (.d f):=rfl;rw [hcs]at h1 ⊢
      clear hu hx hcs hfr hfg
      generalize fJ (std 0) co x 0 co.fields=lv at h1 hsc
      induction lv generalizing us with
      | nil=>cases h1;exact .nil
      | cons y lv ih=>
       cases h1 with | cons q1 q2=>
       refine .cons ?_ (ih q2 λy hy=>hsc y (List.mem_cons_of_mem _ hy));obtain⟨x0,hr,hc⟩:=q1;cases hc with | d hx0 _=>
       subst hx0;cases hr with | d _ _ _ hd=>exact mG (hd.mg _ (by rw [iU];exact hsc y (by simp)))
     .have uj:f=true\/fr=false:=by
       cases fr with
       | false=>exact .inr rfl
       | true=>have:=hfr rfl;simp only [SkV.fresh,Bool.or_eq_true]at this;exact .inl (this.resolve_right Mc)
      have hKf:∀b,c.K f b->c2.K f b:=λb hb=>by
       cases f with
       | true=>exact R.kt b hb
       | false=>exact R.kf (uj.resolve_left (by simp)) b hb
      exact Ma H HR hKf hx hu (λh=>by simpa [h]using hfg) (λl hl b hb=>R.fro l f (he.fro _ (List.mem_append_left _ (List.mem_map.2 ⟨l,hl,rfl⟩))) uj b hb)
    .cases hk
   .cases hk
  .cases hk
def WV(c:Ctx)(w:World)(N:NM)(u:Value)(q:SVal):Prop:=∃p,bG c w u p/\PVR N p q
def F2.wc{c:Ctx}{w:World}{N:NM}{us:List Value}{cs:List Cell}{ys:List SC}(h1:F2 (bW c w) us cs)(h2:F2 (RC N) cs ys):F2 (WC c w N) us ys:=by
 induction h1 generalizing ys with
 | nil=>cases h2;exact .nil
 | cons a _ ih=>cases h2 with | cons b h2=>exact .cons ⟨_,a,b⟩ (ih h2)
def F2.apZ{c:Ctx}{w:World}{N:NM}{us:List Value}{ys:List SC}(h:F2 (WC c w N) us ys):∃cs,F2 (bW c w) us cs/\F2 (RC N) cs ys:=by
 induction h with
 | nil=>exact⟨[],.nil,.nil⟩
 | cons h1 _ ih=>
  obtain⟨x,a,b⟩:=h1;obtain⟨cs,q1,q2⟩:=ih;exact⟨x::cs,.cons a q1,.cons b q2⟩
def WV.conv{c c2:Ctx}{w:World}{N N2:NM}{u:Value}{q q2:SVal}(h:WV c w N u q)(ht:oh q=false)(ht2:oh q2=false)(hs:bF (std 0) q2=bF (std 0) q)
  (hc:∀us,F2 (WC c w N) us (cellsS q)->F2 (WC c2 w N2) us (cellsS q2)):WV c2 w N2 u q2:=by
 obtain⟨p,hr,hp⟩:=h;cases hp with
 | tup _=>simp [oh]at ht
 | one hp=>
  cases hp with
  | c hx=>
   cases hr with | c _ _ hr=>
   have:=hc [u] (.cons ⟨_,hr,hx⟩ .nil);cases q2 with
   | c y=>cases this with | cons h1 _=>obtain⟨x,a,b⟩:=h1;exact⟨.c x,.c _ _ a,.ofC b⟩
   | agg _=>simp [bF]at hs
   | sv _ _ _=>simp [bF]at hs
   | tup _=>simp [oh]at ht2
  | agg hst hF=>
   cases hr with | agg us _ hr=>
   obtain⟨cs,a,b⟩:=F2.apZ (hc us (F2.wc hr hF));exact⟨.agg cs,.agg _ _ a,.one (.agg (by rw [hs];exact hst) b)⟩
def um{m:Nat}{h:List aM}(nm:Nat->Nat):∀ {ks:List SkV} {qs:List SVal} {s s':ES (std m)},nZ (std m) h ks qs s=some s'->
  ∃new qs2,s'.lv=new.reverse++s.lv/\ELe s s'/\(∀rest,qF aG nm ks (new++rest)=some (qs2,rest))/\
   ∀ {c:Ctx} {w:World} {h':Heap} {e:ES (std m)} {fr:Bool} {c2:Ctx} {N2:NM} {us:List Value},bH c w h'->fD h' h->ELe s' e->(∀b∈e.ck,b=true)->Ren e h c nm fr c2 N2->(fr=true->ks.all SkV.fresh=true)->
    F2 (WV c w (nmh h)) us qs->F2 (WV c2 w N2) us qs2
 | [],[],s,s',hk=>by
  simp only [nZ,Option.some.injEq]at hk;subst hk;exact⟨[],[],rfl,.refl _,λrest=>rfl,λ_ _ _ _ _ _ h=>by cases h;exact .nil⟩
 | [],_::_,s,s',hk=>by simp [nZ]at hk
 | _::_,[],s,s',hk=>by simp [nZ]at hk
 | k::ks,y::ys,s,s',hk=>by
  simp only [nZ]at hk;split at hk
  .rename_i s1 h1;obtain⟨ht,new1,y2,a1,a2,a3,t2,st2,a4⟩:=Vo nm h1;obtain⟨new2,ys2,b1,b2,b3,b4⟩:=um nm hk;refine⟨new1++new2,y2::ys2,by rw [b1,a1];simp,a2.trans b2,λrest=> ?_,λH HR he hck R hfr hu=> ?_⟩
   .simp only [qF,List.append_assoc];rw [a3];simp only;rw [b3]
   .cases hu with | cons u1 u2=>
    refine .cons (u1.conv ht t2 st2 λus hus=>a4 H HR (b2.trans he) hck R (λh=> ?_) hus) (b4 H HR he hck R (λh=> ?_) u2)
    .have:=hfr h;simp at this;exact this.1
    .have:=hfr h;simp at this;simpa using this.2
  .cases hk
structure OF{m:Nat}(e:ES (std m))(h:List aM)(nm:Nat->Nat)(i:Nat)(k:SkO)(old o2:aM):Prop where
 s1:∀(l sz n:Nat),k≠ .gone->e.ren[i]? =some (some (some l))->nmh h l=some (sz,n)->nmh [o2] 0=some (sz,match qD (std m) e i with | some k=>min (k:Int).toNat n | none=>n)
 s2:k≠ .gone->e.ren[i]? =some (some none)->∃sz,nmh [o2] 0=some (sz,0)
 gone:k= .gone->o2=old
 live:k≠ .gone->∃v,e.ren[i]? =some (some v)
 ng:k≠ .gone->¬Gone [o2] 0
 rel:∀ {c:Ctx} {w:World} {h':Heap} {fr:Bool} {c2:Ctx} {N2:NM},bH c w h'->fD h' h->(∀b∈e.ck,b=true)->Ren e h c nm fr c2 N2->(fr=true->k.fresh=true)->
  ∃o2',OR N2 o2' o2/\iR c2 w (nm i) o2'/\(k= .gone->o2'= .gone)/\(∀l,k≠ .gone->e.ren[i]? =some (some (some l))->∃o',AE.look h' l=some o'/\o'.live)
def bX.pre{K:Nat->Prop}{w:World}{cells:Array Value}{sz n:Nat}{es:List (List D)}(h:bX K w cells sz es):bX K w cells sz (es.take n):=λi hi=>by
 simp at hi;have e:(es.take n).getD i []=es.getD i []:=by simp only [List.getD];rw [List.getElem?_take_of_lt ah]
 refine⟨by rw [e];exact(h i ah).1,λj hj=> ?_⟩;obtain⟨v,hv,hd⟩:=(h i ah).2 j hj;exact⟨v,hv,by unfold gd;rw [e];exact hd⟩
def YB{c:Co}(hf:c.flat=true)(x:c.den):∀d∈c.row x,d.mg=true:=by
 intro d hd;rw [<-kN 0]at hd;obtain⟨y,hy,rfl⟩:=List.mem_map.1 hd;rw [iU];exact jK c hf x y hy
def bX.flat{K K2:Nat->Prop}{w:World}{cells:Array Value}{c:Co}(hf:c.flat=true){xs:List c.den}(h:bX K w cells c.size (aL c xs)):bX K2 w cells c.size (aL c xs):=λi hi=>by
 refine⟨(h i hi).1,λj hj=> ?_⟩;obtain⟨v,hv,hd⟩:=(h i hi).2 j hj;refine⟨v,hv,hd.mg _ ?_⟩;have hi':i<xs.length:=by simpa [aL]using hi
 unfold gd aL;have e:(xs.map c.row).getD i []=c.row xs[i]:=by simp [List.getD,hi']
 rw [e];have hl:j< (c.row xs[i]).length:=by rw [vY];exact hj
 have:(c.row xs[i]).getD j default=(c.row xs[i])[j]:=by simp [List.getD,hl]
 rw [this];exact YB hf _ _ (List.getElem_mem hl)
def Vp{m:Nat}{h:List aM}(nm:Nat->Nat){i:Nat}{k:SkO}{s s':ES (std m)}(hk:N9 (std m) h i k s=some s')(old:aM)(hold:Gone [old] 0):
  ∃new o2,s'.lv=new.reverse++s.lv/\ELe s s'/\(∀rest,Yi aG nm old k (new++rest)=some (o2,rest))/\∀e,ELe s' e->OF e h nm i k old o2:=by
 cases k with
 | gone=>
  have:s'=s:=by
   unfold N9 at hk;simpa using hk.symm
  subst this;obtain⟨c,n,ho⟩:=hold;simp at ho;subst ho;exact⟨[],_,rfl,.refl _,λrest=>rfl,λe he=>⟨λ_ _ _ h=>absurd rfl h,λh=>absurd rfl h,λ_=>rfl,λh=>absurd rfl h,λh=>absurd rfl h,λ_ _ _ _ _=>⟨.gone,.gone,trivial,λ_=>rfl,λ_ h=>absurd rfl h⟩⟩⟩
 | box k=>
  rcases hr:s.ren[i]? with _ | _ | _ | l<;>simp only [N9,hr,reduceCtorEq]at hk
  ·
   split at hk
   .rename_i v hl;obtain⟨ht,new,q2,a1,a2,a3,t2,st2,a4⟩:=Vo nm hk;refine⟨new,.box q2,a1,a2,λrest=>by simp only [Yi];rw [a3],λe he=> ?_⟩;have hre:=he.ren i _ (a2.ren i _ hr);refine⟨λl' sz n _ h1 h2=> ?_,λ_ h1=> ?_,λh=>(by cases h),λ_=>⟨_,hre⟩,λ_ ⟨c,n,hg⟩=>by simp at hg,λ{c w h' fr c2 N2} H HR hck R hfr=> ?_⟩
    .rw [hre]at h1;cases h1;simp [nmh,hl]at h2
    .rw [hre]at h1;cases h1
    .obtain⟨o',ho',hO⟩:=HR.old l _ hl;cases hO with | box hF=>
     obtain⟨b,vs,E,hm,hb,hrc⟩:=(H.obj l _ ho').2;obtain⟨cs2,q1,q2'⟩:=F2.apZ (a4 H HR he hck R (λh=>hfr h) (F2.wc hrc hF));obtain⟨n1,n2⟩:=R.name i l hre;exact⟨.box cs2,.box q2',⟨b,vs,E,n2.trans hm,hb,q1⟩,λh=>(by cases h),λl' _ h1=>by rw [hre]at h1;cases h1;exact⟨_,ho',trivial⟩⟩
   .cases hk
 | rows f c=>
  rcases hr:s.ren[i]? with _ | _ | _ | l<;>simp only [N9,hr,reduceCtorEq]at hk
  .cases hk;refine⟨[.l c []],.rows f c [],rfl,.push _ _,λrest=>rfl,λe he=> ?_⟩;have hre:=he.ren i _ (by exact hr);refine⟨λl' sz n _ h1 h2=> ?_,λ_ h1=>⟨c.size,by simp [nmh]⟩,λh=>(by cases h),λ_=>⟨_,hre⟩,λ_ ⟨c,n,hg⟩=>by simp at hg,λ{c0 w h' fr c2 N2} H HR hck R hfr=> ?_⟩
   .rw [hre]at h1;cases h1
   .obtain⟨n1,n2,_⟩:=R.nil i hre;refine⟨.rows f c.size (aL c []),.rows λh=>h,?_,λh=>(by cases h),λl' _ h1=>by rw [hre]at h1;cases h1⟩;simp only [iR];rw [n2];rfl
  ·
   split at hk
   .rename_i g c' xs hl;split at hk
    .rename_i hcond;obtain⟨rfl,hfg⟩:=hcond;obtain⟨xs2,hx2,hn2,hpre⟩:∃xs2:List c.den,(match qD (std m) s i with | some n=>(std m).sub c xs ((std m).lit 0) n | none=>xs)=xs2/\xs2.length=(match qD (std m) s i with | some k=>min (k:Int).toNat (xs:List c.den).length | none=>(xs:List c.den).length)/\∃q,xs2=(xs:List c.den).take q:=by
      cases qD (std m) s i with
      | none=>exact⟨xs,rfl,rfl,(xs:List c.den).length,by simp⟩
      | some n=>exact⟨(xs:List c.den).take (n:Int).toNat,by simp,by simp,_,rfl⟩
     have hs':s'=s.push (std m) (.l c xs2):=by rw [<-hx2,(Option.some.inj hk).symm];cases qD (std m) s i<;>rfl
     subst hs';refine⟨[.l c xs2],.rows f c xs2,rfl,.push _ _,λrest=>rfl,λe he=> ?_⟩;have hre:=he.ren i _ (by exact hr);have htr:qD (std m) e i=qD (std m) s i:=he.tr i _ hr;refine⟨λl' sz n _ h1 h2=> ?_,λ_ h1=> ?_,λh=>(by cases h),λ_=>⟨_,hre⟩,λ_ ⟨c,n,hg⟩=>by simp at hg,λ{c0 w h' fr c2 N2} H HR hck R hfr=> ?_⟩
     .rw [hre]at h1;cases h1;rw [dS hl]at h2;cases h2;rw [htr];simp only [nmh,List.getElem?_cons_zero];rw [hn2]
     .rw [hre]at h1;cases h1
     .obtain⟨o',ho',hO⟩:=HR.old l _ hl;cases hO with | rows hff=>
      rename_i g';have hro:=(H.obj l _ ho').2;obtain⟨n1,n2⟩:=R.name i l hre;refine⟨.rows f c.size (aL c xs2),.rows λh=>h,?_,λh=>(by cases h),λl' _ h1=>by rw [hre]at h1;cases h1;exact⟨_,ho',trivial⟩⟩;obtain⟨q,hq⟩:=hpre;have hq':aL c xs2=(aL c xs).take q:=by rw [hq];simp [aL,List.map_take]
      simp only [iR]at hro ⊢;rw [n2];cases hm:c0.μ l with
      | none=>rw [hm]at hro;simp only at hro ⊢;rw [hq',hro];simp
      | some b=>
       rw [hm]at hro;obtain⟨cells,E,hb,hrow⟩:=hro;refine⟨cells,E,hb,?_⟩;by_cases Mc:c.flat=true
       .rw [hq'];refine bX.pre ?_;exact bX.flat Mc hrow
       .have hfg:f=true->g=true:=λh=>by simpa [h,Mc]using hfg
        rw [hq'];refine bX.pre (hrow.mono (λb hb=> ?_) λ_ _=>rfl);cases f with
        | true=>have:=hff (hfg rfl);rw [this]at hb;exact R.kt b hb
        | false=>
         have uj:fr=false:=by
          cases fr with
          | false=>rfl
          | true=>have:=hfr rfl;simp [SkO.fresh]at this
         refine R.kf uj b ?_;cases g' with
         | true=>exact R.sub b hb
         | false=>exact hb
    .cases hk
   .cases hk
def pU{m:Nat}{h:List aM}(nm:Nat->Nat)(old:Nat->aM)(hold:∀j,Gone [old j] 0):∀ {ks:List SkO} {i:Nat} {s s':ES (std m)},zK (std m) h i ks s=some s'->
  ∃new os2,s'.lv=new.reverse++s.lv/\ELe s s'/\(∀rest,qG aG nm old i ks (new++rest)=some (os2,rest))/\os2.length=ks.length/\
   ∀e,ELe s' e->∀(j:Nat) (k:SkO),ks[j]? =some k->∃o2,os2[j]? =some o2/\OF e h nm (i+j) k (old (i+j)) o2
 | [],i,s,s',hk=>by
  simp only [zK,Option.some.injEq]at hk;subst hk;exact⟨[],[],rfl,.refl _,λrest=>rfl,rfl,λe he j k hj=>by simp at hj⟩
 | k::ks,i,s,s',hk=>by
  simp only [zK]at hk;split at hk
  .rename_i s1 h1;obtain⟨new1,o2,a1,a2,a3,a4⟩:=Vp nm h1 (old i) (hold i);obtain⟨new2,os2,b1,b2,b3,b4,b5⟩:=pU nm old hold hk;refine⟨new1++new2,o2::os2,by rw [b1,a1];simp,a2.trans b2,λrest=> ?_,by simp [b4],λe he j k' hj=> ?_⟩
   .simp only [qG,List.append_assoc];rw [a3];simp only;rw [b3]
   .cases j with
    | zero=>simp at hj;subst hj;exact⟨o2,rfl,a4 e (b2.trans he)⟩
    | succ j=>
     obtain⟨o3,q1,q2⟩:=b5 e he j k' (by simpa using hj);exact⟨o3,by simpa using q1,by rw [show i+(j+1)=i+1+j by omega];exact q2⟩
  .cases hk
def zS:∀ {r:List (Option (Option Nat))},distinct (bI r)=true->∀ {i j l:Nat},r[i]? =some (some (some l))->r[j]? =some (some (some l))->i=j
 | [],_,i,j,l,h,_=>by simp at h
 | x::r,hd,i,j,l,hi,hj=>by
  have mem:∀ {r:List (Option (Option Nat))} {i l:Nat},r[i]? =some (some (some l))->l∈bI r:=by
   intro r
   induction r with
   | nil=>intro i l h;simp at h
   | cons x r ih=>
    intro i l h;cases i with
    | zero=>simp at h;subst h;simp [bI]
    | succ i=>
     have:=ih (by simpa using h)
     match x with
     | some (some y)=>simp [bI,this]
     | some none=>simpa [bI]using this
     | none=>simpa [bI]using this
  have hr:distinct (bI r)=true:=by
   match x with
   | some (some y)=>simp [bI,distinct]at hd;exact hd.2
   | some none=>simpa [bI]using hd
   | none=>simpa [bI]using hd
  cases i with
  | zero=>
   cases j with
   | zero=>rfl
   | succ j=>
    simp at hi;subst hi;have:=mem (i:=j) (l:=l) (r:=r) (by simpa using hj);simp [bI,distinct]at hd;exact absurd this hd.1
  | succ i=>
   cases j with
   | zero=>
    simp at hj;subst hj;have:=mem (i:=i) (l:=l) (r:=r) (by simpa using hi);simp [bI,distinct]at hd;exact absurd this hd.1
   | succ j=>
    have:=zS hr (i:=i) (j:=j) (l:=l) (by simpa using hi) (by simpa using hj);omega
def pV:∀ {r:List (Option (Option Nat))} {i l:Nat},r[i]? =some (some (some l))->l∈bI r
 | [],i,l,h=>by simp at h
 | x::r,i,l,h=>by
  cases i with
  | zero=>simp at h;subst h;simp [bI]
  | succ i=>
   have:=pV (r:=r) (i:=i) (l:=l) (by simpa using h)
   match x with
   | some (some y)=>simp [bI,this]
   | some none=>simpa [bI]using this
   | none=>simpa [bI]using this
def wz:∀ {r:List (Option (Option Nat))} {l:Nat},l∈bI r->∃i:Nat,r[i]? =some (some (some l))
 | [],l,h=>by simp [bI]at h
 | x::r,l,h=>by
  have up:l∈bI r->∃i:Nat,(x::r)[i]? =some (some (some l)):=λh=>let⟨i,hi⟩:=wz h;⟨i+1,by simpa using hi⟩
  match x with
  | some (some y)=>
   simp only [bI,List.mem_cons]at h;rcases h with rfl | h
   .exact⟨0,rfl⟩
   .exact up h
  | some none=>exact up (by simpa [bI]using h)
  | none=>exact up (by simpa [bI]using h)
def CW:∀ {os:List SkO} {r:List (Option (Option Nat))},pK os r=true->∀ {i:Nat} {v:Option Nat},r[i]? =some (some v)->os[i]? ≠some .gone
 | [],_,_,i,v,_=>by simp
 | o::os,[],_,i,v,h=>by simp at h
 | o::os,x::r,hg,i,v,h=>by
  have ht:pK os r=true:=by
   cases o<;>cases x<;>simp_all [pK]
  cases i with
  | zero=>
   simp at h;subst h;cases o with
   | gone=>simp [pK]at hg
   | _=>simp
  | succ i=>simpa using CW ht (i:=i) (v:=v) (by simpa using h)
structure ap0{m:Nat}(h:List aM)(e:ES (std m))(os:List SkO):Prop where
 dist:∀ {i j l:Nat},e.ren[i]? =some (some (some l))->e.ren[j]? =some (some (some l))->i=j
 fro:∀l f,(l,f)∈e.fro->(∀i:Nat,e.ren[i]? ≠some (some (some l)))/\∃g c xs,h[l]? =some (.rows g c xs)
 gone:∀ {i:Nat} {v:Option Nat},e.ren[i]? =some (some v)->os[i]? ≠some .gone
def Jg{m:Nat}{h:List aM}{e:ES (std m)}{os:List SkO}(hf:ES.fine (std m) h e os=true):ap0 h e os:=by
 unfold ES.fine at hf;simp only [Bool.and_eq_true]at hf;obtain⟨⟨h1,h2⟩,h3⟩:=hf;refine⟨zS h1,λl f hl=> ?_,CW h3⟩;have:=List.all_eq_true.1 h2 _ hl;simp only [Bool.and_eq_true,Bool.not_eq_true']at this;refine⟨λi hi=> ?_,?_⟩
 .have hm:=pV hi;have:=this.1;simp [hm]at this
 .have h4:=this.2;unfold Yg at h4;split at h4
  .rename_i g c xs hh;exact⟨g,c,xs,hh⟩
  .cases h4
def KX{m:Nat}(e:ES (std m))(ce:Ctx)(fr:Bool)(f:Bool)(b:Nat):Prop:=ce.K (f || fr) b\/∃l g,(l,g)∈e.fro/\ce.μ l=some b/\((f || fr)=true->g=true)
def rJ(nm:Nat->Nat)(f:Nat->fH):List Nat->Heap->Heap
 | [],h=>h
 | i::r,h=>(nm i,f i)::rJ nm f r h
def Md{nm:Nat->Nat}{f:Nat->fH}{l:Nat}:∀ {is:List Nat} {h:Heap},(∀i∈is,nm i≠l)->AE.look (rJ nm f is h) l=AE.look h l
 | [],_,_=>rfl
 | i::r,h,hn=>by simp only [rJ];rw [aA _ _ (hn i (by simp))];exact Md λj hj=>hn j (List.mem_cons_of_mem _ hj)
def Me{nm:Nat->Nat}{f:Nat->fH}(P:Nat->Prop)(hinj:∀i j,P i->P j->nm i=nm j->i=j):∀ {is:List Nat} {h:Heap},(∀i∈is,P i)->∀i∈is,AE.look (rJ nm f is h) (nm i)=some (f i)
 | [],_,_,i,hi=>by simp at hi
 | j::r,h,hp,i,hi=>by
  simp only [rJ];by_cases e:nm j=nm i
  .rw [e,aK];rw [hinj j i (hp j (by simp)) (hp i hi) e]
  .rw [aA _ _ e];cases hi with
   | head=>exact absurd rfl e
   | tail _ hi=>exact Me P hinj (λj hj=>hp j (List.mem_cons_of_mem _ hj)) i hi
def yQ{m:Nat}{w:World}{ce:Ctx}{he':Heap}{he:List aM}(He:bH ce w he')(HRe:fD he' he){e:ES (std m)}(hck:∀b∈e.ck,b=true){ks:List SkO}(iZ:ap0 he e ks)(hrl:e.ren.length=ks.length)
  {nm:Nat->Nat} {old:Nat->aM} {os2:List aM} (hlen:os2.length=ks.length) (hof:∀(j:Nat) (k:SkO),ks[j]? =some k->∃o2,os2[j]? =some o2/\OF e he nm j k (old j) o2)
  {cb:Ctx} {hb':Heap} (Hb:bH cb w hb') (fr:Bool) (hfresh:fr=true->ks.all SkO.fresh=true)
  {μ2:Nat->Option Nat} {n2:Nat} (hn2:cb.n<=n2) (hμ:∀l,l<cb.n->μ2 l=cb.μ l) (hlt:∀i,i<ks.length->nm i<n2) (hinj:∀i j,i<ks.length->j<ks.length->nm i=nm j->i=j)
  (hname:∀(i l:Nat),e.ren[i]? =some (some (some l))->μ2 (nm i)=ce.μ l) (hnil:∀(i:Nat),e.ren[i]? =some (some none)->μ2 (nm i)=none)
  {h2:List aM} (hget:∀i,i<ks.length->h2[nm i]? =os2[i]?) (hbR:∀l o,(∀i,i<ks.length->nm i≠l)->h2[l]? =some o->∃o',AE.look hb' l=some o'/\OR (nmh h2) o' o) (hbN:∀l,h2.length<=l->AE.look hb' l=none)
  (sep:∀b,eF cb hb' b->eF ce he' b->False) (at7:∀f b,cb.K f b->eF ce he' b->False) (akl:∀f b,eF cb hb' b->KX e ce fr f b->False):
  ∃(o':Nat->fH),let c2:Ctx:={K:=λf b=>cb.K f b\/KX e ce fr f b,μ:=μ2,n:=n2};let h2':Heap:=rJ nm o' (List.range ks.length) hb'
   bH c2 w h2'/\fD h2' h2/\Ren e he ce nm fr c2 (nmh h2)/\(∀b,eF c2 h2' b->eF cb hb' b\/∃(i lq:Nat) (q:fH),e.ren[i]? =some (some (some lq))/\AE.look he' lq=some q/\q.live/\ce.μ lq=some b)/\CLe cb c2/\(∀l,(∀i,i<ks.length->nm i≠l)->AE.look h2' l=AE.look hb' l):=by
 have ap1:∀(i:Nat) (o2:aM),i<ks.length->os2[i]? =some o2->nmh h2 (nm i)=nmh [o2] 0:=λi o2 hi ho=>by
  simp only [nmh,hget i hi,ho,List.getElem?_cons_zero]
 have hib:∀(i:Nat) (v:Option (Option Nat)),e.ren[i]? =some v->i<ks.length:=λi v h=>by rw [<-hrl];exact(List.getElem?_eq_some_iff.1 h).1
 have hks:∀i,i<ks.length->∃k,ks[i]? =some k:=λi hi=>⟨ks[i],List.getElem?_eq_getElem hi⟩
 have R:Ren e he ce nm fr {K:=λf b=>cb.K f b\/KX e ce fr f b,μ:=μ2,n:=n2} (nmh h2):={
  kt:=λb hb=> .inr (.inl (by simpa using hb))
  kf:=λhf b hb=> .inr (.inl (by subst hf;simpa using hb))
  sub:=He.sub
  apW:=λb hb=>by
   rcases hb with hb | hb | ⟨l,g,h1,h2,h3⟩
   .exact .inl (Hb.sub b hb)
   .refine .inr (.inl ?_);cases fr with
    | true=>simpa using hb
    | false=>exact He.sub b (by simpa using hb)
   .exact .inr (.inr ⟨l,g,h1,h2,λ_=>h3 (by simp)⟩)
  fro:=λl f hl hf b hb=> .inr (.inr ⟨l,f,hl,hb,λh=>by
   rcases hf with h1 | h1
   .exact h1
   .subst h1;simpa using h⟩)
  name:=λi l hi=>⟨hlt i (hib i _ hi),hname i l hi⟩
  names:=λi l sz n hi hl=>by
   have hi':=hib i _ hi;obtain⟨k,hk⟩:=hks i hi';obtain⟨o2,q1,q2⟩:=hof i k hk;rw [ap1 i o2 hi' q1];exact q2.s1 l sz n (λe=>iZ.gone hi (by rw [hk,e])) hi hl
  nil:=λi hi=>by
   have hi':=hib i _ hi;obtain⟨k,hk⟩:=hks i hi';obtain⟨o2,q1,q2⟩:=hof i k hk;obtain⟨sz,hs⟩:=q2.s2 (λe=>iZ.gone hi (by rw [hk,e])) hi;exact⟨hlt i hi',hnil i hi,sz,by rw [ap1 i o2 hi' q1];exact hs⟩}
 have hex:∀i,∃o',∀k,ks[i]? =some k->∃o2,os2[i]? =some o2/\OR (nmh h2) o' o2/\iR {K:=λf b=>cb.K f b\/KX e ce fr f b,μ:=μ2,n:=n2} w (nm i) o'/\
   (o'.live->k≠ .gone/\∃v,e.ren[i]? =some (some v)/\∀l,v=some l->∃q,AE.look he' l=some q/\q.live):=by
  intro i;cases hk:ks[i]? with
  | none=>exact⟨.gone,λk h=>by cases h⟩
  | some k=>
   obtain⟨o2,q1,q2⟩:=hof i k hk;obtain⟨o',r1,r2,r3,r4⟩:=q2.rel He HRe hck R (λh=>List.all_eq_true.1 (hfresh h) k (List.mem_of_getElem? hk));refine⟨o',λk' h=> ?_⟩;cases h;refine⟨o2,q1,r1,r2,λhl=> ?_⟩;have hng:k≠ .gone:=λe=>by rw [r3 e]at hl;exact hl
   obtain⟨v,hv⟩:=q2.live hng;exact⟨hng,v,hv,λl e=>r4 l hng (by rw [hv,e])⟩
 obtain⟨o',aga⟩:=Classical.axiomOfChoice hex;refine⟨o',?_⟩;have E5:∀i,i<ks.length->AE.look (rJ nm o' (List.range ks.length) hb') (nm i)=some (o' i):=λi hi=>
  Me (λi=>i<ks.length) hinj (λi hi=>List.mem_range.1 hi) i (List.mem_range.2 hi)
 have uo:∀l,(∀i,i<ks.length->nm i≠l)->AE.look (rJ nm o' (List.range ks.length) hb') l=AE.look hb' l:=λl hl=>Md λi hi=>hl i (List.mem_range.1 hi)
 have cle:CLe cb {K:=λf b=>cb.K f b\/KX e ce fr f b,μ:=μ2,n:=n2}:=⟨λf b h=> .inl h,hn2,hμ⟩;have hlow:∀f b,KX e ce fr f b->b<w.heap.size:=by
  rintro f b (h | ⟨l,g,h1,h2,h3⟩)
  .exact He.low _ b h
  .obtain⟨_,g',c,xs,hl⟩:=iZ.fro l g h1;obtain⟨q,hq,hO⟩:=HRe.old l _ hl;cases hO with | rows _=>
   exact(He.obj l _ hq).2.lt trivial h2
 have kind:∀l o,AE.look (rJ nm o' (List.range ks.length) hb') l=some o->o.live->∀b,μ2 l=some b->
   (∃i q lq,i<ks.length/\nm i=l/\e.ren[i]? =some (some (some lq))/\AE.look he' lq=some q/\q.live/\ce.μ lq=some b)\/((∀i,i<ks.length->nm i≠l)/\AE.look hb' l=some o/\cb.μ l=some b):=by
  intro l o hl hlv b hb;by_cases hx:∃i,i<ks.length/\nm i=l
  .obtain⟨i,hi,rfl⟩:=hx;rw [E5 i hi]at hl;cases hl;obtain⟨k,hk⟩:=hks i hi;obtain⟨o2,q1,q2,q3,q4⟩:=aga i k hk;obtain⟨hng,v,hv,hq⟩:=q4 hlv;cases v with
   | none=>rw [hnil i hv]at hb;cases hb
   | some lq=>
    obtain⟨q,hq1,hq2⟩:=hq lq rfl;exact .inl ⟨i,q,lq,hi,rfl,hv,hq1,hq2,by rw [<-hname i lq hv];exact hb⟩
  .have hx':∀i,i<ks.length->nm i≠l:=λi hi h=>hx ⟨i,hi,h⟩
   rw [uo l hx']at hl;exact .inr ⟨hx',hl,by rw [<-hμ l (Hb.obj l o hl).1];exact hb⟩
 refine⟨?_,?_,R,?_,cle,uo⟩
 .refine⟨λl o hl=> ?_,λl o l' o1 b h1 hl1 h2 hl2 hb1 hb2=> ?_,?_,?_,λb hb=>R.apW b hb⟩
  .by_cases hx:∃i,i<ks.length/\nm i=l
   .obtain⟨i,hi,rfl⟩:=hx;rw [E5 i hi]at hl;cases hl;obtain⟨k,hk⟩:=hks i hi;obtain⟨o2,q1,q2,q3,q4⟩:=aga i k hk;exact⟨hlt i hi,q3⟩
   .rw [uo l (λi hi h=>hx ⟨i,hi,h⟩)]at hl;obtain⟨a1,a2⟩:=Hb.obj l o hl;exact⟨Nat.lt_of_lt_of_le a1 hn2,a2.mono cle (λ_ _ _=>rfl) (.refl w) a1 (λ_ _ _=>rfl)⟩
  .rcases kind l o h1 hl1 b hb1 with⟨i,q,lq,hi,rfl,hr,hq,hqv,hm⟩ | ⟨hx,hq,hm⟩
   .rcases kind l' o1 h2 hl2 b hb2 with⟨j,q',lq',hj,rfl,hr',hq',akm,hm'⟩ | ⟨hx',hq',hm'⟩
    .have:=He.inj lq q lq' q' b hq hqv hq' akm hm hm';subst this;rw [iZ.dist hr hr']
    .exact(sep b ⟨l',o1,hq',hl2,hm'⟩ ⟨lq,q,hq,hqv,hm⟩).elim
   .rcases kind l' o1 h2 hl2 b hb2 with⟨j,q',lq',hj,rfl,hr',hq',akm,hm'⟩ | ⟨hx',hq',hm'⟩
    .exact(sep b ⟨l,o,hq,hl1,hm⟩ ⟨lq',q',hq',akm,hm'⟩).elim
    .exact Hb.inj l o l' o1 b hq hl1 hq' hl2 hm hm'
  .rintro f b ⟨l,o,hl,hlv,hb⟩ hk;rcases kind l o hl hlv b hb with⟨i,q,lq,hi,rfl,hr,hq,hqv,hm⟩ | ⟨hx,hq,hm⟩
   .rcases hk with hk | hk | ⟨l2,g,k1,k2,k3⟩
    .exact at7 f b hk ⟨lq,q,hq,hqv,hm⟩
    .exact He.own _ b ⟨lq,q,hq,hqv,hm⟩ hk
    .obtain⟨hnn,g',c,xs,hl2⟩:=iZ.fro l2 g k1;obtain⟨q',hq',hO⟩:=HRe.old l2 _ hl2;cases hO with | rows _=>
     have:=He.inj lq q l2 _ b hq hqv hq' trivial hm k2;subst this;exact hnn i hr
   .rcases hk with hk | hk
    .exact Hb.own f b ⟨l,o,hq,hlv,hm⟩ hk
    .exact akl f b ⟨l,o,hq,hlv,hm⟩ hk
  .rintro f b (hk | hk)
   .exact Hb.low f b hk
   .exact hlow f b hk
 .refine⟨λl o hl=> ?_,λl hl=> ?_⟩
  .by_cases hx:∃i,i<ks.length/\nm i=l
   .obtain⟨i,hi,rfl⟩:=hx;obtain⟨k,hk⟩:=hks i hi;obtain⟨o2,q1,q2,q3,q4⟩:=aga i k hk;rw [hget i hi,q1]at hl;cases hl;exact⟨o' i,E5 i hi,q2⟩
   .have hx':∀i,i<ks.length->nm i≠l:=λi hi h=>hx ⟨i,hi,h⟩
    obtain⟨q,a1,a2⟩:=hbR l o hx' hl;exact⟨q,by rw [uo l hx'];exact a1,a2⟩
  .have hx':∀i,i<ks.length->nm i≠l:=λi hi h=>by
    obtain⟨k,hk⟩:=hks i hi;obtain⟨o2,q1,_⟩:=aga i k hk;have:=hget i hi;rw [q1,h]at this;have:=(List.getElem?_eq_some_iff.1 this).1;omega
   rw [uo l hx'];exact hbN l hl
 .rintro b ⟨l,o,hl,hlv,hb⟩;rcases kind l o hl hlv b hb with⟨i,q,lq,hi,rfl,hr,hq,hqv,hm⟩ | ⟨hx,hq,hm⟩
  .exact .inr ⟨i,lq,q,hr,hq,hqv,hm⟩
  .exact .inl ⟨l,o,hq,hlv,hm⟩
def dD{s:Sig}(ct:Ct aG s):Trans:=λargs h' nn K=>∃(m:Nat) (vs:List SVal) (h:List aM),F2 (PVR (nmh h)) args vs/\fD h' h/\h.length=nn/\
 ∃cr,qH (std m) h s ct vs=some cr/\(∀b∈cr.ck,b=true)/\∃v k,cr.k cr.y=some (v,k)/\
  ∀r h'' j,PVR (nmh k) r v->fD h'' k->iI h' h h'' k cr.touched->k.length=nm nn j->K r h'' j
def jV(C:Calls aG):ni:=λf=>match C f with | []=>none | l=>some λargs h n K=>∃ct∈l,dD ct.2 args h n K
def Mu{m:Nat}(T:(PV->Heap->Nat->Prop)->Prop)(n:Nat)(h':Heap)(h:List aM)(cr:CR (std m)):Prop:=
 ∃v k,cr.k cr.y=some (v,k)/\(cr.pure=true->k=h/\cr.touched=[])/\
  ∀K,(∀pv h'' j,PVR (nmh k) pv v->fD h'' k->iI h' h h'' k cr.touched->k.length=nm n j->K pv h'' j)->T K
def Oh(E:Tab)(G:ni)(op:Op)(t:Slots)(s:St)(K:PV->Heap->Nat->Prop):Prop:=
 match iJ op with
 | 1=>gP E op t s.h s.n s.k K
 | _=>tJ E G op {s with t:=t} K
def Mu.ap2{m:Nat}{T:(PV->Heap->Nat->Prop)->Prop}{n:Nat}{h':Heap}{h:List aM}{cr:CR (std m)}{v:SVal}{k:List aM}{td:List Nat}(H:Hv2 T n h' h v k td)(h1:cr.k cr.y=some (v,k))(h2:cr.touched=td)(h3:cr.pure=false):Mu T n h' h cr:=by
 obtain⟨pv,h'',j,q1,q2,q3,q4,q5⟩:=H;exact⟨v,k,h1,λh=>(by rw [h3]at h;cases h),λK hK=>q5 K (hK pv h'' j q1 q2 (by rw [h2];exact q3) q4)⟩
def Vq{X:XT}{E:Tab}(hX:XOK X E){n:Nat}{N:NM}{t:Slots}{e:Nat->Option SVal}(he:EvR X E n N t e):∀ {xs:List Operand} {vs:List SVal},LK (std n) X e xs=some vs->
  ∃ps,F2 (PVR N) ps vs/\∀K,K ps->GU E t xs K
 | [],vs,h=>by simp only [LK,Option.some.injEq]at h;subst h;exact⟨[],.nil,λK hK=>hK⟩
 | x::r,vs,h=>by
  simp only [LK]at h;split at h
  .rename_i v hv;split at h
   .rename_i vs' hvs;cases h;obtain⟨pv,p1,p2⟩:=dG hX he hv;obtain⟨ps,q1,q2⟩:=Vq hX he hvs;exact⟨pv::ps,.cons p2 q1,λK hK=>by unfold GU;rw [p1];exact q2 _ hK⟩
   .cases h
  .cases h
def zT{m:Nat}{h:List aM}{vs:List SVal}{cr:CR (std m)}:∀ {l:List (Sigma (Ct aG))},zO (std m) h vs l=some cr->∃ct∈l,qH (std m) h ct.1 ct.2 vs=some cr
 | [],hk=>by simp [zO]at hk
 | ⟨s,ct⟩::r,hk=>by
  simp only [zO]at hk;split at hk
  .rename_i x hx;cases hk;exact⟨⟨s,ct⟩,by simp,hx⟩
  .obtain⟨ct',h1,h2⟩:=zT hk;exact⟨ct',List.mem_cons_of_mem _ h1,h2⟩
def YC{m:Nat}{h:List aM}{s:Sig}{ct:Ct aG s}{vs:List SVal}{cr:CR (std m)}(hk:qH (std m) h s ct vs=some cr):cr.pure=true->(∀v k,cr.k cr.y=some (v,k)->k=h)/\cr.touched=[]:=by
 unfold qH at hk;split at hk
 .rename_i e1 he1;split at hk
  .rename_i e he;split at hk
   .split at hk
    .rename_i x hx;simp only [Option.some.injEq]at hk;subst hk;intro hp;simp only [Bool.and_eq_true,List.isEmpty_iff,Bool.or_eq_true]at hp;obtain⟨⟨ho,ho'⟩,hbr⟩:=hp;have aua:e.ren=[]:=by
      obtain⟨_,_,_,l1,_⟩:=um (m:=m) (λi=>i) he1;obtain⟨_,_,_,l2,_⟩:=pU (m:=m) (λi=>i) (λ_=> .gone .i64 0) (λ_=>⟨.i64,0,rfl⟩) he;have:=l2.len.trans l1.len;simp [es0,ho]at this;exact this
     refine⟨λv k hvk=> ?_,?_⟩
     .simp only [ho']at hvk;split at hvk
      .rename_i vs' r hvs;simp only [qG,List.length_nil]at hvk;simp only [Option.some.injEq,Prod.mk.injEq]at hvk;obtain⟨_,rfl⟩:=hvk;have:∀(h:List aM) (l:List Nat),iB (std m) h l []=h:=λh l=>by cases l<;>rfl
       rw [this];split
       .rfl
       .rename_i hnb;rcases hbr with hb | hb
        .exact absurd (by rw [Bool.and_eq_true];exact hb) hnb
        .rw [hb];rfl
      .cases hvk
     .simp only [aua,bI,List.nil_append];split
      .rfl
      .rename_i hnb;rcases hbr with hb | hb
       .exact absurd (by rw [Bool.and_eq_true];exact hb) hnb
       .rw [hb];rfl
    .cases hk
   .cases hk
  .cases hk
 .cases hk
def YD{X:XT}{E:Tab}(hX:XOK X E){C:Calls aG}{m:Nat}{s:St}{h:List aM}(H:fD s.h h)(hn:h.length=nm s.n s.k){t:Slots}{e:Nat->Option SVal}(he:EvR X E m (nmh h) t e){op:Op}
  {cr:CR (std m)} (hk:Vd (std m) X C e h op=some cr) (hps:∀b∈cr.ck,b=true) (hsome:∃v k,cr.k cr.y=some (v,k)):Mu (λK=>tJ E (jV C) op {s with t:=t} K) s.n s.h h cr:=by
 unfold Vd at hk;split at hk
 .rename_i c;split at hk
  .rename_i f hf;split at hk
   .rename_i g caps vs hfv hvs;obtain⟨pf,p1,p2⟩:=dG hX he hfv;obtain⟨x,rfl,hc⟩:=p2.cell;cases hc;obtain⟨ps,q1,q2⟩:=Vq hX he hvs;obtain⟨⟨sg,ct⟩,hct,hcr⟩:=zT hk;obtain⟨v,k,hvk⟩:=hsome;refine⟨v,k,hvk,λhp=> ?_,λK hK=> ?_⟩
    .obtain⟨a,b⟩:=YC hcr hp;exact⟨a v k hvk,b⟩
    .unfold tJ;simp only;rw [hf];simp only;unfold ahp;simp only;rw [p1];refine q2 _ ?_;have htab:jV C g=some λargs h n K=>∃ct∈C g,dD ct.2 args h n K:=by
      unfold jV;split
      .rename_i hnil;rw [hnil]at hct;cases hct
      .rfl
     rw [htab];refine⟨_,hct,m,vs++caps.map λp=> .c (.pb p.1 p.2 0),h,?_,H,hn,cr,hcr,hps,v,k,hvk,λr h'' j a1 a2 a3 a4=>hK r h'' _ a1 a2 a3 (by rw [a4,XR])⟩;refine q1.append ?_
     clear hvs hk hcr hfv p1 p2
     induction caps with
     | nil=>exact .nil
     | cons p caps ih=>exact .cons (.ofC .pb) ih
   .cases hk
  .cases hk
 .cases hk
def BG{X:XT}{E:Tab}(hX:XOK X E){C:Calls aG}{m:Nat}{s:St}{h:List aM}(H:fD s.h h)(hn:h.length=nm s.n s.k){t:Slots}{e:Nat->Option SVal}(he:EvR X E m (nmh h) t e){op:Op}
  {cr:CR (std m)} (hk:Xf (std m) X C e h op=some cr) (hps:∀b∈cr.ck,b=true) (hsome:∃v k,cr.k cr.y=some (v,k)):Mu (Oh E (jV C) op t s) s.n s.h h cr:=by
 unfold Xf at hk;by_cases hcl:iJ op=1
 .have hT:Oh E (jV C) op t s=gP E op t s.h s.n s.k:=by
   funext K;unfold Oh;split
   .rfl
   .rename_i h1;exact absurd hcl h1
  rw [hT]
  clear hT
  split at hk
  case h_2=>rename_i h1;exact absurd hcl h1
  clear hcl
  split at hk
  .rename_i ty p x _;split at hk
   .rename_i pv v hpv hv;split at hk
    .rename_i r hr;have key:∀cr':CR (std m),cr'.ck=r.chk->cr'.k cr'.y=some (r.v,r.h)->cr'.touched=r.touched->cr'.pure=false->cr'=cr->Mu (gP E (.store ty p x) t s.h s.n s.k) s.n s.h h cr:=by
      intro cr' e1 e2 e3 e4 e5;subst e5;have hheap:EJ (std m) X e h (.store ty p x)=some r:=by simp only [EJ,hpv,hv];exact hr
      exact .ap2 (Jf hX H hn he hheap (by rw [<-e1];exact hps)) e2 e3 e4
     split at hk
     .cases hk;exact key _ rfl (by simp only;rw [hr]) rfl rfl rfl
     .cases hk;exact key _ rfl (by simp only;rw [hr]) rfl rfl rfl
     .cases hk;exact key _ rfl (by simp only;rw [hr]) rfl rfl rfl
     .cases hk;exact key _ rfl (by simp only;rw [hr]) rfl rfl rfl
     .cases hk;exact key _ rfl rfl rfl rfl rfl
    .cases hk
   .cases hk
  .split at hk
   .rename_i r hr;have key:∀cr':CR (std m),cr'.ck=r.chk->cr'.k cr'.y=some (r.v,r.h)->cr'.touched=r.touched->cr'.pure=false->cr'=cr->Mu (gP E op t s.h s.n s.k) s.n s.h h cr:=by
     intro cr' e1 e2 e3 e4 e5;subst e5;exact .ap2 (Jf hX H hn he hr (by rw [<-e1];exact hps)) e2 e3 e4
    split at hk
    .rename_i l hrv;split at hk
     .rename_i f c xs hl;cases hk;refine key _ rfl ?_ rfl rfl rfl;simp only;have:r.h.set l (.rows f c xs)=r.h:=by
       apply List.ext_getElem?;intro i;rw [List.getElem?_set];split
       .rename_i e1;subst e1;rw [hl];split
        .rfl
        .rename_i hh;exact absurd (List.getElem?_eq_some_iff.1 hl).1 hh
       .rfl
      rw [this]
     .cases hk
    .cases hk;exact key _ rfl rfl rfl rfl rfl
   .cases hk
 .have hT:Oh E (jV C) op t s=λK=>tJ E (jV C) op {s with t:=t} K:=by
   funext K;unfold Oh;split
   .rename_i h1;exact absurd h1 hcl
   .rfl
  have hk:Vd (std m) X C e h op=some cr:=by
   revert hk;split
   .rename_i h1;exact absurd h1 hcl
   .exact id
  obtain⟨a,b,c,d,e⟩:=YD hX H hn he hk hps hsome;rw [hT];exact⟨a,b,c,d,e⟩
section
variable {n:Nat}
def zU(gs:List (GE (std n)))(t':Slots)(N:NM)(i:Nat)(sv:SV (std n)):Prop:=match sv.tag with
 | none=>∃pv,aX t' i=some pv/\PVR N pv sv.v
 | some t=>∃e,gs[t]? =some e/\(e.g=true->∃pv,aX t' i=some pv/\PVR N pv sv.v)/\(e.g=false->aX t' i=some nP)
structure GOK(gs:List (GE (std n)))(t':Slots)(e:GE (std n)):Prop where
 yes:∀d,e.slot=some d->e.g=true->∃f,aX t' d=some (.c (.d f (.bool e.want)))
 no:∀d,e.slot=some d->e.g=false->(∃f,aX t' d=some (.c (.d f (.bool (!e.want)))))\/aX t' d=some nP
 dead:e.dead=true->e.g=false
 par:∀p,e.par=some p->∃q,gs[p]? =some q/\(e.g=true->q.g=true)
structure SR(s':St)(s:RSt (std n)):Prop where
 heap:fD s'.h s.h
 len:s.h.length=nm s'.n s'.k
 m:s'.m=s.m
 val:∀i sv,dF (std n) s.t i=some sv->zU s.gs s'.t (nmh s.h) i sv
 gs:∀(t:Nat) (e:GE (std n)),s.gs[t]? =some e->GOK s.gs s'.t e
def Keep(k:Nat)(h0 h:List aM):Prop:=∀i,i<k->(Gone h0 i->Gone h i)/\∀x,nmh h0 i=some x->Gone h i\/nmh h i=some x
theorem Keep.refl(k:Nat)(h:List aM):Keep k h h:=λ_ _=>⟨id,λ_ h=> .inr h⟩
theorem Keep.trans{k:Nat}{a b c:List aM}(x:Keep k a b)(y:Keep k b c):Keep k a c:=λi hi=>
 ⟨λh=>(y i hi).1 ((x i hi).1 h),λv hv=>((x i hi).2 v hv).elim (λh=> .inl ((y i hi).1 h)) λh=>(y i hi).2 v h⟩
theorem iI.Mf{a' b':Heap}{a b:List aM}{td:List Nat}(x:iI a' a b' b td)(k:Nat):Keep k a b:=λi _=>⟨x.gone i,λv hv=> .inr (x.same i v hv)⟩
theorem nI{d i:Nat}{sv:SV (std n)}{t:List (Nat×SV (std n))}:dF (std n) ((d,sv)::t) i=if d=i then some sv else dF (std n) t i:=by
 simp only [dF,beq_iff_eq]
theorem zU.mono{gs gs2:List (GE (std n))}{t' t2:Slots}{N M:NM}{i:Nat}{sv:SV (std n)}(h:zU gs t' N i sv)(hg:∀(t:Nat) (e:GE (std n)),gs[t]? =some e->∃e2,gs2[t]? =some e2/\e2.g=e.g)(hl:aX t2 i=aX t' i)(hN:∀l x,N l=some x->M l=some x):zU gs2 t2 M i sv:=by
 unfold zU at h ⊢;cases hs:sv.tag with
 | none=>
  rw [hs]at h;simp only at h ⊢;obtain⟨pv,h1,h2⟩:=h;exact⟨pv,by rw [hl];exact h1,h2.mono hN⟩
 | some t=>
  rw [hs]at h;simp only at h ⊢;obtain⟨e,h1,h2,h3⟩:=h;obtain⟨e2,h4,h5⟩:=hg t e h1;refine⟨e2,h4,λh=> ?_,λh=>by rw [hl];exact h3 (h5▸h)⟩;obtain⟨pv,q1,q2⟩:=h2 (h5▸h);exact⟨pv,by rw [hl];exact q1,q2.mono hN⟩
theorem kW(d:Nat)(e:GE (std n)):(lV (std n) d e).g=e.g:=by unfold lV;split<;>(try split)<;>rfl
theorem qJ{d:Nat}{e:GE (std n)}{x:Nat}(h:(lV (std n) d e).slot=some x):e.slot=some x/\x≠d:=by
 unfold lV at h;split at h
 .rename_i y hy;split at h
  .cases h
  .rename_i hne;rw [hy]at h;cases h;exact⟨hy,by simpa using hne⟩
 .rename_i hn;rw [hn]at h;cases h
theorem iO(d:Nat)(e:GE (std n)):(lV (std n) d e).want=e.want/\(lV (std n) d e).par=e.par/\(lV (std n) d e).dead=e.dead:=by unfold lV;split<;>(try split)<;>exact⟨rfl,rfl,rfl⟩
theorem SR.put{s':St}{s:RSt (std n)}(S:SR s' s){d:Option Nat}{tag:Option Nat}{v:SVal}{ov:Option PV}
  (hv:match tag with
   | none=>∃pv,ov=some pv/\PVR (nmh s.h) pv v
   | some t=>∃e,s.gs[t]? =some e/\(e.g=true->∃pv,ov=some pv/\PVR (nmh s.h) pv v)/\(e.g=false->ov=some nP)):SR (s'.put d ov) (s.put (std n) d tag v):=by
 cases d with
 | none=>exact S
 | some d=>
  have hg:∀(t:Nat) (e:GE (std n)),s.gs[t]? =some e->∃e2,(s.gs.map (lV (std n) d))[t]? =some e2/\e2.g=e.g:=λt e h=>⟨lV (std n) d e,by simp [h],kW d e⟩
  refine⟨S.heap,S.len,S.m,λi sv hi=> ?_,λt e he=> ?_⟩
  .simp only [RSt.put]at hi;rw [nI]at hi;split at hi
   .rename_i e;subst e;cases hi;unfold zU;cases tag with
    | none=>
     obtain⟨pv,h1,h2⟩:=hv;exact⟨pv,by simp only [St.put,gQ,if_pos rfl];exact h1,h2⟩
    | some t=>
     obtain⟨e,h1,h2,h3⟩:=hv;obtain⟨e2,h4,h5⟩:=hg t e h1;refine⟨e2,h4,λh=> ?_,λh=> ?_⟩
     .obtain⟨pv,q1,q2⟩:=h2 (h5▸h);exact⟨pv,by simp only [St.put,gQ,if_pos rfl];exact q1,q2⟩
     .simp only [St.put,gQ,if_pos rfl];exact h3 (h5▸h)
   .rename_i e;exact(S.val i sv hi).mono hg (by simp only [St.put,gQ,if_neg e]) (λ_ _ h=>h)
  .simp only [RSt.put,List.getElem?_map,Option.map_eq_some_iff]at he;obtain⟨e0,h0,rfl⟩:=he;have G:=S.gs t e0 h0;have hl:∀x,x≠d->aX (St.put s' (some d) ov).t x=aX s'.t x:=λx hx=>by simp only [St.put,gQ,if_neg (Ne.symm hx)]
   refine⟨λx hx hgt=> ?_,λx hx hgf=> ?_,λhd=> ?_,λp hp=> ?_⟩
   .obtain⟨a,b⟩:=qJ hx;rw [hl x b,(iO d e0).1];exact G.yes x a (by rw [<-kW d e0];exact hgt)
   .obtain⟨a,b⟩:=qJ hx;rw [hl x b,(iO d e0).1];exact G.no x a (by rw [<-kW d e0];exact hgf)
   .rw [kW];exact G.dead (by rw [<-(iO d e0).2.2];exact hd)
   .obtain⟨q,h1,h2⟩:=G.par p (by rw [<-(iO d e0).2.1];exact hp);refine⟨lV (std n) d q,by simp [RSt.put,h1],λh=> ?_⟩;rw [kW]at h ⊢;exact h2 h
theorem qK{d i:Nat}:∀ {t:List (Nat×SV (std n))} {sv:SV (std n)},dF (std n) (t.filter λp=> !(p.1==d)) i=some sv->i≠d/\dF (std n) t i=some sv
 | [],_,h=>by cases h
 | (j,x)::r,sv,h=>by
  by_cases c:j=d
  .subst c;rw [List.filter_cons_of_neg (by simp)]at h;obtain⟨h1,h2⟩:=qK h;refine⟨h1,?_⟩;rw [nI,if_neg (Ne.symm h1)];exact h2
  .rw [List.filter_cons_of_pos (by simpa using c),nI]at h;rw [nI];split at h
   .rename_i e;rw [if_pos e];exact⟨λe2=>c (e.trans e2),h⟩
   .rename_i e;rw [if_neg e];exact qK h
theorem SR.del{s':St}{s:RSt (std n)}(S:SR s' s){d:Option Nat}:SR (s'.put d none) (s.del (std n) d):=by
 cases d with
 | none=>exact S
 | some d=>
  have hg:∀(t:Nat) (e:GE (std n)),s.gs[t]? =some e->∃e2,(s.gs.map (lV (std n) d))[t]? =some e2/\e2.g=e.g:=λt e h=>⟨lV (std n) d e,by simp [h],kW d e⟩
  refine⟨S.heap,S.len,S.m,λi sv hi=> ?_,λt e he=> ?_⟩
  .simp only [RSt.del]at hi;obtain⟨e,hi⟩:=qK hi;exact(S.val i sv hi).mono hg (by simp only [St.put,gQ,if_neg (Ne.symm e)]) (λ_ _ h=>h)
  .simp only [RSt.del,List.getElem?_map,Option.map_eq_some_iff]at he;obtain⟨e0,h0,rfl⟩:=he;have G:=S.gs t e0 h0;have hl:∀x,x≠d->aX (St.put s' (some d) none).t x=aX s'.t x:=λx hx=>by simp only [St.put,gQ,if_neg (Ne.symm hx)]
   refine⟨λx hx hgt=> ?_,λx hx hgf=> ?_,λhd=> ?_,λp hp=> ?_⟩
   .obtain⟨a,b⟩:=qJ hx;rw [hl x b,(iO d e0).1];exact G.yes x a (by rw [<-kW d e0];exact hgt)
   .obtain⟨a,b⟩:=qJ hx;rw [hl x b,(iO d e0).1];exact G.no x a (by rw [<-kW d e0];exact hgf)
   .rw [kW];exact G.dead (by rw [<-(iO d e0).2.2];exact hd)
   .obtain⟨q,h1,h2⟩:=G.par p (by rw [<-(iO d e0).2.1];exact hp);refine⟨lV (std n) d q,by simp [RSt.del,h1],λh=> ?_⟩;rw [kW]at h ⊢;exact h2 h
theorem ap3{s:RSt (std n)}{d:Option Nat}:(s.del (std n) d).h=s.h/\(s.del (std n) d).m=s.m:=by cases d<;>exact⟨rfl,rfl⟩
theorem SR.yR{s':St}{s:RSt (std n)}(S:SR s' s){h'':Heap}{k:List aM}{j:Nat}(hs:Same s.h k)(hR:fD h'' k)(hl:k.length=nm s'.n j):SR {s' with h:=h'',k:=j} {s with h:=k}:=
 ⟨hR,hl,S.m,λi sv hi=>(S.val i sv hi).mono (λ_ e h=>⟨e,h,rfl⟩) rfl hs,S.gs⟩
theorem E8:∀ {gs:List (GE (std n))} {d:Nat} {w:Bool} {i t:Nat},wV (std n) gs d w i=some t->∃e,i<=t/\gs[t-i]? =some e/\e.slot=some d/\e.want=w
 | [],_,_,_,_,h=>by simp [wV]at h
 | e::r,d,w,i,t,h=>by
  simp only [wV]at h;split at h
  .rename_i hc;cases h;simp only [Bool.and_eq_true,beq_iff_eq]at hc;exact⟨e,Nat.le_refl _,by simp,hc.1,hc.2⟩
  .obtain⟨e',h1,h2,h3⟩:=E8 h;refine⟨e',ah,?_,h3⟩;rw [show t-i=t- (i+1)+1 by omega];simpa using h2
theorem Mg{gs:List (GE (std n))}{d:Nat}{w:Bool}{t:Nat}(h:wV (std n) gs d w 0=some t):∃e,gs[t]? =some e/\e.slot=some d/\e.want=w:=by
 obtain⟨e,_,h2,h3⟩:=E8 h;exact⟨e,by simpa using h2,h3⟩
theorem om{gs:List (GE (std n))}{t':Slots}(hg:∀(t:Nat) (e:GE (std n)),gs[t]? =some e->GOK gs t' e):∀ {f:Nat} {o:Option Nat},(∀t,o=some t->∃e,gs[t]? =some e/\e.g=true)->∀t∈Oa (std n) gs f o,∃e,gs[t]? =some e/\e.g=true
 | 0,_,_,t,ht=>by simp [Oa]at ht
 | _+1,none,_,t,ht=>by simp [Oa]at ht
 | f+1,some x,h,t,ht=>by
  simp only [Oa,List.mem_cons]at ht;rcases ht with rfl | ht
  .exact h t rfl
  .obtain⟨e,h1,h2⟩:=h x rfl;rw [h1]at ht;refine om hg (o:=e.par) (λp hp=> ?_) t ht;obtain⟨q,q1,q2⟩:=(hg x e h1).par p hp;exact⟨q,q1,q2 h2⟩
theorem pW{X:XT}{E:Tab}{gs:List (GE (std n))}{t' tt:Slots}{N:NM}{lk:Nat->Option (SV (std n))}(htt:∀d,(lk d).isSome->aX tt d=aX t' d)(hv:∀i sv,lk i=some sv->zU gs t' N i sv){al:List Nat}(hal:∀t∈al,∃e,gs[t]? =some e/\e.g=true):
  EvR X E n N tt (gK (std n) lk al):=by
 intro i v hi;unfold gK at hi;split at hi
 .rename_i v' hl;cases hi;rw [htt i (by rw [hl];rfl)];exact hv i _ hl
 .rename_i t v' hl;split at hi
  .rename_i hc;cases hi;obtain⟨e,h1,h2⟩:=hal t (by simpa using hc);obtain⟨e',h3,h4,_⟩:=hv i _ hl;rw [h1]at h3;cases h3;rw [htt i (by rw [hl];rfl)];exact h4 h2
  .cases hi
 .cases hi
theorem fQ{ρ:Type}{Q:ρ->Prop}:∀ {ps:List Bool} {mm:(ρ->Prop)->Prop},gL (std n) ps mm Q->(∀b∈ps,b=true)/\mm Q
 | [],mm,h=>⟨λ_ h=>by simp at h,h⟩
 | b::ps,mm,h=>by
  obtain⟨hb,h⟩:b=true/\gL (std n) ps mm Q:=h;obtain⟨h1,h2⟩:=fQ (ps:=ps) h;exact⟨λx hx=>by cases hx with | head=>exact hb | tail _ hx=>exact h1 x hx,h2⟩
theorem zV{g:Bool}{ps:List Bool}(h:∀b∈under (std n) g ps,b=true)(hg:g=true):∀b∈ps,b=true:=λb hb=>by
 have:=h (!g || b) (List.mem_map.2 ⟨b,hb,rfl⟩);simpa [hg]using this
theorem DL{ρ:Type}(op:Op)(v:SVal)(K:SVal->(ρ->Prop)->Prop):Ve (std n) op v K=K v:=by
 unfold Ve;split
 .split<;>rfl
 .rfl
theorem BH{ρ:Type}{cr:CR (std n)}{K:SVal->List aM->(ρ->Prop)->Prop}{Q:ρ->Prop}(h:rE (std n) cr K Q):∃v k,cr.k cr.y=some (v,k)/\K v k Q:=by
 obtain⟨ck,ts,y,k,td,p⟩:=cr;unfold rE at h;cases ts with
 | nil=>
  simp only at h ⊢;cases hk:k y with
  | none=>rw [hk]at h;exact h.elim
  | some x=>rw [hk]at h;exact⟨x.1,x.2,rfl,h⟩
 | cons a b=>
  simp only at h ⊢;cases hk:k y with
  | none=>rw [hk]at h;exact h.elim
  | some x=>rw [hk]at h;exact⟨x.1,x.2,rfl,h⟩
theorem wB{X:XT}{E:Tab}(hX:XOK X E){h':Heap}{h:List aM}(H:fD h' h){gs:List (GE (std n))}{t' tt:Slots}(hg:∀(t:Nat) (e:GE (std n)),gs[t]? =some e->GOK gs t' e)
  {lk:Nat->Option (SV (std n))} (htt:∀d,(lk d).isSome->aX tt d=aX t' d) (hv:∀i sv,lk i=some sv->zU gs t' (nmh h) i sv) {cur:Option Nat} (hcur:∀t,cur=some t->∃e,gs[t]? =some e/\e.g=true) {op:Op} {v:SVal} {ps:List Bool}
  (hk:tY (std n) X lk gs h cur op=some (ps,v)) (hps:∀b∈ps,b=true):Gv (gF E op tt h') (nmh h) v:=by
 have hal:=om hg hcur (f:=gs.length+1);have he:EvR X E n (nmh h) tt (gK (std n) lk (eZ (std n) gs cur)):=pW htt hv hal;unfold tY at hk;split at hk
 .rename_i c a b;simp only at hk;split at hk
  .rename_i fq q hc;obtain⟨pc,c1,c2⟩:=dG hX he hc;obtain⟨g,rfl⟩:=c2.bool;have halt:∀w,q=w->∀t∈(match c with | .tmp d=>(match wV (std n) gs d w 0 with | some t=>eZ (std n) gs (some t)++eZ (std n) gs cur | none=>eZ (std n) gs cur) | _=>eZ (std n) gs cur),∃e,gs[t]? =some e/\e.g=true:=by
    intro w hw t ht;split at ht
    .rename_i d;split at ht
     .rename_i t0 hf;obtain⟨e,e1,e2,e3⟩:=Mg hf;rcases List.mem_append.1 ht with ht | ht
      .refine om hg (λx hx=> ?_) t ht;cases hx;refine⟨e,e1,?_⟩;cases hgg:e.g with
       | true=>rfl
       | false=>
        have hls:(lk d).isSome:=by
         have hc':gK (std n) lk (eZ (std n) gs cur) d=some (.c (.d fq (.bool q))):=hc;unfold gK at hc';split at hc'
         .rename_i hl;rw [hl];rfl
         .rename_i hl;rw [hl];rfl
         .cases hc'
        have hd:aX t' d=some (.c (.d g (.bool q))):=by rw [<-htt d hls];exact c1
        rcases(hg t0 e e1).no d e2 hgg with⟨f,hh⟩ | hh
        .rw [hd]at hh;simp only [Option.some.injEq,PV.c.injEq,Cell.d.injEq,D.bool.injEq]at hh;rw [e3,<-hw]at hh;cases q<;>simp at hh
        .rw [hd]at hh;simp [nP]at hh
      .exact hal t ht
     .exact hal t ht
    .exact hal t ht
   have hea:q=true->∀ {v},evX (std n) X (gK (std n) lk (match c with | .tmp d=>(match wV (std n) gs d true 0 with | some t=>eZ (std n) gs (some t)++eZ (std n) gs cur | none=>eZ (std n) gs cur) | _=>eZ (std n) gs cur)) a=some v->∃pv,ev E tt a=some pv/\PVR (nmh h) pv v:=
    λhq v hva=>dG hX (pW htt hv (halt true hq)) hva
   have heb:q=false->∀ {v},evX (std n) X (gK (std n) lk (match c with | .tmp d=>(match wV (std n) gs d false 0 with | some t=>eZ (std n) gs (some t)++eZ (std n) gs cur | none=>eZ (std n) gs cur) | _=>eZ (std n) gs cur)) b=some v->∃pv,ev E tt b=some pv/\PVR (nmh h) pv v:=
    λhq v hva=>dG hX (pW htt hv (halt false hq)) hva
   have fin:∀pv,PVR (nmh h) pv v->(q=true->ev E tt a=some pv)->(q=false->ev E tt b=some pv)->Gv (gF E (.pick c a b) tt h') (nmh h) v:=by
    intro pv h1 h2 h3;refine⟨pv,h1,λK hK=> ?_⟩;unfold gF;simp only;rw [c1];exact⟨λhq=>iH (h2 hq) _ hK,λhq=>iH (h3 hq) _ hK⟩
   split at hk
   .rename_i y hx hy;cases hk;have hq:q=false:=by simpa using hps (!q) (by simp)
    obtain⟨pv,p1,p2⟩:=heb hq hy;exact fin pv p2 (λh=>by rw [hq]at h;cases h) λ_=>p1
   .rename_i x hx hy;cases hk;have hq:q=true:=by simpa using hps q (by simp)
    obtain⟨pv,p1,p2⟩:=hea hq hx;exact fin pv p2 (λ_=>p1) λh=>by rw [hq]at h;cases h
   .rename_i x y hx hy _ _;unfold LC at hk;split at hk
    .rename_i z hz;cases hk;cases hq:q with
     | true=>
      obtain⟨pv,p1,p2⟩:=hea hq ‹_›;have:=LY (N:=nmh h) (px:=pv) (py:=pv) (q:=q) (λ_=>p2) (λh=>by rw [hq]at h;cases h) hz;rw [hq]at this;exact fin pv this (λ_=>p1) λh=>by rw [hq]at h;cases h
     | false=>
      obtain⟨pv,p1,p2⟩:=heb hq ‹_›;have:=LY (N:=nmh h) (px:=pv) (py:=pv) (q:=q) (λh=>by rw [hq]at h;cases h) (λ_=>p2) hz;rw [hq]at this;exact fin pv this (λh=>by rw [hq]at h;cases h) λ_=>p1
    .cases hk
   .cases hk
  .cases hk
 .exact Yu hX H he hk hps
inductive GM (s':St) (s:RSt (std n)) (tt:Slots) (d:Nat) (want:Bool):GR (std n)->Prop
 | skip:(∀T F:Prop,F->kM (aX tt d) want T F)->GM s' s tt d want .skip
 | run {gs:List (GE (std n))} {t:Nat} {g:Bool} {e:GE (std n)}:SR s' {s with gs:=gs}->gs[t]? =some e->e.g=g->(∀i sv,dF (std n) s.t i=some sv->zU gs s'.t (nmh s.h) i sv)->
  (g=true->∀T F:Prop,T->kM (aX tt d) want T F)->(g=false->∀T F:Prop,F->kM (aX tt d) want T F)->GM s' s tt d want (.run gs t g)
theorem E9{s':St}{s:RSt (std n)}(S:SR s' s){lk:Nat->Option (SV (std n))}(hlk:∀i sv,lk i=some sv->dF (std n) s.t i=some sv){tt:Slots}{d:Nat}{want:Bool}(htt:(lk d).isSome->aX tt d=aX s'.t d){r:GR (std n)}(hr:EL (std n) lk s.gs d want=r)(hb:r≠ .bad):
    GM s' s tt d want r:=by
  unfold EL at hr;split at hr
  · exact absurd hr.symm hb
  · rename_i tg v hd;have hL:=htt (by rw [hd];rfl);have hval:=S.val d _ (hlk d _ hd);split at hr
    · rename_i t hf;obtain⟨e,e1,e2,e3⟩:=Mg hf;rw [e1]at hr;simp only at hr;have G:=S.gs t e e1;have hT:e.g=true->∀T F:Prop,T->kM (aX tt d) want T F:=λhg T F hT=>by
        obtain⟨f,hl⟩:=G.yes d e2 hg;rw [hL,hl,e3];exact fK (λ_=>hT) (λh=>absurd rfl h)
      have hF:e.g=false->∀T F:Prop,F->kM (aX tt d) want T F:=λhg T F hF=>by
        rcases G.no d e2 hg with⟨f,hl⟩ | hl
        · rw [hL,hl,e3];exact fK (λh=>by cases want<;>simp at h) (λ_=>hF)
        · rw [hL,hl];exact hF
      split at hr
      · rename_i ap4;subst hr;exact .skip (hF (G.dead ap4))
      · subst hr;exact .run S e1 rfl S.val hT hF
    · split at hr
      · rename_i f b;obtain⟨b,rfl⟩:∃b':Bool,b'=b:=⟨b,rfl⟩;have hg0:(if want then b else !b)=(b==want):=by cases want<;>cases b<;>rfl
        simp only at hr;have ext:∀(e:GE (std n)) (gs:List (GE (std n))),gs=s.gs++ [e]->GOK gs s'.t e->SR s' {s with gs:=gs}/\(∀i sv,dF (std n) s.t i=some sv->zU gs s'.t (nmh s.h) i sv)/\gs[s.gs.length]? =some e:=by
          intro e gs hgs hG;subst hgs;have hmono:∀(t:Nat) (x:GE (std n)),s.gs[t]? =some x->(s.gs++ [e])[t]? =some x:=λt x hx=>by rw [List.getElem?_append_left (List.getElem?_eq_some_iff.1 hx).1];exact hx
          have pX:∀i sv,dF (std n) s.t i=some sv->zU (s.gs++ [e]) s'.t (nmh s.h) i sv:=λi sv hi=>(S.val i sv hi).mono (λt x hx=>⟨x,hmono t x hx,rfl⟩) rfl (λ_ _ h=>h)
          refine⟨⟨S.heap,S.len,S.m,pX,λt x hx=> ?_⟩,pX,by simp⟩;by_cases hlt:t<s.gs.length
          · simp only at hx;rw [List.getElem?_append_left hlt]at hx;have G:=S.gs t x hx;exact⟨G.yes,G.no,G.dead,λp hp=>let⟨q,q1,q2⟩:=G.par p hp;⟨q,hmono p q q1,q2⟩⟩
          · simp only at hx;rw [List.getElem?_append_right ah]at hx;have:t-s.gs.length=0:=by
              have:=(List.getElem?_eq_some_iff.1 hx).1;simp at this;omega
            rw [this]at hx;simp at hx;subst hx;exact hG
        split at hr
        · subst hr;obtain⟨pv,p1,p2⟩:=hval;obtain⟨g,rfl⟩:=p2.bool;have hG:GOK (s.gs++ [⟨some d,want,none,if want then b else !b,false⟩]) s'.t ⟨some d,want,none,if want then b else !b,false⟩:=by
            refine⟨λx hx hgt=> ?_,λx hx hgf=> ?_,λh=>(by cases h),λp hp=>(by cases hp)⟩
            · cases hx;have hgt:(if want then b else !b)=true:=hgt;rw [hg0]at hgt
              exact ⟨g, by rw [p1]; have : b = want := by simpa using hgt
                           rw [this]⟩
            · cases hx;have hgf:(if want then b else !b)=false:=hgf;rw [hg0]at hgf;refine .inl ⟨g,?_⟩;rw [p1];have:b= !want:=by cases b<;>cases want<;>simp_all
              rw [this]
          obtain⟨q1,q2,q3⟩:=ext ⟨some d,want,none,if want then b else !b,false⟩ _ rfl hG;refine .run q1 q3 rfl q2 (λhg T F hT=> ?_) (λhg T F hF=> ?_)
          · rw [hL,p1];refine fK (λ_=>hT) (λh=> ?_);have hg:(if want then b else !b)=true:=hg;rw [hg0]at hg;exact absurd (by simpa using hg) h
          · rw [hL,p1];refine fK (λh=> ?_) (λ_=>hF);have hg:(if want then b else !b)=false:=hg;rw [hg0,h]at hg;simp at hg
        · rename_i t';split at hr
          · rename_i e0 he0;subst hr;obtain⟨e0',h3,h4,h5⟩:=hval;rw [he0]at h3;cases h3;have hboth:e0.g=true->∃g,aX s'.t d=some (.c (.d g (.bool b))):=λhg=>by
              obtain⟨pv,p1,p2⟩:=h4 hg;obtain⟨g,rfl⟩:=p2.bool;exact⟨g,p1⟩
            have hT:(e0.g&& (if want then b else !b))=true->∃g,aX s'.t d=some (.c (.d g (.bool want))):=λh=>by
              simp only [Bool.and_eq_true]at h;obtain⟨g,hh⟩:=hboth h.1;have:=h.2;rw [hg0]at this
              exact ⟨g, by rw [hh]; have : b = want := by simpa using this
                           rw [this]⟩
            have hF:(e0.g&& (if want then b else !b))=false->(∃g,aX s'.t d=some (.c (.d g (.bool (!want)))))\/aX s'.t d=some nP:=λh=>by
              cases hg:e0.g with
              | false=>exact .inr (h5 hg)
              | true=>
                rw [hg]at h;simp only [Bool.true_and]at h;rw [hg0]at h;obtain⟨g,hh⟩:=hboth hg;refine .inl ⟨g,?_⟩;rw [hh];have:b= !want:=by cases b<;>cases want<;>simp_all
                rw [this]
            have hG:GOK (s.gs++ [⟨some d,want,some t',e0.g&& (if want then b else !b),false⟩]) s'.t ⟨some d,want,some t',e0.g&& (if want then b else !b),false⟩:=by
              refine⟨λx hx hgt=> ?_,λx hx hgf=> ?_,λh=>(by cases h),λp hp=> ?_⟩
              · cases hx;exact hT hgt
              · cases hx;exact hF hgf
              · cases hp;refine⟨e0,by rw [List.getElem?_append_left (List.getElem?_eq_some_iff.1 he0).1];exact he0,λh=> ?_⟩;have h:(e0.g&& (if want then b else !b))=true:=h;simp only [Bool.and_eq_true]at h;exact h.1
            obtain⟨q1,q2,q3⟩:=ext ⟨some d,want,some t',e0.g&& (if want then b else !b),false⟩ _ rfl hG;refine .run q1 q3 rfl q2 (λhg T F hTT=> ?_) (λhg T F hFF=> ?_)
            · obtain⟨g,hh⟩:=hT hg;rw [hL,hh];exact fK (λ_=>hTT) (λh=>absurd rfl h)
            · rcases hF hg with⟨g,hh⟩ | hh
              · rw [hL,hh];exact fK (λh=>by cases want<;>simp at h) (λ_=>hFF)
              · rw [hL,hh];exact hFF
          · exact absurd hr.symm hb
      · split at hr
        · subst hr;obtain⟨pv,p1,p2⟩:=hval;have:pv=nP:=by
            cases p2 with
            | one h=>cases h with
              | agg hs _=>simp [bF]at hs
            | tup h=>cases h;rfl
          subst this;exact .skip λT F hF=>by rw [hL,p1];exact hF
        · exact absurd hr.symm hb
      · exact absurd hr.symm hb
end
end Go.TX
namespace Go.TX
open Go Go.AE
section
variable {n:Nat}
theorem SR.kill{s':St}{s:RSt (std n)}(S:SR s' s){t:Nat}{e:GE (std n)}(he:s.gs[t]? =some e)(hg:e.g=false):SR s' {s with gs:=zN (std n) s.gs t}:=by
 have hk:zN (std n) s.gs t=s.gs.set t {e with dead:=true}:=by unfold zN;rw [he]
 have hl:=(List.getElem?_eq_some_iff.1 he).1;have hmono:∀(i:Nat) (x:GE (std n)),s.gs[i]? =some x->∃x2,(s.gs.set t {e with dead:=true})[i]? =some x2/\x2.g=x.g:=λi x hx=>by
  by_cases h:t=i
  .subst h;rw [he]at hx;cases hx;exact⟨_,List.getElem?_set_self hl,rfl⟩
  .exact⟨x,by rw [List.getElem?_set_ne h];exact hx,rfl⟩
 rw [hk];refine⟨S.heap,S.len,S.m,λi sv hi=>(S.val i sv hi).mono hmono rfl (λ_ _ h=>h),λi x hx=> ?_⟩;have par:∀ {x:GE (std n)},(∀p,x.par=some p->∃q,s.gs[p]? =some q/\(x.g=true->q.g=true))->∀p,x.par=some p->∃q,(s.gs.set t {e with dead:=true})[p]? =some q/\(x.g=true->q.g=true):=λh p hp=>by
  obtain⟨q,q1,q2⟩:=h p hp;obtain⟨q',r1,r2⟩:=hmono p q q1;exact⟨q',r1,λh=>by rw [r2];exact q2 h⟩
 by_cases h:t=i
 .subst h;simp only [List.getElem?_set_self hl,Option.some.injEq]at hx;subst hx;have G:=S.gs t e he;exact⟨G.yes,G.no,λ_=>hg,par G.par⟩
 .simp only [List.getElem?_set_ne h]at hx;have G:=S.gs i x hx;exact⟨G.yes,G.no,G.dead,par G.par⟩
theorem Fa{E:Tab}{G:ni}{o:Oper}{s:St}{K:St->Prop}(h:iJ o.op≠0)(hd:dOK s.m o.dst)(hm:Oh E G o.op s.t s λv h k=>K (St.put {s with h:=h,k:=k} o.dst (some v))):XY E G o s K:=by
 refine⟨hd,?_⟩;unfold Oh at hm;split
 .rename_i h0;exact absurd h0 h
 .rename_i h1;rw [h1]at hm;exact hm
 .rename_i h0 h1;split at hm
  .rename_i h2;exact absurd h2 h1
  .exact hm
theorem Hq{E:Tab}{G:ni}{o:Oper}{s:St}{K:St->Prop}(h:iJ o.op=0)(hd:dOK s.m o.dst)(hm:gF E o.op s.t s.h λv=>K (s.put o.dst (some v))):XY E G o s K:=by
 refine⟨hd,?_⟩;rw [h];exact hm
theorem YE{m:Nat}{d:Option Nat}(h:Vb m d=true):dOK m d:=by
 cases d with
 | none=>trivial
 | some d=>unfold Vb at h;exact(by simpa using h:d<m)
theorem ahx{s:RSt (std n)}{d tag:Option Nat}{v:SVal}:(s.put (std n) d tag v).h=s.h/\(s.put (std n) d tag v).m=s.m:=by cases d<;>exact⟨rfl,rfl⟩
theorem YF{N:NM}:PVR N nP (.tup []):= .tup .nil
theorem Hr{X:XT}{E:Tab}(hX:XOK X E){C:Calls aG}{ops:List Oper}{ρ:Type}{K:RSt (std n)->(ρ->Prop)->Prop}{r:ρ->Prop}{h0:List aM}{m0:Nat}:∀ {rest:List Oper} {s':St} {s:RSt (std n)},SR s' s->(∀k,Keep k h0 s.h)->s.m=m0->fF (std n) X C ops rest K s r->
  yI E (jV C) ops rest (λs1'=>∃s1,SR s1' s1/\(∀k,Keep k h0 s1.h)/\s1.m=m0/\K s1 r) s'
 | [],s',s,S,hK0,hm0,hk=>⟨s,S,hK0,hm0,hk⟩
 | o::rest,s',s,S,hK0,hm0,hk=>by
  generalize hM:fF (std n) X C ops (o::rest) K s=M at hk;unfold fF at hM;split at hM
  .rename_i hdst;have hd:dOK s'.m o.dst:=by rw [S.m];exact YE hdst
   have go:∀ {s2':St} {s2:RSt (std n)} {tag:Option Nat} {v:SVal},SR s2' (s2.put (std n) o.dst tag v)->(∀k,Keep k s.h s2.h)->s2.m=s.m->fF (std n) X C ops rest K (s2.put (std n) o.dst tag v) r->
     yI E (jV C) ops rest (λs1'=>∃s1,SR s1' s1/\(∀k,Keep k h0 s1.h)/\s1.m=m0/\K s1 r) s2':=by
    intro s2' s2 tag v S2 hkeep hm2 hk2;have e1:=ahx (n:=n) (s:=s2) (d:=o.dst) (tag:=tag) (v:=v);exact Hr hX (rest:=rest) S2 (λk=>by rw [e1.1];exact(hK0 k).trans (hkeep k)) (by rw [e1.2,hm2,hm0]) hk2
   have hev:∀ {gs:List (GE (std n))},SR s' {s with gs:=gs}->∀ {al:List Nat},(∀t∈al,∃e,gs[t]? =some e/\e.g=true)->EvR X E n (nmh s.h) s'.t (gK (std n) (dF (std n) s.t) al):=λS _ hal=>pW (λ_ _=>rfl) S.val hal
   unfold yI Bo;split at hM
   .rename_i hguard;rw [hguard];simp only;split at hM
    .rename_i hcl;have hcl:iJ o.op=0:=by simpa using hcl
     split at hM
     .rename_i ps v hv;subst hM;obtain⟨hps,hk⟩:=fQ hk;rw [DL]at hk;obtain⟨pv,p1,p2⟩:=wB hX S.heap S.gs (tt:=s'.t) (λ_ _=>rfl) S.val (cur:=none) (λt h=>by cases h) hv hps;refine Hq hcl hd (p2 _ (go (S.put (tag:=none) ⟨pv,rfl,p1⟩) (λ_=> .refl _ _) rfl hk))
     ·(subst hM;exact hk.elim)
    .rename_i hcl;have hcl:iJ o.op≠0:=by simpa using hcl
     split at hM
     .rename_i cr hcr;subst hM;obtain⟨hps,hk⟩:=fQ hk;obtain⟨v,k,hvk,hk⟩:=BH hk;obtain⟨v',k',e1,_,e3⟩:=BG hX S.heap S.len (hev S (al:=[]) (λt h=>by simp at h)) hcr hps ⟨v,k,hvk⟩;rw [hvk]at e1;cases e1;refine Fa hcl hd (e3 _ λpv h'' j a1 a2 a3 a4=> ?_);have S2:=S.yR a3.same a2 a4;exact go (s2:={s with h:=k}) (S2.put (tag:=none) ⟨pv,rfl,a1⟩) a3.Mf rfl hk
     ·(subst hM;exact hk.elim)
   .rename_i j want hguard;rw [hguard];simp only;refine⟨hd,?_⟩;split at hM
    .rename_i d hgs;rw [hgs];simp only [CJ];have hgm:=λhb=>E9 S (lk:=dF (std n) s.t) (λ_ _ h=>h) (tt:=s'.t) (d:=d) (want:=want) (λ_=>rfl) rfl hb
     split at hM
     .rename_i hr;rw [hr]at hgm;subst hM;cases hgm (by simp)with | skip h=>
      refine h _ _ (go (s2:=s) (S.put (tag:=none) ⟨nP,rfl,YF⟩) (λ_=> .refl _ _) rfl hk)
     .rename_i gs t g hr;rw [hr]at hgm;cases hgm (by simp)with | run S1 hget hg pX hT hF=>
      rename_i e;subst hg;have hcur:e.g=true->∀t0,some t=some t0->∃e,gs[t0]? =some e/\e.g=true:=λh t0 ht=>by cases ht;exact⟨e,hget,h⟩
      split at hM
      .rename_i hcl;have hcl:iJ o.op=0:=by simpa using hcl
       split at hM
       .rename_i ps v hv;subst hM;obtain⟨hps,hk⟩:=fQ hk;cases hg:e.g with
        | true=>
         obtain⟨pv,p1,p2⟩:=wB hX S1.heap S1.gs (tt:=s'.t) (λ_ _=>rfl) pX (hcur hg) hv (zV hps hg);refine hT hg _ _ (Hq hcl hd (p2 _ (go (s2:={s with gs:=gs}) (S1.put (tag:=some t) ⟨e,hget,λ_=>⟨pv,rfl,p1⟩,λh=>by rw [hg]at h;cases h⟩) (λ_=> .refl _ _) rfl hk)))
        | false=>
         exact hF hg _ _ (go (s2:={s with gs:=gs}) (S1.put (tag:=some t) ⟨e,hget,λh=>(by rw [hg]at h;cases h),λ_=>rfl⟩) (λ_=> .refl _ _) rfl hk)
       ·(subst hM;exact hk.elim)
      .rename_i hcl;have hcl:iJ o.op≠0:=by simpa using hcl
       split at hM
       .rename_i cr hcr;split at hM
        .rename_i hpure;subst hM;obtain⟨hps,hk⟩:=fQ hk;obtain⟨v,k,hvk,hk⟩:=BH hk;cases hg:e.g with
         | true=>
          obtain⟨v',k',e1,e2,e3⟩:=BG hX S1.heap S1.len (hev S1 (om S1.gs (hcur hg) (f:=gs.length+1))) hcr (zV hps hg) ⟨v,k,hvk⟩;rw [hvk]at e1;cases e1;obtain⟨rfl,htd⟩:=e2 hpure;refine hT hg _ _ (Fa hcl hd (e3 _ λpv h'' j a1 a2 a3 a4=> ?_));have S2:=S1.yR (Same.refl _) a2 a4;exact go (s2:={s with gs:=gs}) (S2.put (tag:=some t) ⟨e,hget,λ_=>⟨pv,rfl,a1⟩,λh=>by rw [hg]at h;cases h⟩) (λ_=> .refl _ _) rfl hk
         | false=>
          exact hF hg _ _ (go (s2:={s with gs:=gs}) (S1.put (tag:=some t) ⟨e,hget,λh=>(by rw [hg]at h;cases h),λ_=>rfl⟩) (λ_=> .refl _ _) rfl hk)
        .subst hM;obtain⟨hkT,hkF⟩:(e.g=true->gL (std n) cr.ck (rE (std n) cr λv h=>fF (std n) X C ops rest K (RSt.put (std n) {s with h:=h,gs:=gs} o.dst none v)) r)/\(e.g=false->fF (std n) X C ops rest K (RSt.put (std n) {s with gs:=zN (std n) gs t} o.dst none (.tup [])) r):=hk;cases hg:e.g with
         | true=>
          obtain⟨hps,hk⟩:=fQ (hkT hg);obtain⟨v,k,hvk,hk⟩:=BH hk;obtain⟨v',k',e1,e2,e3⟩:=BG hX S1.heap S1.len (hev S1 (om S1.gs (hcur hg) (f:=gs.length+1))) hcr hps ⟨v,k,hvk⟩;rw [hvk]at e1;cases e1;refine hT hg _ _ (Fa hcl hd (e3 _ λpv h'' j a1 a2 a3 a4=> ?_));have S2:=S1.yR a3.same a2 a4;exact go (s2:={s with h:=k,gs:=gs}) (S2.put (tag:=none) ⟨pv,rfl,a1⟩) a3.Mf rfl hk
         | false=>
          have hk:=hkF hg;have S2:=S1.kill hget hg;exact hF hg _ _ (go (s2:={s with gs:=zN (std n) gs t}) (S2.put (tag:=none) ⟨nP,rfl,YF⟩) (λ_=> .refl _ _) rfl hk)
       ·(subst hM;exact hk.elim)
     ·(subst hM;exact hk.elim)
    ·(subst hM;exact hk.elim)
  ·(subst hM;exact hk.elim)
end
end Go.TX
namespace Go.TX
open Go Go.AE
variable [aB]
section
variable {n:Nat}
theorem YG{t:Slots}{r:Nat}:∀ {rs:List Nat},r∈rs->aX (cut t rs) r=aX t r
 | [],h=>by simp at h
 | x::rs,h=>by
  simp only [cut,aX];split
  .rename_i e;rw [e]
  .rename_i e;cases h with
   | head=>exact absurd rfl e
   | tail _ h=>exact YG h
theorem akn{h:List aM}{x:Cell}{y:SC}(hr:RC (nmh h) x y){s:Sh}{f:Bool}{v:LV aG}(hk:eU (std n) h s y=some (f,v,[])):∃g,(f=true->g=true)/\ZC x g (lvD s v):=by
 unfold eU at hk;split at hk
 .rename_i f0 lf;split at hk
  .rename_i e;subst e;cases hk;cases hr with | d hx hf=>
   rename_i g0 x0;subst hx;rw [ET];refine⟨g0 || (nG lf).mg,λh=> ?_,.d _ _⟩;rw [iU];cases lf with
   | rows c xs=>simp only [Leaf.flag]at h;rcases hf h with h | h<;>simp_all [Leaf.scalar]
   | _=>simp [Leaf.scalar]
  .cases hk
 .cases hr;split at hk
  .cases hk;exact⟨true,λ_=>rfl,.nil _⟩
  .cases hk
 .rename_i f0 c xs;cases hr with | clip hf=>
  split at hk
  .rename_i e;subst e;cases hk;exact⟨_,hf,.clip _ _ _⟩
  .cases hk
 .split at hk
  .split at hk
   .cases hk
   .cases hk
  .cases hk
 .cases hk
theorem Mh{h:List aM}:∀ {ss:List Sh} {ys:List SC} {xs:List Cell} (_:F2 (RC (nmh h)) xs ys) {f:Bool} {vs:List (LV aG)},aR (std n) h ss ys=some (f,vs,[])->∃g,(f=true->g=true)/\ZCs xs g (List.zipWith lvD ss vs)
 | [],[],xs,hF,f,vs,hk=>by simp [aR]at hk;obtain⟨rfl,rfl⟩:=hk;cases hF;exact⟨true,λ_=>rfl,.nil⟩
 | [],_::_,_,_,_,_,hk=>by simp [aR]at hk
 | _::_,[],_,_,_,_,hk=>by simp [aR]at hk
 | s::ss,y::ys,xs,hF,f,vs,hk=>by
  cases hF with | cons h1 h2=>
  unfold aR at hk;split at hk
  .rename_i f1 v1 l1 hv1;split at hk
   .rename_i g2 vs2 ls2 hv2;split at hk
    .simp only [Option.some.injEq,Prod.mk.injEq,List.append_eq_nil_iff]at hk;obtain⟨rfl,rfl,rfl,rfl⟩:=hk;obtain⟨ga,a1,a2⟩:=akn h1 hv1;obtain⟨gb,b1,b2⟩:=Mh h2 hv2;exact⟨ga&&gb,λh=>by simp at h;simp [a1 h.1,b1 h.2],.cons a2 b2⟩
    .cases hk
   .cases hk
  .cases hk
theorem Ht{N:NM}:∀ {ys:List (Leaf aG)} {xs:List Cell} {f:Bool},F2 (RC N) xs (ys.map (.d f))->∃g,(f=true\/(∀y∈ys,y.scalar=true)->g=true)/\ZCs xs g (ys.map nG)
 | [],_,_,h=>by cases h;exact⟨true,λ_=>rfl,.nil⟩
 | y::ys,_,f,.cons h1 h2=>by
  obtain⟨g,q1,q2⟩:=Ht h2;cases h1 with | d hx hf=>
  rename_i g0 x0;subst hx;refine⟨(g0 || (nG y).mg)&&g,λh=> ?_,.cons (.d _ _) q2⟩;rw [iU];rcases h with h | h
  .rcases hf h with h' | h'<;>simp [h',q1 (.inl h)]
  .simp [h y (by simp),q1 (.inr λy hy=>h y (List.mem_cons_of_mem _ hy))]
theorem ap5{h:List aM}{p:PV}{q:SVal}(hp:PVR (nmh h) p q){c:Co}{f:Bool}{x:c.den}(hk:toX (std n) h c q=some (f,x,[])):∃g,(f=true->g=true)/\ZCs (aO p) g (c.row x):=by
 unfold toX at hk;split at hk
 .rename_i f' c' x';split at hk
  .rename_i e;subst e;cases hk;have hF:=hp.cells;have hx:cellsS (.sv f' c' x')=(fJ (std 0) c' x' 0 c'.fields).map (.d f'):=rfl;rw [hx]at hF;obtain⟨g,q1,q2⟩:=Ht hF;rw [kN]at q2;refine⟨g,λh=>q1 ?_,q2⟩;rcases Bool.or_eq_true _ _▸h with h | h
   .exact .inl h
   .exact .inr (jK c' h x')
  .cases hk
 .cases hk
 .split at hk
  .rename_i f1 ys ls1 h1;split at hk
   .rename_i t ht;simp only [Option.some.injEq,Prod.mk.injEq]at hk;obtain⟨rfl,rfl,rfl⟩:=hk;rw [dx]at h1;obtain⟨g,q1,q2⟩:=Mh hp.cells h1;rw [zR c t ht]at q2;exact⟨g,q1,q2⟩
   .cases hk
  .cases hk
theorem Vr{X:XT}{E:Tab}(hX:XOK X E){t:Slots}{e:Nat->Option SVal}{c:Co}{h:List aM}(he:EvR X E n (nmh h) t e):∀ {parts:List (Nat×Operand)} {f:Bool} {xs:List c.den} {k:List aM},qB (std n) X e c h parts=some (f,xs,k,[])->
  ∃g,(f=true->g=true)/\xs.length=parts.length/\ZPs E t c.size parts g (aL c xs)
 | [],f,xs,k,hk=>by
  simp only [qB,Option.some.injEq,Prod.mk.injEq]at hk;obtain⟨rfl,rfl,_⟩:=hk;exact⟨true,λ_=>rfl,rfl,.nil⟩
 | (i,x)::r,f,xs,k,hk=>by
  simp only [qB]at hk;split at hk
  .rename_i v hv;split at hk
   .rename_i f1 y l1 hy;split at hk
    .rename_i g1 ys k1 l2 hys;simp only [Option.some.injEq,Prod.mk.injEq,List.append_eq_nil_iff]at hk;obtain⟨rfl,rfl,_,rfl,rfl⟩:=hk;obtain⟨pv,p1,p2⟩:=dG hX he hv;obtain⟨ga,a1,a2⟩:=ap5 p2 hy;obtain⟨gb,b1,b2,b3⟩:=Vr hX he (h:=h) hys;have hl:(aO pv).length=c.size:=by
      have:∀ {cs:List Cell} {g:Bool} {ds:List D},ZCs cs g ds->cs.length=ds.length:=by
       intro cs g ds hz
       induction hz with
       | nil=>rfl
       | cons _ _ ih=>simp [ih]
      rw [this a2,vY]
     exact⟨ga&&gb,λh=>by simp at h;simp [a1 h.1,b1 h.2],by simp [b2],.cons p1 hl a2 b3⟩
    .cases hk
   .cases hk
  .cases hk
theorem aub{X:XT}{E:Tab}(hX:XOK X E){t:Slots}{e:Nat->Option SVal}{h:List aM}(he:EvR X E n (nmh h) t e){op:Op}{ps:List Bool}{v:SVal}(hk:zX (std n) X e h op=some (ps,v)):Gv (zA E op t) (nmh h) v:=by
 unfold zX at hk;split at hk
 .rename_i ty len parts;rw [hX.ty]at hk;split at hk
  .rename_i y hy;split at hk
   .rename_i el hd;split at hk
    .rename_i z c hz hco;split at hk
     .rename_i hcond;simp only [Bool.and_eq_true,Bool.not_eq_true',beq_iff_eq,beq_eq_false_iff_ne,ne_eq]at hcond;obtain⟨⟨⟨hsz,hne⟩,hrange⟩,hbig⟩:=hcond;have hbig:=Nat.le_of_ble_eq_true hbig;obtain⟨z',hz',hzs⟩:=gB hX hsz;rw [hz]at hz';cases hz';split at hk
      .rename_i f xs k hps;cases hk;obtain⟨g,q1,q2,q3⟩:=Vr hX he hps;have hlen:xs.length=len:=by
        have:=congrArg List.length hrange;simp at this;rw [q2];simpa using this
       refine⟨.c (.clip g c.size (aL c xs)),.ofC (.clip q1),λK hK=> ?_⟩;unfold zA;simp only;rw [hy];simp only [aD];rw [hd];simp only;rw [hz];exact⟨hne,hrange,hbig,g,aL c xs,by rw [hzs];exact q3,by rw [aU];exact hlen,by rw [hzs];exact hK⟩
      .cases hk
     .cases hk
    .cases hk
   .cases hk
  .cases hk
 .cases hk
theorem Mi{E:Tab}{N:NM}{h' h'':Heap}{ty:TypeId}{pv:PV}{q:SVal}(hp:PVR N pv q)(hl:∀l∈uf (std n) q,AE.look h'' l=AE.look h' l)(K:PV->Prop):kG E h'' ty pv K=kG E h' ty pv K:=by
 have key:∀l sz i j,pv= .c (.ptr l sz i j)->AE.look h'' l=AE.look h' l:=by
  intro l sz i j e;subst e;cases hp with | one hp=>cases hp with | c hc=>
  cases hc with
  | pb=>exact hl _ (by simp [uf])
  | pr _=>exact hl _ (by simp [uf])
 unfold kG;cases E.ty ty with
 | none=>rfl
 | some y=>
  simp only [aD];split
  .rename_i l sz i j;rw [key l sz i j rfl]
  .rfl
  .rfl
theorem stable{X:XT}{E:Tab}(hX:XOK X E){N:NM}{h' h'':Heap}{t:Slots}{e:Nat->Option SVal}(he:EvR X E n N t e){op:Op}(hl:∀l∈gT (std n) X e op,AE.look h'' l=AE.look h' l)(hev:isLoad op=true->∃ty x q,op= .load ty x/\evX (std n) X e x=some q)(K:PV->Prop):
  gF E op t h'' K=gF E op t h' K:=by
 cases hL:isLoad op with
 | false=>rw [yL hL]
 | true=>
  obtain⟨ty,x,q,rfl,hq⟩:=hev hL;obtain⟨pv,p1,p2⟩:=dG hX he hq;simp only [gT,hq]at hl;unfold gF;simp only;rw [p1];simp only [aT];exact Mi p2 hl K
def HI(E:Tab)(ops:List Oper)(h':Heap)(h:List aM)(hs':List Held)(hs:List (Nat×List Nat)):Prop:=∀p∈hs,(∀l∈p.2,l<h.length)/\∃o t v,nY hs' p.1=some (o,t,v)/\
 ∀h'',(∀l∈p.2,AE.look h'' l=AE.look h' l)->iG E ops o t h'' (λv'=>v'=v)
theorem HI.turn{E:Tab}{ops:List Oper}{h' h'':Heap}{h k:List aM}{hs':List Held}{hs:List (Nat×List Nat)}(H:HI E ops h' h hs' hs){td:List Nat}(x:iI h' h h'' k td):HI E ops h'' k hs' (nD hs td):=by
 intro p hp;simp only [nD,List.mem_filter]at hp;obtain⟨hp,hn⟩:=hp;obtain⟨h1,o,t,v,h2,h3⟩:=H p hp;refine⟨λl hl=>Nat.lt_of_lt_of_le (h1 l hl) x.len,o,t,v,h2,λh3' hh=>h3 h3' λl hl=> ?_⟩;have:=List.all_eq_true.1 hn l hl;rw [hh l hl,(x.keep l (h1 l hl) (by simpa using this)).2]
theorem zW(hs:List (Nat×List Nat)):nD hs []=hs:=by
 unfold nD;rw [List.filter_eq_self];intro p _;simp
theorem DN{E:Tab}{ops:List Oper}{h' h'':Heap}{h k:List aM}{hs':List Held}{hs:List (Nat×List Nat)}(H:HI E ops h' h hs' hs){td:List Nat}(x:iI h' h h'' k td):∀ {cs:List Nat},cs.all (Jb hs td)=true->NP E ops h'' hs' cs
 | [],_=>trivial
 | j::r,hc=>by
  simp only [List.all_cons,Bool.and_eq_true]at hc;refine⟨?_,DN H x hc.2⟩;have hj:=hc.1;simp only [Jb,List.any_eq_true,Bool.and_eq_true,beq_iff_eq]at hj;obtain⟨p,hp,hpj,hall⟩:=hj;obtain⟨h1,o,t,v,h2,h3⟩:=H p hp;rw [<-hpj,h2];refine h3 h'' λl hl=>(x.keep l (h1 l hl) ?_).2
  have:=List.all_eq_true.1 hall l hl;simpa using this
theorem HI.push{E:Tab}{ops:List Oper}{h':Heap}{h:List aM}{hs':List Held}{hs:List (Nat×List Nat)}(H:HI E ops h' h hs' hs){i:Nat}(hi:¬(hs.any λp=>p.1==i)=true){ns:List Nat}{o:Oper}{t:Slots}{v:Option PV}
  (hns:∀l∈ns,l<h.length) (hst:∀h'',(∀l∈ns,AE.look h'' l=AE.look h' l)->iG E ops o t h'' (λv'=>v'=v)):HI E ops h' h ((i,o,t,v)::hs') ((i,ns)::hs):=by
 intro p hp;cases hp with
 | head=>exact⟨hns,o,t,v,by simp [nY],hst⟩
 | tail _ hp=>
  obtain⟨h1,o',t',v',h2,h3⟩:=H p hp;have hne:i≠p.1:=λe=>hi (by rw [List.any_eq_true];exact⟨p,hp,by simp [e]⟩)
  exact⟨h1,o',t',v',by rw [Lv hne];exact h2,h3⟩
theorem Hu{E:Tab}{X:XT}{N:NM}{t:Slots}{e:Nat->Option SVal}(he:EvR X E n N t e){k:Int}:∀ {l:List (Int×Nat)} {b:Bool},DK (std n) e k l=some b->∀K:Bool->Prop,K b->Er t k l K
 | [],b,h,K,hb=>by cases h;exact hb
 | (k',r)::rest,b,h,K,hb=>by
  unfold DK at h;split at h
  .rename_i f b1 hr;split at h
   .rename_i q hq;cases h;obtain⟨pv,h1,h2⟩:=he r _ hr;obtain⟨g,rfl⟩:=h2.bool;refine⟨g,b1,h1,?_⟩;have hb:K (bif decide (k=k')then b1 else q):=hb;by_cases c:k=k'
    .rw [if_pos c];rw [decide_eq_true c]at hb;exact hb
    .rw [if_neg c];rw [decide_eq_false c]at hb;exact Hu he hq K hb
   .cases h
  .cases h
theorem Oi{X:XT}{ops:List Oper}{e:Nat->Option SVal}{h:List aM}{op:Op}(hp:Eu op=true):Ob (std n) X ops e h op=match zX (std n) X e h op with | some r=>some (some r) | none=>none:=by
 cases op
 case makeMap=>cases hp
 case insert=>cases hp
 case move=>cases hp
 case lookup a b q d=>cases q<;>first | rfl | cases hp
 all_goals first | rfl | (simp only [Ob];generalize zX (std n) X e h _=z;cases z<;>rfl)
theorem map_ok{X:XT}{E:Tab}(hX:XOK X E){ops:List Oper}{t:Slots}{e:Nat->Option SVal}{h:List aM}(he:EvR X E n (nmh h) t e){op:Op}{r:Option (List Bool×SVal)}(hk:Ob (std n) X ops e h op=some r):
  match r with | none=>∀K:Option PV->Prop,K none->zM E ops op t K | some (_,v)=>∃pv,PVR (nmh h) pv v/\∀K:Option PV->Prop,K (some pv)->zM E ops op t K:=by
 by_cases hp:Eu op=true
 .rw [Oi hp]at hk;split at hk
  .rename_i q hq;cases hk;obtain⟨ps,v⟩:=q;obtain⟨pv,p1,p2⟩:=aub hX he hq;exact⟨pv,p1,λK hK=>by rw [zD hp];exact p2 _ hK⟩
  .cases hk
 .cases op
  case makeMap=>cases hk;exact λK h=>h
  case insert a b c v=>
   cases v with
   | tmp r=>
    simp only [Ob]at hk;cases hq:e r with
    | some q=>
     rw [hq]at hk;cases hk;obtain⟨pv,p1,_⟩:=he _ _ hq;exact λK h=>⟨⟨pv,p1⟩,h⟩
    | none=>rw [hq]at hk;cases hk
   | _=>cases hk
  case move x=>
   simp only [Ob]at hk;split at hk
   .rename_i hs;cases hk;exact λK h=>⟨hs,h⟩
   .cases hk
  case lookup a b q d=>
   cases q with
   | tmp q=>
    simp only [Ob]at hk;split at hk
    .rename_i f m hq;split at hk
     .rename_i bb hb;cases hk;obtain⟨pv,p1,p2⟩:=he _ _ hq;obtain⟨g,rfl⟩:=p2.int;exact⟨_,.ofC (.d rfl λ_=> .inl rfl),λK hK=>⟨g,m,p1,Hu he hb _ hK⟩⟩
     .cases hk
    .cases hk
   | _=>exact absurd rfl hp
  all_goals exact absurd rfl hp
theorem yT{X:XT}{gs:List (GE (std n))}{lk:Nat->Option (SV (std n))}{h:List aM}{cur:Option Nat}{op:Op}{ps:List Bool}{v:SVal}(hk:tY (std n) X lk gs h cur op=some (ps,v))(hl:isLoad op=true):
  (∃ty x q,op= .load ty x/\evX (std n) X (gK (std n) lk (eZ (std n) gs cur)) x=some q)/\∀l∈gT (std n) X (gK (std n) lk (eZ (std n) gs cur)) op,l<h.length:=by
 cases op<;>simp only [isLoad,Bool.false_eq_true]at hl
 rename_i ty x;simp only [tY,UZ]at hk;obtain⟨q,hq,hk⟩:=dW hk;refine⟨⟨ty,x,q,rfl,hq⟩,λl hl=> ?_⟩;simp only [gT,hq]at hl;unfold LD at hk;split at hk
 .cases hk
 .unfold uf at hl;split at hl
  .simp at hl;subst hl;simp only at hk;split at hk
   .rename_i hh;exact(List.getElem?_eq_some_iff.1 hh).1
   .cases hk
  .simp at hl;subst hl;simp only at hk;split at hk
   .rename_i hh;exact(List.getElem?_eq_some_iff.1 hh).1
   .cases hk
  .simp at hl
end
end Go.TX
namespace Go.TX
open Go Go.AE
variable [aB]
section
variable {n:Nat}
theorem BI(gs:List (GE (std n))):eZ (std n) gs none=[]:=by unfold eZ;rw [Oa];simp
theorem Fb{E:Tab}{ops:List Oper}{o:Oper}(hg:o.guard=none)(t:Slots)(h:Heap)(K:Option PV->Prop):iG E ops o t h K=gF E o.op t h λv=>K (some v):=by unfold iG;rw [hg]
theorem qL{E:Tab}{ops:List Oper}{o:Oper}{j d:Nat}{w:Bool}(hg:o.guard=some (j,w))(hd:gslot ops j=some d)(t:Slots)(h:Heap)(K:Option PV->Prop):
 iG E ops o t h K=kM (aX t d) w (gF E o.op t h λv=>K (some v)) (K (some nP)):=by unfold iG;rw [hg];simp only;rw [hd];rfl
theorem Jh{X:XT}{E:Tab}(hX:XOK X E){C:Calls aG}{ops:List Oper}{ρ:Type}{K:RSt (std n)->(ρ->Prop)->Prop}{r:ρ->Prop}{h0:List aM}{m0:Nat}:∀ {rest:List fC} {hs:List (Nat×List Nat)} {hs':List Held} {s':St} {s:RSt (std n)},SR s' s->(∀k,Keep k h0 s.h)->s.m=m0->
    HI E ops s'.h s.h hs' hs->iK (std n) X C ops rest hs K s r->
    fE E (jV C) ops rest hs' (λs1'=>∃s1,SR s1' s1/\(∀k,Keep k h0 s1.h)/\s1.m=m0/\K s1 r) s'
  | [],hs,hs',s',s,S,hK0,hm0,HH,hk=>⟨s,S,hK0,hm0,hk⟩
  | (i,rs,cs)::rest,hs,hs',s',s,S,hK0,hm0,HH,hk=>by
    generalize hM:iK (std n) X C ops ((i,rs,cs)::rest) hs K s=M at hk;unfold iK at hM;unfold fE;split at hM
    · (subst hM;exact hk.elim)
    · rename_i o ho;rw [ho];simp only [ahr];split at hM
      · rename_i hdst;have hd:dOK s'.m o.dst:=by rw [S.m];exact YE hdst
        refine⟨hd,?_⟩;simp only at hM;have hlk:∀i sv,(if rs.contains i then dF (std n) s.t i else none)=some sv->dF (std n) s.t i=some sv:=λi sv h=>by
          split at h
          · exact h
          · cases h
        have YH:∀d,(if rs.contains d then dF (std n) s.t d else none).isSome->aX (cut s'.t rs) d=aX s'.t d:=λd h=>by
          split at h
          · rename_i hc;exact YG (by simpa using hc)
          · cases h
        have hev:∀ {gs:List (GE (std n))},SR s' {s with gs:=gs}->∀ {al:List Nat},(∀t∈al,∃e,gs[t]? =some e/\e.g=true)->EvR X E n (nmh s.h) (cut s'.t rs) (gK (std n) (λi=>if rs.contains i then dF (std n) s.t i else none) al):=
          λS1 _ hal=>pW (t':=s'.t) YH (λi sv h=>S1.val i sv (hlk i sv h)) hal
        have go:∀ {s2':St} {s2:RSt (std n)} {tag:Option Nat} {v:SVal} {hs2:List (Nat×List Nat)} {ako:List Held},SR s2' (s2.put (std n) o.dst tag v)->(∀k,Keep k s.h s2.h)->s2.m=s.m->HI E ops s2'.h s2.h ako hs2->iK (std n) X C ops rest hs2 K (s2.put (std n) o.dst tag v) r->
            fE E (jV C) ops rest ako (λs1'=>∃s1,SR s1' s1/\(∀k,Keep k h0 s1.h)/\s1.m=m0/\K s1 r) s2':=by
          intro s2' s2 tag v hs2 ako S2 hkeep hm2 HI2 hk2;have e1:=ahx (n:=n) (s:=s2) (d:=o.dst) (tag:=tag) (v:=v);exact Jh hX (rest:=rest) S2 (λk=>by rw [e1.1];exact(hK0 k).trans (hkeep k)) (by rw [e1.2,hm2,hm0]) (by rw [e1.1];exact HI2) hk2
        have Ji:∀(d:Option Nat) (v:Option PV),(s'.put d v).h=s'.h:=λd v=>by cases d<;>rfl
        split at hM
        ·
          rename_i hkind;split at hM
          · (subst hM;exact hk.elim)
          rename_i hnew;split at hM
          · rename_i hguard;rw [hkind];split at hM
            · rename_i ps v hv;subst hM;obtain⟨hps,hk⟩:=fQ hk;rw [DL]at hk;have pX:∀i sv,(if rs.contains i then dF (std n) s.t i else none)=some sv->zU s.gs s'.t (nmh s.h) i sv:=λi sv h=>S.val i sv (hlk i sv h)
              obtain⟨pv,p1,p2⟩:=wB hX S.heap S.gs YH pX (cur:=none) (λt h=>by cases h) hv hps;simp only;rw [Fb hguard];have hE0:=hev S (al:=eZ (std n) s.gs none) (λt h=>by rw [BI]at h;simp at h);rw [BI]at hE0;have hln:=λhL=>yT hv hL
              rw [BI]at hln;have hst:∀h'',(∀l∈gT (std n) X (gK (std n) (λi=>if rs.contains i then dF (std n) s.t i else none) []) o.op,AE.look h'' l=AE.look s'.h l)->iG E ops o (cut s'.t rs) h'' (λv'=>v'=some pv):=λh'' hh=>by
                rw [Fb hguard,stable hX hE0 hh (λhL=>(hln hL).1)];exact p2 _ rfl
              have hns:∀l∈gT (std n) X (gK (std n) (λi=>if rs.contains i then dF (std n) s.t i else none) []) o.op,l<s.h.length:=λl hl=>by
                cases hL:isLoad o.op with
                | true=>exact(hln hL).2 l hl
                | false => unfold gT at hl; split at hl
                           · rename_i hop;rw [hop]at hL;simp [isLoad]at hL
                           · simp at hl
              exact p2 _ (go (s2:=s) (S.put (tag:=none) ⟨pv,rfl,p1⟩) (λ_=> .refl _ _) rfl (by rw [Ji];exact HH.push hnew hns hst) hk)
            · (subst hM;exact hk.elim)
          · rename_i j want hguard;rw [hkind];split at hM
            · rename_i d hgs;have hgm:=λhb=>E9 S (lk:=λi=>if rs.contains i then dF (std n) s.t i else none) hlk (tt:=cut s'.t rs) (d:=d) (want:=want) (YH d) rfl hb
              simp only;rw [qL hguard hgs];split at hM
              · rename_i hr;rw [hr]at hgm;subst hM;cases hgm (by simp)with | skip h=>
                refine h _ _ (go (s2:=s) (S.put (tag:=none) ⟨nP,rfl,YF⟩) (λ_=> .refl _ _) rfl (by rw [Ji];exact HH.push hnew (λl hl=>by simp at hl) (λh'' _=>by rw [qL hguard hgs];exact h _ _ rfl)) hk)
              · rename_i gs t g hr;rw [hr]at hgm;cases hgm (by simp)with | run S1 hget hg pX hT hF=>
                rename_i e;subst hg;split at hM
                · rename_i ps v hv;subst hM;obtain⟨hps,hk⟩:=fQ hk;have hns:∀l∈gT (std n) X (gK (std n) (λi=>if rs.contains i then dF (std n) s.t i else none) (eZ (std n) gs (some t))) o.op,l<s.h.length:=λl hl=>by
                    cases hL:isLoad o.op with
                    | true=>exact(yT hv hL).2 l hl
                    | false => unfold gT at hl; split at hl
                               · rename_i hop;rw [hop]at hL;simp [isLoad]at hL
                               · simp at hl
                  cases hg:e.g with
                  | true=>
                    have hcur:∀t0,some t=some t0->∃e,gs[t0]? =some e/\e.g=true:=λt0 ht=>by cases ht;exact⟨e,hget,hg⟩
                    obtain⟨pv,p1,p2⟩:=wB hX S1.heap S1.gs YH (λi sv h=>pX i sv (hlk i sv h)) hcur hv (zV hps hg);have hE0:EvR X E n (nmh s.h) (cut s'.t rs) (gK (std n) (λi=>if rs.contains i then dF (std n) s.t i else none) (eZ (std n) gs (some t))):=hev S1 (om S1.gs hcur (f:=gs.length+1));refine hT hg _ _ (p2 _ (go (s2:={s with gs:=gs}) (S1.put (tag:=some t) ⟨e,hget,λ_=>⟨pv,rfl,p1⟩,λh=>by rw [hg]at h;cases h⟩) (λ_=> .refl _ _) rfl (by
                      rw [Ji];refine HH.push hnew hns (λh'' hh=> ?_);rw [qL hguard hgs,stable hX hE0 hh (λhL=>(yT hv hL).1)];exact hT hg _ _ (p2 _ rfl)) hk))
                  | false=>
                    exact hF hg _ _ (go (s2:={s with gs:=gs}) (S1.put (tag:=some t) ⟨e,hget,λh=>(by rw [hg]at h;cases h),λ_=>rfl⟩) (λ_=> .refl _ _) rfl (by
                      rw [Ji];refine HH.push hnew hns (λh'' hh=> ?_);rw [qL hguard hgs];exact hF hg _ _ rfl) hk)
                · (subst hM;exact hk.elim)
              · (subst hM;exact hk.elim)
            · (subst hM;exact hk.elim)
        · rename_i hkind;rw [hkind];split at hM
          · rename_i ps v hv;subst hM;obtain⟨hps,hk⟩:=fQ hk;obtain⟨pv,p1,p2⟩:=map_ok hX (ops:=ops) (hev S (al:=[]) (λt h=>by simp at h)) hv;simp only;exact p2 _ (go (s2:=s) (S.put (tag:=none) ⟨pv,rfl,p1⟩) (λ_=> .refl _ _) rfl (by rw [Ji];exact HH) hk)
          · rename_i hv;subst hM;have p2:=map_ok hX (ops:=ops) (hev S (al:=[]) (λt h=>by simp at h)) hv;simp only;refine p2 _ ?_;have e1:=ap3 (n:=n) (s:=s) (d:=o.dst);exact Jh hX (rest:=rest) S.del (λk=>by rw [e1.1];exact hK0 k) (by rw [e1.2,hm0]) (by rw [e1.1,Ji];exact HH) hk
          · (subst hM;exact hk.elim)
        · rename_i hkind;rw [hkind];split at hM
          · rename_i hr hv;subst hM;obtain⟨hps,hk⟩:=fQ hk;have he0:EvR X E n (nmh s.h) [] (λ_=>none):=λi v h=>by cases h
            obtain⟨pv,h'',j,q1,q2,q3,q4,q5⟩:=Jf hX S.heap S.len he0 hv hps;simp only;have S2:=S.yR q3.same q2 q4;have htd:hr.touched=[]:=by
              unfold kindOf at hkind;split at hkind
              · rename_i ty hop;rw [hop]at hv;simp only [EJ]at hv;split at hv
                · split at hv
                  · split at hv<;>(cases hv;rfl)
                  · cases hv;rfl
                  · cases hv
                · cases hv
              all_goals first | cases hkind | (split at hkind<;>cases hkind)
            have HI2:=HH.turn q3;rw [htd,zW]at HI2;exact q5 _ (go (s2:={s with h:=hr.h}) (S2.put (tag:=none) ⟨pv,rfl,q1⟩) q3.Mf rfl (by cases o.dst<;>exact HI2) hk)
          · (subst hM;exact hk.elim)
        · rename_i hk0 hk1 hk2;split at hM
          · rename_i hguard;split at hM
            · rename_i cr hcr;split at hM
              · rename_i hcs;subst hM;obtain⟨hps,hk⟩:=fQ hk;obtain⟨v,k,hvk,hk⟩:=BH hk;obtain⟨v',k',e1,_,e3⟩:=BG hX S.heap S.len (hev S (al:=[]) (λt h=>by simp at h)) hcr hps ⟨v,k,hvk⟩;rw [hvk]at e1;cases e1;split
                · rename_i h;exact absurd h hk0
                · rename_i h;exact absurd h hk1
                · rename_i h;exact absurd h hk2
                · rw [hguard];refine e3 _ λpv h'' j a1 a2 a3 a4=>⟨DN HH a3 hcs,?_⟩
                  have S2:=S.yR a3.same a2 a4;exact go (s2:={s with h:=k}) (S2.put (tag:=none) ⟨pv,rfl,a1⟩) a3.Mf rfl (by cases o.dst<;>exact HH.turn a3) hk
              · (subst hM;exact hk.elim)
            · (subst hM;exact hk.elim)
          · rename_i j want hguard;split at hM
            · rename_i d hgs;have hgm:=λhb=>E9 S (lk:=λi=>if rs.contains i then dF (std n) s.t i else none) hlk (tt:=cut s'.t rs) (d:=d) (want:=want) (YH d) rfl hb
              have goal:kM (aX (cut s'.t rs) d) want
                  (WW E (jV C) o (cut s'.t rs) s' λv h k=>NP E ops h hs' cs/\fE E (jV C) ops rest hs' (λs1'=>∃s1,SR s1' s1/\(∀k,Keep k h0 s1.h)/\s1.m=m0/\K s1 r) (St.put {s' with h:=h,k:=k} o.dst (some v)))
                  (fE E (jV C) ops rest hs' (λs1'=>∃s1,SR s1' s1/\(∀k,Keep k h0 s1.h)/\s1.m=m0/\K s1 r) (s'.put o.dst (some nP))):=by
                split at hM
                · rename_i hr;rw [hr]at hgm;subst hM;cases hgm (by simp)with | skip h=>
                  exact h _ _ (go (s2:=s) (S.put (tag:=none) ⟨nP,rfl,YF⟩) (λ_=> .refl _ _) rfl (by rw [Ji];exact HH) hk)
                · rename_i gs t g hr;rw [hr]at hgm;cases hgm (by simp)with | run S1 hget hg pX hT hF=>
                  rename_i e;subst hg;have hcur:e.g=true->∀t0,some t=some t0->∃e,gs[t0]? =some e/\e.g=true:=λh t0 ht=>by cases ht;exact⟨e,hget,h⟩
                  split at hM
                  · rename_i cr hcr;split at hM
                    · rename_i hcs;split at hM
                      · rename_i hpure;subst hM;obtain⟨hps,hk⟩:=fQ hk;obtain⟨v,k,hvk,hk⟩:=BH hk;cases hg:e.g with
                        | true=>
                          obtain⟨v',k',e1,e2,e3⟩:=BG hX S1.heap S1.len (hev S1 (om S1.gs (hcur hg) (f:=gs.length+1))) hcr (zV hps hg) ⟨v,k,hvk⟩;rw [hvk]at e1;cases e1;obtain⟨rfl,htd⟩:=e2 hpure;refine hT hg _ _ (e3 _ λpv h'' j a1 a2 a3 a4=>⟨DN HH a3 hcs,?_⟩);have S2:=S1.yR (Same.refl _) a2 a4;have HI2:=HH.turn a3;rw [htd,zW]at HI2;exact go (s2:={s with gs:=gs}) (S2.put (tag:=some t) ⟨e,hget,λ_=>⟨pv,rfl,a1⟩,λh=>by rw [hg]at h;cases h⟩) (λ_=> .refl _ _) rfl (by cases o.dst<;>exact HI2) hk
                        | false=>
                          exact hF hg _ _ (go (s2:={s with gs:=gs}) (S1.put (tag:=some t) ⟨e,hget,λh=>(by rw [hg]at h;cases h),λ_=>rfl⟩) (λ_=> .refl _ _) rfl (by rw [Ji];exact HH) hk)
                      · subst hM;obtain⟨hkT,hkF⟩:(e.g=true->gL (std n) cr.ck (rE (std n) cr λv h=>iK (std n) X C ops rest (nD hs cr.touched) K (RSt.put (std n) {s with h:=h,gs:=gs} o.dst none v)) r)/\(e.g=false->iK (std n) X C ops rest hs K (RSt.put (std n) {s with gs:=zN (std n) gs t} o.dst none (.tup [])) r):=hk;cases hg:e.g with
                        | true=>
                          obtain⟨hps,hk⟩:=fQ (hkT hg);obtain⟨v,k,hvk,hk⟩:=BH hk;obtain⟨v',k',e1,e2,e3⟩:=BG hX S1.heap S1.len (hev S1 (om S1.gs (hcur hg) (f:=gs.length+1))) hcr hps ⟨v,k,hvk⟩;rw [hvk]at e1;cases e1;refine hT hg _ _ (e3 _ λpv h'' j a1 a2 a3 a4=>⟨DN HH a3 hcs,?_⟩);have S2:=S1.yR a3.same a2 a4;exact go (s2:={s with h:=k,gs:=gs}) (S2.put (tag:=none) ⟨pv,rfl,a1⟩) a3.Mf rfl (by cases o.dst<;>exact HH.turn a3) hk
                        | false=>
                          have hk:=hkF hg;have S2:=S1.kill hget hg;exact hF hg _ _ (go (s2:={s with gs:=zN (std n) gs t}) (S2.put (tag:=none) ⟨nP,rfl,YF⟩) (λ_=> .refl _ _) rfl (by rw [Ji];exact HH) hk)
                    · (subst hM;exact hk.elim)
                  · (subst hM;exact hk.elim)
                · (subst hM;exact hk.elim)
              split
              · rename_i h;exact absurd h hk0
              · rename_i h;exact absurd h hk1
              · rename_i h;exact absurd h hk2
              · rw [hguard];simp only;rw [hgs];exact goal
            · (subst hM;exact hk.elim)
      · (subst hM;exact hk.elim)
end
end Go.TX
namespace Go.TX
open Go Go.AE
variable [aB]
section
variable {n:Nat}
theorem Hw{s:RSt (std n)}:∀ {l:List (Nat×SkV)} {e0 e:ES (std n)},ug (std n) s.t s.h l e0=some e->
  ∃vs,F2 (λi v=>dF (std n) s.t i=some ⟨none,v⟩) (l.map (·.1)) vs/\nZ (std n) s.h (l.map (·.2)) vs e0=some e
 | [],e0,e,h=>by simp only [ug,Option.some.injEq]at h;subst h;exact⟨[],.nil,rfl⟩
 | p::l,e0,e,h=>by
  simp only [ug]at h;split at h
  .rename_i v hl;split at h
   .rename_i e1 h1;obtain⟨vs,q1,q2⟩:=Hw (l:=l) h;exact⟨v::vs,.cons hl q1,by simp only [List.map_cons,nZ];rw [h1];exact q2⟩
   .cases h
  .cases h
theorem Jj{k:Nat}{os:List SkO}{i:Nat}(hi:i<k)(hik:i<os.length):(es0 (std n) k os).ren[i]? =some (if qE os[i]? then none else some (some i)):=by
 have hb:Nat.blt i k=true:=by simpa using hi
 simp only [es0,List.getElem?_map,List.getElem?_range hik,Option.map_some,hb,Bool.true_and];cases qE os[i]? <;>rfl
theorem Jk(k:Nat)(os:List SkO):(es0 (std n) k os).ren.length=os.length:=by simp [es0]
theorem Jl{c:Ctx}{w:World}{N:NM}{us:List Value}{vs:List SVal}(h:F2 (WV c w N) us vs):∃pvs,F2 (bG c w) us pvs/\F2 (PVR N) pvs vs:=by
 induction h with
 | nil=>exact⟨[],.nil,.nil⟩
 | cons h1 _ ih=>
  obtain⟨p,a,b⟩:=h1;obtain⟨pvs,q1,q2⟩:=ih;exact⟨p::pvs,.cons a q1,.cons b q2⟩
theorem Fe{N:NM}:∀ {ids:List Nat} {vs:List SVal} {pvs:List PV},F2 (PVR N) pvs vs->∀i sv,dF (std n) (ids.zip (vs.map λv=>(⟨none,v⟩:SV (std n)))) i=some sv->sv.tag=none/\∃pv,aX (ids.zip (pvs.map some)) i=some pv/\PVR N pv sv.v
 | [],vs,pvs,_,i,sv,h=>by simp [dF]at h
 | j::ids,[],pvs,hF,i,sv,h=>by simp [dF]at h
 | j::ids,v::vs,pvs,hF,i,sv,h=>by
  cases hF with | cons h1 h2=>
  simp only [List.map_cons,List.zip_cons_cons,nI]at h ⊢;simp only [aX];split at h
  .rename_i e;cases h;rw [if_pos e];exact⟨rfl,_,rfl,h1⟩
  .rename_i e;rw [if_neg e];exact Fe h2 i sv h
theorem Fg{c:Ctx}{w:World}{a:Act}:∀ {ids:List Nat} {us:List Value} {pvs:List PV},F2 (bG c w) us pvs->F2 (λi u=>a.tmps[i]? =some u) ids us->∀i v,aX (ids.zip (pvs.map some)) i=some v->∃u,a.tmps[i]? =some u/\bG c w u v
 | [],us,pvs,_,_,i,v,h=>by simp [aX]at h
 | j::ids,us,pvs,hF,hI,i,v,h=>by
  cases hI with | cons h3 h4=>
  cases hF with | cons h1 h2=>
  simp only [List.map_cons,List.zip_cons_cons,aX]at h;split at h
  .rename_i e;subst e;cases h;exact⟨_,h3,h1⟩
  .exact Fg h2 h4 i v h
theorem Fh{E:Tab}{s':St}{s:RSt (std n)}(S:SR s' s){c:Ctx}{w:World}{a:Act}(A:jy E s' c w a):∀ {ids:List Nat} {vs:List SVal},F2 (λi v=>dF (std n) s.t i=some ⟨none,v⟩) ids vs->∃us,F2 (λi u=>a.tmps[i]? =some u) ids us/\F2 (WV c w (nmh s.h)) us vs
 | [],_,h=>by cases h;exact⟨[],.nil,.nil⟩
 | i::ids,_,.cons h1 h2=>by
  obtain⟨us,q1,q2⟩:=Fh S A h2;obtain⟨pv,p1,p2⟩:=S.val i _ h1;obtain⟨u,hu,hr⟩:=A.abs.slot i pv p1;exact⟨u::us,.cons hu q1,.cons ⟨pv,hr,p2⟩ q2⟩
def μX(e:ES (std n))(c:Ctx)(i:Nat):Option Nat:=match e.ren[i]? with | some (some (some l))=>c.μ l | some (some none)=>none | _=>c.μ i
theorem Mj(w:World)(K:Bool->Nat->Prop)(μ:Nat->Option Nat)(k:Nat)(hlow:∀f b,K f b->b<w.heap.size)(hsub:∀b,K true b->K false b):bH {K:=K,μ:=μ,n:=k} w []:=
 ⟨λl o h=>by simp [AE.look]at h,λl o l' o' b h=>by simp [AE.look]at h,λf b ⟨l,o,hl,_⟩=>by simp [AE.look]at hl,hlow,hsub⟩
theorem Jm{E:Tab}{k:Nat}{sk:Gy}{s:RSt (std n)}{ck:List Bool}{x:iC sk.tys}(hx:EM (std n) k sk s=some (ck,x))(hck:∀b∈ck,b=true){s':St}(S:SR s' s){c:Ctx}{w:World}{a:Act}(A:jy E s' c w a)
  {c0:Ctx} {w0:World} {h0:Heap} (hc0:c0.n=k) (g:Grow c0 w0 h0 c w s'.h) {m:Nat} (hm:s.m=m):
  ∃c2 s2',Grow c0 w0 h0 c2 w s2'.h/\jy E s2' c2 w a/\SR s2' (rF (std n) sk m x)/\Keep k s.h (rF (std n) sk m x).h/\(rF (std n) sk m x).m=m:=by
 unfold EM at hx;split at hx
 .cases hx
 rename_i hkl;have hkl:k<=sk.objs.length:=by
  have:Nat.ble k sk.objs.length=true:=by simpa using hkl
  exact Nat.le_of_ble_eq_true this
 split at hx
 .rename_i e1 he1;split at hx
  .rename_i e he;split at hx
   .rename_i iZ;split at hx
    .rename_i x' hx';cases hx;have iZ:=Jg iZ;obtain⟨vs,v1,v2⟩:=Hw he1;obtain⟨us,u1,u2⟩:=Fh S A v1;obtain⟨new1,vs2,a1,a2,a3,a4⟩:=um (λi=>i) v2;obtain⟨new2,os2,b1,b2,b3,b4,b5⟩:=pU (λi=>i) (λ_=>(.gone .i64 0:aM)) (λ_=>⟨.i64,0,rfl⟩) he;have hlv:e.lv.reverse=new1++new2:=by rw [b1,a1];simp [es0]
     have hun:=unpack_pack hx';rw [hlv]at hun;have hrl:e.ren.length=sk.objs.length:=by rw [b2.len,a2.len,Jk]
     have hof:∀(j:Nat) (kk:SkO),sk.objs[j]? =some kk->∃o2,os2[j]? =some o2/\OF e s.h (λi=>i) j kk (.gone .i64 0) o2:=λj kk hj=>by
      obtain⟨o2,q1,q2⟩:=b5 e (.refl _) j kk hj;exact⟨o2,q1,by simpa using q2⟩
     have CG:rF (std n) sk m x={t:=(sk.slots.map (·.1)).zip (vs2.map λv=>(⟨none,v⟩:SV (std n))),gs:=[],h:=os2,m:=m}:=by
      unfold rF;rw [hun,a3];simp only;have:=b3 [];rw [List.append_nil]at this;rw [show qG aG (λi=>i) (λ_=>dQ.gone Co.i64 ((std n).lit 0)) 0 sk.objs new2=some (os2,[])from this]
     have H:=A.abs.heap
     obtain⟨o',m1,m2,m3,m4,m5,_⟩:=yQ (ks:=sk.objs) (nm:=λi=>i) (old:=λ_=>(.gone .i64 0:aM)) H S.heap hck iZ hrl b4 hof (cb:={K:=λ_ _=>False,μ:=μX e c,n:=k}) (hb':=[])
      (Mj w _ _ _ (λ_ _ h=>h.elim) (λ_ h=>h)) false (λh=>by cases h) (μ2:=μX e c) (n2:=sk.objs.length) hkl (λ_ _=>rfl) (λi hi=>hi) (λi j _ _ h=>h)
      (λi l hi=>by simp only [μX];rw [hi]) (λi hi=>by simp only [μX];rw [hi]) (h2:=os2) (λi _=>rfl)
      (λl o hl ho=>by
       have:sk.objs.length<=l:=by
        rcases Nat.lt_or_ge l sk.objs.length with h | h
        .exact absurd rfl (hl l h)
        .exact h
       rw [List.getElem?_eq_none ah]at ho;cases ho) (λ_ _=>rfl)
      (λb ⟨l,o,hl,_⟩ _=>by simp [AE.look]at hl) (λf b h _=>h) (λf b ⟨l,o,hl,_⟩ _=>by simp [AE.look]at hl)
     have hmu:∀l,l<k->μX e c l=c.μ l:=λl hl=>by
      have h0:=Jj (n:=n) hl (Nat.lt_of_lt_of_le hl hkl) (os:=sk.objs);unfold μX;by_cases hg:qE sk.objs[l]? =true
      .have hgo:sk.objs[l]? =some .gone:=by
        unfold qE at hg;split at hg
        .assumption
        .cases hg
       cases hr:e.ren[l]? with
       | none=>rfl
       | some q=>
        cases q with
        | none=>rfl
        | some v=>exact absurd hgo (iZ.gone hr)
      .rw [if_neg hg]at h0;have:=b2.ren l _ (a2.ren l _ h0);rw [this]
     have hgr:Grow c0 w0 h0 {K:=λf b=>False\/KX e c false f b,μ:=μX e c,n:=sk.objs.length} w (rJ (λi=>i) o' (List.range sk.objs.length) []):=by
      refine⟨⟨λf b hb=> .inr (.inl (by simpa using g.le.K f b hb)),by rw [hc0];exact hkl,λl hl=> ?_⟩,g.size,g.stays,g.kept,λf b hb=> ?_,λb hb=> ?_,g.os,g.tape,g.output⟩
      .show μX e c l=c0.μ l;rw [hmu l (by rw [<-hc0];exact hl)];exact g.le.μ l hl
      .rcases hb with hb | hb | ⟨l,f',q1,q2,q3⟩
       .exact hb.elim
       .exact g.wL f b (by simpa using hb)
       .obtain⟨_,g',cc,xs,hl⟩:=iZ.fro l f' q1;obtain⟨o2,ho2,hO⟩:=S.heap.old l _ hl;cases hO with | rows _=>
        exact .inr ((g.oJ b ⟨l,_,ho2,trivial,q2⟩).elim .inr .inl)
      .rcases m4 b hb with⟨l,o,hl,_⟩ | ⟨i,lq,q,_,q1,q2,q3⟩
       .simp [AE.look]at hl
       .exact g.oJ b ⟨lq,q,q1,q2,q3⟩
     obtain⟨pvs,p1,p2⟩:=Jl (a4 H S.heap (b2) hck m3 (λh=>by cases h) u2);refine⟨_,{t:=(sk.slots.map (·.1)).zip (pvs.map some),h:=rJ (λi=>i) o' (List.range sk.objs.length) [],n:=sk.objs.length,k:=0,m:=m},hgr,⟨⟨λi v hv=>Fg p1 u1 i v hv,m1,?_⟩,rfl,A.defers,by rw [A.size,S.m,hm]⟩,?_,?_,by rw [CG]⟩
     .intro gg d hd;obtain⟨q1,u,q2,q3⟩:=A.abs.glob gg d hd;exact⟨.inr (.inl (by simpa using q1)),u,q2,q3.mono' λb hb=> .inr (.inl (by simpa using hb))⟩
     .rw [CG];refine⟨m2,by simp [nm,b4],rfl,λi sv hi=> ?_,λt e he=>by simp at he⟩;obtain⟨q1,q2⟩:=Fe p2 i sv hi;unfold zU;rw [q1];exact q2
     .rw [CG];intro i hi;have hik:i<sk.objs.length:=Nat.lt_of_lt_of_le hi hkl;have hsk:sk.objs[i]? =some sk.objs[i]:=List.getElem?_eq_getElem hik;obtain⟨o2,q1,q2⟩:=hof i _ hsk;have h0:=Jj (n:=n) hi hik;by_cases hg:sk.objs[i]= .gone
      .have:Gone os2 i:=⟨.i64,0,by rw [q1,q2.gone hg]⟩;exact⟨λ_=>this,λ_ _=> .inl this⟩
      .have hig:qE sk.objs[i]? =false:=by
        rw [hsk];unfold qE;split
        .rename_i hh;exact absurd (Option.some.inj hh) hg
        .rfl
       rw [hig]at h0;have h0:(es0 (std n) k sk.objs).ren[i]? =some (some (some i)):=by simpa using h0
       have hre:=b2.ren i _ (a2.ren i _ h0);have htr:qD (std n) e i=none:=by rw [b2.tr i _ (a2.ren i _ h0),a2.tr i _ h0];rfl
       refine⟨λ⟨cc,nn,hgo⟩=> ?_,λx hx=> .inr ?_⟩
       .obtain⟨oo,r1,r2,r3,r4⟩:=q2.rel H S.heap hck m3 (λh=>by cases h);obtain⟨o3,h3,h4⟩:=r4 i hg hre;obtain⟨o4,h5,h6⟩:=S.heap.old i _ hgo;rw [h3]at h5;cases h5;cases h6;exact h4.elim
       .have:=q2.s1 i x.1 x.2 hg hre (by rw [hx]);rw [htr]at this;simp only [nmh,q1];simpa [nmh]using this
    .cases hx
   .cases hx
  .cases hx
 .cases hx
end
end Go.TX
namespace Go.TX
open Go Go.AE
variable [aB]
section
variable {n:Nat}
def LX(E:Tab)(c0:Ctx)(w0:World)(h0:Heap)(k:Nat)(H0:List aM)(m0:Nat){ρ:Type}(K:Exit->RSt (std n)->(ρ->Prop)->Prop)(r:ρ->Prop):Exit->Act->World->Prop
 | .outgrown,_,_=>False
 | .panic _,_,_=>False
 | .goto _,_,_=>False
 | e,a,w=>∃c s' s,Grow c0 w0 h0 c w s'.h/\jy E s' c w a/\SR s' s/\Keep k H0 s.h/\s.m=m0/\K e s r
theorem Oj{E:Tab}{c0:Ctx}{w0:World}{h0:Heap}{k:Nat}{H0:List aM}{m0:Nat}(hc0:c0.n=k){code:Code}{a:Act}{w:World}{sk:Gy}{pl:Bool}{s:RSt (std n)}(hs:s.m=m0){ρ:Type}{K:Exit->RSt (std n)->(ρ->Prop)->Prop}{r:ρ->Prop}
  {W: {σ:Type}->(Exit->RSt (std n)->(σ->Prop)->Prop)->(σ->Prop)->Prop} (hW:∀ {σ:Type} {K':Exit->RSt (std n)->(σ->Prop)->Prop} {r':σ->Prop},W K' r'->code.wp E.P (LX E c0 w0 h0 k H0 m0 K' r') a w)
  (h:Oc (std n) k sk pl s K W r):code.wp E.P (LX E c0 w0 h0 k H0 m0 K r) a w:=by
 have step:∀ {t:iC sk.tys} {s1:RSt (std n)} {ck:List Bool},EM (std n) k sk s1=some (ck,t)->(∀b∈ck,b=true)->K .normal (rF (std n) sk s.m t) r->∀ {c s' a w},Grow c0 w0 h0 c w s'.h->jy E s' c w a->SR s' s1->Keep k H0 s1.h->s1.m=m0->LX E c0 w0 h0 k H0 m0 K r .normal a w:=by
  intro t s1 ck h1 h2 h3 c s' a w g A S hK hm;obtain⟨c2,s2',g2,A2,S2,K2,hm2⟩:=Jm h1 h2 S A hc0 g hm;rw [hs]at h3;exact⟨c2,s2',_,g2,A2,S2,hK.trans K2,hm2,h3⟩
 unfold Oc at h;split at h
 .refine wp_mono (hW h) ?_;intro e a' w' he;cases e with
  | outgrown=>exact he.elim
  | panic _=>exact he
  | goto _=>exact he
  | normal=>
   obtain⟨c,s',s1,a1,a2,a3,a4,a5,a6⟩:=he;simp only at a6;rcases hx:EM (std n) k sk s1 with _ | ⟨ck,t'⟩
   .rw [hx]at a6;exact a6.elim
   .rw [hx]at a6;obtain⟨q1,q2⟩:=fQ a6;exact step hx q1 q2 a1 a2 a3 a4 a5
  | ret=>obtain⟨c,s',s1,a1,a2,a3,a4,a5,a6⟩:=he;exact a6.elim
  | exit i=>obtain⟨c,s',s1,a1,a2,a3,a4,a5,a6⟩:=he;exact a6.elim
 .refine wp_mono (hW h) ?_;intro e a' w' he;cases e with
  | outgrown=>exact he.elim
  | panic _=>exact he
  | goto _=>exact he
  | normal=>
   obtain⟨c,s',s1,a1,a2,a3,a4,a5,a6⟩:=he;simp only at a6;rcases hx:EM (std n) k sk s1 with _ | ⟨ck,t'⟩
   .rw [hx]at a6;exact a6.elim
   .rw [hx]at a6;obtain⟨q1,q2⟩:=fQ a6;exact step hx q1 q2 a1 a2 a3 a4 a5
  | ret=>obtain⟨c,s',s1,a1,a2,a3,a4,a5,a6⟩:=he;exact⟨c,s',s1,a1,a2,a3,a4,a5,a6⟩
  | exit i=>obtain⟨c,s',s1,a1,a2,a3,a4,a5,a6⟩:=he;exact⟨c,s',s1,a1,a2,a3,a4,a5,a6⟩
section
variable {X:XT} {E:Tab} (hE:aC E) (hX:XOK X E) {C:Calls aG} (hG:oL E (jV C)) (hm:E.P.follows .mixedOrders=true) {ord:Nat->List fC} {chk:Nat->Array Oper->Nat->Bool} (Mk:∀id ops m,chk id ops m=true->Static E ord id ops m)
 {c0:Ctx} {w0:World} {h0:Heap} {k:Nat} {H0:List aM} {m0:Nat} (hc0:c0.n=k)
include hE hX hG hm Mk
theorem akp{id:Nat}{ops:Array Oper}{draw:Bool}{s:RSt (std n)}{ρ:Type}{K:Exit->RSt (std n)->(ρ->Prop)->Prop}{r:ρ->Prop}
  (h:(if draw then(if chk id ops s.m then iK (std n) X C ops.toList (ord id) [] (λs=>K .normal s) s else(std n).fail)else fF (std n) X C ops.toList ops.toList (λs=>K .normal s) s:(std n).M ρ) r)
  {s':St} {c:Ctx} {w:World} {a:Act} (A:jy E s' c w a) (g:Grow c0 w0 h0 c w s'.h) (S:SR s' s) (hK:Keep k H0 s.h) (hs:s.m=m0):(Code.region id ops draw).wp E.P (LX E c0 w0 h0 k H0 m0 K r) a w:=by
 have fin:∀ {e:Exit} {a:Act} {w:World},wS E c0 w0 h0 (λe s1'=>e= .normal/\∃s1,SR s1' s1/\(∀k,Keep k s.h s1.h)/\s1.m=m0/\K .normal s1 r) e a w->LX E c0 w0 h0 k H0 m0 K r e a w:=by
  intro e a w he;cases e with
  | outgrown=>exact he.elim
  | panic _=>exact he
  | goto _=>exact he
  | normal=>obtain⟨c,s1',a1,a2,_,s1,a3,a4,a5,a6⟩:=he;exact⟨c,s1',s1,a1,a2,a3,hK.trans (a4 k),a5,a6⟩
  | ret=>obtain⟨c,s1',a1,a2,q,_⟩:=he;cases q
  | exit i=>obtain⟨c,s1',a1,a2,q,_⟩:=he;cases q
 split at h
 .rename_i hd;subst hd;split at h
  .rename_i hc;have hst:=Mk _ _ _ hc;have hr:=Jh hX (h0:=s.h) (m0:=m0) (hs':=[]) S (λ_=> .refl _ _) hs (λp hp=>by simp at hp) h;refine wp_mono (aj7 hE hG hm ord id ops (λe s1'=>e= .normal/\∃s1,SR s1' s1/\(∀k,Keep k s.h s1.h)/\s1.m=m0/\K .normal s1 r) s' c0 w0 h0 c w a A g ⟨by rw [S.m];exact hst,?_⟩) λe a w=>fin
   simpa using hr
  .exact h.elim
 .rename_i hd;have:draw=false:=by simpa using hd
  subst this;have hr:=Hr hX (h0:=s.h) (m0:=m0) S (λ_=> .refl _ _) hs h;refine wp_mono (wp_region_list (zC hE hG (Q:=λe s1'=>e= .normal/\∃s1,SR s1' s1/\(∀k,Keep k s.h s1.h)/\s1.m=m0/\K .normal s1 r) ops ops.toList A g ?_)) λe a w=>fin
  simpa using hr
end
end
end Go.TX
