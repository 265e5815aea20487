/- Part 2 of a proof: what the last part needs. No condition. -/
import Derived.Test.YtaaefcglllhodaaGreatZa
set_option linter.all false
set_option linter.unusedSectionVars false
set_option linter.unusedVariables false
set_option linter.unusedSimpArgs false
namespace Go.TX
open Go Go.AE
@[ext] structure Ins where
 op:Int
 d:Int
 a:Int
 k:Int
 deriving DecidableEq,Inhabited
structure Form where
 d:Bool
 a:Bool
 most:Int
 words:List ByteArray
 deriving Inhabited
@[ext] structure aj where
 aW:Int
 atoms:List Int
 deriving DecidableEq,Inhabited
@[ext] structure Atom where
 kind:Int
 k:Int
 x:List aj
 y:List aj
 deriving DecidableEq,Inhabited
@[ext] structure IOp where
 kind:Int
 x:Int
 y:Int
 k:Int
 at_:Int
 deriving DecidableEq,Inhabited
@[ext] structure Blk where
 pc:Int
 len:Int
 ops:List IOp
 fin:Int
 x:Int
 y:Int
 k:Int
 deriving DecidableEq,Inhabited
@[ext] structure aH where
 regs:List Int
 pc:Int
 mem:List Int
 save:Int
 dV:Bool
 waits:Bool
 halt:Int
 ins:List Int
 outs:List Int
 count:Int
 deriving DecidableEq,Inhabited
@[ext] structure Ev where
 kind:Int
 at_:Int
 x:List aj
 y:List aj
 regs:List (List aj)
 deriving DecidableEq,Inhabited
@[ext] structure Sym where
 events:List Ev
 regs:List (List aj)
 fin:Int
 x:List aj
 y:List aj
 k:Int
 deriving DecidableEq,Inhabited
@[ext] structure Cac where
 words:List Int
 blk:Blk
 deriving DecidableEq,Inhabited
@[ext] structure Cer where
 base:Blk
 made:Blk
 deriving DecidableEq,Inhabited
@[ext] structure Ask where
 own:Bool
 bytes:List Int
 deriving DecidableEq,Inhabited
@[ext] structure Eng where
 iK:aH
 cache:List Cac
 XG:List Cer
 deriving DecidableEq,Inhabited
inductive Co where
 | i64 | u8 | bool | str | ins | form | mono | poly | atom | tab | iop | blk | iK | ev | sym | cac | cer | ask | eng | ints
 deriving DecidableEq,Inhabited,Repr
inductive Sh where
 | int (k:IntKind) | bool | str | rows (c:Co)
 deriving DecidableEq,Inhabited
abbrev Sh.i:Sh:= .int .i64
def afD:List Sh:=[.i,.i,.rows .iop,.i,.i,.i,.i]
def XH:List Sh:=[.rows .i64,.i,.rows .i64,.i,.bool,.bool,.i,.rows .i64,.rows .i64,.i]
abbrev Co.fields : Co -> List Sh
 | .i64=> [.i] | .u8=> [.int .u8] | .bool=> [.bool] | .str=> [.str]
 | .ins=> [.i,.i,.i,.i]
 | .form=> [.bool,.bool,.i,.rows .str]
 | .mono=> [.i,.rows .i64]
 | .poly=> [.rows .mono]
 | .atom=> [.i,.i,.rows .mono,.rows .mono]
 | .tab=> [.rows .atom]
 | .iop=> [.i,.i,.i,.i,.i]
 | .blk=>afD
 | .iK=>XH
 | .ev=> [.i,.i,.rows .mono,.rows .mono,.rows .poly]
 | .sym=> [.rows .ev,.rows .poly,.i,.rows .mono,.rows .mono,.i]
 | .cac=> .rows .i64::afD
 | .cer=>afD++afD
 | .ask=> [.bool,.rows .u8]
 | .eng=>XH++ [.rows .cac,.rows .cer]
 | .ints=> [.rows .i64]
abbrev Co.den : Co -> Type
 | .i64=>Int | .u8=>Int | .bool=>Bool | .str=>ByteArray
 | .ins=>Ins | .form=>Form | .mono=>aj | .poly=>List aj | .atom=>Atom | .tab=>List Atom | .iop=>IOp
 | .blk=>Blk | .iK=>aH | .ev=>Ev | .sym=>Sym | .cac=>Cac | .cer=>Cer | .ask=>Ask | .eng=>Eng | .ints=>List Int
instance (c:Co):Inhabited c.den:=match c with
 | .i64=>inferInstanceAs (Inhabited Int) | .u8=>inferInstanceAs (Inhabited Int) | .bool=>inferInstanceAs (Inhabited Bool) | .str=>inferInstanceAs (Inhabited ByteArray)
 | .ins=>inferInstanceAs (Inhabited Ins) | .form=>inferInstanceAs (Inhabited Form) | .mono=>inferInstanceAs (Inhabited aj) | .poly=>inferInstanceAs (Inhabited (List aj))
 | .atom=>inferInstanceAs (Inhabited Atom) | .tab=>inferInstanceAs (Inhabited (List Atom)) | .iop=>inferInstanceAs (Inhabited IOp) | .blk=>inferInstanceAs (Inhabited Blk)
 | .iK=>inferInstanceAs (Inhabited aH) | .ev=>inferInstanceAs (Inhabited Ev) | .sym=>inferInstanceAs (Inhabited Sym) | .cac=>inferInstanceAs (Inhabited Cac)
 | .cer=>inferInstanceAs (Inhabited Cer) | .ask=>inferInstanceAs (Inhabited Ask) | .eng=>inferInstanceAs (Inhabited Eng)
 | .ints=>inferInstanceAs (Inhabited (List Int))
inductive LTy where
 | i | b | s | l (c:Co) | x (c:Co)
 deriving DecidableEq,Inhabited
abbrev Sh.lty : Sh -> LTy
 | .int _=> .i | .bool=> .b | .str=> .s | .rows c=> .l c
def Co.flat(c:Co):Bool:=c.fields.all λs=>match s with | .rows _=>false | _=>true
abbrev Co.pI(c : Co) : List LTy := c.fields.map Sh.lty
structure Car where
 I:Type
 B:Type
 S:Type
 L:Co->Type
 X:Co->Type
abbrev LT(A : Car) : LTy -> Type
 | .i=>A.I | .b=>A.B | .s=>A.S | .l c=>A.L c | .x c=>A.X c
abbrev Tup(A : Car) : List LTy -> Type
 | []=>Unit
 | t::r=>LT A t×Tup A r
inductive LV (A:Car) where
 | i (x:A.I) | b (x:A.B) | s (x:A.S) | l (c:Co) (x:A.L c) | x (c:Co) (v:A.X c)
def apA(A:Car):(t:LTy)->LT A t->LV A
 | .i,x=> .i x | .b,x=> .b x | .s,x=> .s x | .l c,x=> .l c x | .x c,x=> .x c x
def unpack(A:Car):(ts:List LTy)->Tup A ts->List (LV A)
 | [],_=> []
 | t::r,x=>apA A t x.1::unpack A r x.2
def ajS(A:Car):(t:LTy)->LV A->Option (LT A t)
 | .i,.i x=>some x | .b,.b x=>some x | .s,.s x=>some x
 | .l c,.l c' x=>if h:c'=c then some (h▸x)else none
 | .x c,.x c' x=>if h:c'=c then some (h▸x)else none
 | _,_=>none
def pack(A:Car):(ts:List LTy)->List (LV A)->Option (Tup A ts)
 | [],[]=>some ()
 | t::r,v::vs=>match ajS A t v with
  | some a=>match pack A r vs with | some b=>some (a,b) | none=>none
  | none=>none
 | _,_=>none
structure Alg extends au:Car where
 M:Type->Type
 lit:Int->I
 bl:Bool->B
 st:ByteArray->S
 arith:BinOp->IntKind->I->I->I
 cmp:BinOp->I->I->B
 addN:I->I->I
 K4:I->I->I
 neg:IntKind->I->I
 conv:IntKind->I->I
 Nq:I->I->I
 jf:I->I->I
 yN:B->B
 K6:B->B->B
 orB:B->B->B
 eqB:B->B->B
 eqS:S->S->B
 Nr:L .u8->S
 Ns:B->I->I->I
 IK:B->B->B->B
 Nt:B->(c:Co)->L c->L c->L c
 Wz:B->(c:Co)->X c->X c->X c
 len:(c:Co)->L c->I
 Ew:(c:Co)->L c
 get:(c:Co)->L c->I->X c
 set:(c:Co)->L c->I->X c->L c
 app:(c:Co)->L c->L c->L c
 sub:(c:Co)->L c->I->I->L c
 rep:(c:Co)->I->X c->L c
 lst:(c:Co)->List (X c)->L c
 glob:Nat->(c:Co)->L c
 fI:(c:Co)->Nat->X c->I
 fB:(c:Co)->Nat->X c->B
 fS:(c:Co)->Nat->X c->S
 fL:(c:Co)->Nat->(c':Co)->X c->L c'
 mkX:(c:Co)->Tup au c.pI->X c
 eqX:(c:Co)->X c->X c->B
 ret:(ts:List LTy)->Tup au ts->M (Tup au ts)
 sO: {ρ:Type}->(ts:List LTy)->Tup au ts->(Tup au ts->M ρ)->M ρ
 fail: {ρ:Type}->M ρ
 chk: {ρ:Type}->B->M ρ->M ρ
 cond: {ρ:Type}->B->M ρ->M ρ->M ρ
 bind: {ρ:Type}->(ts:List LTy)->M (Tup au ts)->(Tup au ts->M ρ)->M ρ
 tX: {ρ:Type}->(ts:List LTy)->M (Sum (Tup au ts) ρ)->(Tup au ts->M ρ)->M ρ
 inl: {ρ:Type}->(ts:List LTy)->Tup au ts->M (Sum (Tup au ts) ρ)
 inr: {ρ:Type}->(ts:List LTy)->M ρ->M (Sum (Tup au ts) ρ)
 iter: {ρ:Type}->(ts:List LTy)->(Tup au ts->M (Sum (Tup au ts) ρ))->Tup au ts->M ρ
inductive Leaf (A:Car) where
 | int (k:IntKind) (x:A.I) | bool (x:A.B) | str (x:A.S) | rows (c:Co) (xs:A.L c)
inductive TC (A:Car) where
 | d (f:Bool) (x:Leaf A)
 | nil
 | clip (f:Bool) (c:Co) (xs:A.L c)
 | own (l:Nat)
 | os (l:Nat) (lo n:A.I)
 | pb (l sz j:Nat)
 | pr (l:Nat) (i:A.I) (j:Nat)
 | rp (f:Bool) (c:Co) (xs:A.L c) (i:A.I) (j:Nat)
 | gp (g:Nat) (c:Co)
 | fn (g:FuncId) (caps:List (Nat×Nat))
 | np
inductive TV (A:Car) where
 | c (x:TC A)
 | agg (cs:List (TC A))
 | sv (f:Bool) (c:Co) (x:A.X c)
 | tup (vs:List (TV A))
inductive dP (A:Car) where
 | box (v:TV A)
 | rows (f:Bool) (c:Co) (xs:A.L c)
 | gone (c:Co) (n:A.I)
structure XT where
 ty:TypeId->Option TY
 co:TypeId->Option Co
 glob:Nat->Option Co
 ieq:TypeId->Option Co
section
variable (A:Alg)
def ajT(c:Co)(j:Nat)(x:A.X c):Sh->Leaf A.au
 | .int k=> .int k (A.fI c j x)
 | .bool=> .bool (A.fB c j x)
 | .str=> .str (A.fS c j x)
 | .rows c'=> .rows c' (A.fL c j c' x)
def fK(c:Co)(x:A.X c):Nat->List Sh->List (Leaf A.au)
 | _,[]=> []
 | j,s::r=>ajT A c j x s::fK c x (j+1) r
def oM(f:Bool)(c:Co)(x:A.X c):List (TC A.au):=(fK A c x 0 c.fields).map (.d f)
def bU:TV A.au->List (TC A.au)
 | .c x=> [x]
 | .agg cs=>cs
 | .sv f c x=>oM A f c x
 | .tup _=> []
def Leaf.lv{A:Car}:Leaf A->LV A
 | .int _ x=> .i x | .bool x=> .b x | .str x=> .s x | .rows c xs=> .l c xs
def Leaf.flag{A:Car}(f:Bool):Leaf A->Bool
 | .rows _ _=>f | _=>true
def iZ{A:Car}:Leaf A->Sh
 | .int k _=> .int k | .bool _=> .bool | .str _=> .str | .rows c _=> .rows c
def eU(h:List (dP A.au))(s:Sh)(x:TC A.au):Option (Bool×LV A.au×List Nat):=
 match x with
 | .d f y=>if iZ y=s then some (y.flag f,y.lv,[])else none
 | .nil=>match s with | .rows c=>some (true,.l c (A.Ew c),[]) | _=>none
 | .clip f c xs=>if Sh.rows c=s then some (f,.l c xs,[])else none
 | .own l=>match h[l]? with | some (.rows f c xs)=>if Sh.rows c=s then some (f,.l c xs,[l])else none | _=>none
 | _=>none
def aP(h:List (dP A.au)):List Sh->List (TC A.au)->Option (Bool×List (LV A.au)×List Nat)
 | [],[]=>some (true,[],[])
 | s::r,x::xs=>match eU A h s x with
  | some (f,y,l)=>match aP h r xs with | some (g,ys,ls)=>if l.all λi=> !ls.contains i then some (f&&g,y::ys,l++ls)else none | none=>none
  | none=>none
 | _,_=>none
def toX(h:List (dP A.au))(c:Co)(v:TV A.au):Option (Bool×A.X c×List Nat):=
 match v with
 | .sv f c' x=>if e:c'=c then some (f || c.flat,e▸x,[])else none
 | .tup _=>none
 | v=>match aP A h c.fields (bU A v)with
  | some (f,ys,ls)=>match pack A.au c.pI ys with | some t=>some (f,A.mkX c t,ls) | none=>none
  | none=>none
def bF:TV A.au->Bool | .agg _ | .sv .. =>true | _=>false
def jF(y:TY)(j:Nat)(whole:TV A.au)(cs:List (TC A.au)):Option (TV A.au):=
 if y.desc.agg then
  (if(j==0)&& (y.size==cs.length)&&bF A whole then some whole else if Nat.ble (j+y.size) cs.length then some (.agg ((cs.drop j).take y.size))else none)
 else match cs[j]? with
  | some x=>(match y.desc with
   | .int k=>(match x with | .d _ (.int k' _)=>if k=k' then some (.c x)else none | _=>none)
   | _=>some (.c x))
  | none=>none
abbrev PR:=Option (List A.B×TV A.au)
def okV(v:TV A.au):PR A:=some ([],v)
def okI(k:IntKind)(x:A.I):PR A:=some ([],.c (.d true (.int k x)))
def okB(x:A.B):PR A:=some ([],.c (.d true (.bool x)))
def K7(v:Option (TV A.au)):PR A:=match v with | some v=>some ([],v) | none=>none
def evX(X:XT)(e:Nat->Option (TV A.au)):Operand->Option (TV A.au)
 | .tmp i=>e i
 | .const v=>match v with
  | .int k n=>some (.c (.d true (.int k (A.lit n))))
  | .bool b=>some (.c (.d true (.bool (A.bl b))))
  | .string s=>some (.c (.d true (.str (A.st s))))
  | .slice none 0 0=>some (.c .nil)
  | .pointer none=>some (.c .np)
  | _=>none
 | .global g=>match X.glob g with | some c=>some (.c (.gp g c)) | none=>none
 | .func f=>some (.c (.fn f []))
def K8(X:XT)(h:List (dP A.au))(ty:TypeId)(p:TV A.au):PR A:=
 match X.ty ty with
 | none=>none
 | some y=>match p with
  | .c (.pb l sz j)=>match h[l]? with
   | some (.box v)=>if(bU A v).length==sz then K7 A (jF A y j v (bU A v))else none
   | _=>none
  | .c (.pr l i j)=>match h[l]? with
   | some (.rows f c xs)=>match jF A y j (.sv f c (A.get c xs i)) (oM A f c (A.get c xs i))with
    | some v=>some ([A.cmp .leq (A.lit 0) i,A.cmp .lss i (A.len c xs)],v)
    | none=>none
   | _=>none
  | .c (.rp f c xs i j)=>K7 A (jF A y j (.sv f c (A.get c xs i)) (oM A f c (A.get c xs i)))
  | .c (.gp g c)=>match y.desc with | .slice _=>some ([],.c (.d false (.rows c (A.glob g c)))) | _=>none
  | _=>none
def IL:BinOp->Bool
 | .add | .sub | .mul | .quo | .rem | .and | .or | .xor | .shl | .shr=>true
 | _=>false
def XI:BinOp->Bool
 | .eql | .neq | .lss | .leq | .gtr | .geq=>true
 | _=>false
def ajU(X:XT)(op:BinOp)(ty:TypeId)(a b:TV A.au):PR A:=
  match a,b with
  | .c (.d _ (.int k x)),.c (.d _ (.int k' y))=>
    if k=k'\/Uh op=true then
      (match op with
       | .quo | .rem=>some ([A.cmp .neq y (A.lit 0)],.c (.d true (.int k (A.arith op k x y))))
       | .shl | .shr=>some ([A.cmp .leq (A.lit 0) y],.c (.d true (.int k (A.arith op k x y))))
       | op=>if IL op then okI A k (A.arith op k x y)else if XI op then okB A (A.cmp op x y)else none)
    else none
  | .c (.d _ (.bool x)),.c (.d _ (.bool y))=>match X.ty ty with
    | some z=>match z.desc with
      | .bool=>(match op with | .eql=>okB A (A.eqB x y) | .neq=>okB A (A.yN (A.eqB x y)) | _=>none)
      | _=>none
    | none=>none
  | .c (.d _ (.str x)),.c (.d _ (.str y))=>match X.ty ty with
    | some z=>match z.desc with
      | .str=>(match op with | .eql=>okB A (A.eqS x y) | .neq=>okB A (A.yN (A.eqS x y)) | _=>none)
      | _=>none
    | none=>none
  | .c (.os _ _ m),.c .nil=>match X.ty ty with
    | some z=>match z.desc with
      | .slice _=>(match op with
        | .eql=>some ([A.cmp .neq m (A.lit 0)],.c (.d true (.bool (A.bl false))))
        | .neq=>some ([A.cmp .neq m (A.lit 0)],.c (.d true (.bool (A.bl true))))
        | _=>none)
      | _=>none
    | none=>none
  | .c (.d _ (.rows c xs)),.c .nil=>match X.ty ty with
    | some z=>match z.desc with
      | .slice _=>(match op with
        | .eql=>some ([A.cmp .neq (A.len c xs) (A.lit 0)],.c (.d true (.bool (A.bl false))))
        | .neq=>some ([A.cmp .neq (A.len c xs) (A.lit 0)],.c (.d true (.bool (A.bl true))))
        | _=>none)
      | _=>none
    | none=>none
  | v,w=>match X.ieq ty with
    | some c=>match toX A [] c v,toX A [] c w with
      | some (_,x,_),some (_,y,_)=>(match op with | .eql=>okB A (A.eqX c x y) | .neq=>okB A (A.yN (A.eqX c x y)) | _=>none)
      | _,_=>none
    | none=>none
def ajV(h:List (dP A.au))(v:TV A.au):TV A.au:=match v with
 | .c (.own l)=>(match h[l]? with | some (.rows _ c xs)=> .c (.os l (A.lit 0) (A.len c xs)) | _=>v)
 | _=>v
def unX(op:UnOp)(a:TV A.au):PR A:=
 match op,a with
 | .not,.c (.d _ (.bool b))=>okB A (A.yN b)
 | .neg,.c (.d _ (.int k n))=>okI A k (A.neg k n)
 | _,_=>none
def XJ(X:XT)(src dst:TypeId)(a:TV A.au):PR A:=
 match X.ty src,X.ty dst with
 | some z,some y=>match y.desc,a with
  | .int k,.c (.d _ (.int _ n))=>okI A k (A.conv k n)
  | .str,.c (.d _ (.rows .u8 xs))=>(match z.desc with
   | .slice e=>(match X.ty e with
    | some t=>(match t.desc with | .int .u8=>some ([],.c (.d true (.str (A.Nr xs)))) | _=>none)
    | none=>none)
   | _=>none)
  | _,_=>none
 | _,_=>none
def yO(X:XT)(s:TypeId)(a:TV A.au)(f:Nat):PR A:=
 match X.ty s with
 | some y=>match y.desc with
  | .struct fs=>match fs[f]? with
   | some (off,ft)=>match X.ty ft with
    | some z=>if z.size==0 then none else(match a with
     | .c (.pb l sz j)=>okV A (.c (.pb l sz (j+off)))
     | .c (.pr l i j)=>okV A (.c (.pr l i (j+off)))
     | .c (.rp g c xs i j)=>okV A (.c (.rp g c xs i (j+off)))
     | _=>none)
    | none=>none
   | none=>none
  | _=>none
 | none=>none
def Nu(X:XT)(s:TypeId)(a:TV A.au)(f:Nat):PR A:=
 match X.ty s with
 | some y=>match y.desc with
  | .struct fs=>match fs[f]? with
   | some (off,ft)=>match X.ty ft with
    | some z=>if bF A a&&Nat.ble (off+z.size) (bU A a).length then
      (if z.desc.agg then okV A (.agg (((bU A a).drop off).take z.size))else match (bU A a)[off]? with | some x=>okV A (.c x) | none=>none)
     else none
    | none=>none
   | none=>none
  | _=>none
 | none=>none
def jR(X:XT)(e:TypeId)(c:Co):Bool:=match X.ty e with | some z=>z.size==c.fields.length | none=>false
def yQ(X:XT)(h:List (dP A.au))(t:TypeId)(a ix:TV A.au):PR A:=
 match X.ty t with
 | some y=>match y.desc,ix with
  | .slice e,.c (.d _ (.int _ i))=>match a with
   | .c (.d f (.rows c xs))=>if jR X e c then some ([A.cmp .leq (A.lit 0) i,A.cmp .lss i (A.len c xs)],.c (.rp f c xs i 0))else none
   | .c (.clip f c xs)=>if jR X e c then some ([A.cmp .leq (A.lit 0) i,A.cmp .lss i (A.len c xs)],.c (.rp f c xs i 0))else none
   | .c (.own l)=>match h[l]? with
    | some (.rows _ c xs)=>if jR X e c then some ([A.cmp .leq (A.lit 0) i,A.cmp .lss i (A.len c xs)],.c (.pr l i 0))else none
    | _=>none
   | .c (.os l lo n)=>match h[l]? with
    | some (.rows _ c _)=>if jR X e c then some ([A.cmp .leq (A.lit 0) i,A.cmp .lss i n,A.cmp .leq (A.lit 0) lo],.c (.pr l (A.addN lo i) 0))else none
    | _=>none
   | _=>none
  | _,_=>none
 | none=>none
def ajW(h:List (dP A.au))(a:TV A.au):PR A:=
 match a with
 | .c (.d _ (.rows c xs))=>okI A .i64 (A.len c xs)
 | .c (.clip _ c xs)=>okI A .i64 (A.len c xs)
 | .c (.own l)=>match h[l]? with | some (.rows _ c xs)=>okI A .i64 (A.len c xs) | _=>none
 | .c (.os _ _ n)=>okI A .i64 n
 | .c .nil=>okI A .i64 (A.lit 0)
 | _=>none
def ajX(a:TV A.au):PR A:=
 match a with
 | .c (.pb l s j)=>okV A (.c (.pb l s j))
 | .c (.pr l i j)=>okV A (.c (.pr l i j))
 | .c (.rp f c xs i j)=>okV A (.c (.rp f c xs i j))
 | _=>none
def IQ(X:XT)(e:Nat->Option (TV A.au))(o:Option Operand)(dflt:A.I):Option A.I:=
 match o with
 | none=>some dflt
 | some x=>match evX A X e x with | some (.c (.d _ (.int _ n)))=>some n | _=>none
def Nv(X:XT)(e:Nat->Option (TV A.au))(h:List (dP A.au))(ty:TypeId)(a:TV A.au)(lo hi mx:Option Operand):PR A:=
 match X.ty ty with
 | some y=>match y.desc with
  | .slice el=>match IQ A X e lo (A.lit 0)with
   | some l=>match a with
    | .c (.d f (.rows c xs))=>if jR X el c then
      match IQ A X e hi (A.len c xs)with
      | some r=>match mx with
       | none=>some ([A.cmp .leq (A.lit 0) l,A.cmp .leq l r,A.cmp .leq r (A.len c xs)],.c (.d f (.rows c (A.sub c xs l r))))
       | some _=>match IQ A X e mx (A.lit 0)with
        | some m=>if hi.isSome then some ([A.cmp .leq (A.lit 0) l,A.cmp .leq l r,A.cmp .leq r (A.len c xs),A.cmp .eql m r],.c (.clip f c (A.sub c xs l r)))else none
        | none=>none
      | none=>none
     else none
    | .c (.own w)=>match h[w]?,mx with
     | some (.rows _ c xs),none=>if jR X el c then
       match IQ A X e hi (A.len c xs)with
       | some r=>some ([A.cmp .leq (A.lit 0) l,A.cmp .leq l r,A.cmp .leq r (A.len c xs)],.c (.os w l (A.K4 r l)))
       | none=>none
      else none
     | _,_=>none
    | .c (.os w l0 n)=>match h[w]?,mx with
     | some (.rows _ c _),none=>if jR X el c then
       match IQ A X e hi n with
       | some r=>some ([A.cmp .leq (A.lit 0) l,A.cmp .leq l r,A.cmp .leq r n,A.cmp .leq (A.lit 0) l0],.c (.os w (A.addN l0 l) (A.K4 r l)))
       | none=>none
      else none
     | _,_=>none
    | .c .nil=>match mx,IQ A X e hi (A.lit 0)with
     | none,some r=>if(X.ty el).isSome then some ([A.cmp .eql l (A.lit 0),A.cmp .eql r (A.lit 0)],.c .nil)else none
     | _,_=>none
    | _=>none
   | none=>none
  | _=>none
 | none=>none
def K9(X:XT)(e:Nat->Option (TV A.au))(fs:List (Nat×TypeId)):List (Nat×Operand)->List (TC A.au)->Option (List (TC A.au))
 | [],cs=>some cs
 | (i,x)::rest,cs=>match fs[i]? with
  | some (off,ft)=>match X.ty ft,evX A X e x with
   | some z,some v=>if((bU A v).length==z.size)&& !(z.size==0)&&Nat.ble (off+z.size) cs.length then
    K9 X e fs rest (cs.take off++bU A v++cs.drop (off+(bU A v).length))else none
   | _,_=>none
  | none=>none
def Uv:Cell->Option (TC A.au)
 | .d true (.int k n)=>some (.d true (.int k (A.lit n)))
 | .d true (.bool b)=>some (.d true (.bool (A.bl b)))
 | .d true (.str s)=>some (.d true (.str (A.st s)))
 | .nil=>some .nil
 | .np=>some .np
 | _=>none
def jy:List Cell->Option (List (TC A.au))
 | []=>some []
 | x::r=>match Uv A x,jy r with | some y,some ys=>some (y::ys) | _,_=>none
def Nw(X:XT)(e:Nat->Option (TV A.au))(ty:TypeId)(parts:List (Nat×Operand)):PR A:=
 match X.ty ty with
 | some y=>match y.desc with
  | .struct fs=>if fs.all λft=>(X.ty ft.2).isSome then
    match jy A y.zero with
    | some z=>match K9 A X e fs parts z with | some cs=>okV A (.agg cs) | none=>none
    | none=>none
   else none
  | _=>none
 | none=>none
def La(X:XT)(e:Nat->Option (TV A.au)):List Operand->Option (List (Nat×Nat))
 | []=>some []
 | x::r=>match evX A X e x with
  | some (.c (.pb l sz 0))=>match La X e r with | some ys=>some ((l,sz)::ys) | none=>none
  | _=>none
def XK(b:A.B):TC A.au->TC A.au->Option (TC A.au)
 | .d f (.int k x),.d g (.int k' y)=>if k=k' then some (.d (f&&g) (.int k (A.Ns b x y)))else none
 | .d f (.bool x),.d g (.bool y)=>some (.d (f&&g) (.bool (A.IK b x y)))
 | .d f (.rows c xs),.d g (.rows c' ys)=>if e:c'=c then some (.d (f&&g) (.rows c (A.Nt b c xs (e▸ys))))else none
 | _,_=>none
def Ny(b:A.B):TV A.au->TV A.au->Option (TV A.au)
 | .c x,.c y=>match XK A b x y with | some z=>some (.c z) | none=>none
 | _,_=>none
def Ey(X:XT)(e:Nat->Option (TV A.au))(h:List (dP A.au))(c:Call):PR A:=
 match c.callee with
 | .builtin .len=>match c.args.toList,c.argTypes.toList with
  | [x],[ty]=>match X.ty ty,evX A X e x with
   | some y,some v=>(match y.desc with | .slice _=>ajW A h v | _=>none)
   | _,_=>none
  | _,_=>none
 | .builtin .cap=>match c.args.toList,c.argTypes.toList with
  | [x],[ty]=>match X.ty ty,evX A X e x with
   | some y,some (.c .nil)=>(match y.desc with | .slice _=>okI A .i64 (A.lit 0) | _=>none)
   | _,_=>none
  | _,_=>none
 | .builtin .min=>match c.args.toList with
  | [x,y]=>match evX A X e x,evX A X e y with
   | some (.c (.d _ (.int k m))),some (.c (.d _ (.int _ n)))=>okI A k (A.Nq m n)
   | _,_=>none
  | _=>none
 | .builtin .max=>match c.args.toList with
  | [x,y]=>match evX A X e x,evX A X e y with
   | some (.c (.d _ (.int k m))),some (.c (.d _ (.int _ n)))=>okI A k (A.jf m n)
   | _,_=>none
  | _=>none
 | _=>none
def zF(v:Option (TV A.au))(K:TV A.au->PR A):PR A:=match v with | some v=>K v | none=>none
def Uw(X:XT)(e:Nat->Option (TV A.au))(h:List (dP A.au))(op:Op):PR A:=
 match op with
 | .move x | .assign x=>zF A (evX A X e x) λv=>okV A v
 | .load ty p=>zF A (evX A X e p) λv=>K8 A X h ty v
 | .nilCheck x=>zF A (evX A X e x) λv=>ajX A v
 | .binOp op ty x y _=>zF A (evX A X e x) λa=>zF A (evX A X e y) λb=>ajU A X op ty (ajV A h a) b
 | .unOp op _ x=>zF A (evX A X e x) λa=>unX A op a
 | .convert s d x=>zF A (evX A X e x) λa=>XJ A X s d a
 | .fieldAddr s x f=>zF A (evX A X e x) λa=>yO A X s a f
 | .field s x f=>zF A (evX A X e x) λa=>Nu A X s a f
 | .indexAddr ty x i=>zF A (evX A X e x) λa=>zF A (evX A X e i) λb=>yQ A X h ty a b
 | .slice ty x lo hi mx=>zF A (evX A X e x) λa=>Nv A X e h ty a lo hi mx
 | .extract x i=>zF A (evX A X e x) λa=>match a with | .tup vs=>K7 A vs[i]? | _=>none
 | .build ty parts=>Nw A X e ty parts.toList
 | .makeFunc fn first caps=>match fn with
  | .func g=>if first.toList.isEmpty then(match La A X e caps.toList with | some cs=>okV A (.c (.fn g cs)) | none=>none)else none
  | _=>none
 | .call c=>Ey A X e h c
 | _=>none
structure HR where
 chk:List A.B
 v:TV A.au
 h:List (dP A.au)
 touched:List Nat
def bB(h:List (dP A.au)):List Nat->List (dP A.au)
 | []=>h
 | l::r=>bB (match h[l]? with | some (.rows _ c xs)=>h.set l (.gone c (A.len c xs)) | _=>h) r
def jf:Int:=1073741824
def zdB(l:List Cell):Bool:=l.all λx=>match x with | .d _ _=>true | .nil=>true | _=>false
def ajY(h:List (dP A.au))(c:Co)(zx:Option (A.X c))(v:TV A.au):Option (Bool×A.L c):=
 match v with
 | .c (.d _ (.int _ n))=>match zx with | some x=>some (true,A.rep c n x) | none=>none
 | .c .nil=>some (true,A.Ew c)
 | .c (.d f (.rows c' xs))=>if e:c'=c then some (f,e▸xs)else none
 | .c (.clip f c' xs)=>if e:c'=c then some (f,e▸xs)else none
 | .c (.own l)=>match h[l]? with | some (.rows f c' xs)=>if e:c'=c then some (f,e▸xs)else none | _=>none
 | .c (.os l lo n)=>match h[l]? with | some (.rows f c' xs)=>if e:c'=c then some (f,e▸A.sub c' xs lo (A.addN lo n))else none | _=>none
 | _=>none
def jS(h:List (dP A.au))(v:TV A.au):List A.B:=
 match v with
 | .c (.os l lo n)=>match h[l]? with
  | some (.rows _ c' xs)=> [A.cmp .leq (A.lit 0) lo,A.cmp .leq (A.lit 0) n,A.cmp .leq (A.addN lo n) (A.len c' xs)]
  | _=> []
 | .c (.d _ (.int _ n))=> [A.cmp .leq (A.lit 0) n,A.cmp .leq n (A.lit jf)]
 | _=> []
def Ez(X:XT)(t2:TypeId)(v:TV A.au):Bool:=
 match X.ty t2 with
 | some y2=>(match y2.desc,v with | .slice _,.c (.d _ (.int ..))=>false | .slice _,.c _=>true | .int _,.c (.d _ (.int ..))=>true | _,_=>false)
 | none=>false
def Ux(z:TY)(c:Co):Option (A.X c):=
 match jy A z.zero with
 | some zs=>(match toX A [] c (.agg zs)with | some (_,x,_)=>some x | none=>none)
 | none=>none
def IU(X:XT)(h:List (dP A.au))(ty t2:TypeId)(a b:TV A.au):Option (HR A):=
 match X.ty ty with
 | some y=>match y.desc with
  | .slice e=>match X.ty e,X.co e with
   | some z,some c=>if jR X e c&& !(z.size==0)&&Nat.ble z.bytes 1024&&Ez A X t2 b&&zdB z.zero then
     match (ajY A h c (Ux A z c) b).map λp=>(p.1 || c.flat,p.2)with
     | some (f2,ds)=>match a with
      | .c .nil=>some ⟨jS A h b++ [A.cmp .leq (A.len c ds) (A.lit jf)],.c (.own h.length),h++ [.rows f2 c ds],[]⟩
      | .c (.own l)=>match h[l]? with
       | some (.rows f1 c1 xs)=>if q:c1=c then
         some ⟨jS A h b++ [A.cmp .leq (A.addN (A.len c1 xs) (A.len c ds)) (A.lit jf)],.c (.own h.length),
          h.set l (.gone c1 (A.len c1 xs))++ [.rows (f1&&f2) c (A.app c (q▸xs) ds)],[l]⟩
        else none
       | _=>none
      | .c (.os l lo n)=>match h[l]? with
       | some (.rows f1 c1 xs)=>if q:c1=c then
         some ⟨jS A h b++ [A.cmp .eql lo (A.lit 0),A.cmp .leq (A.lit 0) n,A.cmp .leq n (A.len c1 xs),A.cmp .leq (A.addN n (A.len c ds)) (A.lit jf)],.c (.own h.length),
          h.set l (.gone c1 (A.len c1 xs))++ [.rows (f1&&f2) c (A.app c (A.sub c (q▸xs) (A.lit 0) n) ds)],[l]⟩
        else none
       | _=>none
      | .c (.clip f1 c1 xs)=>if q:c1=c then
        some ⟨jS A h b++ [A.orB (A.cmp .lss (A.lit 0) (A.len c ds)) (A.cmp .eql (A.len c1 xs) (A.lit 0)),A.cmp .leq (A.addN (A.len c1 xs) (A.len c ds)) (A.lit jf)],.c (.own h.length),
         h++ [.rows (f1&&f2) c (A.app c (q▸xs) ds)],[]⟩
       else none
      | _=>none
     | none=>none
    else none
   | _,_=>none
  | _=>none
 | none=>none
def qF(X:XT)(e:Nat->Option (TV A.au))(c:Co):List (dP A.au)->List (Nat×Operand)->Option (Bool×List (A.X c)×List (dP A.au)×List Nat)
 | h,[]=>some (true,[],h,[])
 | h,(_,x)::r=>match evX A X e x with
  | some v=>match toX A h c v with
   | some (f,y,ls)=>match qF X e c (bB A h ls) r with
    | some (g,ys,h',ls')=>some (f&&g,y::ys,h',ls++ls')
    | none=>none
   | none=>none
  | none=>none
def Lb(c:Co)(cs:List (LV A.au))(j:Nat)(y:LV A.au):Option (A.X c):=
 match pack A.au c.pI (cs.set j y)with | some t=>some (A.mkX c t) | none=>none
def tY(X:XT)(h:List (dP A.au))(ty:TypeId)(p v:TV A.au):Option (HR A):=
 match X.ty ty with
 | some y=>if(y.size==0) || !((bU A v).length==y.size)then none else match p with
  | .c (.pb l sz j)=>match h[l]? with
   | some (.box w)=>
    if(j==0)&& ((bU A v).length==(bU A w).length)&& ((bU A w).length==sz)&& (bF A v==bF A w)then some ⟨[],.tup [],h.set l (.box v),[l]⟩
    else if Nat.ble (j+(bU A v).length) (bU A w).length&& ((bU A w).length==sz)then
     some ⟨[],.tup [],h.set l (.box (.agg ((bU A w).take j++bU A v++(bU A w).drop (j+(bU A v).length)))),[l]⟩
    else none
   | _=>none
  | .c (.pr l i j)=>match h[l]? with
   | some (.rows f c xs)=>
    if(j==0)&& (y.size==c.fields.length)then
     match toX A h c v with
     | some (g,x,ls)=>if ls.contains l then none else
       some ⟨[A.cmp .leq (A.lit 0) i,A.cmp .lss i (A.len c xs)],.tup [],(bB A h ls).set l (.rows (f&&g) c (A.set c xs i x)),l::ls⟩
     | none=>none
    else match bU A v,c.fields[j]? with
     | [x],some s=>match eU A h s x with
      | some (g,y,ls)=>if ls.contains l then none else
       match Lb A c ((fK A c (A.get c xs i) 0 c.fields).map Leaf.lv) j y with
       | some z=>some ⟨[A.cmp .leq (A.lit 0) i,A.cmp .lss i (A.len c xs)],.tup [],(bB A h ls).set l (.rows (f&&g) c (A.set c xs i z)),l::ls⟩
       | none=>none
      | none=>none
     | _,_=>none
   | _=>none
  | _=>none
 | none=>none
def Nz(X:XT)(h:List (dP A.au))(ty:TypeId)(v:TV A.au):Option (HR A):=
 match X.ty ty with
 | some y=>match y.desc with
  | .slice e=>match X.ty e,X.co e with
   | some z,some c=>match jy A z.zero with
    | some zs=>match toX A [] c (.agg zs)with
     | some (_,x,_)=>if jR X e c&& !(z.size==0)then
      match v with
      | .c .nil=>some ⟨[],.tup [],h,[]⟩
      | .c (.own l)=>match h[l]? with
       | some (.rows f c1 xs)=>if c1=c then some ⟨[],.tup [],h.set l (.rows f c (A.rep c (A.len c1 xs) x)),[l]⟩else none
       | _=>none
      | .c (.os l lo n)=>match h[l]? with
       | some (.rows f c1 xs)=>if q:c1=c then
         some ⟨jS A h v,.tup [],h.set l (.rows f c (A.app c (A.app c (A.sub c (q▸xs) (A.lit 0) lo) (A.rep c n x)) (A.sub c (q▸xs) (A.addN lo n) (A.len c1 xs)))),[l]⟩
        else none
       | _=>none
      | _=>none
      else none
     | none=>none
    | none=>none
   | _,_=>none
  | _=>none
 | none=>none
def EA(X:XT)(e:Nat->Option (TV A.au))(h:List (dP A.au))(op:Op):Option (HR A):=
 match op with
 | .alloc ty=>match X.ty ty with
  | some y=>match jy A y.zero with
   | some [x]=>if y.desc.agg then some ⟨[],.c (.pb h.length y.size 0),h++ [.box (.agg [x])],[]⟩else some ⟨[],.c (.pb h.length y.size 0),h++ [.box (.c x)],[]⟩
   | some (x::r)=>some ⟨[],.c (.pb h.length y.size 0),h++ [.box (.agg (x::r))],[]⟩
   | _=>none
  | none=>none
 | .box _ x=>match evX A X e x with
  | some v=>if(bU A v).length==0 then none else some ⟨[],.c (.pb h.length (bU A v).length 0),h++ [.box v],[]⟩
  | none=>none
 | .buildSlice ty len parts=>match X.ty ty with
  | some y=>match y.desc with
   | .slice el=>match X.ty el,X.co el with
    | some z,some c=>if jR X el c&& !(z.size==0)&& (parts.toList.map (·.1)==List.range len)&&Nat.ble (len*z.size) 16777216 then
      match qF A X e c h parts.toList with
      | some (f,xs,h',ls)=>some ⟨[],.c (.own h'.length),h'++ [.rows f c (A.lst c xs)],ls⟩
      | none=>none
     else none
    | _,_=>none
   | _=>none
  | none=>none
 | .makeSlice ty l cp=>match X.ty ty with
  | some y=>match y.desc with
   | .slice el=>match X.ty el,X.co el with
    | some z,some c=>match jy A z.zero,evX A X e l,evX A X e cp with
     | some zs,some (.c (.d _ (.int _ m))),some (.c (.d _ (.int _ m')))=>match toX A [] c (.agg zs)with
      | some (_,x,_)=>if jR X el c&& !(z.size==0)&&Nat.ble z.bytes 1024 then
        some ⟨[A.cmp .eql m' m,A.cmp .leq (A.lit 0) m,A.cmp .leq m (A.lit jf)],.c (.own h.length),h++ [.rows true c (A.rep c m x)],[]⟩
       else none
      | none=>none
     | _,_,_=>none
    | _,_=>none
   | _=>none
  | none=>none
 | .store ty p x=>match evX A X e p,evX A X e x with
  | some pv,some v=>tY A X h ty pv v
  | _,_=>none
 | .call c=>match c.callee,c.args.toList,c.argTypes.toList with
  | .builtin .append,[a,b],[ty,t2]=>match evX A X e a,evX A X e b with
   | some av,some bv=>IU A X h ty t2 av bv
   | _,_=>none
  | .builtin .clear,[a],[ty]=>match evX A X e a with
   | some av=>Nz A X h ty av
   | none=>none
  | _,_,_=>none
 | _=>none
end
end Go.TX
namespace Go.TX
open Go Go.AE
variable [aB]
inductive SkC where
 | int (k:IntKind) | bool | str | rows (f:Bool) (c:Co) | nil | own (l:Nat) | pb (l sz j:Nat) | pr (l j:Nat) | rp (f:Bool) (c:Co) (j:Nat) | gp (g:Nat) (c:Co)
 | fn (g:FuncId) (caps:List (Nat×Nat)) | np | clip (f:Bool) (c:Co)
 deriving DecidableEq,Inhabited,Repr
inductive SkV where
 | c (x:SkC) | agg (cs:List SkC) | sv (f:Bool) (c:Co)
 deriving DecidableEq,Inhabited,Repr
inductive SkO where
 | box (v:SkV) | rows (f:Bool) (c:Co) | gone
 deriving DecidableEq,Inhabited,Repr
structure Gm where
 slots:List (Nat×SkV)
 objs:List SkO
 deriving DecidableEq,Inhabited
abbrev SkC.tys : SkC -> List LTy
 | .int _=> [.i] | .bool=> [.b] | .str=> [.s] | .rows _ c=> [.l c] | .pr _ _=> [.i] | .rp _ c _=> [.l c,.i] | .clip _ c=> [.l c] | _=> []
abbrev SkC.Dl : List SkC -> List LTy
 | []=> []
 | x::r=>x.tys++SkC.Dl r
abbrev SkV.tys : SkV -> List LTy
 | .c x=>x.tys | .agg cs=>SkC.Dl cs | .sv _ q=> [.x q]
abbrev SkV.Dl : List SkV -> List LTy
 | []=> []
 | x::r=>x.tys++SkV.Dl r
abbrev SkO.tys : SkO -> List LTy
 | .box v=>v.tys | .rows _ c=> [.l c] | .gone=> []
abbrev SkO.Dl : List SkO -> List LTy
 | []=> []
 | x::r=>x.tys++SkO.Dl r
abbrev Gm.tys(k : Gm) : List LTy := SkV.Dl (k.slots.map (·.2)) ++ SkO.Dl k.objs
structure Sig where
 args:List SkV
 objs:List SkO
 res:List SkV
 dQ:List SkO
 deriving DecidableEq,Inhabited
abbrev Sig.inp(s : Sig) : List LTy := SkV.Dl s.args ++ SkO.Dl s.objs
abbrev Sig.out(s : Sig) : List LTy := SkV.Dl s.res ++ SkO.Dl s.dQ
def SkC.fresh:SkC->Bool | .rows f _=>f | .clip f _=>f | .rp f _ _=>f | .gp _ _=>false | _=>true
def SkV.fresh:SkV->Bool | .c x=>x.fresh | .agg cs=>cs.all SkC.fresh | .sv f q=>f || q.flat
def SkO.fresh:SkO->Bool | .box v=>v.fresh | .rows f _=>f | .gone=>true
def Sig.fresh(s:Sig):Bool:=s.res.all SkV.fresh&&s.dQ.all SkO.fresh
structure Ct(A:Car)(s:Sig) where
 pre:Tup A s.inp->A.B
 fn:Tup A s.inp->Tup A s.out
abbrev Calls(A:Car):=FuncId->List (Sigma (Ct A))
inductive Ann where
 | u | seq (a b:Ann) | cond (a b:Ann) | block (a:Ann) | loop (k:Gm) (a:Ann) | cut (k:Gm) (a:Ann)
 deriving Inhabited
section
variable (A:Alg)
structure ES where
 ren:List (Option (Option Nat))
 fro:List (Nat×Bool)
 tr:List (Nat×A.I)
 ck:List A.B
 lv:List (LV A.au)
def ES.push(s:ES A)(x:LV A.au):ES A:={s with lv:=x::s.lv}
def qG(s:ES A)(i:Nat)(v:Option Nat):Option (ES A):=
 match s.ren[i]? with
 | some none=>some {s with ren:=s.ren.set i (some v)}
 | some (some w)=>if w=v then some s else none
 | none=>none
def extC(h:List (dP A.au))(k:SkC)(v:TC A.au)(s:ES A):Option (ES A):=
 match k with
 | .int k=>match v with | .d _ (.int k' x)=>if k=k' then some (s.push A (.i x))else none | _=>none
 | .bool=>match v with | .d _ (.bool x)=>some (s.push A (.b x)) | _=>none
 | .str=>match v with | .d _ (.str x)=>some (s.push A (.s x)) | _=>none
 | .rows f c=>match v with
  | .os l lo n=>match h[l]? with
   | some (.rows g c' xs)=>if c=c'/\(!f || g)then some {(s.push A (.l c' (A.sub c' xs lo (A.addN lo n))))with fro:=(l,f)::s.fro,ck:=jS A h (.c v)++s.ck}else none
   | _=>none
  | v=>match eU A h (.rows c) v with
   | some (g,x,ls)=>if !f || g then some {(s.push A x)with fro:=ls.map (λl=>(l,f))++s.fro}else none
   | none=>none
 | .nil=>match v with | .nil=>some s | _=>none
 | .own i=>match v with
  | .own l=>if s.tr.any (·.1==i)then none else qG A s i (some l)
  | .nil=>qG A s i none
  | .os l lo n=>match s.ren[i]?,h[l]? with
   | some none,some (.rows _ c xs)=>some {s with ren:=s.ren.set i (some (some l)),tr:=(i,n)::s.tr,ck:=[A.cmp .eql lo (A.lit 0),A.cmp .leq (A.lit 0) n,A.cmp .leq n (A.len c xs)]++s.ck}
   | _,_=>none
  | _=>none
 | .pb i sz j=>match v with | .pb l sz' j'=>if sz=sz'/\j=j' then qG A s i (some l)else none | _=>none
 | .pr i j=>match v with | .pr l x j'=>if j=j'/\ !(s.tr.any (·.1==i))then(match qG A s i (some l)with | some s=>some (s.push A (.i x)) | none=>none)else none | _=>none
 | .rp f c j=>match v with | .rp g c' xs x j'=>if c=c'/\j=j'/\(!f || g)then some ((s.push A (.l c' xs)).push A (.i x))else none | _=>none
 | .gp g c=>match v with | .gp g' c'=>if g=g'/\c=c' then some s else none | _=>none
 | .fn g caps=>match v with
  | .fn g' CJ=>if g=g'/\caps.map (·.2)=CJ.map (·.2)then
    (caps.zip CJ).foldlM (λs p=>qG A s p.1.1 (some p.2.1)) s else none
  | _=>none
 | .np=>match v with | .np=>some s | _=>none
 | .clip f c=>match v with | .clip g c' xs=>if c=c'/\(!f || g)then some (s.push A (.l c' xs))else none | _=>none
def EB(h:List (dP A.au)):List SkC->List (TC A.au)->ES A->Option (ES A)
 | [],[],s=>some s
 | k::r,v::vs,s=>match extC A h k v s with | some s=>EB h r vs s | none=>none
 | _,_,_=>none
def Gn(h:List (dP A.au))(k:SkV)(v:TV A.au)(s:ES A):Option (ES A):=
 match k with
 | .c k=>match v with | .c x=>extC A h k x s | _=>none
 | .agg ks=>if bF A v then EB A h ks (bU A v) s else none
 | .sv f c=>if bF A v then match toX A h c v with
  | some (g,x,ls)=>if !f || g then some {(s.push A (.x c x))with fro:=ls.map (λl=>(l,f))++s.fro}else none
  | none=>none
  else none
def nW(h:List (dP A.au)):List SkV->List (TV A.au)->ES A->Option (ES A)
 | [],[],s=>some s
 | k::r,v::vs,s=>match Gn A h k v s with | some s=>nW h r vs s | none=>none
 | _,_,_=>none
def qH(s:ES A)(i:Nat):Option A.I:=match s.tr.find? (·.1==i)with | some x=>some x.2 | none=>none
def NA(h:List (dP A.au))(i:Nat)(k:SkO)(s:ES A):Option (ES A):=
 match k,s.ren[i]? with
 | .gone,_=>some s
 | .box k,some (some (some l))=>match h[l]? with | some (.box v)=>Gn A h k v s | _=>none
 | .rows f c,some (some (some l))=>match h[l]? with
  | some (.rows g c' xs)=>if c=c'/\(!f || g || c.flat)then some (s.push A (.l c' (match qH A s i with | some n=>A.sub c' xs (A.lit 0) n | none=>xs)))else none
  | _=>none
 | .rows _ c,some (some none)=>some (s.push A (.l c (A.Ew c)))
 | _,_=>none
def zG(h:List (dP A.au)):Nat->List SkO->ES A->Option (ES A)
 | _,[],s=>some s
 | i,k::r,s=>match NA A h i k s with | some s=>zG h (i+1) r s | none=>none
def bI:List (Option (Option Nat))->List Nat
 | []=> []
 | some (some l)::r=>l::bI r
 | _::r=>bI r
def distinct:List Nat->Bool
 | []=>true
 | x::r=> !r.contains x&&distinct r
def qI:Option SkO->Bool | some .gone=>true | _=>false
def pJ:List SkO->List (Option (Option Nat))->Bool
 | .gone::os,some _::_=>false
 | _::os,_::r=>pJ os r
 | _,_=>true
def XL(h:List (dP A.au))(l:Nat):Bool:=match h[l]? with | some (.rows ..)=>true | _=>false
def ES.fine(h:List (dP A.au))(s:ES A)(os:List SkO):Bool:=distinct (bI s.ren)&& (s.fro.all λp=> !(bI s.ren).contains p.1&&XL A h p.1)&&pJ os s.ren
def es0(k:Nat)(os:List SkO):ES A:={ren:=(List.range os.length).map λi=>if Nat.blt i k&& !qI os[i]? then some (some i)else none,fro:=[],tr:=[],ck:=[],lv:=[]}
end
section
variable (A:Car)
def XM(nm:Nat->Nat):SkC->List (LV A)->Option (TC A×List (LV A))
 | .int k,.i x::r=>some (.d true (.int k x),r)
 | .bool,.b x::r=>some (.d true (.bool x),r)
 | .str,.s x::r=>some (.d true (.str x),r)
 | .rows f _,.l c x::r=>some (.d f (.rows c x),r)
 | .nil,r=>some (.nil,r)
 | .own i,r=>some (.own (nm i),r)
 | .pb i sz j,r=>some (.pb (nm i) sz j,r)
 | .pr i j,.i x::r=>some (.pr (nm i) x j,r)
 | .rp f _ j,.l c x:: .i y::r=>some (.rp f c x y j,r)
 | .gp g c,r=>some (.gp g c,r)
 | .fn g caps,r=>some (.fn g (caps.map λp=>(nm p.1,p.2)),r)
 | .np,r=>some (.np,r)
 | .clip f _,.l c x::r=>some (.clip f c x,r)
 | _,_=>none
def IV(nm:Nat->Nat):List SkC->List (LV A)->Option (List (TC A)×List (LV A))
 | [],r=>some ([],r)
 | k::ks,r=>match XM A nm k r with
  | some (x,r)=>match IV nm ks r with | some (xs,r)=>some (x::xs,r) | none=>none
  | none=>none
def zH(nm:Nat->Nat):SkV->List (LV A)->Option (TV A×List (LV A))
 | .c k,r=>match XM A nm k r with | some (x,r)=>some (.c x,r) | none=>none
 | .agg ks,r=>match IV A nm ks r with | some (xs,r)=>some (.agg xs,r) | none=>none
 | .sv f _,.x c x::r=>some (.sv f c x,r)
 | _,_=>none
def qJ(nm:Nat->Nat):List SkV->List (LV A)->Option (List (TV A)×List (LV A))
 | [],r=>some ([],r)
 | k::ks,r=>match zH A nm k r with
  | some (x,r)=>match qJ nm ks r with | some (xs,r)=>some (x::xs,r) | none=>none
  | none=>none
def XO(nm:Nat->Nat)(old:dP A):SkO->List (LV A)->Option (dP A×List (LV A))
 | .box k,r=>match zH A nm k r with | some (v,r)=>some (.box v,r) | none=>none
 | .rows f _,.l c x::r=>some (.rows f c x,r)
 | .gone,r=>some (old,r)
 | _,_=>none
def qK(nm:Nat->Nat)(old:Nat->dP A):Nat->List SkO->List (LV A)->Option (List (dP A)×List (LV A))
 | _,[],r=>some ([],r)
 | i,k::ks,r=>match XO A nm (old i) k r with
  | some (x,r)=>match qK nm old (i+1) ks r with | some (xs,r)=>some (x::xs,r) | none=>none
  | none=>none
end
section
variable (A:Alg)
structure SV where
 tag:Option Nat
 v:TV A.au
structure GE where
 slot:Option Nat
 want:Bool
 par:Option Nat
 g:A.B
 dead:Bool
structure RSt where
 t:List (Nat×SV A)
 gs:List (GE A)
 h:List (dP A.au)
 m:Nat
 deriving Inhabited
def dD:List (Nat×SV A)->Nat->Option (SV A)
 | [],_=>none
 | (i,v)::r,j=>if i==j then some v else dD r j
def lS(d:Nat)(e:GE A):GE A:=match e.slot with | some x=>if x==d then {e with slot:=none}else e | none=>e
def RSt.put(s:RSt A)(d:Option Nat)(tag:Option Nat)(v:TV A.au):RSt A:=
 match d with | none=>s | some d=> {s with t:=(d,⟨tag,v⟩)::s.t,gs:=s.gs.map (lS A d)}
def RSt.del(s:RSt A)(d:Option Nat):RSt A:=
 match d with | none=>s | some d=> {s with t:=s.t.filter λp=> !(p.1==d),gs:=s.gs.map (lS A d)}
def Uy(m:Nat):Option Nat->Bool | none=>true | some d=>Nat.blt d m
def NC(gs:List (GE A)):Nat->Option Nat->List Nat
 | 0,_=> []
 | _,none=> []
 | f+1,some t=>t::(match gs[t]? with | some e=>NC gs f e.par | none=> [])
def eZ(gs:List (GE A))(t:Option Nat):List Nat:=NC A gs (gs.length+1) t
def wY:List (GE A)->Nat->Bool->Nat->Option Nat
 | [],_,_,_=>none
 | e::r,d,w,i=>if(e.slot==some d)&& (e.want==w)then some i else wY r d w (i+1)
def gI(lk:Nat->Option (SV A))(al:List Nat)(i:Nat):Option (TV A.au):=
 match lk i with
 | some ⟨none,v⟩=>some v
 | some ⟨some t,v⟩=>if al.contains t then some v else none
 | none=>none
inductive GR where
 | bad | skip | run (gs:List (GE A)) (t:Nat) (g:A.B)
def EC(lk:Nat->Option (SV A))(gs:List (GE A))(d:Nat)(want:Bool):GR A:=
 match lk d with
 | none=> .bad
 | some ⟨tg,v⟩=>match wY A gs d want 0 with
  | some t=>match gs[t]? with | some e=>if e.dead then .skip else .run gs t e.g | none=> .bad
  | none=>match v with
   | .c (.d _ (.bool b))=>
    let g0:=if want then b else A.yN b
    match tg with
    | none=> .run (gs++ [⟨some d,want,none,g0,false⟩]) gs.length g0
    | some t'=>match gs[t']? with
     | some e=> .run (gs++ [⟨some d,want,some t',A.K6 e.g g0,false⟩]) gs.length (A.K6 e.g g0)
     | none=> .bad
   | .tup []=>match tg with | none=> .skip | some _=> .bad
   | _=> .bad
def zI(gs:List (GE A))(t:Nat):List (GE A):=match gs[t]? with | some e=>gs.set t {e with dead:=true} | none=>gs
def tZ(X:XT)(lk:Nat->Option (SV A))(gs:List (GE A))(h:List (dP A.au))(cur:Option Nat)(op:Op):PR A:=
 let al:=eZ A gs cur
 match op with
 | .pick c a b=>match evX A X (gI A lk al) c with
  | some (.c (.d _ (.bool q)))=>
   let alt (w:Bool):List Nat:=match c with
    | .tmp d=>(match wY A gs d w 0 with | some t=>eZ A gs (some t)++al | none=>al)
    | _=>al
   match evX A X (gI A lk (alt true)) a,evX A X (gI A lk (alt false)) b with
   | some (.tup []),some y=>some ([A.yN q],y)
   | some x,some (.tup [])=>some ([q],x)
   | some x,some y=>K7 A (Ny A q x y)
   | _,_=>none
  | _=>none
 | op=>Uw A X (gI A lk al) h op
def Lc(X:XT)(e:Nat->Option (TV A.au)):List Operand->Option (List (TV A.au))
 | []=>some []
 | x::r=>match evX A X e x with | some v=>(match Lc X e r with | some vs=>some (v::vs) | none=>none) | none=>none
def newNames:List (Option (Option Nat))->Nat->Nat->List Nat
 | _,_,0=> []
 | [],n,k+1=>n::newNames [] (n+1) k
 | some (some l)::r,n,k+1=>l::newNames r n k
 | _::r,n,k+1=>n::newNames r (n+1) k
def uf(h:List (dP A.au))(l:Nat):dP A.au:=
 match h[l]? with | some (.rows _ c xs)=> .gone c (A.len c xs) | some (.gone c n)=> .gone c n | _=> .gone .i64 (A.lit 0)
def gY(h:List (dP A.au)):List Nat->List (dP A.au)->List (dP A.au)
 | l::ls,o::os=>gY (if Nat.blt l h.length then h.set l o else h++ [o]) ls os
 | _,_=>h
def apB:List (TV A.au)->TV A.au | [v]=>v | vs=> .tup vs
structure CR where
 ck:List A.B
 ts:List LTy
 y:Tup A.au ts
 k:Tup A.au ts->Option (TV A.au×List (dP A.au))
 touched:List Nat
 pure:Bool
def qL(h:List (dP A.au))(s:Sig)(ct:Ct A.au s)(args:List (TV A.au)):Option (CR A):=
  match nW A h s.args args (es0 A 0 s.objs)with
  | some e=>match zG A h 0 s.objs e with
    | some e=>if ES.fine A h e s.objs&&e.tr.isEmpty then match pack A.au s.inp e.lv.reverse with
      | some x=>
        let br:=s.fresh&&e.fro.all λp=> !p.2
        some { ck := e.ck ++ [ct.pre x], ts := s.out, y := ct.fn x, touched := bI e.ren ++ (if br then [] else e.fro.map (·.1)), pure := s.objs.isEmpty && s.dQ.isEmpty && (br || e.fro.isEmpty)
               k:=λy=>
                 let h1:=if br then h else bB A h (e.fro.map (·.1))
                 let nms:=newNames e.ren h1.length s.dQ.length
                 let nm:=λi=>nms.getD i 0
                 match qJ A.au nm s.res (unpack A.au s.out y)with
                 | some (vs,r)=>match qK A.au nm (λi=>uf A h1 (nm i)) 0 s.dQ r with
                   | some (os,_)=>some (apB A vs,gY A h1 nms os)
                   | none=>none
                 | none=>none}
      | none=>none
      else none
    | none=>none
  | none=>none
def zJ(h:List (dP A.au))(args:List (TV A.au)):List (Sigma (Ct A.au))->Option (CR A)
 | []=>none
 | ⟨s,ct⟩::r=>match qL A h s ct args with | some x=>some x | none=>zJ h args r
def Uz(X:XT)(C:Calls A.au)(e:Nat->Option (TV A.au))(h:List (dP A.au))(op:Op):Option (CR A):=
 match op with
 | .call c=>match c.callee with
  | .value f=>match evX A X e f,Lc A X e c.args.toList with
   | some (.c (.fn g caps)),some vs=>zJ A h (vs++caps.map λp=> .c (.pb p.1 p.2 0)) (C g)
   | _,_=>none
  | _=>none
 | _=>none
def WA(X:XT)(C:Calls A.au)(e:Nat->Option (TV A.au))(h:List (dP A.au))(op:Op):Option (CR A):=
 match iF op with
 | 1=>match op with
  | .store ty p x=>match evX A X e p,evX A X e x with
   | some pv,some v=>match tY A X h ty pv v with
    | some r=>match v with
     | .c (.d f (.int q n))=>some {ck:=r.chk,ts:=[.i],y:=(n,()),k:=λy=>(match tY A X h ty pv (.c (.d f (.int q y.1)))with | some r=>some (r.v,r.h) | none=>none),touched:=r.touched,pure:=false}
     | .c (.d f (.bool n))=>some {ck:=r.chk,ts:=[.b],y:=(n,()),k:=λy=>(match tY A X h ty pv (.c (.d f (.bool y.1)))with | some r=>some (r.v,r.h) | none=>none),touched:=r.touched,pure:=false}
     | .c (.d f (.rows c n))=>some {ck:=r.chk,ts:=[.l c],y:=(n,()),k:=λy=>(match tY A X h ty pv (.c (.d f (.rows c y.1)))with | some r=>some (r.v,r.h) | none=>none),touched:=r.touched,pure:=false}
     | .sv f c n=>some {ck:=r.chk,ts:=[.x c],y:=(n,()),k:=λy=>(match tY A X h ty pv (.sv f c y.1)with | some r=>some (r.v,r.h) | none=>none),touched:=r.touched,pure:=false}
     | _=>some {ck:=r.chk,ts:=[],y:=(),k:=λ_=>some (r.v,r.h),touched:=r.touched,pure:=false}
    | none=>none
   | _,_=>none
  | _=>match EA A X e h op with
   | some r=>match r.v with
    | .c (.own l)=>match r.h[l]? with
     | some (.rows f c xs)=>some {ck:=r.chk,ts:=[.l c],y:=(xs,()),k:=λy=>some (r.v,r.h.set l (.rows f c y.1)),touched:=r.touched,pure:=false}
     | _=>none
    | _=>some {ck:=r.chk,ts:=[],y:=(),k:=λ_=>some (r.v,r.h),touched:=r.touched,pure:=false}
   | none=>none
 | _=>Uz A X C e h op
def UA{ρ:Type}(op:Op)(v:TV A.au)(K:TV A.au->A.M ρ):A.M ρ:=
 match op with
 | .assign _=>match v with
  | .c (.d f (.int k x))=>A.sO [.i] (x,()) λy=>K (.c (.d f (.int k y.1)))
  | .c (.d f (.bool x))=>A.sO [.b] (x,()) λy=>K (.c (.d f (.bool y.1)))
  | .c (.d f (.rows c x))=>A.sO [.l c] (x,()) λy=>K (.c (.d f (.rows c y.1)))
  | v=>K v
 | _=>K v
def gJ{ρ:Type}:List A.B->A.M ρ->A.M ρ
 | [],m=>m
 | b::r,m=>A.chk b (gJ r m)
def under(g:A.B)(ps:List A.B):List A.B:=ps.map λp=>A.orB (A.yN g) p
def rM{ρ:Type}(r:CR A)(K:TV A.au->List (dP A.au)->A.M ρ):A.M ρ:=
 match r.ts,r.y,r.k with
 | [],y,k=>(match k y with | some (v,h)=>K v h | none=>A.fail)
 | ts,y,k=>A.sO ts y λy=>match k y with | some (v,h)=>K v h | none=>A.fail
def fF{ρ:Type}(X:XT)(C:Calls A.au)(ops:List Oper):List Oper->(RSt A->A.M ρ)->RSt A->A.M ρ
 | [],K,s=>K s
 | o::r,K,s=>if Uy s.m o.dst then match o.guard with
  | none=>if iF o.op==0 then match tZ A X (dD A s.t) s.gs s.h none o.op with
    | some (ps,v)=>gJ A ps (UA A o.op v λv=>fF X C ops r K (s.put A o.dst none v))
    | none=>A.fail
   else match WA A X C (gI A (dD A s.t) []) s.h o.op with
    | some cr=>gJ A cr.ck (rM A cr λv h=>fF X C ops r K (RSt.put A {s with h:=h} o.dst none v))
    | none=>A.fail
  | some (j,want)=>match gslot ops j with
   | some d=>match EC A (dD A s.t) s.gs d want with
    | .skip=>fF X C ops r K (s.put A o.dst none (.tup []))
    | .run gs t g=>if iF o.op==0 then match tZ A X (dD A s.t) gs s.h (some t) o.op with
      | some (ps,v)=>gJ A (under A g ps) (fF X C ops r K (RSt.put A {s with gs:=gs} o.dst (some t) v))
      | none=>A.fail
     else match WA A X C (gI A (dD A s.t) (eZ A gs (some t))) s.h o.op with
      | some cr=>if cr.pure then gJ A (under A g cr.ck) (rM A cr λv _=>fF X C ops r K (RSt.put A {s with gs:=gs} o.dst (some t) v))
       else A.cond g (gJ A cr.ck (rM A cr λv h=>fF X C ops r K (RSt.put A {s with h:=h,gs:=gs} o.dst none v)))
        (fF X C ops r K (RSt.put A {s with gs:=zI A gs t} o.dst none (.tup [])))
      | none=>A.fail
    | .bad=>A.fail
   | none=>A.fail
  else A.fail
def ug:TV A.au->List Nat
 | .c (.pb l _ _)=> [l] | .c (.pr l _ _)=> [l] | _=> []
def gN(X:XT)(e:Nat->Option (TV A.au)):Op->List Nat
 | .load _ x=>match evX A X e x with | some v=>ug A v | none=> []
 | _=> []
def IW(hs:List (Nat×List Nat))(touched:List Nat)(j:Nat):Bool:=hs.any λp=>(p.1==j)&&p.2.all λl=> !touched.contains l
def ni(hs:List (Nat×List Nat))(touched:List Nat):List (Nat×List Nat):=hs.filter λp=>p.2.all λl=> !touched.contains l
def zX(X:XT)(e:Nat->Option (TV A.au))(h:List (dP A.au))(op:Op):PR A:=
 match op with
 | .buildSlice ty len parts=>match X.ty ty with
  | some y=>match y.desc with
   | .slice el=>match X.ty el,X.co el with
    | some z,some c=>if jR X el c&& !(z.size==0)&& (parts.toList.map (·.1)==List.range len)&&Nat.ble (len*z.size) 16777216 then
      match qF A X e c h parts.toList with
      | some (f,xs,_,[])=>some ([],.c (.clip f c (A.lst c xs)))
      | _=>none
     else none
    | _,_=>none
   | _=>none
  | none=>none
 | _=>none
def Dw(e:Nat->Option (TV A.au))(k:A.I):List (Int×Nat)->Option A.B
 | []=>some (A.bl false)
 | (k',r)::rest=>match e r with
  | some (.c (.d _ (.bool b)))=>(match Dw e k rest with | some q=>some (A.IK (A.cmp .eql k (A.lit k')) b q) | none=>none)
  | _=>none
def ND(X:XT)(ops:List Oper)(e:Nat->Option (TV A.au))(h:List (dP A.au))(op:Op):Option (Option (List A.B×TV A.au)):=
 match op with
 | .makeMap .. =>some none
 | .insert _ _ _ v=>(match v with | .tmp r=>(match e r with | some _=>some none | none=>none) | _=>none)
 | .move x=>if kV x then some none else none
 | .lookup _ _ (.tmp q) _=>(match e q with
  | some (.c (.d _ (.int .i64 n)))=>(match Dw A e n (lJ ops)with | some b=>some (some ([],.c (.d true (.bool b)))) | none=>none)
  | _=>none)
 | op=>(match zX A X e h op with | some r=>some (some r) | none=>none)
def iG{ρ:Type}(X:XT)(C:Calls A.au)(ops:List Oper):List fC->List (Nat×List Nat)->(RSt A->A.M ρ)->RSt A->A.M ρ
 | [],_,K,s=>K s
 | (i,rs,cs)::r,hs,K,s=>match ops[i]? with
  | none=>A.fail
  | some o=>if Uy s.m o.dst then
   let lk:=λi=>if rs.contains i then dD A s.t i else none
   match kindOf o.op with
   | 0=>if hs.any λp=>p.1==i then A.fail else match o.guard with
    | none=>match tZ A X lk s.gs s.h none o.op with
     | some (ps,v)=>gJ A ps (UA A o.op v λv=>iG X C ops r ((i,gN A X (gI A lk []) o.op)::hs) K (s.put A o.dst none v))
     | none=>A.fail
    | some (j,want)=>match gslot ops j with
     | some d=>match EC A lk s.gs d want with
      | .skip=>iG X C ops r ((i,[])::hs) K (s.put A o.dst none (.tup []))
      | .run gs t g=>match tZ A X lk gs s.h (some t) o.op with
       | some (ps,v)=>gJ A (under A g ps) (iG X C ops r ((i,gN A X (gI A lk (eZ A gs (some t))) o.op)::hs) K (RSt.put A {s with gs:=gs} o.dst (some t) v))
       | none=>A.fail
      | .bad=>A.fail
     | none=>A.fail
   | 1=>match ND A X ops (gI A lk []) s.h o.op with
    | some (some (ps,v))=>gJ A ps (iG X C ops r hs K (s.put A o.dst none v))
    | some none=>iG X C ops r hs K (s.del A o.dst)
    | none=>A.fail
   | 2=>match EA A X (λ_=>none) s.h o.op with
    | some hr=>gJ A hr.chk (iG X C ops r hs K (RSt.put A {s with h:=hr.h} o.dst none hr.v))
    | none=>A.fail
   | _=>match o.guard with
    | none=>match WA A X C (gI A lk []) s.h o.op with
     | some cr=>
      if cs.all (IW hs cr.touched)then gJ A cr.ck (rM A cr λv h=>iG X C ops r (ni hs cr.touched) K (RSt.put A {s with h:=h} o.dst none v))else A.fail
     | none=>A.fail
    | some (j,want)=>match gslot ops j with
     | some d=>match EC A lk s.gs d want with
      | .skip=>iG X C ops r hs K (s.put A o.dst none (.tup []))
      | .run gs t g=>match WA A X C (gI A lk (eZ A gs (some t))) s.h o.op with
       | some cr=>if cs.all (IW hs cr.touched)then
         if cr.pure then gJ A (under A g cr.ck) (rM A cr λv _=>iG X C ops r hs K (RSt.put A {s with gs:=gs} o.dst (some t) v))
         else A.cond g (gJ A cr.ck (rM A cr λv h=>iG X C ops r (ni hs cr.touched) K (RSt.put A {s with h:=h,gs:=gs} o.dst none v)))
          (iG X C ops r hs K (RSt.put A {s with gs:=zI A gs t} o.dst none (.tup [])))
        else A.fail
       | none=>A.fail
      | .bad=>A.fail
     | none=>A.fail
   else A.fail
def uh(t:List (Nat×SV A))(h:List (dP A.au)):List (Nat×SkV)->ES A->Option (ES A)
 | [],e=>some e
 | p::r,e=>match dD A t p.1 with
  | some ⟨none,v⟩=>(match Gn A h p.2 v e with | some e=>uh t h r e | none=>none)
  | _=>none
def ED(k:Nat)(sk:Gm)(s:RSt A):Option (List A.B×Tup A.au sk.tys):=
 if !Nat.ble k sk.objs.length then none else match uh A s.t s.h sk.slots (es0 A k sk.objs)with
 | some e=>match zG A s.h 0 sk.objs e with
  | some e=>if ES.fine A s.h e sk.objs then(match pack A.au sk.tys e.lv.reverse with | some x=>some (e.ck,x) | none=>none)else none
  | none=>none
 | none=>none
def rO(sk:Gm)(m:Nat)(x:Tup A.au sk.tys):RSt A:=
 match qJ A.au (λi=>i) (sk.slots.map (·.2)) (unpack A.au sk.tys x)with
 | some (vs,r)=>match qK A.au (λi=>i) (λ_=> .gone .i64 (A.lit 0)) 0 sk.objs r with
  | some (os,_)=> {t:=(sk.slots.map (·.1)).zip (vs.map λv=>⟨none,v⟩),gs:=[],h:=os,m:=m}
  | none=>default
 | none=>default
def plain:Code->Bool
 | .skip=>true | .region .. =>true | .seq a b=>plain a&&plain b | .cond _ x y=>plain x&&plain y
 | _=>false
def NG{ρ:Type}(k:Nat)(sk:Gm)(pl:Bool)(s:RSt A)(K:Exit->RSt A->A.M ρ)(W: {σ:Type}->(Exit->RSt A->A.M σ)->A.M σ):A.M ρ:=
 if pl then A.bind sk.tys (W λe s'=>match e with
  | .normal=>(match ED A k sk s' with | some (ck,t)=>gJ A ck (A.ret sk.tys t) | none=>A.fail)
  | _=>A.fail) λt=>K .normal (rO A sk s.m t)
 else A.tX sk.tys (W λe s'=>match e with
  | .normal=>(match ED A k sk s' with | some (ck,t)=>gJ A ck (A.inl sk.tys t) | none=>A.fail)
  | e=>A.inr sk.tys (K e s')) λt=>K .normal (rO A sk s.m t)
def bL(X:XT)(C:Calls A.au)(ord:Nat->List fC)(chk:Nat->Array Oper->Nat->Bool)(k:Nat): {ρ:Type}->Ann->Code->RSt A->(Exit->RSt A->A.M ρ)->A.M ρ
 | _,_,.skip,s,K=>K .normal s
 | _,an,.region id ops draw,s,K=>
  let W: {σ:Type}->(Exit->RSt A->A.M σ)->A.M σ:=λK=>
   if draw then(if chk id ops s.m then iG A X C ops.toList (ord id) [] (λs=>K .normal s) s else A.fail)
   else fF A X C ops.toList ops.toList (λs=>K .normal s) s
  match an with
  | .cut sk .u=>NG A k sk true s K W
  | _=>W K
 | _,an,.seq x y,s,K=>match an with
  | .seq a b=>bL X C ord chk k a x s λe s'=>match e with | .normal=>bL X C ord chk k b y s' K | e=>K e s'
  | .u=>bL X C ord chk k .u x s λe s'=>match e with | .normal=>bL X C ord chk k .u y s' K | e=>K e s'
  | _=>A.fail
 | _,an,.cond c x y,s,K=>match evX A X (gI A (dD A s.t) []) c with
  | some (.c (.d _ (.bool b)))=>match an with
   | .cond a1 a2=>A.cond b (bL X C ord chk k a1 x s K) (bL X C ord chk k a2 y s K)
   | .u=>A.cond b (bL X C ord chk k .u x s K) (bL X C ord chk k .u y s K)
   | .cut sk (.cond a1 a2)=>NG A k sk (plain x&&plain y) s K λK'=>A.cond b (bL X C ord chk k a1 x s K') (bL X C ord chk k a2 y s K')
   | _=>A.fail
  | _=>A.fail
 | _,an,.block id b,s,K=>match an with
  | .block a=>bL X C ord chk k a b s λe s'=>match e with | .exit i=>if i==id then K .normal s' else K (.exit i) s' | e=>K e s'
  | .u=>bL X C ord chk k .u b s λe s'=>match e with | .exit i=>if i==id then K .normal s' else K (.exit i) s' | e=>K e s'
  | .cut sk (.block a)=>NG A k sk false s K λK'=>bL X C ord chk k a b s λe s'=>match e with | .exit i=>if i==id then K' .normal s' else K' (.exit i) s' | e=>K' e s'
  | _=>A.fail
 | _,.loop sk a,.loop b,s,K=>match ED A k sk s with
  | some (ck,x0)=>gJ A ck (A.iter sk.tys (λx=>bL X C ord chk k a b (rO A sk s.m x) λe s'=>match e with
    | .normal=>(match ED A k sk s' with | some (ck,t)=>gJ A ck (A.inl sk.tys t) | none=>A.fail)
    | e=>A.inr sk.tys (K e s')) x0)
  | none=>A.fail
 | _,_,.exit id,s,K=>K (.exit id) s
 | _,_,.ret,s,K=>K .ret s
 | _,_,_,_,_=>A.fail
def NH(X:XT)(s:RSt A):List ResultVar->Option (List (TV A.au))
 | []=>some []
 | .tmp t::r=>match dD A s.t t with
  | some ⟨none,v⟩=>(match NH X s r with | some vs=>some (v::vs) | none=>none)
  | _=>none
 | .cell t ty::r=>match dD A s.t t with
  | some ⟨none,p⟩=>match K8 A X s.h ty p with
   | some ([],v)=>(match NH X s r with | some vs=>some (v::vs) | none=>none)
   | _=>none
  | _=>none
def WB(X:XT)(sg:Sig)(fn:Func)(s:RSt A):A.M (Tup A.au sg.out):=
 match NH A X s fn.results.toList with
  | some rs=>match nW A s.h sg.res rs (es0 A sg.objs.length sg.dQ)with
   | some e=>match zG A s.h 0 sg.dQ e with
    | some e=>if ES.fine A s.h e sg.dQ then(match pack A.au sg.out e.lv.reverse with | some y=>gJ A e.ck (A.ret sg.out y) | none=>A.fail)else A.fail
    | none=>A.fail
   | none=>A.fail
  | none=>A.fail
def pK(X:XT)(C:Calls A.au)(ord:Nat->List fC)(chk:Nat->Array Oper->Nat->Bool)(an:Ann)(sg:Sig)(fn:Func)(code:Code)(x:Tup A.au sg.inp):A.M (Tup A.au sg.out):=
 if !Nat.ble sg.objs.length sg.dQ.length then A.fail else match qJ A.au (λi=>i) sg.args (unpack A.au sg.inp x)with
 | some (vs,r)=>match qK A.au (λi=>i) (λ_=> .gone .i64 (A.lit 0)) 0 sg.objs r with
  | some (os,_)=>
   bL A X C ord chk sg.objs.length an code {t:=(List.range vs.length).zip (vs.map λv=>⟨none,v⟩),gs:=[],h:=os,m:=vs.length+(fn.ntmps-vs.length)} λe s=>
    match e with
    | .ret | .normal=>WB A X sg fn s
    | _=>A.fail
  | none=>A.fail
 | none=>A.fail
end
end Go.TX
namespace Go.TX
open Go Go.AE
abbrev aF:Car:={I:=Int,B:=Bool,S:=ByteArray,L:=λc=>List c.den,X:=Co.den}
def afE(b:Blk):List (LV aF):=[.i b.pc,.i b.len,.l .iop b.ops,.i b.fin,.i b.x,.i b.y,.i b.k]
def ag5(m:aH):List (LV aF):=[.l .i64 m.regs,.i m.pc,.l .i64 m.mem,.i m.save,.b m.dV,.b m.waits,.i m.halt,.l .i64 m.ins,.l .i64 m.outs,.i m.count]
def Co.zK:(c:Co)->c.den->List (LV aF)
 | .i64,n=> [.i n] | .u8,n=> [.i n] | .bool,b=> [.b b] | .str,s=> [.s s]
 | .ins,i=> [.i i.op,.i i.d,.i i.a,.i i.k]
 | .form,f=> [.b f.d,.b f.a,.i f.most,.l .str f.words]
 | .mono,m=> [.i m.aW,.l .i64 m.atoms]
 | .poly,p=> [.l .mono p]
 | .atom,a=> [.i a.kind,.i a.k,.l .mono a.x,.l .mono a.y]
 | .tab,t=> [.l .atom t]
 | .iop,o=> [.i o.kind,.i o.x,.i o.y,.i o.k,.i o.at_]
 | .blk,b=>afE b
 | .iK,m=>ag5 m
 | .ev,e=> [.i e.kind,.i e.at_,.l .mono e.x,.l .mono e.y,.l .poly e.regs]
 | .sym,s=> [.l .ev s.events,.l .poly s.regs,.i s.fin,.l .mono s.x,.l .mono s.y,.i s.k]
 | .cac,c=> .l .i64 c.words::afE c.blk
 | .cer,c=>afE c.base++afE c.made
 | .ask,a=> [.b a.own,.l .u8 a.bytes]
 | .eng,e=>ag5 e.iK++ [.l .cac e.cache,.l .cer e.XG]
 | .ints,t=> [.l .i64 t]
abbrev gZ:=Tup aF
def Co.mk:(c:Co)->gZ c.pI->c.den
 | .i64,t=>t.1 | .u8,t=>t.1 | .bool,t=>t.1 | .str,t=>t.1
 | .ins,t=>⟨t.1,t.2.1,t.2.2.1,t.2.2.2.1⟩
 | .form,t=>⟨t.1,t.2.1,t.2.2.1,t.2.2.2.1⟩
 | .mono,t=>⟨t.1,t.2.1⟩
 | .poly,t=>t.1
 | .atom,t=>⟨t.1,t.2.1,t.2.2.1,t.2.2.2.1⟩
 | .tab,t=>t.1
 | .iop,t=>⟨t.1,t.2.1,t.2.2.1,t.2.2.2.1,t.2.2.2.2.1⟩
 | .blk,t=>⟨t.1,t.2.1,t.2.2.1,t.2.2.2.1,t.2.2.2.2.1,t.2.2.2.2.2.1,t.2.2.2.2.2.2.1⟩
 | .iK,t=>⟨t.1,t.2.1,t.2.2.1,t.2.2.2.1,t.2.2.2.2.1,t.2.2.2.2.2.1,t.2.2.2.2.2.2.1,t.2.2.2.2.2.2.2.1,t.2.2.2.2.2.2.2.2.1,t.2.2.2.2.2.2.2.2.2.1⟩
 | .ev,t=>⟨t.1,t.2.1,t.2.2.1,t.2.2.2.1,t.2.2.2.2.1⟩
 | .sym,t=>⟨t.1,t.2.1,t.2.2.1,t.2.2.2.1,t.2.2.2.2.1,t.2.2.2.2.2.1⟩
 | .cac,t=>⟨t.1,⟨t.2.1,t.2.2.1,t.2.2.2.1,t.2.2.2.2.1,t.2.2.2.2.2.1,t.2.2.2.2.2.2.1,t.2.2.2.2.2.2.2.1⟩⟩
 | .cer,t=>⟨⟨t.1,t.2.1,t.2.2.1,t.2.2.2.1,t.2.2.2.2.1,t.2.2.2.2.2.1,t.2.2.2.2.2.2.1⟩,
  ⟨t.2.2.2.2.2.2.2.1,t.2.2.2.2.2.2.2.2.1,t.2.2.2.2.2.2.2.2.2.1,t.2.2.2.2.2.2.2.2.2.2.1,t.2.2.2.2.2.2.2.2.2.2.2.1,t.2.2.2.2.2.2.2.2.2.2.2.2.1,t.2.2.2.2.2.2.2.2.2.2.2.2.2.1⟩⟩
 | .ask,t=>⟨t.1,t.2.1⟩
 | .eng,t=>⟨⟨t.1,t.2.1,t.2.2.1,t.2.2.2.1,t.2.2.2.2.1,t.2.2.2.2.2.1,t.2.2.2.2.2.2.1,t.2.2.2.2.2.2.2.1,t.2.2.2.2.2.2.2.2.1,t.2.2.2.2.2.2.2.2.2.1⟩,t.2.2.2.2.2.2.2.2.2.2.1,t.2.2.2.2.2.2.2.2.2.2.2.1⟩
 | .ints,t=>t.1
def bytesOf(l:List UInt8):ByteArray:=⟨l.toArray⟩
def ajZ:List Form:=[
 ⟨false,false,3,[bytesOf [115,116,111,112],bytesOf [114,101,116,117,114,110],bytesOf [108,101,116],bytesOf [107,101,101,112]]⟩,
 ⟨true,false,255,[bytesOf [115,101,116]]⟩,⟨true,true,0,[bytesOf [109,111,118,101]]⟩,⟨true,true,3,[bytesOf [97,100,100]]⟩,⟨true,true,3,[bytesOf [115,117,98]]⟩,
 ⟨true,true,3,[bytesOf [109,117,108]]⟩,⟨true,true,3,[bytesOf [97,110,100]]⟩,⟨true,true,3,[bytesOf [120,111,114]]⟩,⟨true,true,15,[bytesOf [115,104,105,102,116]]⟩,
 ⟨true,true,255,[bytesOf [108,111,97,100]]⟩,⟨true,true,255,[bytesOf [115,116,111,114,101]]⟩,⟨true,true,255,[bytesOf [115,97,109,101]]⟩,⟨true,true,255,[bytesOf [108,101,115,115]]⟩,
 ⟨false,true,0,[bytesOf [103,111]]⟩,⟨true,false,0,[bytesOf [111,117,116]]⟩,⟨true,false,0,[bytesOf [105,110]]⟩]
def XP:(c:Co)->List c.den
 | .form=>ajZ
 | _=> []
def Dm{α ρ:Type}(k:α->(ρ->Prop)->Prop)(Q:ρ->Prop):α ⊕ ρ->Prop
 | .inl x=>k x Q
 | .inr r=>Q r
def itW{α ρ:Type}:Nat->(α->(α ⊕ ρ->Prop)->Prop)->α->(ρ->Prop)->Prop
 | 0,_,_,_=>False
 | n+1,f,x,Q=>f x (Dm (itW n f) Q)
def UC{α ρ:Type}(f:α->(α ⊕ ρ->Prop)->Prop)(x:α)(Q:ρ->Prop):Prop:=
 ∃(I:α->Prop) (μ:α->Nat),I x/\∀y,I y->f y (Dm (λz _=>I z/\μ z<μ y) Q)
def jA(op:BinOp)(k:IntKind)(x y:Int):Int:=
 match op with
 | .add=>k.wrap (x+y) | .sub=>k.wrap (x-y) | .mul=>k.wrap (x*y) | .quo=>k.wrap (x.tdiv y) | .rem=>x.tmod y
 | .and=>gq .and k x y | .or=>gq .or k x y | .xor=>gq .xor k x y
 | .shl=>k.wrap (x*2^ (min y.toNat k.bits)) | .shr=>x.fdiv (2^ (min y.toNat k.bits))
 | _=>0
def bA(op:BinOp)(x y:Int):Bool:=
 match op with
 | .eql=>decide (x=y) | .neq=> !decide (x=y) | .lss=>decide (x<y) | .leq=>decide (x<=y) | .gtr=>decide (y<x) | .geq=>decide (y<=x)
 | _=>false
def XQ(x y:Ins):Bool:=decide (x=y)
def XR(x y:IOp):Bool:=decide (x=y)
def apC:(c:Co)->c.den->c.den->Bool
 | .ins,x,y=>XQ x y | .iop,x,y=>XR x y | _,_,_=>false
def iB(c:Co)(j:Nat)(x:c.den):Int:=match (c.zK x)[j]? with | some (.i n)=>n | _=>0
def afF(c:Co)(j:Nat)(x:c.den):Bool:=match (c.zK x)[j]? with | some (.b n)=>n | _=>false
def atZ(c:Co)(j:Nat)(x:c.den):ByteArray:=match (c.zK x)[j]? with | some (.s n)=>n | _=>default
def lK(c:Co)(j:Nat)(c':Co)(x:c.den):List c'.den:=match (c.zK x)[j]? with | some (.l q xs)=>if e:q=c' then e▸xs else [] | _=> []
abbrev std(N : Nat) : Alg where
 au:=aF
 M:=fun ρ=>(ρ->Prop)->Prop
 lit:=λn=>(n:Int)
 bl:=λb=>(b:Bool)
 st:=λs=>(s:ByteArray)
 arith:=jA
 cmp:=bA
 addN:=λ(x y:Int)=>x+y
 K4:=λ(x y:Int)=>x-y
 neg:=λk (x:Int)=>k.wrap (0-x)
 conv:=λk (x:Int)=>k.wrap x
 Nq:=λ(m n:Int)=>if n<m then n else m
 jf:=λ(m n:Int)=>if m<n then n else m
 yN:=λ(b:Bool)=> !b
 K6:=λ(a b:Bool)=>a&&b
 orB:=λ(a b:Bool)=>a || b
 eqB:=λ(a b:Bool)=>a==b
 eqS:=λ(a b:ByteArray)=>a.toList==b.toList
 Nr:=λ(xs:List Int)=>strOfNums xs
 Ns:=λ(b:Bool) (x y:Int)=>bif b then x else y
 IK:=λ(b:Bool) (x y:Bool)=>bif b then x else y
 Nt:=λ(b:Bool) c (x y:List c.den)=>(bif b then x else y:List c.den)
 Wz:=λ(b:Bool) _ x y=>bif b then x else y
 len:=λc (xs:List c.den)=>(xs.length:Int)
 Ew:=λc=>([]:List c.den)
 get:=λc (xs:List c.den) (i:Int)=>xs.getD i.toNat default
 set:=λc (xs:List c.den) (i:Int) x=>xs.set i.toNat x
 app:=λc (xs ys:List c.den)=>xs++ys
 sub:=λc (xs:List c.den) (lo hi:Int)=>(xs.take hi.toNat).drop lo.toNat
 rep:=λc (n:Int) x=>List.replicate n.toNat x
 lst:=λc (xs:List c.den)=>xs
 glob:=λ_ c=>XP c
 fI:=iB
 fB:=afF
 fS:=atZ
 fL:=lK
 mkX:=Co.mk
 eqX:=apC
 ret:=λ_ t Q=>Q t
 fail:=λ_=>False
 sO:=λ_ t k=>k t
 chk:=λ(b:Bool) m Q=>b=true/\m Q
 cond:=λ(b:Bool) x y Q=>(b=true->x Q)/\(b=false->y Q)
 bind:=λ_ m k Q=>m λt=>k t Q
 tX:=λ_ m k Q=>m (Dm k Q)
 inl:=λ_ t Q=>Q (.inl t)
 inr:=λ_ m Q=>m λr=>Q (.inr r)
 iter:=λ_ f x Q=>UC f x Q
abbrev Co.size(c:Co):Nat:=c.fields.length
def apD(n:Int):List D:=[.int .i64 n]
def EF(xs:List Int):D:= .rows 1 (xs.map apD)
def ag6(m:aj):List D:=[.int .i64 m.aW,EF m.atoms]
def EG(p:List aj):D:= .rows 2 (p.map ag6)
def XU(p:List aj):List D:=[EG p]
def ag7(a:Atom):List D:=[.int .i64 a.kind,.int .i64 a.k,EG a.x,EG a.y]
def apE(o:IOp):List D:=[.int .i64 o.kind,.int .i64 o.x,.int .i64 o.y,.int .i64 o.k,.int .i64 o.at_]
def apF(s:ByteArray):List D:=[.str s]
def u8R(n:Int):List D:=[.int .u8 n]
def afG(b:Blk):List D:=[.int .i64 b.pc,.int .i64 b.len,.rows 5 (b.ops.map apE),.int .i64 b.fin,.int .i64 b.x,.int .i64 b.y,.int .i64 b.k]
def ag8(m:aH):List D:=[EF m.regs,.int .i64 m.pc,EF m.mem,.int .i64 m.save,.bool m.dV,.bool m.waits,.int .i64 m.halt,EF m.ins,EF m.outs,.int .i64 m.count]
def evR(e:Ev):List D:=[.int .i64 e.kind,.int .i64 e.at_,EG e.x,EG e.y,.rows 1 (e.regs.map XU)]
def apG(c:Cac):List D:=EF c.words::afG c.blk
def apH(c:Cer):List D:=afG c.base++afG c.made
def Co.row:(c:Co)->c.den->List D
 | .i64,n=>apD n | .u8,n=>u8R n | .bool,b=> [.bool b] | .str,s=>apF s
 | .ins,i=> [.int .i64 i.op,.int .i64 i.d,.int .i64 i.a,.int .i64 i.k]
 | .form,f=> [.bool f.d,.bool f.a,.int .i64 f.most,.rows 1 (f.words.map apF)]
 | .mono,m=>ag6 m | .poly,p=>XU p | .atom,a=>ag7 a | .tab,t=> [.rows 4 (t.map ag7)] | .iop,o=>apE o
 | .blk,b=>afG b | .iK,m=>ag8 m | .ev,e=>evR e
 | .sym,s=> [.rows 5 (s.events.map evR),.rows 1 (s.regs.map XU),.int .i64 s.fin,EG s.x,EG s.y,.int .i64 s.k]
 | .cac,c=>apG c | .cer,c=>apH c | .ask,a=> [.bool a.own,.rows 1 (a.bytes.map u8R)]
 | .eng,e=>ag8 e.iK++ [.rows 8 (e.cache.map apG),.rows 14 (e.XG.map apH)]
 | .ints,t=> [EF t]
def aL(c:Co)(xs:List c.den):List (List D):=xs.map c.row
def nu:Leaf aF->D
 | .int k x=> .int k x | .bool b=> .bool b | .str s=> .str s | .rows c xs=> .rows c.size (aL c xs)
def lvD:Sh->LV aF->D
 | .int k,.i n=> .int k n
 | _,.i n=> .int .i64 n
 | _,.b b=> .bool b
 | _,.s s=> .str s
 | _,.l c xs=> .rows c.size (aL c xs)
 | _,.x _ _=> .bool false
def XV(c:Co)(x:c.den):c.row x=List.zipWith lvD c.fields (c.zK x):=by cases c<;>rfl
def wu(c:Co)(x:c.den):(c.row x).length=c.size:=by cases c<;>rfl
def Ld(c:Co)(x:c.den):(c.zK x).length=c.size:=by cases c<;>rfl
def kI(N:Nat)(c:Co)(x:c.den):(fK (std N) c x 0 c.fields).map nu=c.row x:=by cases c<;>rfl
def Bp(N:Nat)(c:Co)(x:c.den):(fK (std N) c x 0 c.fields).map iZ=c.fields:=by cases c<;>rfl
def GQ(N:Nat)(c:Co)(x:c.den):(fK (std N) c x 0 c.fields).map Leaf.lv=c.zK x:=by cases c<;>rfl
def WE{t:LTy}{v:LV aF}{a:LT aF t}(h:ajS aF t v=some a):apA aF t a=v:=by
 cases t<;>cases v<;>simp only [ajS,reduceCtorEq]at h<;>(try (cases h;rfl))
 all_goals
  split at h
  .rename_i e;subst e;cases h;rfl
  .cases h
def unpack_pack:∀ {ts:List LTy} {vs:List (LV aF)} {t:gZ ts},pack aF ts vs=some t->unpack aF ts t=vs
 | [],[],_,_=>rfl
 | [],_::_,_,h=>by simp [pack]at h
 | _::_,[],_,h=>by simp [pack]at h
 | t::r,v::vs,x,h=>by
  unfold pack at h;split at h
  .rename_i a ha;split at h
   .rename_i b hb;cases h;simp only [unpack];rw [WE ha,unpack_pack hb]
   .cases h
  .cases h
def UD(c:Co)(t:gZ c.pI):c.zK (c.mk t)=unpack aF c.pI t:=by cases c<;>rfl
abbrev SC:=TC aF
abbrev SVal:=TV aF
abbrev aM:=dP aF
abbrev NM:=Nat->Option (Nat×Nat)
def Leaf.scalar:Leaf aF->Bool | .rows _ _=>false | _=>true
inductive RC (N:NM):Cell->SC->Prop
 | d {f g:Bool} {x:D} {y:Leaf aF}:x=nu y->(g=true->f=true\/y.scalar=true)->RC N (.d f x) (.d g y)
 | nil:RC N .nil .nil
 | clip {f g:Bool} {c:Co} {xs:List c.den}:(g=true->f=true)->RC N (.clip f c.size (aL c xs)) (.clip g c xs)
 | own {l sz n:Nat}:N l=some (sz,n)->RC N (.os l sz 0 n) (.own l)
 | os {l sz lo n m:Nat}:N l=some (sz,m)->RC N (.os l sz lo n) (.os l (lo:Int) (n:Int))
 | pb {l sz j:Nat}:RC N (.ptr l sz 0 j) (.pb l sz j)
 | pr {l sz i j m:Nat}:N l=some (sz,m)->RC N (.ptr l sz i j) (.pr l (i:Int) j)
 | rp {f g:Bool} {c:Co} {xs:List c.den} {i j:Nat}:(g=true->f=true)->i<xs.length->RC N (.rp f c.size (aL c xs) i j) (.rp g c xs (i:Int) j)
 | gp {g:Nat} {c:Co}:RC N (.rp false 1 [[.rows c.size (aL c (XP c))]] 0 0) (.gp g c)
 | fn {g:FuncId} {caps:List (Nat×Nat)}:RC N (.fn g (caps.map λp=> .ptr p.1 p.2 0 0)) (.fn g caps)
 | np:RC N .np .np
def cellsS(v:SVal):List SC:=bU (std 0) v
def EH(n:Nat)(c:Co)(x:c.den):∀(l:List Sh) (j:Nat),fK (std n) c x j l=fK (std 0) c x j l
 | [],_=>rfl
 | s::r,j=>by
  simp only [fK]
  first | done | rw [EH n c x r]
def Le(n:Nat)(f:Bool)(c:Co)(x:c.den):oM (std n) f c x=oM (std 0) f c x:=congrArg (List.map (TC.d f)) (EH n c x _ _)
def dh(n:Nat)(v:SVal):bU (std n) v=cellsS v:=by
 cases v with
 | sv f c x=>exact Le n f c x
 | _=>rfl
inductive PV0 (N:NM):PV->SVal->Prop
 | c {x:Cell} {y:SC}:RC N x y->PV0 N (.c x) (.c y)
 | agg {cs:List Cell} {v:SVal}:bF (std 0) v=true->F2 (RC N) cs (cellsS v)->PV0 N (.agg cs) v
inductive PVR (N:NM):PV->SVal->Prop
 | one {p:PV} {v:SVal}:PV0 N p v->PVR N p v
 | tup {ps:List PV} {vs:List SVal}:F2 (PV0 N) ps vs->PVR N (.tup ps) (.tup vs)
def nmh(h:List aM):NM:=λl=>match h[l]? with
 | some (.rows _ c xs)=>some (c.size,(xs:List c.den).length)
 | some (.gone c n)=>some (c.size,(n:Int).toNat)
 | _=>none
inductive OR (N:NM):fJ->aM->Prop
 | box {cs:List Cell} {v:SVal}:F2 (RC N) cs (cellsS v)->OR N (.box cs) (.box v)
 | rows {f g:Bool} {c:Co} {xs:List c.den}:(g=true->f=true)->OR N (.rows f c.size (aL c xs)) (.rows g c xs)
 | gone {c:Co} {n:Int}:OR N .gone (.gone c n)
structure fD(h':Heap)(h:List aM):Prop where
 old:∀l o,h[l]? =some o->∃o',AE.look h' l=some o'/\OR (nmh h) o' o
 new:∀l,h.length<=l->AE.look h' l=none
def RC.mono{N M:NM}(hN:∀l x,N l=some x->M l=some x){x:Cell}{y:SC}(h:RC N x y):RC M x y:=by
 cases h with
 | d h1 h2=>exact .d h1 h2
 | nil=>exact .nil
 | clip h=>exact .clip h
 | own h=>exact .own (hN _ _ h)
 | os h=>exact .os (hN _ _ h)
 | pb=>exact .pb
 | pr h=>exact .pr (hN _ _ h)
 | rp h h'=>exact .rp h h'
 | gp=>exact .gp
 | fn=>exact .fn
 | np=>exact .np
def PV0.mono{N M:NM}(hN:∀l x,N l=some x->M l=some x){x:PV}{y:SVal}(h:PV0 N x y):PV0 M x y:=by
 cases h with
 | c h=>exact .c (h.mono hN)
 | agg h1 h2=>exact .agg h1 (h2.mono λ_ _ h=>h.mono hN)
def PVR.mono{N M:NM}(hN:∀l x,N l=some x->M l=some x){x:PV}{y:SVal}(h:PVR N x y):PVR M x y:=by
 cases h with
 | one h=>exact .one (h.mono hN)
 | tup h=>exact .tup (h.mono λ_ _ h=>h.mono hN)
def OR.mono{N M:NM}(hN:∀l x,N l=some x->M l=some x){x:fJ}{y:aM}(h:OR N x y):OR M x y:=by
 cases h with
 | box h=>exact .box (h.mono λ_ _ h=>h.mono hN)
 | rows h=>exact .rows h
 | gone=>exact .gone
def PVR.cell{N:NM}{p:PV}{y:SC}(h:PVR N p (.c y)):∃x,p= .c x/\RC N x y:=by
 cases h with | one h=>cases h with
  | c h=>exact⟨_,rfl,h⟩
  | agg h _=>simp [bF]at h
def PVR.ofC{N:NM}{x:Cell}{y:SC}(h:RC N x y):PVR N (.c x) (.c y):= .one (.c h)
def RC.int{N:NM}{x:Cell}{f:Bool}{k:IntKind}{n:Int}(h:RC N x (.d f (.int k n))):∃g,x= .d g (.int k n):=by
 cases h with | d h1 h2=>exact⟨_,by rw [h1];rfl⟩
def RC.bool{N:NM}{x:Cell}{f:Bool}{b:Bool}(h:RC N x (.d f (.bool b))):∃g,x= .d g (.bool b):=by
 cases h with | d h1 h2=>exact⟨_,by rw [h1];rfl⟩
def PVR.int{N:NM}{p:PV}{f:Bool}{k:IntKind}{n:Int}(h:PVR N p (.c (.d f (.int k n)))):∃g,p= .c (.d g (.int k n)):=by
 obtain⟨x,rfl,hc⟩:=h.cell;obtain⟨g,rfl⟩:=RC.int hc;exact⟨g,rfl⟩
def PVR.bool{N:NM}{p:PV}{f:Bool}{b:Bool}(h:PVR N p (.c (.d f (.bool b)))):∃g,p= .c (.d g (.bool b)):=by
 obtain⟨x,rfl,hc⟩:=h.cell;obtain⟨g,rfl⟩:=RC.bool hc;exact⟨g,rfl⟩
def PVR.ci{N:NM}(k:IntKind)(n:Int)(f:Bool):PVR N (ci k n) (.c (.d f (.int k n))):= .ofC (.d rfl λ_=> .inl rfl)
def PVR.cb{N:NM}(b f:Bool):PVR N (AE.cb b) (.c (.d f (.bool b))):= .ofC (.d rfl λ_=> .inl rfl)
def PVR.cells{N:NM}{p:PV}{v:SVal}(h:PVR N p v):F2 (RC N) (aN p) (cellsS v):=by
 cases h with
 | one h=>cases h with
  | c h=>exact .cons h .nil
  | agg _ h=>exact h
 | tup h=>exact .nil
def PVR.len{N:NM}{p:PV}{v:SVal}(h:PVR N p v):(aN p).length=(cellsS v).length:=h.cells.length
def F2.ag9{N:NM}{f g:Bool}(hf:g=true->f=true):∀(ys:List (Leaf aF)),F2 (RC N) ((ys.map nu).map (.d f)) (ys.map (.d g))
 | []=> .nil
 | _::ys=> .cons (.d rfl λh=> .inl (hf h)) (F2.ag9 hf ys)
def WG{N:NM}(n:Nat){f g:Bool}(hf:g=true->f=true)(c:Co)(x:c.den):F2 (RC N) ((c.row x).map (.d f)) (oM (std n) g c x):=by
 unfold oM;rw [<-kI n c x];exact F2.ag9 hf _
structure XOK(X:XT)(E:Tab):Prop where
 ty:X.ty=E.ty
 glob:∀g c,X.glob g=some c->E.glob g=some (.rows c.size (aL c (XP c)))
 ieq:∀t c,X.ieq t=some c->(c= .ins/\E.ieq t=some 4)\/(c= .iop/\E.ieq t=some 5)
def Gv(T:(PV->Prop)->Prop)(N:NM)(v:SVal):Prop:=∃pv,PVR N pv v/\∀K,K pv->T K
def Gv.mk{T:(PV->Prop)->Prop}{N:NM}{v:SVal}(pv:PV)(h:PVR N pv v)(hk:∀K,K pv->T K):Gv T N v:=⟨pv,h,hk⟩
def EvR(X:XT)(E:Tab)(n:Nat)(N:NM)(t:Slots)(e:Nat->Option SVal):Prop:=∀i v,e i=some v->∃pv,aX t i=some pv/\PVR N pv v
def dF{X:XT}{E:Tab}(hX:XOK X E){n:Nat}{N:NM}{t:Slots}{e:Nat->Option SVal}(he:EvR X E n N t e){x:Operand}{v:SVal}(h:evX (std n) X e x=some v):
  ∃pv,ev E t x=some pv/\PVR N pv v:=by
 cases x with
 | tmp i=>exact he i v h
 | const c=>
  simp only [evX]at h;split at h<;>cases h
  .exact⟨_,rfl,.ci _ _ _⟩
  .exact⟨_,rfl,.cb _ _⟩
  .exact⟨_,rfl,.ofC (.d rfl λ_=> .inl rfl)⟩
  .exact⟨_,rfl,.ofC .nil⟩
  .exact⟨_,rfl,.ofC .np⟩
 | global g=>
  simp only [evX]at h;split at h
  .rename_i c hc;cases h;refine⟨_,by simp only [ev,hX.glob g c hc,Option.map_some],.ofC .gp⟩
  .cases h
 | func f=>cases h;exact⟨_,rfl,.ofC (RC.fn (caps:=[]))⟩
def iC{o:Option PV}{pv:PV}(h:o=some pv)(K:PV->Prop):K pv->aQ o K:=by rw [h];exact id
def NI{d:ku}(h:d.agg=true):∃fs,d= .struct fs:=by cases d<;>simp [ku.agg]at h;exact⟨_,rfl⟩
def nY(n:Nat)(w:SVal):bF (std n) w=bF (std 0) w:=by cases w<;>rfl
def XW{n:Nat}{N:NM}{f g:Bool}(hf:g=true->f=true){c:Co}{x:c.den}{y:TY}{j:Nat}{v:SVal}
  (h:jF (std n) y j (.sv g c x) (oM (std n) g c x)=some v):Gv (sS f y (c.row x) j) N v:=by
 have hrc:=WG (N:=N) n hf c x;have hl:(oM (std n) g c x).length=(c.row x).length:=by have:=hrc.length;rw [List.length_map]at this;exact this.symm
 unfold jF at h;split at h
 .rename_i hagg;obtain⟨fs,hfs⟩:=NI hagg;have key:∀v,F2 (RC N) ((((c.row x).drop j).take y.size).map (.d f)) (cellsS v)->bF (std 0) v=true->j+y.size<=(c.row x).length->Gv (sS f y (c.row x) j) N v:=by
   intro v h1 h2 h3;refine⟨_,.one (.agg h2 h1),λK hk=> ?_⟩;unfold sS;rw [hfs];exact⟨h3,hk⟩
  split at h
  .rename_i h0;simp only [Bool.and_eq_true,beq_iff_eq]at h0;obtain⟨⟨rfl,hs⟩,_⟩:=h0;cases h;refine key _ ?_ rfl ah;have:((c.row x).drop 0).take y.size=c.row x:=by rw [List.drop_zero,List.take_of_length_le ah]
   rw [this];have:=hrc;rw [Le]at this;exact this
  .split at h
   .rename_i h1;cases h;have h1:=Nat.le_of_ble_eq_true h1;refine key _ ?_ rfl ah;rw [List.map_take,List.map_drop];exact(hrc.drop j).take y.size
   .cases h
 .rename_i hagg;split at h
  .rename_i q hq;obtain⟨a,ha,hra⟩:=hrc.get hq;rw [List.getElem?_map]at ha;cases hd:(c.row x)[j]? with
   | none=>rw [hd]at ha;simp at ha
   | some d=>
   rw [hd]at ha;simp at ha;subst ha;split at h
   .rename_i k hk;split at h
    .rename_i f' k' m;split at h
     .rename_i e;subst e;cases h;obtain⟨g',hg'⟩:=RC.int hra;cases hg';exact⟨_,.ci k m _,λK hK=>by unfold sS;rw [hk];exact⟨⟨m,hd⟩,λm' hm'=>by rw [hd]at hm';cases hm';exact hK⟩⟩
     .cases h
    .cases h
   .rename_i hni;cases h;refine⟨_,.ofC hra,λK hK=> ?_⟩;have hjl:j< (c.row x).length:=(List.getElem?_eq_some_iff.1 hd).1;unfold sS;cases hyd:y.desc with
    | struct fs=>rw [hyd]at hagg;simp [ku.agg]at hagg
    | int k=>exact absurd hyd (hni k)
    | scalar=>exact⟨hjl,λx' hx'=>by rw [hd]at hx';cases hx';exact hK⟩
    | str=>exact⟨hjl,λx' hx'=>by rw [hd]at hx';cases hx';exact hK⟩
    | bool=>exact⟨hjl,λx' hx'=>by rw [hd]at hx';cases hx';exact hK⟩
    | slice e=>exact⟨hjl,λx' hx'=>by rw [hd]at hx';cases hx';exact hK⟩
  .cases h
def UE{n:Nat}{N:NM}{f g:Bool}(hf:g=true->f=true){c:Co}{xs:List c.den}{y:TY}{i j:Nat}{v:SVal}(hi:i<xs.length)
  (h:jF (std n) y j (.sv g c (xs.getD i default)) (oM (std n) g c (xs.getD i default))=some v):Gv (Xj f (aL c xs) i j y) N v:=by
 obtain⟨pv,h1,h2⟩:=XW (N:=N) hf h;refine⟨pv,h1,λK hK=>⟨by simpa [aL]using hi,λrow hr=> ?_⟩⟩;simp only [aL,List.getElem?_map,List.getElem?_eq_getElem hi,Option.map_some,Option.some.injEq]at hr;subst hr;have:xs.getD i default=xs[i]:=by simp [List.getD,List.getElem?_eq_getElem hi]
 rw [<-this];exact h2 K hK
def afH{n:Nat}{N:NM}{cs:List Cell}{w v:SVal}{y:TY}{j:Nat}(hc:F2 (RC N) cs (cellsS w))(h:jF (std n) y j w (bU (std n) w)=some v):Gv (Im cs j y) N v:=by
 have hl:(bU (std n) w).length=cs.length:=by rw [dh];exact hc.length.symm
 unfold jF at h;split at h
 .rename_i hagg;split at h
  .rename_i h0;simp only [Bool.and_eq_true,beq_iff_eq]at h0;obtain⟨⟨rfl,hs⟩,hw⟩:=h0;cases h;refine⟨.agg ((cs.drop 0).take y.size),.one (.agg (by rw [<-nY n];exact hw) ?_),λK hK=> ?_⟩
   .rw [List.drop_zero,List.take_of_length_le ah];exact hc
   .unfold Im;rw [if_pos hagg];exact⟨ah,hK⟩
  .split at h
   .rename_i h1;cases h;have h1:=Nat.le_of_ble_eq_true h1;refine⟨.agg ((cs.drop j).take y.size),.one (.agg rfl ?_),λK hK=>by unfold Im;rw [if_pos hagg];exact⟨ah,hK⟩⟩;have:=(hc.drop j).take y.size;rw [<-dh n]at this;exact this
   .cases h
 .rename_i hagg;split at h
  .rename_i q hq;rw [dh]at hq;obtain⟨a,ha,hra⟩:=hc.get hq;have hv:v= .c q:=by
    split at h
    .split at h
     .split at h
      .cases h;rfl
      .cases h
     .cases h
    .cases h;rfl
   subst hv;exact⟨_,.ofC hra,λK hK=>by unfold Im;rw [if_neg hagg,ha];exact hK⟩
  .cases h
def fD.names{h':Heap}{h:List aM}(H:fD h' h){l:Nat}{o:aM}(ho:h[l]? =some o):∃o',AE.look h' l=some o'/\OR (nmh h) o' o:=H.old l o ho
def Lf{X:XT}{E:Tab}(hX:XOK X E){n:Nat}{h':Heap}{h:List aM}(H:fD h' h){ty:TypeId}{p:PV}{q v:SVal}{ps:List Bool}(hp:PVR (nmh h) p q)
  (hk:K8 (std n) X h ty q=some (ps,v)) (hps:∀b∈ps,b=true):Gv (kC E h' ty p) (nmh h) v:=by
 unfold K8 at hk;rw [hX.ty]at hk;cases hy:E.ty ty with
 | none=>rw [hy]at hk;cases hk
 | some y=>
 rw [hy]at hk;simp only at hk;have lift:∀ {T:(PV->Prop)->Prop},Gv T (nmh h) v->(∀K,T K->kC E h' ty p K)->Gv (kC E h' ty p) (nmh h) v:=λ⟨pv,h1,h2⟩ f=>⟨pv,h1,λK hK=>f K (h2 K hK)⟩
 split at hk
 .rename_i l sz j;obtain⟨x,rfl,hc⟩:=hp.cell;cases hc;split at hk
  .rename_i w hw;split at hk
   .obtain⟨o',ho',hO⟩:=H.old l _ hw;cases hO with | box hF=>
    unfold K7 at hk;split at hk
    .rename_i u hu;cases hk;refine lift (afH hF hu) λK hT=> ?_
     unfold kC;rw [hy];simp only [aC];rw [ho'];exact⟨rfl,hT⟩
    .cases hk
   .cases hk
  .cases hk
 .rename_i l i j;obtain⟨x,rfl,hc⟩:=hp.cell;cases hc with | pr hN=>
  rename_i sz i m;split at hk
  .rename_i f c xs hw;obtain⟨o',ho',hO⟩:=H.old l _ hw;cases hO with | rows hf=>
   split at hk
   .rename_i u hu;cases hk;have h2:=hps ((std n).cmp .lss (i:Int) ((std n).len c xs)) (by simp);have hi:i< (xs:List c.den).length:=by simpa [std,bA]using h2
    have hs:sz=c.size:=by simp only [nmh,hw,Option.some.injEq,Prod.mk.injEq]at hN;exact hN.1.symm
    refine lift (UE (n:=n) hf hi (by simpa [std]using hu)) λK hT=> ?_
    unfold kC;rw [hy];simp only [aC];rw [ho'];exact⟨hs,hT⟩
   .cases hk
  .cases hk
 .rename_i f c xs i j;obtain⟨x,rfl,hc⟩:=hp.cell;cases hc with | rp hf hi=>
  unfold K7 at hk;split at hk
  .rename_i u hu;cases hk;refine lift (UE (n:=n) hf hi (by simpa [std]using hu)) λK hT=> ?_
   unfold kC;rw [hy];exact hT
  .cases hk
 .rename_i g c;obtain⟨x,rfl,hc⟩:=hp.cell;cases hc;split at hk
  .rename_i e he;cases hk;refine⟨_,.ofC (.d (f:=false) rfl (λh=>by cases h)),λK hK=> ?_⟩;unfold kC;rw [hy];simp only [aC];refine⟨by simp,λrow hr=> ?_⟩;simp at hr;subst hr;unfold sS;rw [he];exact⟨by simp,λx hx=>by simp at hx;subst hx;exact hK⟩
  .cases hk
 .cases hk
def aj0{n:Nat}{N:NM}{p:PV}{q v:SVal}{ps:List Bool}(hp:PVR N p q)(hk:ajX (std n) q=some (ps,v)):Gv (MN p) N v:=by
 unfold ajX at hk;split at hk
 .cases hk;obtain⟨x,rfl,hc⟩:=hp.cell;cases hc;exact⟨_,.ofC .pb,λK hK=>hK⟩
 .cases hk;obtain⟨x,rfl,hc⟩:=hp.cell;cases hc with | pr h=>exact⟨_,.ofC (.pr h),λK hK=>hK⟩
 .cases hk;obtain⟨x,rfl,hc⟩:=hp.cell;cases hc with | rp h h'=>exact⟨_,.ofC (.rp h h'),λK hK=>hK⟩
 .cases hk
def apI{n:Nat}{N:NM}{op:UnOp}{p:PV}{q v:SVal}{ps:List Bool}(hp:PVR N p q)(hk:unX (std n) op q=some (ps,v)):Gv (unA op p) N v:=by
 unfold unX at hk;split at hk
 .cases hk;obtain⟨g,rfl⟩:=hp.bool;exact⟨_,.cb _ _,λK hK=>hK⟩
 .cases hk;obtain⟨g,rfl⟩:=hp.int;exact⟨_,.ci _ _ _,λK hK=>hK⟩
 .cases hk
def GU:∀xs:List Int,Kq (aL .u8 xs)=some xs
 | []=>rfl
 | x::r=>by
  have ih:=GU r;show(match ajH (Co.row .u8 x),Kq (aL .u8 r)with | some n,some l=>some (n::l) | _,_=>none)=_;rw [ih];rfl
def afI{X:XT}{E:Tab}(hX:XOK X E){n:Nat}{N:NM}{s d:TypeId}{p:PV}{q v:SVal}{ps:List Bool}(hp:PVR N p q)(hk:XJ (std n) X s d q=some (ps,v)):Gv (DT E s d p) N v:=by
 unfold XJ at hk;rw [hX.ty]at hk;split at hk
 .rename_i y1 y2 h1 h2;split at hk
  .rename_i k f k' m hd;cases hk;obtain⟨g,rfl⟩:=hp.int;refine⟨_,.ci _ _ _,λK hK=> ?_⟩;unfold DT;rw [h2];simp only [aC];rw [hd];simp only;rw [h1];exact hK
  .rename_i f xs hd;split at hk
   .rename_i e hs;split at hk
    .rename_i t ht;split at hk
     .rename_i hte;cases hk;obtain⟨x,rfl,hc⟩:=hp.cell;have hc':∃g,x= .d g (.rows Co.u8.size (aL .u8 xs)):=by cases hc with | d e1 _=>exact⟨_,by rw [e1];rfl⟩
      obtain⟨g,rfl⟩:=hc';refine⟨.c (.d true (.str (strOfNums xs))),.ofC (.d rfl λ_=> .inl rfl),λK hK=> ?_⟩;unfold DT;rw [h2];simp only [aC];rw [hd];simp only;rw [h1];simp only;rw [hs];simp only;rw [ht];simp only;refine⟨hte,?_⟩;rw [GU];exact hK
     .cases hk
    .cases hk
   .cases hk
  .cases hk
 .cases hk
def IX{X:XT}{E:Tab}(hX:XOK X E){n:Nat}{N:NM}{s:TypeId}{i:Nat}{p:PV}{q v:SVal}{ps:List Bool}(hp:PVR N p q)(hk:yO (std n) X s q i=some (ps,v)):Gv (iJ E s p i) N v:=by
 unfold yO at hk;rw [hX.ty]at hk;split at hk
 .rename_i y hy;split at hk
  .rename_i fs hd;split at hk
   .rename_i off ft hf;split at hk
    .rename_i z hz;split at hk
     .cases hk
     .rename_i hne;have hne:z.size≠0:=by simpa using hne
      have fin:∀K,(match p with | .c (.ptr l sz i j)=>K (.c (.ptr l sz i (j+off))) | .c (.rp r sz es i j)=>K (.c (.rp r sz es i (j+off))) | _=>False)->iJ E s p i K:=by
       intro K hK;unfold iJ;rw [hy];simp only [aC];rw [hd];simp only;rw [hf];simp only;rw [hz];exact⟨hne,hK⟩
      split at hk
      .cases hk;obtain⟨x,rfl,hc⟩:=hp.cell;cases hc;exact⟨_,.ofC .pb,λK hK=>fin K hK⟩
      .cases hk;obtain⟨x,rfl,hc⟩:=hp.cell;cases hc with | pr h=>exact⟨_,.ofC (.pr h),λK hK=>fin K hK⟩
      .cases hk;obtain⟨x,rfl,hc⟩:=hp.cell;cases hc with | rp h h'=>exact⟨_,.ofC (.rp h h'),λK hK=>fin K hK⟩
      .cases hk
    .cases hk
   .cases hk
  .cases hk
 .cases hk
def PVR.struct{N:NM}{p:PV}{v:SVal}(h:PVR N p v)(hs:bF (std 0) v=true):∃cs,p= .agg cs/\F2 (RC N) cs (cellsS v):=by
 cases h with
 | one h=>cases h with
  | c _=>simp [bF]at hs
  | agg _ h=>exact⟨_,rfl,h⟩
 | tup _=>simp [bF]at hs
def XY{X:XT}{E:Tab}(hX:XOK X E){n:Nat}{N:NM}{s:TypeId}{i:Nat}{p:PV}{q v:SVal}{ps:List Bool}(hp:PVR N p q)(hk:Nu (std n) X s q i=some (ps,v)):Gv (sV E s p i) N v:=by
 unfold Nu at hk;rw [hX.ty]at hk;split at hk
 .rename_i y hy;split at hk
  .rename_i fs hd;split at hk
   .rename_i off ft hf;split at hk
    .rename_i z hz;split at hk
     .rename_i hc;simp only [Bool.and_eq_true]at hc;obtain⟨hst,hle⟩:=hc;have hle:=Nat.le_of_ble_eq_true hle;obtain⟨cs,rfl,hF⟩:=hp.struct (by rw [<-nY n];exact hst);have hl:(bU (std n) q).length=cs.length:=by rw [dh];exact hF.length.symm
      have fin:∀K,(if z.desc.agg then K (.agg ((cs.drop off).take z.size))else Cu cs[off]? λx=>K (.c x))->sV E s (.agg cs) i K:=by
       intro K hK;unfold sV;rw [hy];simp only [aC];rw [hd];simp only;rw [hf];simp only;rw [hz];exact⟨ah,hK⟩
      split at hk
      .rename_i hagg;cases hk;refine⟨.agg ((cs.drop off).take z.size),.one (.agg rfl ?_),λK hK=>fin K (by rw [if_pos hagg];exact hK)⟩;have:=(hF.drop off).take z.size;rw [<-dh n]at this;exact this
      .rename_i hagg;split at hk
       .rename_i x hx;cases hk;rw [dh]at hx;obtain⟨a,ha,hra⟩:=hF.get hx;exact⟨_,.ofC hra,λK hK=>fin K (by rw [if_neg hagg,ha];exact hK)⟩
       .cases hk
     .cases hk
    .cases hk
   .cases hk
  .cases hk
 .cases hk
def WH{N:NM}{op:BinOp}{k:IntKind}{x y:Int}{v:SVal}{ps:List Bool}{n:Nat}
    (hk:(match op with
       | .quo | .rem=>some ([(std n).cmp .neq y ((std n).lit 0)],.c (.d true (.int k ((std n).arith op k x y))))
       | .shl | .shr=>some ([(std n).cmp .leq ((std n).lit 0) y],.c (.d true (.int k ((std n).arith op k x y))))
       | op=>if IL op then okI (std n) k ((std n).arith op k x y)else if XI op then okB (std n) ((std n).cmp op x y)else none:PR (std n))=some (ps,v))
    (hps:∀b∈ps,b=true):Gv (AX op k x y) N v:=by
  cases op<;>simp only [IL,XI,okI,okB,if_true,Bool.false_eq_true,if_false,Option.some.injEq,Prod.mk.injEq,reduceCtorEq]at hk<;>
    first
    | exact hk.elim
    | (obtain⟨rfl,rfl⟩:=hk;exact⟨_,.ci _ _ _,λK hK=>hK⟩)
    | (obtain⟨rfl,rfl⟩:=hk;exact⟨_,.cb _ _,λK hK=>hK⟩)
    | (obtain ⟨rfl, rfl⟩ := hk
       have h:=hps _ (List.mem_singleton.2 rfl);refine⟨_,.ci _ _ _,λK hK=>⟨?_,hK⟩⟩;simpa [bA]using h)
def F2.IY{N:NM}:∀ {cs:List Cell} {ys:List SC},F2 (RC N) cs ys->∀(ns:List Int),(∃fs:List Bool,ys=List.zipWith (λf n=>TC.d f (.int .i64 n)) fs ns/\fs.length=ns.length)->gW cs=some ns
 | [],_,h,ns,⟨fs,e,hl⟩=>by
  cases h;cases ns with
  | nil=>rfl
  | cons a b=>cases fs with
   | nil=>simp at hl
   | cons c d=>simp at e
 | _::_,_,.cons h1 h2,ns,⟨fs,e,hl⟩=>by
  cases ns with
  | nil=>cases fs<;>simp at e
  | cons a b=>cases fs with
   | nil=>simp at hl
   | cons c d=>
    simp only [List.zipWith_cons_cons,List.cons.injEq]at e;obtain⟨rfl,rfl⟩:=e;obtain⟨g,rfl⟩:=RC.int h1;have:=F2.IY h2 b ⟨d,rfl,by simpa using hl⟩;simp [gW,MQ,this]
def rP{n:Nat}{h:List aM}:∀ {ss:List Sh} {ys:List SC} {f:Bool} {vs:List (LV aF)} {ls:List Nat},(∀s∈ss,s=Sh.i)->aP (std n) h ss ys=some (f,vs,ls)->
  ∃ns:List Int,vs=ns.map LV.i/\∃fs:List Bool,ys=List.zipWith (λf n=>TC.d f (.int .i64 n)) fs ns/\fs.length=ns.length
 | [],[],f,vs,ls,_,hk=>by simp [aP]at hk;obtain⟨_,rfl,_⟩:=hk;exact⟨[],rfl,[],rfl,rfl⟩
 | [],_::_,_,_,_,_,hk=>by simp [aP]at hk
 | _::_,[],_,_,_,_,hk=>by simp [aP]at hk
 | s::ss,y::ys,f,vs,ls,hs,hk=>by
  unfold aP at hk;split at hk
  .rename_i f1 y1 l1 h1;split at hk
   .rename_i g ys1 ls1 h2;split at hk<;>cases hk
    obtain⟨ns,rfl,fs,rfl,hl⟩:=rP (λs hs'=>hs s (List.mem_cons_of_mem _ hs')) h2;have:=hs s (by simp);subst this;unfold eU at h1;split at h1
    .rename_i f0 lf;split at h1
     .rename_i e;cases lf with
      | int k x=>simp [iZ,Sh.i]at e;subst e;cases h1;exact⟨x::ns,rfl,f0::fs,rfl,by simp [hl]⟩
      | bool x=>simp [iZ,Sh.i]at e
      | str x=>simp [iZ,Sh.i]at e
      | rows c x=>simp [iZ,Sh.i]at e
     .cases h1
    .simp [Sh.i]at h1
    .split at h1
     .rename_i e;simp [Sh.i]at e
     .cases h1
    .split at h1
     .split at h1
      .rename_i e;simp [Sh.i]at e
      .cases h1
     .cases h1
    .cases h1
   .cases hk
  .cases hk
theorem Lg(x:Ins):Co.zK .ins x=[x.op,x.d,x.a,x.k].map LV.i:=rfl
theorem Lh(x:IOp):Co.zK .iop x=[x.kind,x.x,x.y,x.k,x.at_].map LV.i:=rfl
def WI{a b:List Int}(h:a.map (LV.i (A:=aF))=b.map LV.i):a=b:=by
 induction a generalizing b with
 | nil=>cases b<;>simp_all
 | cons x a ih=>cases b with
  | nil=>simp at h
  | cons y b=>simp only [List.map_cons,List.cons.injEq,LV.i.injEq]at h;rw [h.1,ih h.2]
theorem zL{n:Nat}{N:NM}{c:Co}(hc:∀s∈c.fields,s=Sh.i){q:SVal}{p:PV}{f:Bool}{x:c.den}{ls:List Nat}(hp:PVR N p q)(hk:toX (std n) [] c q=some (f,x,ls))(ns:List Int)(hns:c.zK x=ns.map LV.i):
  gW (aN p)=some ns:=by
 unfold toX at hk;split at hk
 .rename_i f' c' x';split at hk
  .rename_i e;subst e;cases hk;have h:=hp.cells;have hx:cellsS (.sv f' c' x')=(fK (std 0) c' x' 0 c'.fields).map (.d f'):=rfl;rw [hx]at h;refine F2.IY h ns ?_;have h1:=GQ 0 c' x';have h2:=Bp 0 c' x';rw [hns]at h1
   revert h1 h2
   generalize fK (std 0) c' x' 0 c'.fields=lv;intro h1 h2;have h3:∀y∈lv,iZ y=Sh.i:=λy hy=>hc _ (by rw [<-h2];exact List.mem_map_of_mem hy)
   clear h2 hns hp h hx hc
   induction lv generalizing ns with
   | nil=>cases ns with | nil=>exact⟨[],rfl,rfl⟩ | cons a b=>simp at h1
   | cons y lv ih=>cases ns with
    | nil=>simp at h1
    | cons a b=>
     simp only [List.map_cons,List.cons.injEq]at h1;obtain⟨fs,e,hl⟩:=ih b h1.2 (λy hy=>h3 y (List.mem_cons_of_mem _ hy));have hy:=h3 y (by simp);cases y with
     | int k x=>simp [iZ,Sh.i]at hy;subst hy;simp [Leaf.lv]at h1;exact⟨f'::fs,by simp [e,h1.1],by simp [hl]⟩
     | bool x=>simp [iZ,Sh.i]at hy
     | str x=>simp [iZ,Sh.i]at hy
     | rows c x=>simp [iZ,Sh.i]at hy
  .cases hk
 .cases hk
 .split at hk
  .rename_i f1 ys ls1 h1;split at hk
   .rename_i t ht;cases hk;obtain⟨ms,rfl,fs,hy,hl⟩:=rP hc h1;rw [dh]at hy;have h2:c.zK (c.mk t)=ms.map LV.i:=by rw [UD,unpack_pack ht]
    rw [show(std n).mkX c t=c.mk t from rfl]at hns;rw [h2]at hns;have:=WI hns;subst this;exact F2.IY hp.cells ms ⟨fs,hy,hl⟩
   .cases hk
  .cases hk
def EI{N:NM}{p:PV}{q:SVal}(hp:PVR N p q){ns:List Int}(h:gW (aN p)=some ns)(hl:2<=ns.length):∃cs,p= .agg cs/\gW cs=some ns:=by
 cases p with
 | c x=>
  simp only [aN,gW]at h;split at h
  .rename_i h1 h2;cases h;simp at h2;subst h2;simp at hl
  .cases h
 | agg cs=>exact⟨cs,rfl,h⟩
 | tup vs=>simp [aN,gW]at h;subst h;simp at hl
def apJ{x y:Ins}:([x.op,x.d,x.a,x.k]==[y.op,y.d,y.a,y.k])=XQ x y:=by
 unfold XQ;rw [Bool.eq_iff_iff];cases x;cases y;simp
def apK{x y:IOp}:([x.kind,x.x,x.y,x.k,x.at_]==[y.kind,y.x,y.y,y.k,y.at_])=XR x y:=by
 unfold XR;rw [Bool.eq_iff_iff];cases x;cases y;simp
def aR(c:Co)(xs:List c.den):(aL c xs).length=xs.length:=by simp [aL]
def aj1{X:XT}{E:Tab}(hX:XOK X E){n:Nat}{N:NM}{op:BinOp}{ty:TypeId}{p p':PV}{a b v:SVal}{ps:List Bool}(hp:PVR N p a)(hp':PVR N p' b)
  (hk:ajU (std n) X op ty a b=some (ps,v)) (hps:∀b∈ps,b=true):Gv (AY E op ty p p') N v:=by
 unfold ajU at hk;split at hk
 .rename_i f k x f' k' y;obtain⟨g,rfl⟩:=hp.int;obtain⟨g',rfl⟩:=hp'.int;split at hk
  .rename_i e;obtain⟨pv,h1,h2⟩:=WH (N:=N) hk hps;exact⟨pv,h1,λK hK=>⟨e,h2 K hK⟩⟩
  .cases hk
 .rename_i f x f' y;obtain⟨g,rfl⟩:=hp.bool;obtain⟨g',rfl⟩:=hp'.bool;rw [hX.ty]at hk;split at hk
  .rename_i z hz;split at hk
   .rename_i hd;split at hk
    .cases hk;exact⟨_,.cb _ _,λK hK=>by unfold AY;simp only;rw [hz];exact⟨hd,hK⟩⟩
    .cases hk;exact⟨_,.cb _ _,λK hK=>by unfold AY;simp only;rw [hz];exact⟨hd,hK⟩⟩
    .cases hk
   .cases hk
  .cases hk
 .rename_i f x f' y;have str:∀ {p:PV} {f:Bool} {s:ByteArray},PVR N p (.c (.d f (.str s)))->∃g,p= .c (.d g (.str s)):=λh=>by
   obtain⟨x,rfl,hc⟩:=h.cell;cases hc with | d e1 _=>exact⟨_,by rw [e1];rfl⟩
  obtain⟨g,rfl⟩:=str hp;obtain⟨g',rfl⟩:=str hp';rw [hX.ty]at hk;split at hk
  .rename_i z hz;split at hk
   .rename_i hd;split at hk
    .cases hk;exact⟨_,.cb _ _,λK hK=>by unfold AY;simp only;rw [hz];exact⟨hd,hK⟩⟩
    .cases hk;exact⟨_,.cb _ _,λK hK=>by unfold AY;simp only;rw [hz];exact⟨hd,hK⟩⟩
    .cases hk
   .cases hk
  .cases hk
 .rename_i l lo m;obtain⟨x,rfl,hr⟩:=hp.cell;obtain⟨x',rfl,hr'⟩:=hp'.cell;rw [hX.ty]at hk;split at hk
  .rename_i z hz;split at hk
   .rename_i el hd;cases hr with
    | @os l sz lo n0 m0 hN=>
    cases hr';have ne:(!decide ((n0:Int)=0))=true->n0≠0:=λh e=>by
     simp only [Bool.not_eq_true',decide_eq_false_iff_not]at h;exact h ah
    split at hk
    .cases hk;exact⟨_,.cb _ _,λK hK=>⟨ne (hps _ (List.mem_singleton.2 rfl)),by rw [hz];exact⟨⟨el,hd⟩,hK⟩⟩⟩
    .cases hk;exact⟨_,.cb _ _,λK hK=>⟨ne (hps _ (List.mem_singleton.2 rfl)),by rw [hz];exact⟨⟨el,hd⟩,hK⟩⟩⟩
    .cases hk
   .cases hk
  .cases hk
 .rename_i f c xs;obtain⟨x,rfl,hr⟩:=hp.cell;obtain⟨x',rfl,hr'⟩:=hp'.cell;rw [hX.ty]at hk;split at hk
  .rename_i z hz;split at hk
   .rename_i el hd;cases hr with
    | d e1 _=>
    cases hr';subst e1;have ne:(!decide ((xs.length:Int)=0))=true->aL c xs≠ []:=λh e=>by
     have:=aR c xs;rw [e]at this;simp only [Bool.not_eq_true',decide_eq_false_iff_not]at h;exact h (by rw [<-this];rfl)
    split at hk
    .cases hk;exact⟨_,.cb _ _,λK hK=>⟨ne (hps _ (List.mem_singleton.2 rfl)),by rw [hz];exact⟨⟨el,hd⟩,hK⟩⟩⟩
    .cases hk;exact⟨_,.cb _ _,λK hK=>⟨ne (hps _ (List.mem_singleton.2 rfl)),by rw [hz];exact⟨⟨el,hd⟩,hK⟩⟩⟩
    .cases hk
   .cases hk
  .cases hk
 .split at hk
  .rename_i c hc;split at hk
   .rename_i f1 x l1 f2 y l2 hx hy;have main:∀(m:Nat) (xs ys:List Int),E.ieq ty=some m->xs.length=m->ys.length=m->2<=m->gW (aN p)=some xs->gW (aN p')=some ys->(xs==ys)=(std n).eqX c x y->Gv (AY E op ty p p') N v:=by
     intro m xs ys he hlx hly h2 hax hay hq;obtain⟨cs,rfl,hcs⟩:=EI hp hax ah;obtain⟨ds,rfl,hds⟩:=EI hp' hay ah;split at hk
     .cases hk;exact⟨_,.cb _ _,λK hK=>by unfold AY;simp only;rw [hcs];simp only [sU];rw [hds];exact⟨by rw [he,hlx],ah,by simp only [hq];exact hK⟩⟩
     .cases hk;exact⟨_,.cb _ _,λK hK=>by unfold AY;simp only;rw [hcs];simp only [sU];rw [hds];exact⟨by rw [he,hlx],ah,by simp only [hq];exact hK⟩⟩
     .cases hk
    rcases hX.ieq ty c hc with⟨rfl,he⟩ | ⟨rfl,he⟩
    .exact main 4 _ _ he rfl rfl ah (zL (by decide) hp hx _ (Lg x)) (zL (by decide) hp' hy _ (Lg y)) apJ
    .exact main 5 _ _ he rfl rfl ah (zL (by decide) hp hx _ (Lh x)) (zL (by decide) hp' hy _ (Lh y)) apK
   .cases hk
  .cases hk
def gB{X:XT}{E:Tab}(hX:XOK X E){e:TypeId}{c:Co}(h:jR X e c=true):∃z,E.ty e=some z/\z.size=c.size:=by
 unfold jR at h;rw [hX.ty]at h;split at h
 .rename_i z hz;exact⟨z,hz,by simpa using h⟩
 .cases h
def dR{h:List aM}{l:Nat}{f:Bool}{c:Co}{xs:List c.den}(hl:h[l]? =some (.rows f c xs)):nmh h l=some (c.size,xs.length):=by simp only [nmh,hl]
def afJ{n:Nat}{h:List aM}{p:PV}{v:SVal}(hp:PVR (nmh h) p v):PVR (nmh h) p (ajV (std n) h v):=by
 unfold ajV;split
 .rename_i l;split
  .rename_i f c xs hl;obtain⟨x,rfl,hr⟩:=hp.cell;cases hr with
   | @own l sz m hN=>
    have e:=dR hl;rw [hN]at e;cases e;exact .ofC (.os hN)
  .exact hp
 .exact hp
def IZ{X:XT}{E:Tab}(hX:XOK X E){n:Nat}{h:List aM}{t:TypeId}{p p':PV}{a b v:SVal}{ps:List Bool}(hp:PVR (nmh h) p a)(hp':PVR (nmh h) p' b)
  (hk:yQ (std n) X h t a b=some (ps,v)) (hps:∀b∈ps,b=true):Gv (jr E t p p') (nmh h) v:=by
 unfold yQ at hk;rw [hX.ty]at hk;split at hk
 .rename_i y hy;split at hk
  .rename_i e f k i hd;obtain⟨i,rfl⟩:∃i':Int,i'=i:=⟨i,rfl⟩;obtain⟨g,rfl⟩:=hp'.int
   have fin:∀z,E.ty e=some z->∀K,(match p with
     | .c (.d f (.rows sz es))=>(es≠ []->sz=z.size)/\0<=i/\i<es.length/\K (.c (.rp f sz es i.toNat 0))
     | .c (.clip f sz es)=>(es≠ []->sz=z.size)/\0<=i/\i<es.length/\K (.c (.rp f sz es i.toNat 0))
     | .c (.os l sz lo n)=>sz=z.size/\0<=i/\i<n/\K (.c (.ptr l sz (lo+i.toNat) 0))
     | _=>False)->jr E t p (.c (.d g (.int k i))) K:=by
    intro z hz K hK;unfold jr;rw [hy];simp only [aC];rw [hd];simp only;rw [hz];exact hK
   split at hk
   .rename_i f0 c xs;split at hk
    .rename_i hs;cases hk;obtain⟨z,hz,hzs⟩:=gB hX hs;obtain⟨x,rfl,hc⟩:=hp.cell;cases hc with | d hx hf=>
     subst hx;have h0:(0:Int)<=i:=by simpa [bA]using hps (bA .leq 0 i) (by simp)
     have h1:i< (xs:List c.den).length:=by simpa [bA]using hps (bA .lss i ((xs:List c.den).length:Int)) (by simp)
     refine⟨_,.ofC (x:= .rp _ c.size (aL c xs) i.toNat 0) (by
      have:=RC.rp (N:=nmh h) (c:=c) (xs:=xs) (i:=i.toNat) (j:=0) (λh=>(hf h).resolve_right (by simp [Leaf.scalar])) ah;rw [Int.toNat_of_nonneg h0]at this;exact this),λK hK=>fin z hz K ⟨λ_=>hzs.symm,h0,by rw [aR];omega,hK⟩⟩
    .cases hk
   .rename_i f0 c xs;split at hk
    .rename_i hs;cases hk;obtain⟨z,hz,hzs⟩:=gB hX hs;obtain⟨x,rfl,hc⟩:=hp.cell;cases hc with | clip hf=>
     have h0:(0:Int)<=i:=by simpa [bA]using hps (bA .leq 0 i) (by simp)
     have h1:i< (xs:List c.den).length:=by simpa [bA]using hps (bA .lss i ((xs:List c.den).length:Int)) (by simp)
     refine⟨_,.ofC (x:= .rp _ c.size (aL c xs) i.toNat 0) (by
      have:=RC.rp (N:=nmh h) (c:=c) (xs:=xs) (i:=i.toNat) (j:=0) hf ah;rw [Int.toNat_of_nonneg h0]at this;exact this),λK hK=>fin z hz K ⟨λ_=>hzs.symm,h0,by rw [aR];omega,hK⟩⟩
    .cases hk
   .rename_i l;split at hk
    .rename_i f1 c xs hl;split at hk
     .rename_i hs;cases hk;obtain⟨z,hz,hzs⟩:=gB hX hs;obtain⟨x,rfl,hc⟩:=hp.cell;cases hc with | own hN=>
      have hN':=hN;rw [dR hl]at hN';cases hN';have h0:(0:Int)<=i:=by simpa [bA]using hps (bA .leq 0 i) (by simp)
      have h1:i< (xs:List c.den).length:=by simpa [bA]using hps (bA .lss i ((xs:List c.den).length:Int)) (by simp)
      refine⟨_,.ofC (x:= .ptr l c.size (0+i.toNat) 0) (by
       have:=RC.pr (N:=nmh h) (i:=i.toNat) (j:=0) hN;rw [Int.toNat_of_nonneg h0]at this;rw [Nat.zero_add];exact this),λK hK=>fin z hz K ⟨hzs.symm,h0,h1,hK⟩⟩
     .cases hk
    .cases hk
   .rename_i l lo n;split at hk
    .rename_i f1 c xs hl;split at hk
     .rename_i hs;cases hk;obtain⟨z,hz,hzs⟩:=gB hX hs;obtain⟨x,rfl,hc⟩:=hp.cell;cases hc with | os hN=>
      rename_i sz lo n m;have hN':=hN;rw [dR hl]at hN';cases hN';have h0:(0:Int)<=i:=by simpa [bA]using hps (bA .leq 0 i) (by simp)
      have h1:i< (n:Int):=by simpa [bA]using hps (bA .lss i (n:Int)) (by simp)
      refine⟨_,.ofC (x:= .ptr l c.size (lo+i.toNat) 0) (by
       have:=RC.pr (N:=nmh h) (i:=lo+i.toNat) (j:=0) hN;rw [show((lo+i.toNat:Nat):Int)=(lo:Int)+i by omega]at this;exact this),λK hK=>fin z hz K ⟨hzs.symm,h0,h1,hK⟩⟩
     .cases hk
    .cases hk
   .cases hk
  .cases hk
 .cases hk
def aj2{n:Nat}{h:List aM}{p:PV}{q v:SVal}{ps:List Bool}(hp:PVR (nmh h) p q)(hk:ajW (std n) h q=some (ps,v)):Gv (Kr p) (nmh h) v:=by
 unfold ajW at hk;split at hk
 .cases hk;obtain⟨x,rfl,hc⟩:=hp.cell;cases hc with | d hx _=>subst hx;exact⟨_,.ci _ _ _,λK hK=>by unfold Kr nu;simp only;rw [aR];exact hK⟩
 .cases hk;obtain⟨x,rfl,hc⟩:=hp.cell;cases hc with | clip _=>exact⟨_,.ci _ _ _,λK hK=>by unfold Kr;simp only;rw [aR];exact hK⟩
 .obtain⟨x,rfl,hc⟩:=hp.cell;cases hc with | own hN=>
  split at hk
  .rename_i f c xs hl;cases hk;rw [dR hl]at hN;cases hN;exact⟨_,.ci _ _ _,λK hK=>hK⟩
  .cases hk
 .cases hk;obtain⟨x,rfl,hc⟩:=hp.cell;cases hc;exact⟨_,.ci _ _ _,λK hK=>hK⟩
 .cases hk;obtain⟨x,rfl,hc⟩:=hp.cell;cases hc;exact⟨_,.ci _ _ _,λK hK=>hK⟩
 .cases hk
def qM{X:XT}{E:Tab}(hX:XOK X E){n:Nat}{N:NM}{t:Slots}{e:Nat->Option SVal}(he:EvR X E n N t e){o:Option Operand}{d m:Int}(hk:IQ (std n) X e o d=some m){K:Int->Prop}(h:K m):zn E t o d K:=by
 cases o with
 | none=>simp only [IQ,Option.some.injEq]at hk;subst hk;exact h
 | some x=>
  simp only [IQ]at hk;split at hk
  .rename_i f k m' hx;cases hk;obtain⟨pv,h1,h2⟩:=dF hX he hx;obtain⟨g,rfl⟩:=h2.int;unfold zn;simp only;rw [h1];exact h
  .cases hk
def wz(c:Co)(xs:List c.den)(l r:Nat):((aL c xs).take r).drop l=aL c ((xs.take r).drop l):=by simp [aL,List.map_take,List.map_drop]
def XZ{X:XT}{E:Tab}(hX:XOK X E){n:Nat}{h:List aM}{t:Slots}{e:Nat->Option SVal}(he:EvR X E n (nmh h) t e){ty:TypeId}{p:PV}{q v:SVal}{lo hi mx:Option Operand}{ps:List Bool}(hp:PVR (nmh h) p q)
    (hk:Nv (std n) X e h ty q lo hi mx=some (ps,v)) (hps:∀b∈ps,b=true):Gv (sW E t ty p lo hi mx) (nmh h) v:=by
  unfold Nv at hk;rw [hX.ty]at hk;split at hk
  · rename_i y hy;split at hk
    · rename_i el hd;split at hk
      · rename_i l hl;obtain⟨l,rfl⟩:∃l':Int,l'=l:=⟨l,rfl⟩
        have fin:∀z,E.ty el=some z->∀K,(match p with
          | .c (.d f (.rows sz es))=>(es≠ []->sz=z.size)/\(zn E t hi es.length λh=>0<=l/\l<=h/\h<=es.length/\
              (match mx with
               | none=>K (.c (.d f (.rows sz ((es.take h.toNat).drop l.toNat))))
               | some _=>zn E t mx 0 λm=>hi.isSome=true/\m=h/\K (.c (.clip f sz ((es.take h.toNat).drop l.toNat)))))
          | .c (.os b sz lo0 n)=>sz=z.size/\mx=none/\(zn E t hi n λh=>0<=l/\l<=h/\h<=n/\K (.c (.os b sz (lo0+l.toNat) (h.toNat-l.toNat))))
          | .c .nil=>mx=none/\(zn E t hi 0 λh=>l=0/\h=0/\K (.c .nil))
          | _=>False)->sW E t ty p lo hi mx K:=by
          intro z hz K hK;unfold sW;rw [hy];simp only [aC];rw [hd];simp only;rw [hz];exact qM hX he hl hK
        split at hk
        · rename_i f0 c xs;split at hk
          · rename_i hs;obtain⟨z,hz,hzs⟩:=gB hX hs;obtain⟨x,rfl,hc⟩:=hp.cell;cases hc with | d hx hf=>
            subst hx;split at hk
            · rename_i r hr;obtain⟨r,rfl⟩:∃l':Int,l'=r:=⟨r,rfl⟩;split at hk
              · rename_i hm;cases hk;have h0:(0:Int)<=l:=by simpa [bA]using hps (bA .leq 0 l) (by simp)
                have h1:l<=r:=by simpa [bA]using hps (bA .leq l r) (by simp)
                have h2:r<=(xs:List c.den).length:=by simpa [bA]using hps (bA .leq r ((xs:List c.den).length:Int)) (by simp)
                refine⟨_,.ofC (.d (y:= .rows c ((xs.take r.toNat).drop l.toNat)) rfl hf),λK hK=>fin z hz K ⟨λ_=>hzs.symm,?_⟩⟩;rw [aR];refine qM hX he hr ⟨h0,h1,h2,?_⟩;simp only [wz];exact hK
              · rename_i mo hm;split at hk
                · rename_i m hmm;obtain⟨m,rfl⟩:∃l':Int,l'=m:=⟨m,rfl⟩;split at hk
                  · rename_i hsome;cases hk;have h0:(0:Int)<=l:=by simpa [bA]using hps (bA .leq 0 l) (by simp)
                    have h1:l<=r:=by simpa [bA]using hps (bA .leq l r) (by simp)
                    have h2:r<=(xs:List c.den).length:=by simpa [bA]using hps (bA .leq r ((xs:List c.den).length:Int)) (by simp)
                    have h3:m=r:=by simpa [bA]using hps (bA .eql m r) (by simp)
                    refine⟨_,.ofC (.clip (c:=c) (xs:=((xs.take r.toNat).drop l.toNat)) (λh=>(hf h).resolve_right (by simp [Leaf.scalar]))),λK hK=>fin z hz K ⟨λ_=>hzs.symm,?_⟩⟩;rw [aR];refine qM hX he hr ⟨h0,h1,h2,?_⟩;simp only [wz];exact qM hX he hmm ⟨hsome,h3,hK⟩
                  · cases hk
                · cases hk
            · cases hk
          · cases hk
        · rename_i w;split at hk
          · rename_i f1 c xs hw;split at hk
            · rename_i hs;obtain⟨z,hz,hzs⟩:=gB hX hs;obtain⟨x,rfl,hc⟩:=hp.cell;cases hc with | own hN=>
              have hN':=hN;rw [dR hw]at hN';cases hN';split at hk
              · rename_i r hr;cases hk;obtain⟨r,rfl⟩:∃l':Int,l'=r:=⟨r,rfl⟩;have h0:(0:Int)<=l:=by simpa [bA]using hps (bA .leq 0 l) (by simp)
                have h1:l<=r:=by simpa [bA]using hps (bA .leq l r) (by simp)
                have h2:r<=(xs:List c.den).length:=by simpa [bA]using hps (bA .leq r ((xs:List c.den).length:Int)) (by simp)
                refine⟨_,.ofC (x:= .os w c.size (0+l.toNat) (r.toNat-l.toNat)) (by
                  have:=RC.os (N:=nmh h) (lo:=0+l.toNat) (n:=r.toNat-l.toNat) hN;rw [show((0+l.toNat:Nat):Int)=l by omega,show((r.toNat-l.toNat:Nat):Int)=r-l by omega]at this;exact this),λK hK=>fin z hz K ⟨hzs.symm,rfl,?_⟩⟩
                exact qM hX he hr ⟨h0,h1,h2,hK⟩
              · cases hk
            · cases hk
          · cases hk
        · rename_i w l0 n0;split at hk
          · rename_i f1 c xs hw;split at hk
            · rename_i hs;obtain⟨z,hz,hzs⟩:=gB hX hs;obtain⟨x,rfl,hc⟩:=hp.cell;cases hc with | os hN=>
              rename_i sz l0 n0 m;have hN':=hN;rw [dR hw]at hN';cases hN';split at hk
              · rename_i r hr;cases hk;obtain⟨r,rfl⟩:∃l':Int,l'=r:=⟨r,rfl⟩;have h0:(0:Int)<=l:=by simpa [bA]using hps (bA .leq 0 l) (by simp)
                have h1:l<=r:=by simpa [bA]using hps (bA .leq l r) (by simp)
                have h2:r<=(n0:Int):=by simpa [bA]using hps (bA .leq r (n0:Int)) (by simp)
                refine⟨_,.ofC (x:= .os w c.size (l0+l.toNat) (r.toNat-l.toNat)) (by
                  have:=RC.os (N:=nmh h) (lo:=l0+l.toNat) (n:=r.toNat-l.toNat) hN;rw [show((l0+l.toNat:Nat):Int)=(l0:Int)+l by omega,show((r.toNat-l.toNat:Nat):Int)=r-l by omega]at this;exact this),λK hK=>fin z hz K ⟨hzs.symm,rfl,?_⟩⟩
                exact qM hX he hr ⟨h0,h1,h2,hK⟩
              · cases hk
            · cases hk
          · cases hk
        · split at hk
          · rename_i r hr;split at hk
            · rename_i hsm;cases hk;obtain⟨r,rfl⟩:∃l':Int,l'=r:=⟨r,rfl⟩;obtain⟨x,rfl,hc⟩:=hp.cell;cases hc;have h1:l=0:=by simpa [bA]using hps (bA .eql l 0) (by simp)
              have h2:r=0:=by simpa [bA]using hps (bA .eql r 0) (by simp)
              obtain⟨z,hz⟩:=Option.isSome_iff_exists.1 hsm;exact⟨_,.ofC .nil,λK hK=>fin z hz K ⟨rfl,qM hX he hr ⟨h1,h2,hK⟩⟩⟩
            · cases hk
          · cases hk
        · cases hk
      · cases hk
    · cases hk
  · cases hk
def X0{n:Nat}{N:NM}{x:Cell}{y:SC}(h:Uv (std n) x=some y):RC N x y:=by
 unfold Uv at h;split at h<;>first | (cases h;exact .d rfl λ_=> .inl rfl) | (cases h;exact .nil) | (cases h;exact .np) | cases h
def Bq{n:Nat}{N:NM}:∀ {xs:List Cell} {ys:List SC},jy (std n) xs=some ys->F2 (RC N) xs ys
 | [],ys,h=>by simp [jy]at h;subst h;exact .nil
 | x::xs,ys,h=>by
  simp only [jy]at h;split at h
  .rename_i y ys' h1 h2;cases h;exact .cons (X0 h1) (Bq h2)
  .cases h
def UF{X:XT}{E:Tab}(hX:XOK X E){n:Nat}{N:NM}{t:Slots}{e:Nat->Option SVal}(he:EvR X E n N t e)(fs:List (Nat×TypeId)):
  ∀(parts:List (Nat×Operand)) {cs':List Cell} {cs out:List SC},F2 (RC N) cs' cs->K9 (std n) X e fs parts cs=some out->∃out',F2 (RC N) out' out/\∀K,K out'->rF E t (kS E fs) parts cs' K
 | [],cs',cs,out,hc,hk=>by simp only [K9,Option.some.injEq]at hk;subst hk;exact⟨_,hc,λK hK=>hK⟩
 | (i,x)::rest,cs',cs,out,hc,hk=>by
  simp only [K9]at hk;rw [hX.ty]at hk;split at hk
  .rename_i off ft hf;split at hk
   .rename_i z v hz hv;split at hk
    .rename_i hcond;simp only [Bool.and_eq_true,beq_iff_eq,Bool.not_eq_true',beq_eq_false_iff_ne,ne_eq]at hcond;obtain⟨⟨h1,h2⟩,h3⟩:=hcond;have h3:=Nat.le_of_ble_eq_true h3;obtain⟨pv,hp,hr⟩:=dF hX he hv;have hcells:=hr.cells;have hlen:(aN pv).length=(bU (std n) v).length:=by rw [dh];exact hcells.length
     have hcl:cs'.length=cs.length:=hc.length;rw [dh]at hk;have hnew:F2 (RC N) (splice cs' (aN pv) off) (cs.take off++cellsS v++cs.drop (off+(cellsS v).length)):=by
      unfold splice;rw [show(aN pv).length=(cellsS v).length from hcells.length];exact((hc.take off).append hcells).append (hc.drop _)
     obtain⟨out',ho,hK⟩:=UF hX he fs rest hnew hk;refine⟨out',ho,λK hK'=> ?_⟩;unfold rF;have hpl:kS E fs i=some (off,z.size):=by unfold kS;rw [hf];simp only;rw [hz]
     rw [hpl];simp only;rw [hp];exact⟨ah,h2,ah,hK K hK'⟩
    .cases hk
   .cases hk
  .cases hk
def X3{X:XT}{E:Tab}(hX:XOK X E){n:Nat}{N:NM}{t:Slots}{e:Nat->Option SVal}(he:EvR X E n N t e){ty:TypeId}{parts:List (Nat×Operand)}{v:SVal}{ps:List Bool}
  (hk:Nw (std n) X e ty parts=some (ps,v)):Gv (AZ E t ty parts) N v:=by
 unfold Nw at hk;split at hk
 .rename_i y hy;rw [hX.ty]at hy;split at hk
  .rename_i fs hd;split at hk
   .rename_i hall;split at hk
    .rename_i z hz;split at hk
     .rename_i cs hcs;cases hk;obtain⟨out',ho,hK⟩:=UF hX he fs parts (Bq hz) hcs;refine⟨_,.one (.agg rfl ho),λK hK'=> ?_⟩;unfold AZ;rw [hy];simp only [aC];rw [hd];refine⟨λft hft=> ?_,hK _ hK'⟩;have:=List.all_eq_true.1 hall ft hft;rw [hX.ty]at this;exact this
     .cases hk
    .cases hk
   .cases hk
  .cases hk
 .cases hk
def UG{X:XT}{E:Tab}(hX:XOK X E){n:Nat}{N:NM}{t:Slots}{e:Nat->Option SVal}(he:EvR X E n N t e):
  ∀(xs:List Operand) {cs:List (Nat×Nat)},La (std n) X e xs=some cs->∀K,K (cs.map λp=>Cell.ptr p.1 p.2 0 0)->rG E t xs K
 | [],cs,hk,K,hK=>by simp only [La,Option.some.injEq]at hk;subst hk;exact hK
 | x::r,cs,hk,K,hK=>by
  simp only [La]at hk;split at hk
  .rename_i l sz hx;split at hk
   .rename_i ys hys;cases hk;obtain⟨pv,h1,h2⟩:=dF hX he hx;obtain⟨c,rfl,hc⟩:=h2.cell;cases hc;unfold rG;rw [h1];exact UG hX he r hys _ hK
   .cases hk
  .cases hk
def Li{n:Nat}{N:NM}{q:Bool}{x y z:SVal}{px py:PV}(hx:q=true->PVR N px x)(hy:q=false->PVR N py y)(hk:Ny (std n) q x y=some z):PVR N (bif q then px else py) z:=by
 unfold Ny at hk;split at hk
 .rename_i a b;split at hk
  .rename_i c hc;cases hk;unfold XK at hc;split at hc
   .rename_i f k m g k' m';split at hc
    .rename_i e;subst e;cases hc;cases q with
     | true=>obtain⟨g,rfl⟩:=(hx rfl).int;exact .ofC (.d rfl λ_=> .inr rfl)
     | false=>obtain⟨g,rfl⟩:=(hy rfl).int;exact .ofC (.d rfl λ_=> .inr rfl)
    .cases hc
   .cases hc;cases q with
    | true=>obtain⟨g,rfl⟩:=(hx rfl).bool;exact .ofC (.d rfl λ_=> .inr rfl)
    | false=>obtain⟨g,rfl⟩:=(hy rfl).bool;exact .ofC (.d rfl λ_=> .inr rfl)
   .rename_i f c xs g c' ys;split at hc
    .rename_i e;subst e;cases hc;cases q with
     | true=>
      obtain⟨u,rfl,h⟩:=(hx rfl).cell;cases h with | d h1 h2=>exact .ofC (.d h1 λh=> .inl ((h2 (by simp at h;exact h.1)).resolve_right (by simp [Leaf.scalar])))
     | false=>
      obtain⟨u,rfl,h⟩:=(hy rfl).cell;cases h with | d h1 h2=>exact .ofC (.d h1 λh=> .inl ((h2 (by simp at h;exact h.2)).resolve_right (by simp [Leaf.scalar])))
    .cases hc
   .cases hc
  .cases hk
 .cases hk
def Lj{X:XT}{E:Tab}(hX:XOK X E){n:Nat}{h':Heap}{h:List aM}{t:Slots}{e:Nat->Option SVal}(he:EvR X E n (nmh h) t e){c:Call}{v:SVal}{ps:List Bool}
  (hk:Ey (std n) X e h c=some (ps,v)):Gv (gF E (.call c) t h') (nmh h) v:=by
 unfold Ey at hk;split at hk
 .rename_i hb;split at hk
  .rename_i x ty hx hty;split at hk
   .rename_i y q hy hq;rw [hX.ty]at hy;split at hk
    .rename_i el hd;obtain⟨pv,h1,h2⟩:=dF hX he hq;obtain⟨pv',h3,h4⟩:=aj2 h2 hk;refine⟨pv',h3,λK hK=> ?_⟩;show rH E t c K;unfold rH;rw [hb];simp only;rw [hx,hty];simp only;rw [hy];simp only [aC];rw [hd];exact⟨trivial,iC h1 _ (h4 K hK)⟩
    .cases hk
   .cases hk
  .cases hk
 .rename_i hb;split at hk
  .rename_i x ty hx hty;split at hk
   .rename_i y hy hq;rw [hX.ty]at hy;split at hk
    .rename_i el hd;cases hk;obtain⟨pv,h1,h2⟩:=dF hX he hq;obtain⟨x',rfl,hc⟩:=h2.cell;cases hc;refine⟨_,.ci _ _ _,λK hK=> ?_⟩;show rH E t c K;unfold rH;rw [hb];simp only;rw [hx,hty];simp only;rw [hy];simp only [aC];rw [hd];exact⟨trivial,iC h1 _ hK⟩
    .cases hk
   .cases hk
  .cases hk
 .rename_i hb;split at hk
  .rename_i x y hx;split at hk
   .rename_i f k m g k' m' h1 h2;cases hk;obtain⟨p1,q1,r1⟩:=dF hX he h1;obtain⟨p2,q2,r2⟩:=dF hX he h2;obtain⟨_,rfl⟩:=r1.int;obtain⟨_,rfl⟩:=r2.int;refine⟨_,.ci _ _ _,λK hK=> ?_⟩;show rH E t c K;unfold rH;rw [hb];simp only;rw [hx];simp only;rw [q1];simp only [aQ];rw [q2];exact hK
   .cases hk
  .cases hk
 .rename_i hb;split at hk
  .rename_i x y hx;split at hk
   .rename_i f k m g k' m' h1 h2;cases hk;obtain⟨p1,q1,r1⟩:=dF hX he h1;obtain⟨p2,q2,r2⟩:=dF hX he h2;obtain⟨_,rfl⟩:=r1.int;obtain⟨_,rfl⟩:=r2.int;refine⟨_,.ci _ _ _,λK hK=> ?_⟩;show rH E t c K;unfold rH;rw [hb];simp only;rw [hx];simp only;rw [q1];simp only [aQ];rw [q2];exact hK
   .cases hk
  .cases hk
 .cases hk
def dW{n:Nat}{v:Option SVal}{K:SVal->PR (std n)}{r:List Bool×SVal}(h:zF (std n) v K=some r):∃u,v=some u/\K u=some r:=by
 cases v with
 | none=>cases h
 | some u=>exact⟨u,rfl,h⟩
theorem X4{X:XT}{E:Tab}(hX:XOK X E){n:Nat}{h':Heap}{h:List aM}(H:fD h' h){t:Slots}{e:Nat->Option SVal}(he:EvR X E n (nmh h) t e){op:Op}{v:SVal}{ps:List Bool}
  (hk:Uw (std n) X e h op=some (ps,v)) (hps:∀b∈ps,b=true):Gv (gF E op t h') (nmh h) v:=by
 have up1:∀ {x:Operand} {pv:PV} {T:PV->(PV->Prop)->Prop},ev E t x=some pv->Gv (T pv) (nmh h) v->(∀K,gF E op t h' K=aQ (ev E t x) λa=>T a K)->Gv (gF E op t h') (nmh h) v:=
  λh1 ⟨pv',h2,h3⟩ hT=>⟨pv',h2,λK hK=>by rw [hT];exact iC h1 _ (h3 K hK)⟩
 have up2:∀ {x y:Operand} {p1 p2:PV} {T:PV->PV->(PV->Prop)->Prop},ev E t x=some p1->ev E t y=some p2->Gv (T p1 p2) (nmh h) v->(∀K,gF E op t h' K=aQ (ev E t x) λa=>aQ (ev E t y) λb=>T a b K)->Gv (gF E op t h') (nmh h) v:=
  λh1 h1' ⟨pv',h2,h3⟩ hT=>⟨pv',h2,λK hK=>by rw [hT];exact iC h1 _ (iC h1' _ (h3 K hK))⟩
 unfold Uw at hk;split at hk
 .obtain⟨u,hu,hk⟩:=dW hk;cases hk;obtain⟨pv,h1,h2⟩:=dF hX he hu;exact⟨pv,h2,λK hK=>iC h1 _ hK⟩
 .obtain⟨u,hu,hk⟩:=dW hk;cases hk;obtain⟨pv,h1,h2⟩:=dF hX he hu;exact⟨pv,h2,λK hK=>iC h1 _ hK⟩
 .obtain⟨u,hu,hk⟩:=dW hk;obtain⟨pv,h1,h2⟩:=dF hX he hu;exact up1 h1 (Lf hX H h2 hk hps) λK=>rfl
 .obtain⟨u,hu,hk⟩:=dW hk;obtain⟨pv,h1,h2⟩:=dF hX he hu;exact up1 (T:=MN) h1 (aj0 h2 hk) λK=>rfl
 .obtain⟨u,hu,hk⟩:=dW hk;obtain⟨w,hw,hk⟩:=dW hk;obtain⟨pv,h1,h2⟩:=dF hX he hu;obtain⟨pv',h1',h2'⟩:=dF hX he hw;exact up2 h1 h1' (aj1 hX (afJ h2) h2' hk hps) λK=>rfl
 .obtain⟨u,hu,hk⟩:=dW hk;obtain⟨pv,h1,h2⟩:=dF hX he hu;exact up1 h1 (apI h2 hk) λK=>rfl
 .obtain⟨u,hu,hk⟩:=dW hk;obtain⟨pv,h1,h2⟩:=dF hX he hu;exact up1 h1 (afI hX h2 hk) λK=>rfl
 .obtain⟨u,hu,hk⟩:=dW hk;obtain⟨pv,h1,h2⟩:=dF hX he hu;exact up1 (T:=λa K=>iJ E _ a _ K) h1 (IX hX h2 hk) λK=>rfl
 .obtain⟨u,hu,hk⟩:=dW hk;obtain⟨pv,h1,h2⟩:=dF hX he hu;exact up1 (T:=λa K=>sV E _ a _ K) h1 (XY hX h2 hk) λK=>rfl
 .obtain⟨u,hu,hk⟩:=dW hk;obtain⟨w,hw,hk⟩:=dW hk;obtain⟨pv,h1,h2⟩:=dF hX he hu;obtain⟨pv',h1',h2'⟩:=dF hX he hw;exact up2 h1 h1' (IZ hX h2 h2' hk hps) λK=>rfl
 .obtain⟨u,hu,hk⟩:=dW hk;obtain⟨pv,h1,h2⟩:=dF hX he hu;exact up1 (T:=λa K=>sW E t _ a _ _ _ K) h1 (XZ hX he h2 hk hps) λK=>rfl
 .obtain⟨u,hu,hk⟩:=dW hk;obtain⟨pv,h1,h2⟩:=dF hX he hu;rename_i x i;split at hk
  .rename_i vs;unfold K7 at hk;split at hk
   .rename_i w hw;cases hk;cases h2 with
    | one h2=>cases h2 with
     | agg hs _=>simp [bF]at hs
    | tup hF=>
     obtain⟨a,ha,hra⟩:=hF.get hw;exact⟨a,.one hra,λK hK=>iC h1 _ (by unfold oW;simp only;rw [ha];exact hK)⟩
   .cases hk
  .cases hk
 .exact X3 hX he hk
 .rename_i fn first caps
  split at hk
  .rename_i g;split at hk
   .rename_i hf;split at hk
    .rename_i cs hcs;cases hk;refine⟨_,.ofC .fn,λK hK=> ?_⟩;exact⟨Array.ext' (by simpa using hf),UG hX he _ hcs _ hK⟩
    .cases hk
   .cases hk
  .cases hk
 .exact Lj hX he hk
 .cases hk
def Gone(h:List aM)(l:Nat):Prop:=∃c n,h[l]? =some (.gone c n)
def Same(h k:List aM):Prop:=∀l x,nmh h l=some x->nmh k l=some x
def Same.refl(h:List aM):Same h h:=λ_ _ h=>h
def Same.trans{a b c:List aM}(h:Same a b)(k:Same b c):Same a c:=λl x hx=>k l x (h l x hx)
def fD.set{h':Heap}{h:List aM}(H:fD h' h){l:Nat}{o:aM}{o':fJ}(hl:l<h.length)(hs:Same h (h.set l o))(ho:OR (nmh (h.set l o)) o' o):fD ((l,o')::h') (h.set l o) where
 old:=λk x hx=>by
  by_cases e:l=k
  .subst e;rw [List.getElem?_set_self hl]at hx;cases hx;exact⟨o',aK _ _ _,ho⟩
  .rw [List.getElem?_set_ne e]at hx;obtain⟨x',h1,h2⟩:=H.old k x hx;exact⟨x',by rw [aA _ _ e];exact h1,h2.mono hs⟩
 new:=λk hk=>by
  rw [List.length_set]at hk;rw [aA _ _ ah];exact H.new k hk
def Br(h:List aM)(o:aM):Same h (h++ [o]):=λl x hx=>by
 have hl:l<h.length:=by
  rcases Nat.lt_or_ge l h.length with hl | hl
  .exact hl
  .simp [nmh,List.getElem?_eq_none hl]at hx
 simp only [nmh,List.getElem?_append_left hl];exact hx
def fD.push{h':Heap}{h:List aM}(H:fD h' h){o:aM}{o':fJ}(ho:OR (nmh (h++ [o])) o' o):fD ((h.length,o')::h') (h++ [o]) where
 old:=λk x hx=>by
  by_cases e:h.length=k
  .subst e;simp at hx;subst hx;exact⟨o',aK _ _ _,ho⟩
  .have hk:k<h.length:=by
    have:=(List.getElem?_eq_some_iff.1 hx).1;simp at this;omega
   rw [List.getElem?_append_left hk]at hx;obtain⟨x',h1,h2⟩:=H.old k x hx;exact⟨x',by rw [aA _ _ e];exact h1,h2.mono (Br h o)⟩
 new:=λk hk=>by
  simp at hk;rw [aA _ _ ah];exact H.new k ah
def NJ{h:List aM}{l k:Nat}{o:aM}(e:l≠k):nmh (h.set l o) k=nmh h k:=by simp only [nmh,List.getElem?_set_ne e]
def kJ{h:List aM}{l:Nat}{o o':aM}(ho:h[l]? =some o)(hq:nmh [o] 0=nmh [o'] 0):nmh (h.set l o')=nmh h:=by
 funext k
 by_cases e:l=k
 .subst e;have hl:=(List.getElem?_eq_some_iff.1 ho).1;simp only [nmh,List.getElem?_set_self hl,ho];simpa [nmh]using hq.symm
 .exact NJ e
def fG(h:List aM)(l:Nat):List aM:=match h[l]? with | some (.rows _ c xs)=>h.set l (.gone c ((xs:List c.den).length:Int)) | _=>h
def gG(n:Nat)(h:List aM)(l:Nat)(r:List Nat):bB (std n) h (l::r)=bB (std n) (fG h l) r:=by
 rw [bB];unfold fG;split
 .rename_i hl;rw [hl]
 .rename_i hl
  congr 1
  split
  .rename_i h2;exact absurd h2 (hl _ _ _)
  .rfl
def nA(n:Nat):∀(a b:List Nat) (h:List aM),bB (std n) h (a++b)=bB (std n) (bB (std n) h a) b
 | [],_,_=>rfl
 | l::r,b,h=>by simp only [List.cons_append,gG];exact nA n r b _
def GV(h:List aM)(l:Nat):nmh (fG h l)=nmh h:=by
 unfold fG;split
 .rename_i f c xs hl;exact kJ hl (by simp [nmh])
 .rfl
def uj(n:Nat):∀(ls:List Nat) (h:List aM),nmh (bB (std n) h ls)=nmh h
 | [],_=>rfl
 | l::r,h=>by rw [gG,uj n r,GV]
def wB{h:List aM}{l k:Nat}(e:l≠k):(fG h l)[k]? =h[k]? :=by
 unfold fG;split
 .exact List.getElem?_set_ne e
 .rfl
def jG(n:Nat):∀(ls:List Nat) (h:List aM) {k:Nat},k∉ls->(bB (std n) h ls)[k]? =h[k]?
 | [],_,_,_=>rfl
 | l::r,h,k,hk=>by
  rw [gG,jG n r _ (λh=>hk (List.mem_cons_of_mem _ h)),wB (λe=>hk (by simp [e]))]
def wC(h:List aM)(l:Nat):(fG h l).length=h.length:=by
 unfold fG;split<;>simp
def lg(n:Nat):∀(ls:List Nat) (h:List aM),(bB (std n) h ls).length=h.length
 | [],_=>rfl
 | l::r,h=>by rw [gG,lg n r,wC]
def fD.fG{h':Heap}{h:List aM}(H:fD h' h){l:Nat}{f:Bool}{c:Co}{xs:List c.den}(hl:h[l]? =some (.rows f c xs)):fD ((l,.gone)::h') (TX.fG h l):=by
 have e:TX.fG h l=h.set l (.gone c (xs.length:Int)):=by unfold TX.fG;rw [hl]
 rw [e];exact H.set (List.getElem?_eq_some_iff.1 hl).1 (λk x hx=>by rw [kJ hl (by simp [nmh])];exact hx) .gone
structure iD(h':Heap)(h:List aM)(h'':Heap)(k:List aM)(td:List Nat):Prop where
 same:Same h k
 len:h.length<=k.length
 gone:∀l,Gone h l->Gone k l
 keep:∀l,l<h.length->l∉td->k[l]? =h[l]? /\AE.look h'' l=AE.look h' l
def iD.refl(h':Heap)(h:List aM)(td:List Nat):iD h' h h' h td:=⟨.refl h,Nat.le_refl _,λ_ h=>h,λ_ _ _=>⟨rfl,rfl⟩⟩
def iD.trans{a' b' c':Heap}{a b c:List aM}{s t:List Nat}(x:iD a' a b' b s)(y:iD b' b c' c t):iD a' a c' c (s++t) where
 same:=x.same.trans y.same
 len:=Nat.le_trans x.len y.len
 gone:=λl h=>y.gone l (x.gone l h)
 keep:=λl hl hn=>by
  obtain⟨h1,h2⟩:=x.keep l hl (λh=>hn (List.mem_append_left _ h));obtain⟨h3,h4⟩:=y.keep l (Nat.lt_of_lt_of_le hl x.len) (λh=>hn (List.mem_append_right _ h));exact⟨h3.trans h1,h4.trans h2⟩
def iD.mono{a' b':Heap}{a b:List aM}{s t:List Nat}(x:iD a' a b' b s)(h:∀l,l∈s->l∈t):iD a' a b' b t:=⟨x.same,x.len,x.gone,λl hl hn=>x.keep l hl (λhs=>hn (h l hs))⟩
def iD.fG{h':Heap}{h:List aM}(l:Nat){o':fJ}:iD h' h ((l,o')::h') (TX.fG h l) [l] where
 same:=λk x hx=>by rw [GV];exact hx
 len:=by rw [wC];exact Nat.le_refl _
 gone:=λk ⟨c,m,hk⟩=>by
  unfold TX.fG;split
  .rename_i f co xs hl;by_cases e:l=k
   .subst e;rw [hl]at hk;cases hk
   .exact⟨c,m,by rw [List.getElem?_set_ne e];exact hk⟩
  .exact⟨c,m,hk⟩
 keep:=λk _ hn=>by
  have e:l≠k:=λe=>hn (by simp [e])
  exact⟨wB e,aA _ _ e⟩
def iD.push{h':Heap}{h:List aM}(o:aM)(o':fJ)(td:List Nat):iD h' h ((h.length,o')::h') (h++ [o]) td where
 same:=Br h o
 len:=by simp
 gone:=λk ⟨c,m,hk⟩=>⟨c,m,by rw [List.getElem?_append_left (List.getElem?_eq_some_iff.1 hk).1];exact hk⟩
 keep:=λl hl _=>⟨List.getElem?_append_left hl,aA _ _ ah⟩
def iD.set{h':Heap}{h:List aM}{l:Nat}{o:aM}{o':fJ}(hs:Same h (h.set l o))(hg:¬Gone h l):iD h' h ((l,o')::h') (h.set l o) [l] where
 same:=hs
 len:=by simp
 gone:=λk ⟨c,m,hk⟩=>by
  by_cases e:l=k
  .subst e;exact absurd ⟨c,m,hk⟩ hg
  .exact⟨c,m,by rw [List.getElem?_set_ne e];exact hk⟩
 keep:=λk _ hn=>by
  have e:l≠k:=λe=>hn (by simp [e])
  exact⟨List.getElem?_set_ne e,aA _ _ e⟩
def iR(y:Leaf aF):(nu y).l8=y.scalar:=by cases y<;>rfl
def EJ(y:Leaf aF):lvD (iZ y) y.lv=nu y:=by cases y<;>rfl
def CK{n:Nat}{h':Heap}{h:List aM}{done:List Nat}(H:fD h' (bB (std n) h done)){x:Cell}{y:SC}(hr:RC (nmh h) x y){s:Sh}{f:Bool}{v:LV aF}{ls:List Nat}
  (hk:eU (std n) h s y=some (f,v,ls)) (hd:∀l∈ls,l∉done):
  ∃g h'',(f=true->g=true)/\fD h'' (bB (std n) h (done++ls))/\iD h' (bB (std n) h done) h'' (bB (std n) h (done++ls)) ls/\∀K,K g (lvD s v) h''->Cv h' x K:=by
 unfold eU at hk;split at hk
 .rename_i f0 lf;split at hk
  .rename_i e;cases hk;cases hr with | d hx hf=>
   rename_i g0 x0;subst hx;refine⟨g0 || (nu lf).l8,h',λh=> ?_,by rw [List.append_nil];exact H,by rw [List.append_nil];exact .refl _ _ _,λK hK=> ?_⟩
   .rw [iR];cases lf with
    | rows c xs=>simp only [Leaf.flag]at h;rcases hf h with h | h<;>simp_all [Leaf.scalar]
    | _=>simp [Leaf.scalar]
   .subst e;rw [EJ]at hK;exact hK
  .cases hk
 .cases hr;split at hk
  .rename_i c;cases hk;exact⟨true,h',λ_=>rfl,by rw [List.append_nil];exact H,by rw [List.append_nil];exact .refl _ _ _,λK hK=>⟨c.size,hK⟩⟩
  .cases hk
 .rename_i f0 c xs;cases hr with | clip hf=>
  split at hk
  .rename_i e;subst e;cases hk;exact⟨_,h',hf,by rw [List.append_nil];exact H,by rw [List.append_nil];exact .refl _ _ _,λK hK=>hK⟩
  .cases hk
 .rename_i l;cases hr with | own hN=>
  split at hk
  .rename_i f0 c xs hl;split at hk
   .rename_i e;subst e;cases hk;rw [dR hl]at hN;cases hN;have hl':(bB (std n) h done)[l]? =some (.rows f c xs):=by rw [jG n _ _ (hd l (by simp))];exact hl
    obtain⟨o',ho',hO⟩:=H.old l _ hl';cases hO with | rows hf=>
    rename_i g0;refine⟨g0,(l,.gone)::h',hf,by rw [nA,gG];exact H.fG hl',by rw [nA,gG];exact iD.fG l,λK hK=> ?_⟩;unfold Cv;simp only;rw [ho'];refine⟨rfl,by rw [aR];omega,?_⟩;have:((aL c xs).drop 0).take xs.length=aL c xs:=by rw [List.drop_zero,List.take_of_length_le (by rw [aR];omega)]
    rw [this];exact hK
   .cases hk
  .cases hk
 .cases hk
def wZ{n:Nat}{h:List aM}:∀ {ss:List Sh} {ys:List SC} {xs:List Cell} {h':Heap} {done:List Nat} (_:fD h' (bB (std n) h done)) (_:F2 (RC (nmh h)) xs ys) {f:Bool} {vs:List (LV aF)} {ls:List Nat},
  aP (std n) h ss ys=some (f,vs,ls)->(∀l∈ls,l∉done)->
  ∃g h'',(f=true->g=true)/\fD h'' (bB (std n) h (done++ls))/\iD h' (bB (std n) h done) h'' (bB (std n) h (done++ls)) ls/\∀K,K g (List.zipWith lvD ss vs) h''->oI h' xs K
 | [],[],xs,h',done,H,hF,f,vs,ls,hk,hd=>by
  simp [aP]at hk;obtain⟨rfl,rfl,rfl⟩:=hk;cases hF;exact⟨true,h',λ_=>rfl,by rw [List.append_nil];exact H,by rw [List.append_nil];exact .refl _ _ _,λK hK=>hK⟩
 | [],_::_,_,_,_,_,_,_,_,_,hk,_=>by simp [aP]at hk
 | _::_,[],_,_,_,_,_,_,_,_,hk,_=>by simp [aP]at hk
 | s::ss,y::ys,xs,h',done,H,hF,f,vs,ls,hk,hd=>by
  cases hF with | cons h1 h2=>
  unfold aP at hk;split at hk
  .rename_i f1 v1 l1 hv1;split at hk
   .rename_i g2 vs2 ls2 hv2;split at hk
    .rename_i aj3;cases hk;have aj3:∀l∈ls2,l∉l1:=λl hl hl1=>by
      have:=List.all_eq_true.1 aj3 l hl1;simp [hl]at this
     obtain⟨ga,ha,qa1,qa2,qa3,qa4⟩:=CK H h1 hv1 (λl hl=>hd l (List.mem_append_left _ hl));obtain⟨gb,hb,qb1,qb2,qb3,qb4⟩:=wZ (done:=done++l1) qa2 h2 hv2 (λl hl hm=>by
      rcases List.mem_append.1 hm with hm | hm
      .exact hd l (List.mem_append_right _ hl) hm
      .exact aj3 l hl hm)
     rw [List.append_assoc]at qb2 qb3;refine⟨ga&&gb,hb,λh=>by simp at h;simp [qa1 h.1,qb1 h.2],qb2,qa3.trans qb3,λK hK=> ?_⟩;exact qa4 _ (qb4 _ hK)
    .cases hk
   .cases hk
  .cases hk
def zN(c:Co)(t:gZ c.pI){vs:List (LV aF)}(h:pack aF c.pI vs=some t):List.zipWith lvD c.fields vs=c.row (c.mk t):=by
 rw [XV,UD,unpack_pack h]
def w9{N:NM}:∀ {ys:List (Leaf aF)} {xs:List Cell} {f:Bool},F2 (RC N) xs (ys.map (.d f))->∀(h':Heap),∃g,(f=true\/(∀y∈ys,y.scalar=true)->g=true)/\∀K,K g (ys.map nu) h'->oI h' xs K
 | [],_,_,h,h'=>by cases h;exact⟨true,λ_=>rfl,λK hK=>hK⟩
 | y::ys,_,f,.cons h1 h2,h'=>by
  obtain⟨g,q1,q2⟩:=w9 h2 h';cases h1 with | d hx hf=>
  rename_i g0 x0;subst hx;refine⟨(g0 || (nu y).l8)&&g,λh=> ?_,λK hK=>q2 _ hK⟩;rw [iR];rcases h with h | h
  .rcases hf h with h' | h'<;>simp [h',q1 (.inl h)]
  .simp [h y (by simp),q1 (.inr λy hy=>h y (List.mem_cons_of_mem _ hy))]
def jH(c:Co)(h:c.flat=true)(x:c.den):∀y∈fK (std 0) c x 0 c.fields,y.scalar=true:=by
 intro y hy;have h1:=Bp 0 c x;have h2:iZ y∈c.fields:=by rw [<-h1];exact List.mem_map_of_mem hy
 have h3:=List.all_eq_true.1 h _ h2;cases y<;>simp_all [iZ,Leaf.scalar]
theorem X5{n:Nat}{h':Heap}{h:List aM}(H:fD h' h){p:PV}{q:SVal}(hp:PVR (nmh h) p q){c:Co}{f:Bool}{x:c.den}{ls:List Nat}(hk:toX (std n) h c q=some (f,x,ls)):
  ∃g h'',(f=true->g=true)/\fD h'' (bB (std n) h ls)/\iD h' h h'' (bB (std n) h ls) ls/\(aN p).length=c.size/\∀K,K g (c.row x) h''->oI h' (aN p) K:=by
 unfold toX at hk;split at hk
 .rename_i f' c' x';split at hk
  .rename_i e;subst e;cases hk;have hF:=hp.cells;have hx:cellsS (.sv f' c' x')=(fK (std 0) c' x' 0 c'.fields).map (.d f'):=rfl;have hlen:(aN p).length=c'.size:=by
    rw [hF.length,hx,List.length_map];have:=congrArg List.length (Bp 0 c' x');simpa using this
   rw [hx]at hF;obtain⟨g,q1,q2⟩:=w9 hF h';refine⟨g,h',λh=>q1 ?_,H,.refl _ _ _,hlen,λK hK=>q2 K (by rw [kI];exact hK)⟩;rcases Bool.or_eq_true _ _▸h with h | h
   .exact .inl h
   .exact .inr (jH c' h x')
  .cases hk
 .cases hk
 .split at hk
  .rename_i f1 ys ls1 h1;split at hk
   .rename_i t ht;cases hk;have hF:=hp.cells;rw [dh]at h1;obtain⟨g,h'',q1,q2,q3,q4⟩:=wZ (done:=[]) H hF h1 (λ_ _=>by simp);rw [List.nil_append]at q2 q3;refine⟨g,h'',q1,q2,q3,?_,λK hK=>q4 K (by rw [zN c t ht];exact hK)⟩;have hl:=congrArg List.length (unpack_pack ht);have hl2:(cellsS q).length=c.fields.length:=by
     clear q2 q3 q4 hF ht hl q1
     revert h1
     generalize cellsS q=zs;generalize c.fields=ss;intro h1
     induction ss generalizing zs f ys ls with
     | nil=>cases zs<;>simp_all [aP]
     | cons s ss ih=>cases zs with
      | nil=>simp [aP]at h1
      | cons z zs=>
       simp only [aP]at h1;split at h1
       .split at h1
        .rename_i hh;simp [ih _ _ hh]
        .cases h1
       .cases h1
    rw [hF.length,hl2]
   .cases hk
  .cases hk
def Hv{m:Nat}(T:(PV->Heap->Nat->Prop)->Prop)(n:Nat)(h':Heap)(h:List aM)(r:HR (std m)):Prop:=
 ∃pv h'' k',PVR (nmh r.h) pv r.v/\fD h'' r.h/\iD h' h h'' r.h r.touched/\r.h.length=nm n k'/\∀K,K pv h'' k'->T K
def X6:∀ {l:List Cell},zdB l=true->∃ds,ZD l ds
 | [],_=>⟨[],.nil⟩
 | x::r,h=>by
  simp only [zdB,List.all_cons,Bool.and_eq_true]at h;obtain⟨ds,hd⟩:=X6 (l:=r) h.2;have h1:=h.1;cases x with
  | d f y=>exact⟨y::ds,.d f y hd⟩
  | nil=>exact⟨.rows 0 []::ds,.nl 0 hd⟩
  | _=>simp at h1
def EK{α:Type}(l:List α)(lo n:Nat):(l.drop lo).take n=(l.take (lo+n)).drop lo:=by
 rw [List.drop_take];congr 1;omega
def CO{n:Nat}:∀ {zc:List Cell} {zs:List SC} {ss:List Sh} {f:Bool} {vs:List (LV aF)} {ls:List Nat},jy (std n) zc=some zs->aP (std n) [] ss zs=some (f,vs,ls)->ZD zc (List.zipWith lvD ss vs)
 | [],zs,ss,f,vs,ls,h1,h2=>by
  simp [jy]at h1;subst h1;cases ss with
  | nil=>simp [aP]at h2;obtain⟨_,rfl,_⟩:=h2;exact .nil
  | cons s ss=>simp [aP]at h2
 | x::zc,zs,ss,f,vs,ls,h1,h2=>by
  simp only [jy]at h1;split at h1
  .rename_i y ys hy hys;cases h1;cases ss with
   | nil=>simp [aP]at h2
   | cons s ss=>
    simp only [aP]at h2;split at h2
    .rename_i f1 v1 l1 hv;split at h2
     .rename_i g vs' ls' hvs;split at h2<;>cases h2
      have ih:=CO hys hvs;simp only [List.zipWith_cons_cons];unfold Uv at hy;split at hy
      .cases hy;simp only [eU]at hv;split at hv
       .rename_i e;cases hv;subst e;exact .d _ _ ih
       .cases hv
      .cases hy;simp only [eU]at hv;split at hv
       .rename_i e;cases hv;subst e;exact .d _ _ ih
       .cases hv
      .cases hy;simp only [eU]at hv;split at hv
       .rename_i e;cases hv;subst e;exact .d _ _ ih
       .cases hv
      .cases hy;simp only [eU]at hv;split at hv
       .cases hv;exact .nl _ ih
       .cases hv
      .cases hy;simp [eU]at hv
      .cases hy
     .cases h2
    .cases h2
  .cases h1
def X7{n:Nat}{zc:List Cell}{zs:List SC}{c:Co}{f:Bool}{x:c.den}{ls:List Nat}(h1:jy (std n) zc=some zs)(h2:toX (std n) [] c (.agg zs)=some (f,x,ls)):ZD zc (c.row x):=by
 simp only [toX]at h2;split at h2
 .rename_i f1 ys l1 hl;split at h2
  .rename_i t ht;cases h2;have:=CO h1 (by simpa [bU]using hl);rw [zN c t ht]at this;exact this
  .cases h2
 .cases h2
def afK{n:Nat}{h':Heap}{h:List aM}(H:fD h' h){c:Co}{p:PV}{v:SVal}{f:Bool}{ds:List c.den}(hp:PVR (nmh h) p v){zx:Option c.den}{zd:List D}(hzx:∀x,zx=some x->zd=c.row x)(hk:ajY (std n) h c zx v=some (f,ds))
  (hps:∀b∈jS (std n) h v,b=true):∃g sz,(f=true->g=true)/\(aL c ds≠ []->sz=c.size)/\∀K,K g sz (aL c ds)->MZ h' zd p K:=by
 unfold ajY at hk;split at hk
 .rename_i fq kq q;cases hxx:zx with
  | none=>rw [hxx]at hk;cases hk
  | some x=>
   rw [hxx]at hk;cases hk;obtain⟨g0,rfl⟩:=hp.int;have e:=hzx x hxx;have h1:(0:Int)<=q:=by simpa [bA]using hps (bA .leq 0 q) (by simp [jS])
   have h2:q<=jf:=by simpa [bA]using hps (bA .leq q jf) (by simp [jS])
   obtain⟨q,rfl⟩:∃w:Int,w=q:=⟨q,rfl⟩;refine⟨true,zd.length,λ_=>rfl,λ_=>by rw [e,wu],λK hK=> ?_⟩;unfold MZ;simp only;refine⟨h1,by simp only [jf,yG]at h2 ⊢;omega,?_⟩;have er:aL c (List.replicate q.toNat x)=List.replicate q.toNat zd:=by rw [e];simp [aL]
   rw [<-er];exact hK
 .cases hk;obtain⟨x,rfl,hc⟩:=hp.cell;cases hc;exact⟨true,0,λ_=>rfl,λh=>absurd rfl h,λK hK=>hK⟩
 .rename_i f0 c' xs;split at hk
  .rename_i e;subst e;cases hk;obtain⟨x,rfl,hc⟩:=hp.cell;cases hc with | d hx hf=>
   subst hx;exact⟨_,c'.size,λh=>(hf h).resolve_right (by simp [Leaf.scalar]),λ_=>rfl,λK hK=>hK⟩
  .cases hk
 .rename_i f0 c' xs;split at hk
  .rename_i e;subst e;cases hk;obtain⟨x,rfl,hc⟩:=hp.cell;cases hc with | clip hf=>
   exact⟨_,c'.size,hf,λ_=>rfl,λK hK=>hK⟩
  .cases hk
 .rename_i l;split at hk
  .rename_i f0 c' xs hl;split at hk
   .rename_i e;subst e;cases hk;obtain⟨x,rfl,hc⟩:=hp.cell;cases hc with | own hN=>
    rw [dR hl]at hN;cases hN;obtain⟨o',ho',hO⟩:=H.old l _ hl;cases hO with | rows hf=>
    refine⟨_,c'.size,hf,λ_=>rfl,λK hK=> ?_⟩;unfold MZ;simp only;rw [ho'];refine⟨rfl,by rw [aR];omega,?_⟩;rw [List.drop_zero,List.take_of_length_le (by rw [aR];exact Nat.le_refl _)];exact hK
   .cases hk
  .cases hk
 .rename_i l lo m;split at hk
  .rename_i f0 c' xs hl;split at hk
   .rename_i e;subst e;cases hk;obtain⟨x,rfl,hc⟩:=hp.cell;cases hc with | os hN=>
    rename_i sz lo m q;rw [dR hl]at hN;cases hN;obtain⟨o',ho',hO⟩:=H.old l _ hl;cases hO with | rows hf=>
    simp only [jS,hl]at hps;have h3:(lo:Int)+(m:Int)<=(xs:List c'.den).length:=by
     have:=hps (bA .leq ((lo:Int)+(m:Int)) ((xs:List c'.den).length:Int)) (by simp);simpa [bA]using this
    refine⟨_,c'.size,hf,λ_=>rfl,λK hK=> ?_⟩;unfold MZ;simp only;rw [ho'];refine⟨rfl,by rw [aR];omega,?_⟩;have e:aL c' (((xs:List c'.den).take ((lo:Int)+(m:Int)).toNat).drop ((lo:Int)).toNat)=((aL c' xs).drop lo).take m:=by
     rw [EK,<-wz]
     congr 2<;>omega
    rw [<-e];exact hK
   .cases hk
  .cases hk
 .cases hk
def GX(c:Co)(xs ys:List c.den):aL c (xs++ys)=aL c xs++aL c ys:=by simp [aL]
def PVR.own{h:List aM}{l sz n:Nat}(hN:nmh h l=some (sz,n)):PVR (nmh h) (.c (.os l sz 0 n)) (.c (.own l)):= .ofC (.own hN)
def pO(h:List aM)(f:Bool)(c:Co)(xs:List c.den):nmh (h++ [.rows f c xs]) h.length=some (c.size,xs.length):=by
 simp [nmh]
def EL{h:List aM}{l:Nat}{f:Bool}{c:Co}{xs:List c.den}(hl:h[l]? =some (.rows f c xs)):¬Gone h l:=λ⟨_,_,h2⟩=>by rw [hl]at h2;cases h2
def WJ{X:XT}{E:Tab}(hX:XOK X E){m:Nat}{h':Heap}{h:List aM}(H:fD h' h){n k:Nat}(hn:h.length=nm n k){ty t2:TypeId}{pa pb:PV}{a b:SVal}(ha:PVR (nmh h) pa a)(hb:PVR (nmh h) pb b)
  {r:HR (std m)} (hk:IU (std m) X h ty t2 a b=some r) (hps:∀b∈r.chk,b=true):
  Hv (λK=>aC (E.ty ty) λy=>match y.desc with
   | .slice e=>aC (E.ty e) λz=>(aC (E.ty t2) λy2=>pq y2.desc pb)/\zo h' n k z pa pb K
   | _=>False) n h' h r:=by
 unfold IU at hk;rw [hX.ty]at hk;split at hk
 .rename_i y hy;split at hk
  .rename_i e hd;split at hk
   .rename_i z c hz hco;split at hk
    .rename_i hcond;simp only [Bool.and_eq_true,Bool.not_eq_true',beq_eq_false_iff_ne,ne_eq]at hcond;obtain⟨⟨⟨⟨hsz,hne⟩,hby⟩,hsrc⟩,hzd⟩:=hcond;have hby:=Nat.le_of_ble_eq_true hby;obtain⟨zd,hzd,hzx⟩:∃zd,ZD z.zero zd/\∀x,Ux (std m) z c=some x->zd=c.row x:=by
      cases hq:Ux (std m) z c with
      | none=>obtain⟨zd,hzd⟩:=X6 hzd;exact⟨zd,hzd,λx h=>by cases h⟩
      | some x=>
       unfold Ux at hq;split at hq
       .rename_i zs hzs;split at hq
        .rename_i fz x' lz hx;cases hq;exact⟨_,X7 hzs hx,λy h=>by cases h;rfl⟩
        .cases hq
       .cases hq
     obtain⟨z',hz',hzs⟩:=gB hX hsz;rw [hz]at hz';cases hz';have hst:aC (E.ty t2) λy2=>pq y2.desc pb:=by
      unfold Ez at hsrc;rw [hX.ty]at hsrc;split at hsrc
      .rename_i y2 hy2;rw [hy2];simp only [aC];split at hsrc
       .cases hsrc
       .rename_i e2 x hne2 he2;obtain⟨x',rfl,hc⟩:=hb.cell;unfold pq;cases hc with
        | d hx hf=>
         rename_i f g x0 y0;subst hx;cases y0 with
         | int k q=>exact absurd rfl (hne2 _ _ _)
         | _=>rw [he2];trivial
        | _=>rw [he2];trivial
       .rename_i kk fq kq q he2;obtain⟨g0,rfl⟩:=hb.int;unfold pq;rw [he2];trivial
       .cases hsrc
      .cases hsrc
     split at hk
     .rename_i f2 ds hds;obtain⟨⟨f0,ds0⟩,hds,he2⟩:=Option.map_eq_some_iff.1 hds;simp only [Prod.mk.injEq]at he2;obtain⟨hf2,he3⟩:=he2;have he3:=he3.symm;subst he3
      have main:(∀b'∈jS (std m) h b,b'=true)->∀(v:SVal) (k':List aM) (td:List Nat),(∀(g sz:_),(f2=true->g=true)->(aL c ds≠ []->sz=c.size)->∃pv h'' j,PVR (nmh k') pv v/\fD h'' k'/\iD h' h h'' k' td/\k'.length=nm n j/\
        ∀K:PV->Heap->Nat->Prop,K pv h'' j->tF h' n k z pa g (aL c ds) K)->r.h=k'->r.v=v->r.touched=td->Hv (λK=>aC (E.ty ty) λy=>match y.desc with
         | .slice e=>aC (E.ty e) λz=>(aC (E.ty t2) λy2=>pq y2.desc pb)/\zo h' n k z pa pb K
         | _=>False) n h' h r:=by
       intro hsc v k' td hm e1 e2 e3;obtain⟨g,sz,hg,hs,hK⟩:=afK H hb hzx hds hsc;obtain⟨pv,h'',j,q1,q2,q3,q4,q5⟩:=hm (g || D7 (aL c ds)) sz (λh=>by
        rw [<-hf2]at h;rcases Bool.or_eq_true _ _▸h with h | h
        .simp [hg h]
        .have:D7 (aL c ds)=true:=by
          unfold D7 aL;simp only [List.all_map,List.all_eq_true,Function.comp_apply];intro x _ d hd;rw [<-kI 0]at hd;obtain⟨y,hy,rfl⟩:=List.mem_map.1 hd;rw [iR];exact jH c h x y hy
         simp [this]) hs
       subst e1;subst e2;subst e3;refine⟨pv,h'',j,q1,q2,q3,q4,λK hKK=> ?_⟩;rw [hy];simp only [aC];rw [hd];simp only;rw [hz];exact⟨hst,zd,hzd,hne,hby,hK _ ⟨λh=>(hs h).trans hzs.symm,q5 K hKK⟩⟩
      split at hk
      .cases hk;obtain⟨x,rfl,hc⟩:=ha.cell;cases hc;refine main (λb hb=>hps b (by simp [hb])) _ _ _ (λg sz hg hs=> ?_) rfl rfl rfl;have hlen:(ds.length:Int)<=jf:=by simpa [bA]using hps (bA .leq (ds.length:Int) jf) (by simp)
       refine⟨_,(h.length,.rows g c.size (aL c ds))::h',k+1,.own (pO h f2 c ds),H.push (.rows hg),.push _ _ _,by simp [nm]at hn ⊢;omega,λK hK=> ?_⟩;refine⟨by rw [aR];simp [jf,yG]at hlen ⊢;omega,?_⟩;rw [<-hn,hzs,aR];exact hK
      .rename_i l;split at hk
       .rename_i f1 c1 xs hl;split at hk
        .rename_i q;subst q;cases hk;obtain⟨x,rfl,hc⟩:=ha.cell;cases hc with | own hN=>
         rw [dR hl]at hN;cases hN;obtain⟨o',ho',hO⟩:=H.old l _ hl;cases hO with | rows hf=>
         rename_i f';refine main (λb hb=>hps b (by simp [hb])) _ _ _ (λg sz hg hs=> ?_) rfl rfl rfl;have hlen:((xs:List c1.den).length:Int)+(ds.length:Int)<=jf:=by simpa [bA]using hps (bA .leq ((xs.length:Int)+(ds.length:Int)) jf) (by simp)
         have hG:=H.fG hl;have eG:fG h l=h.set l (.gone c1 (xs.length:Int)):=by unfold fG;rw [hl]
         have hGl:(fG h l).length=h.length:=wC h l;have hP:=hG.push (o:= .rows (f1&&f2) c1 (xs++ds)) (o':= .rows (f'&&g) c1.size (aL c1 (xs++ds))) (.rows (λh=>by simp at h;simp [hf h.1,hg h.2]));rw [hGl]at hP;have hE:=(iD.fG (h':=h') (h:=h) l (o':= .gone)).trans (iD.push (h':=(l,.gone)::h') (h:=fG h l) (.rows (f1&&f2) c1 (xs++ds)) (.rows (f'&&g) c1.size (aL c1 (xs++ds))) []);rw [hGl]at hE;refine⟨.c (.os h.length c1.size 0 (xs++ds).length),_,k+1,?_,by rw [<-eG];exact hP,by rw [<-eG];exact hE,by simp [nm]at hn ⊢;omega,λK hK=> ?_⟩
         .have:=pO (fG h l) (f1&&f2) c1 (xs++ds);rw [hGl]at this;rw [<-eG];exact .own this
         .unfold tF;simp only;rw [ho'];simp only [nP];refine⟨by trivial,by rw [aR];exact Nat.le_refl _,by trivial,hzs.symm,by rw [aR];simp [jf,yG]at hlen ⊢;omega,?_⟩;rw [List.take_of_length_le (by rw [aR];exact Nat.le_refl _),<-hn,hzs,aR,<-GX,<-List.length_append];exact hK
        .cases hk
       .cases hk
      .rename_i l lo q0;split at hk
       .rename_i f1 c1 xs hl;split at hk
        .rename_i q;subst q;cases hk;obtain⟨x,rfl,hc⟩:=ha.cell;cases hc with | os hN=>
         rename_i sz lo q0 mm;rw [dR hl]at hN;cases hN;obtain⟨o',ho',hO⟩:=H.old l _ hl;cases hO with | rows hf=>
         rename_i f';refine main (λb hb=>hps b (by simp [hb])) _ _ _ (λg sz hg hs=> ?_) rfl rfl rfl;have hlo:(lo:Int)=0:=by simpa [bA]using hps (bA .eql (lo:Int) 0) (by simp)
         have hq:(q0:Int)<=(xs:List c1.den).length:=by simpa [bA]using hps (bA .leq (q0:Int) (xs.length:Int)) (by simp)
         have hlen:(q0:Int)+(ds.length:Int)<=jf:=by simpa [bA]using hps (bA .leq ((q0:Int)+(ds.length:Int)) jf) (by simp)
         have hG:=H.fG hl;have eG:fG h l=h.set l (.gone c1 (xs.length:Int)):=by unfold fG;rw [hl]
         have hGl:(fG h l).length=h.length:=wC h l;have es:(((xs:List c1.den).take ((q0:Int)).toNat).drop ((0:Int)).toNat)=xs.take q0:=by simp
         have hP:=hG.push (o:= .rows (f1&&f2) c1 (xs.take q0++ds)) (o':= .rows (f'&&g) c1.size (aL c1 (xs.take q0++ds))) (.rows (λh=>by simp at h;simp [hf h.1,hg h.2]));rw [hGl]at hP;have hE:=(iD.fG (h':=h') (h:=h) l (o':= .gone)).trans (iD.push (h':=(l,.gone)::h') (h:=fG h l) (.rows (f1&&f2) c1 (xs.take q0++ds)) (.rows (f'&&g) c1.size (aL c1 (xs.take q0++ds))) []);rw [hGl]at hE;have hgoal:(h.set l (.gone c1 (xs.length:Int))++ [dP.rows (f1&&f2) c1 ((((xs:List c1.den).take ((q0:Int)).toNat).drop ((0:Int)).toNat)++ds)])=fG h l++ [.rows (f1&&f2) c1 (xs.take q0++ds)]:=by rw [es,eG]
         refine⟨.c (.os h.length c1.size 0 (xs.take q0++ds).length),_,k+1,?_,by show fD _ (h.set l (.gone c1 (xs.length:Int))++ [dP.rows (f1&&f2) c1 ((((xs:List c1.den).take ((q0:Int)).toNat).drop ((0:Int)).toNat)++ds)]);rw [hgoal];exact hP,
          by show iD _ _ _ (h.set l (.gone c1 (xs.length:Int))++ [dP.rows (f1&&f2) c1 ((((xs:List c1.den).take ((q0:Int)).toNat).drop ((0:Int)).toNat)++ds)]) _;rw [hgoal];exact hE,by simp [nm]at hn ⊢;omega,λK hK=> ?_⟩
         .have:=pO (fG h l) (f1&&f2) c1 (xs.take q0++ds);rw [hGl]at this;show PVR (nmh (h.set l (.gone c1 (xs.length:Int))++ [dP.rows (f1&&f2) c1 ((((xs:List c1.den).take ((q0:Int)).toNat).drop ((0:Int)).toNat)++ds)])) _ _;rw [hgoal];exact .own this
         .unfold tF;simp only;rw [ho'];simp only [nP];refine⟨ah,by rw [aR];omega,by trivial,hzs.symm,by rw [aR];simp [jf,yG]at hlen ⊢;omega,?_⟩;have e1:(aL c1 xs).take q0++aL c1 ds=aL c1 (xs.take q0++ds):=by simp [aL,List.map_take]
          have e2:q0+ds.length=(xs.take q0++ds).length:=by simp;omega
          rw [<-hn,hzs,aR,e1,e2];exact hK
        .cases hk
       .cases hk
      .rename_i f1 c1 xs;split at hk
       .rename_i q;subst q;cases hk;obtain⟨x,rfl,hc⟩:=ha.cell;cases hc with | clip hf=>
        rename_i f';refine main (λb hb=>hps b (by simp [hb])) _ _ _ (λg sz hg hs=> ?_) rfl rfl rfl;have hor:(decide ((0:Int)< (ds.length:Int)) || decide (((xs:List c1.den).length:Int)=0))=true:=by
         have:=hps ((bA .lss 0 (ds.length:Int)) || (bA .eql (xs.length:Int) 0)) (by simp);simpa [bA]using this
        have hlen:((xs:List c1.den).length:Int)+(ds.length:Int)<=jf:=by simpa [bA]using hps (bA .leq ((xs.length:Int)+(ds.length:Int)) jf) (by simp)
        refine⟨.c (.os h.length c1.size 0 (xs++ds).length),(h.length,.rows (f'&&g) c1.size (aL c1 (xs++ds)))::h',k+1,.own (pO h (f1&&f2) c1 (xs++ds)),H.push (.rows (λh=>by simp at h;simp [hf h.1,hg h.2])),.push _ _ _,by simp [nm]at hn ⊢;omega,λK hK=> ?_⟩;refine⟨λ_=>hzs.symm,λhe=> ?_,by rw [aR,aR];simp [jf,yG]at hlen ⊢;omega,?_⟩
        .simp only [Bool.or_eq_true,decide_eq_true_eq]at hor;rcases hor with h1 | h1
         .have:ds=[]:=by simpa [aL]using he
          subst this;simp at h1
         .have:xs=[]:=List.length_eq_zero_iff.1 ah;subst this;rfl
        .rw [<-hn,hzs,aR,aR,<-GX,<-List.length_append];exact hK
       .cases hk
      .cases hk
     .cases hk
    .cases hk
   .cases hk
  .cases hk
 .cases hk
def Hv2(T:(PV->Heap->Nat->Prop)->Prop)(n:Nat)(h':Heap)(h:List aM)(v:SVal)(k:List aM)(td:List Nat):Prop:=
 ∃pv h'' j,PVR (nmh k) pv v/\fD h'' k/\iD h' h h'' k td/\k.length=nm n j/\∀K,K pv h'' j->T K
def pE{k:IntKind}:∀ {es:List (List D)} {l:List Int},kG k es=some l->l.map (ic k)=es
 | [],l,h=>by simp [kG]at h;subst h;rfl
 | e::r,l,h=>by
  unfold kG at h;split at h
  .rename_i hh;cases hh
  .rename_i k' n r' hh;cases hh;split at h
   .rename_i e;subst e;split at h
    .rename_i l' hl;cases h;simp [ic,pE hl]
    .cases h
   .cases h
  .cases h
def KJ(d:ku)(es:List (List D)):ir d es=es:=by
 unfold ir;split
 .split
  .rename_i xs h;exact pE h
  .rfl
 .rfl
def Ll{X:XT}{E:Tab}(hX:XOK X E){n:Nat}{t:Slots}{e:Nat->Option SVal}{c:Co}:∀ {parts:List (Nat×Operand)} {h':Heap} {h:List aM} (_:fD h' h) (_:EvR X E n (nmh h) t e) {f:Bool} {xs:List c.den} {k:List aM} {ls:List Nat},
  qF (std n) X e c h parts=some (f,xs,k,ls)->
  ∃g h'',(f=true->g=true)/\fD h'' k/\iD h' h h'' k ls/\nmh k=nmh h/\k.length=h.length/\xs.length=parts.length/\∀K,K g (aL c xs) h''->tC E t c.size h' parts K
 | [],h',h,H,he,f,xs,k,ls,hk=>by
  simp only [qF,Option.some.injEq,Prod.mk.injEq]at hk;obtain⟨rfl,rfl,rfl,rfl⟩:=hk;exact⟨true,h',λ_=>rfl,H,.refl _ _ _,rfl,rfl,rfl,λK hK=>hK⟩
 | (i,x)::r,h',h,H,he,f,xs,k,ls,hk=>by
  simp only [qF]at hk;split at hk
  .rename_i v hv;split at hk
   .rename_i f1 y l1 hy;split at hk
    .rename_i g1 ys k1 l2 hys;cases hk;obtain⟨pv,p1,p2⟩:=dF hX he hv;obtain⟨ga,ha,q1,q2,q3,q4,q5⟩:=X5 H p2 hy;have hnm:nmh (bB (std n) h l1)=nmh h:=uj n l1 h;obtain⟨gb,hb,r1,r2,r3,r4,r5,r6,r7⟩:=Ll hX q2 (by rw [hnm];exact he) hys;refine⟨ga&&gb,hb,λh=>by simp at h;simp [q1 h.1,r1 h.2],r2,q3.trans r3,r4.trans hnm,by rw [r5,lg],by simp [r6],λK hK=> ?_⟩;unfold tC;rw [p1];exact⟨q4,q5 _ (r7 _ hK)⟩
    .cases hk
   .cases hk
  .cases hk
def afL(c:Co)(old:c.den)(j:Nat)(y:LV aF){s:Sh}(hs:c.fields[j]? =some s){t:gZ c.pI}(ht:pack aF c.pI ((c.zK old).set j y)=some t):c.row (c.mk t)=(c.row old).set j (lvD s y):=by
 have h1:=zN c t ht;rw [<-h1,XV];apply List.ext_getElem?;intro i;rw [List.getElem?_zipWith,List.getElem?_set,List.getElem?_set,List.getElem?_zipWith];have hlen:(List.zipWith lvD c.fields (c.zK old)).length=c.size:=by simp [Ld]
 rw [hlen,Ld];have hj:j<c.size:=(List.getElem?_eq_some_iff.1 hs).1;by_cases e:j=i
 .subst e;simp [hj,(List.getElem?_eq_some_iff.1 hs).2]
 .simp [e]
def Bu(h:Heap)(p v:PV)(K:Heap->Prop):Prop:=
 match p with
 | .c (.ptr l sz i j)=>nP (AE.look h l) λo=>match o with
  | .box cs=>i=0/\j+(aN v).length<=cs.length/\K ((l,.box (splice cs (aN v) j))::h)
  | .rows f sz' es=>sz=sz'/\i<es.length/\oI h (aN v) λg ds h'=>AE.look h' l=some (.rows f sz' es)/\j+ds.length<=sz/\
   ∀row,es[i]? =some row->K ((l,.rows (f&&g) sz (es.set i (if j=0/\ds.length=sz then ds else gK row ds j)))::h')
  | .gone=>False
 | _=>False
def X8{X:XT}{E:Tab}(hX:XOK X E){m:Nat}{h':Heap}{h:List aM}(H:fD h' h){n k:Nat}(hn:h.length=nm n k){ty:TypeId}{pp pv:PV}{p v:SVal}(hp:PVR (nmh h) pp p)(hv:PVR (nmh h) pv v)
  {r:HR (std m)} (hk:tY (std m) X h ty p v=some r) (hps:∀b∈r.chk,b=true):
  Hv2 (λK=>aC (E.ty ty) λy=>A9 h' y pp pv λh''=>K (.tup []) h'' k) n h' h r.v r.h r.touched:=by
 have WK:∀N,PVR N (.tup []) (.tup []):=λN=> .tup .nil
 unfold tY at hk;rw [hX.ty]at hk;have hyy:∃y,E.ty ty=some y:=by
  cases h:E.ty ty with
  | none=>rw [h]at hk;cases hk
  | some y=>exact⟨y,rfl⟩
 obtain⟨y,hy⟩:=hyy;rw [hy]at hk;simp only at hk;split at hk
 .cases hk
 .rename_i hc0;simp only [Bool.or_eq_true,beq_iff_eq,Bool.not_eq_true',beq_eq_false_iff_ne,ne_eq,not_or,Decidable.not_not]at hc0;obtain⟨hne,hvl⟩:=hc0;have hcells:=hv.cells;have hcl:(aN pv).length=(cellsS v).length:=hcells.length;rw [dh]at hvl;have pre:∀ {td:List Nat} {k':List aM} {h'':Heap} {vv:SVal},PVR (nmh k') (.tup []) vv->fD h'' k'->iD h' h h'' k' td->k'.length=h.length->(∀K:PV->Heap->Nat->Prop,K (.tup []) h'' k->Bu h' pp pv λh1=>K (.tup []) h1 k)->Hv2 (λK=>aC (E.ty ty) λy=>A9 h' y pp pv λh''=>K (.tup []) h'' k) n h' h vv k' td:=by
   intro td k' h'' vv a0 a1 a2 a3 a4;refine⟨.tup [],h'',k,a0,a1,a2,by rw [a3,hn],λK hK=> ?_⟩;rw [hy];simp only [aC];exact⟨by rw [hcl,hvl],by simpa using hne,a4 K hK⟩
  split at hk
  .rename_i l sz j;split at hk
   .rename_i w hw;obtain⟨x,rfl,hc⟩:=hp.cell;cases hc;obtain⟨o',ho',hO⟩:=H.old l _ hw;cases hO with | box hF=>
    rename_i cs;have au9:cs.length=(cellsS w).length:=hF.length;have hll:l<h.length:=(List.getElem?_eq_some_iff.1 hw).1;have hng:¬Gone h l:=λ⟨_,_,h2⟩=>by rw [hw]at h2;cases h2
    have apL:∀w2,F2 (RC (nmh h)) (splice cs (aN pv) j) (cellsS w2)->j+(aN pv).length<=cs.length->Hv2 (λK=>aC (E.ty ty) λy=>A9 h' y (.c (.ptr l sz 0 j)) pv λh''=>K (.tup []) h'' k) n h' h (.tup []) (h.set l (.box w2)) [l]:=by
     intro w2 hF2 hle;have hs:nmh (h.set l (.box w2))=nmh h:=kJ hw (by simp [nmh]);refine pre (WK _) (H.set hll (λk x hx=>by rw [hs];exact hx) (.box (by rw [hs];exact hF2))) (.set (λk x hx=>by rw [hs];exact hx) hng) (by simp) (λK hK=> ?_);unfold Bu;simp only;rw [ho'];exact⟨by trivial,hle,hK⟩
    split at hk
    .rename_i hcond;cases hk;simp only [dh,Bool.and_eq_true,beq_iff_eq]at hcond;obtain⟨⟨⟨rfl,h1⟩,h2⟩,_⟩:=hcond;have:splice cs (aN pv) 0=aN pv:=by
      unfold splice;rw [List.take_zero,List.drop_of_length_le ah];simp
     exact apL v (by rw [this];exact hcells) ah
    .split at hk
     .rename_i hcond;cases hk;simp only [dh,Bool.and_eq_true,beq_iff_eq]at hcond;obtain⟨h1,h2⟩:=hcond;have h1:=Nat.le_of_ble_eq_true h1;rw [show bU (std m) w=cellsS w from dh m w,show bU (std m) v=cellsS v from dh m v];refine apL (.agg _) ?_ ah;show F2 _ _ ((cellsS w).take j++cellsS v++(cellsS w).drop (j+(cellsS v).length));unfold splice;rw [hcl];exact((hF.take j).append hcells).append (hF.drop _)
     .cases hk
   .cases hk
  .rename_i l i j;split at hk
   .rename_i f c xs hw;obtain⟨x,rfl,hc⟩:=hp.cell;cases hc with | pr hN=>
    rename_i sz i mm;rw [dR hw]at hN;cases hN;obtain⟨o',ho',hO⟩:=H.old l _ hw;cases hO with | rows hf=>
    rename_i f';have hll:l<h.length:=(List.getElem?_eq_some_iff.1 hw).1
    have hrows:∀(ls:List Nat) (g g':Bool) (h1:Heap) (z:c.den) (ds:List D),l∉ls->(g=true->g'=true)->fD h1 (bB (std m) h ls)->iD h' h h1 (bB (std m) h ls) ls->(i:Int)< (xs:List c.den).length->j+ds.length<=c.size->
      (∀K,K g' ds h1->oI h' (aN pv) K)->(∀row,(aL c xs)[i]? =some row->(if j=0/\ds.length=c.size then ds else gK row ds j)=c.row z)->
      Hv2 (λK=>aC (E.ty ty) λy=>A9 h' y (.c (.ptr l c.size i j)) pv λh''=>K (.tup []) h'' k) n h' h (.tup []) ((bB (std m) h ls).set l (.rows (f&&g) c (xs.set i z))) (l::ls):=by
     intro ls g g' h1 z ds hnl hg R1 R2 hi hjd apM hrow;have hget:(bB (std m) h ls)[l]? =some (.rows f c xs):=by rw [jG m ls h hnl];exact hw
     have hs:nmh ((bB (std m) h ls).set l (.rows (f&&g) c (xs.set i z)))=nmh (bB (std m) h ls):=kJ hget (by simp [nmh]);have at0:l< (bB (std m) h ls).length:=by rw [lg];exact hll
     have hset:aL c (xs.set i z)=(aL c xs).set i (c.row z):=by simp [aL,List.map_set]
     refine pre (WK _) (R1.set (o':= .rows (f'&&g') c.size (aL c (xs.set i z))) at0 (λk x hx=>by rw [hs];exact hx) (.rows (λh=>by simp at h;simp [hf h.1,hg h.2])))
      ((R2.trans (.set (λk x hx=>by rw [hs];exact hx) (EL hget))).mono (λq hq=>by
       rcases List.mem_append.1 hq with h | h
       .exact List.mem_cons_of_mem _ h
       .simp at h;subst h;simp)) (by rw [List.length_set,lg]) (λK hK=> ?_)
     unfold Bu;simp only;rw [ho'];refine⟨by trivial,by rw [aR];omega,apM _ ⟨?_,hjd,λrow hr=> ?_⟩⟩
     .rw [(R2.keep l hll hnl).2];exact ho'
     .rw [hrow row hr,<-hset];exact hK
    split at hk
    .rename_i hcond;simp only [Bool.and_eq_true,beq_iff_eq]at hcond;obtain⟨rfl,hys⟩:=hcond;split at hk
     .rename_i g x ls hx;split at hk
      .cases hk
      .rename_i hnl;cases hk;have hnl:l∉ls:=by simpa using hnl
       obtain⟨g',h1,q1,q2,q3,q4,q5⟩:=X5 H hv hx;have hi:(i:Int)< (xs:List c.den).length:=by simpa [bA]using hps (bA .lss (i:Int) ((xs:List c.den).length:Int)) (by simp)
       exact hrows ls g g' h1 x (c.row x) hnl q1 q2 q3 hi (by rw [wu];omega) q5 (λrow hr=>by rw [if_pos ⟨rfl,wu c x⟩])
     .cases hk
    .rename_i hcond;split at hk
     .rename_i x s hx hs;split at hk
      .rename_i g y ls hyl;split at hk
       .cases hk
       .rename_i hnl;have hnl:l∉ls:=by simpa using hnl
        split at hk
        .rename_i z hz;cases hk;unfold Lb at hz;split at hz
         .rename_i t ht;cases hz;rw [GQ]at ht;rw [dh]at hx;rw [hx]at hcells;generalize hpc:aN pv=pcs at hcells;cases hcells with | cons hx1 hx2=>
          cases hx2;rename_i cell;have H0:fD h' (bB (std m) h []):=H;obtain⟨g',h1,q1,q2,q3,q4⟩:=CK (done:=[]) H0 hx1 hyl (λ_ _=>by simp);rw [List.nil_append]at q2 q3;have hi:(i:Int)< (xs:List c.den).length:=by simpa [bA]using hps (bA .lss (i:Int) ((xs:List c.den).length:Int)) (by simp)
          have hjs:j<c.size:=(List.getElem?_eq_some_iff.1 hs).1;refine hrows ls g g' h1 _ [lvD s y] hnl q1 q2 q3 hi (by simp;omega) (λK hK=> ?_) (λrow hr=> ?_)
          .rw [hpc];exact q4 _ (by show K (g'&&true) [lvD s y] h1;rw [Bool.and_true];exact hK)
          .show _=c.row (c.mk t);rw [afL c _ j y hs ht];have hi':i< (xs:List c.den).length:=by omega
           have hrow:row=c.row ((xs:List c.den).getD ((i:Int)).toNat default):=by
            simp only [aL,List.getElem?_map,List.getElem?_eq_getElem hi',Option.map_some,Option.some.injEq]at hr;subst hr;simp [List.getD,List.getElem?_eq_getElem hi']
           subst hrow;generalize ((xs:List c.den).getD ((i:Int)).toNat default)=old;have hl:=wu c old;have hsp:gK (c.row old) [lvD s y] j=(c.row old).set j (lvD s y):=by
            unfold gK;rw [List.set_eq_take_append_cons_drop,if_pos ah];simp
           split
           .rename_i hh;obtain⟨rfl,hh⟩:=hh;simp at hh;rw [<-hh]at hl
            match hro:c.row old,hl with
            | [a],_=>rfl
           .exact hsp
         .cases hz
        .cases hk
      .cases hk
     .cases hk
   .cases hk
  .cases hk
def X9{X:XT}{E:Tab}(hX:XOK X E){m:Nat}{h':Heap}{h:List aM}(H:fD h' h){n k:Nat}(hn:h.length=nm n k){ty:TypeId}{pv:PV}{v:SVal}(hv:PVR (nmh h) pv v)
  {r:HR (std m)} (hk:Nz (std m) X h ty v=some r) (hps:∀b∈r.chk,b=true):
  Hv2 (λK=>aC (E.ty ty) λy=>match y.desc with
   | .slice e=>aC (E.ty e) λz=>∃zd,ZD z.zero zd/\tH h' zd z pv λh''=>K (.tup []) h'' k
   | _=>False) n h' h r.v r.h r.touched:=by
 unfold Nz at hk;rw [hX.ty]at hk;split at hk
 .rename_i y hy;split at hk
  .rename_i e hd;split at hk
   .rename_i z c hz hco;split at hk
    .rename_i zs hzs;split at hk
     .rename_i fx x lx hx;split at hk
      .rename_i hcond;simp only [Bool.and_eq_true,Bool.not_eq_true',beq_eq_false_iff_ne,ne_eq]at hcond;obtain⟨hsz,hne⟩:=hcond;obtain⟨z',hz',afM⟩:=gB hX hsz;rw [hz]at hz';cases hz';have hZ:=X7 hzs hx;have WK:∀N,PVR N (.tup []) (.tup []):=λN=> .tup .nil
       have pre:∀ {td:List Nat} {k':List aM} {h'':Heap} {vv:SVal},PVR (nmh k') (.tup []) vv->fD h'' k'->iD h' h h'' k' td->k'.length=h.length->(∀K:PV->Heap->Nat->Prop,K (.tup []) h'' k->tH h' (c.row x) z pv λh1=>K (.tup []) h1 k)->
         Hv2 (λK=>aC (E.ty ty) λy=>match y.desc with
          | .slice e=>aC (E.ty e) λz=>∃zd,ZD z.zero zd/\tH h' zd z pv λh''=>K (.tup []) h'' k
          | _=>False) n h' h vv k' td:=by
        intro td k' h'' vv a0 a1 a2 a3 a4;refine⟨.tup [],h'',k,a0,a1,a2,by rw [a3,hn],λK hK=> ?_⟩;rw [hy];simp only [aC];rw [hd];simp only;rw [hz];exact⟨_,hZ,a4 K hK⟩
       split at hk
       .cases hk;obtain⟨x',rfl,hc⟩:=hv.cell;cases hc;exact pre (WK _) H (.refl _ _ _) rfl (λK hK=>hK)
       .rename_i l;split at hk
        .rename_i f c1 xs hl;split at hk
         .rename_i q;subst q;cases hk;obtain⟨x',rfl,hc⟩:=hv.cell;cases hc with | own hN=>
          rw [dR hl]at hN;cases hN;obtain⟨o',ho',hO⟩:=H.old l _ hl;cases hO with | rows hf=>
          have hs:nmh (h.set l (.rows f c1 (List.replicate ((xs:List c1.den).length:Int).toNat x)))=nmh h:=kJ hl (by simp [nmh]);refine pre (WK _) (H.set (o':= .rows _ c1.size (aL c1 (List.replicate ((xs:List c1.den).length:Int).toNat x))) (List.getElem?_eq_some_iff.1 hl).1 (λk x hx=>by rw [hs];exact hx) (.rows hf)) (.set (λk x hx=>by rw [hs];exact hx) (EL hl)) (by simp) (λK hK=> ?_);unfold tH;simp only;rw [ho'];refine⟨by trivial,afM.symm,by simpa using hne,by rw [aR];omega,?_⟩;have e:(aL c1 xs).take 0++List.replicate (xs:List c1.den).length (c1.row x)++(aL c1 xs).drop (0+(xs:List c1.den).length)=aL c1 (List.replicate ((xs:List c1.den).length:Int).toNat x):=by
           rw [List.take_zero,List.drop_of_length_le (by rw [aR];omega)];simp [aL]
          rw [e];exact hK
         .cases hk
        .cases hk
       .rename_i l lo q0;split at hk
        .rename_i f c1 xs hl;split at hk
         .rename_i q;subst q;cases hk;obtain⟨x',rfl,hc⟩:=hv.cell;cases hc with | os hN=>
          rename_i sz lo q0 mm;rw [dR hl]at hN;cases hN;obtain⟨o',ho',hO⟩:=H.old l _ hl;cases hO with | rows hf=>
          have h3:(lo:Int)+(q0:Int)<=(xs:List c1.den).length:=by
           have:=hps (bA .leq ((lo:Int)+(q0:Int)) ((xs:List c1.den).length:Int)) (by simp [jS,hl]);simpa [bA]using this
          have e0:((((xs:List c1.den).take ((lo:Int)).toNat).drop ((0:Int)).toNat++List.replicate ((q0:Int)).toNat x)++(xs.take ((xs.length:Int)).toNat).drop ((lo:Int)+(q0:Int)).toNat)=xs.take lo++List.replicate q0 x++xs.drop (lo+q0):=by
           rw [show((lo:Int)+(q0:Int)).toNat=lo+q0 by omega,show((xs.length:Int)).toNat=xs.length by omega,List.take_length];simp
          show Hv2 _ _ _ _ _ (h.set l (.rows f c1 ((((xs:List c1.den).take ((lo:Int)).toNat).drop ((0:Int)).toNat++List.replicate ((q0:Int)).toNat x)++(xs.take ((xs.length:Int)).toNat).drop ((lo:Int)+(q0:Int)).toNat))) _;rw [e0];have hlen:(xs.take lo++List.replicate q0 x++xs.drop (lo+q0)).length=xs.length:=by simp;omega
          have hs:nmh (h.set l (.rows f c1 (xs.take lo++List.replicate q0 x++xs.drop (lo+q0))))=nmh h:=kJ hl (by simp only [nmh,List.getElem?_cons_zero];rw [hlen]);refine pre (WK _) (H.set (o':= .rows _ c1.size (aL c1 (xs.take lo++List.replicate q0 x++xs.drop (lo+q0)))) (List.getElem?_eq_some_iff.1 hl).1 (λk x hx=>by rw [hs];exact hx) (.rows hf)) (.set (λk x hx=>by rw [hs];exact hx) (EL hl)) (by simp) (λK hK=> ?_);unfold tH;simp only;rw [ho'];refine⟨by trivial,afM.symm,by simpa using hne,by rw [aR];omega,?_⟩;have e:(aL c1 xs).take lo++List.replicate q0 (c1.row x)++(aL c1 xs).drop (lo+q0)=aL c1 (xs.take lo++List.replicate q0 x++xs.drop (lo+q0)):=by
           simp [aL,List.map_take,List.map_drop]
          rw [e];exact hK
         .cases hk
        .cases hk
       .cases hk
      .cases hk
     .cases hk
    .cases hk
   .cases hk
  .cases hk
 .cases hk
def afN{h:List aM}(o:aM){p:PV}{v:SVal}(hp:PVR (nmh h) p v):PVR (nmh (h++ [o])) p v:=hp.mono (Br h o)
def I4{X:XT}{E:Tab}(hX:XOK X E){m:Nat}{h':Heap}{h:List aM}(H:fD h' h){n k:Nat}(hn:h.length=nm n k){t:Slots}{e:Nat->Option SVal}(he:EvR X E m (nmh h) t e){op:Op}
  {r:HR (std m)} (hk:EA (std m) X e h op=some r) (hps:∀b∈r.chk,b=true):Hv2 (gL E op t h' n k) n h' h r.v r.h r.touched:=by
 have hpush:∀o:aM,(h++ [o]).length=nm n (k+1):=λo=>by simp [nm]at hn ⊢;omega
 unfold EA at hk;split at hk
 .rename_i ty;rw [hX.ty]at hk;split at hk
  .rename_i y hy;have main:∀(xs:List SC) (w:SVal),jy (std m) y.zero=some xs->xs≠ []->cellsS w=xs->r=⟨[],.c (.pb h.length y.size 0),h++ [.box w],[]⟩->Hv2 (gL E (.alloc ty) t h' n k) n h' h r.v r.h r.touched:=by
    intro xs w hz hne hw hr;subst hr;have hF:F2 (RC (nmh (h++ [.box w]))) y.zero (cellsS w):=by rw [hw];exact Bq hz
    refine⟨.c (.ptr h.length y.size 0 0),(h.length,.box y.zero)::h',k+1,.ofC .pb,H.push (.box hF),.push _ _ _,hpush _,λK hK=> ?_⟩;unfold gL;simp only;rw [hy];refine⟨λhz0=>hne ?_,by rw [<-hn];exact hK⟩;rw [hz0]at hz;simp [jy]at hz;exact hz
   split at hk
   .rename_i x hz;split at hk<;>cases hk
    .exact main _ (.agg [x]) hz (by simp) rfl rfl
    .exact main _ (.c x) hz (by simp) rfl rfl
   .rename_i x r' hsd hz;cases hk;exact main _ (.agg (x::r')) hz (by simp) rfl rfl
   .cases hk
  .cases hk
 .split at hk
  .rename_i v hv;split at hk
   .cases hk
   .rename_i hne;cases hk;obtain⟨pv,p1,p2⟩:=dF hX he hv;have hl:(aN pv).length=(bU (std m) v).length:=by rw [dh];exact p2.len
    refine⟨.c (.ptr h.length (bU (std m) v).length 0 0),(h.length,.box (aN pv))::h',k+1,.ofC .pb,H.push (.box (afN _ p2).cells),.push _ _ _,hpush _,λK hK=> ?_⟩;unfold gL;simp only;rw [p1];exact⟨by simpa [hl]using hne,by rw [<-hn,hl];exact hK⟩
  .cases hk
 .rename_i ty len parts;rw [hX.ty]at hk;split at hk
  .rename_i y hy;split at hk
   .rename_i el hd;split at hk
    .rename_i z c hz hco;split at hk
     .rename_i hcond;simp only [Bool.and_eq_true,Bool.not_eq_true',beq_iff_eq,beq_eq_false_iff_ne,ne_eq]at hcond;obtain⟨⟨⟨hsz,hne⟩,hrange⟩,hbig⟩:=hcond;have hbig:=Nat.le_of_ble_eq_true hbig;obtain⟨z',hz',hzs⟩:=gB hX hsz;rw [hz]at hz';cases hz';split at hk
      .rename_i f xs k1 ls at5;cases hk;obtain⟨g,h'',q1,q2,q3,q4,q5,q6,q7⟩:=Ll hX H he at5;have hlen:xs.length=len:=by
        have:=congrArg List.length hrange;simp at this;rw [q6];simpa using this
       have hP:=q2.push (o:= .rows f c xs) (o':= .rows g c.size (aL c xs)) (.rows q1);have hE:=(q3.trans (iD.push (h':=h'') (h:=k1) (.rows f c xs) (.rows g c.size (aL c xs)) [])).mono (λl hl=>by simpa using hl);refine⟨.c (.os k1.length c.size 0 xs.length),_,k+1,.own (pO k1 f c xs),hP,hE,by simp [nm]at hn ⊢;omega,λK hK=> ?_⟩;unfold gL;simp only;rw [hy];simp only [aC];rw [hd];simp only;rw [hz];refine⟨hne,hrange,hbig,?_⟩;rw [hzs];refine q7 _ ?_;rw [KJ,<-hn,<-q5,<-hlen];exact hK
      .cases hk
     .cases hk
    .cases hk
   .cases hk
  .cases hk
 .rename_i ty l cp;rw [hX.ty]at hk;split at hk
  .rename_i y hy;split at hk
   .rename_i el hd;split at hk
    .rename_i z c hz hco;split at hk
     .rename_i zs fl kl q fc kc q' hzs hl hc;split at hk
      .rename_i fx x lx hx;split at hk
       .rename_i hcond;cases hk;simp only [Bool.and_eq_true,Bool.not_eq_true',beq_eq_false_iff_ne,ne_eq]at hcond;obtain⟨⟨hsz,hne⟩,hby⟩:=hcond;have hby:=Nat.le_of_ble_eq_true hby;obtain⟨z',hz',afM⟩:=gB hX hsz;rw [hz]at hz';cases hz';obtain⟨pl,l1,l2⟩:=dF hX he hl;obtain⟨pc,c1,c2⟩:=dF hX he hc;obtain⟨_,rfl⟩:=l2.int;obtain⟨_,rfl⟩:=c2.int;have h1:q'=q:=by simpa [bA]using hps (bA .eql q' q) (by simp)
        have h2:(0:Int)<=q:=by simpa [bA]using hps (bA .leq 0 q) (by simp)
        have h3:q<=jf:=by simpa [bA]using hps (bA .leq q jf) (by simp)
        obtain⟨q,rfl⟩:∃w:Int,w=q:=⟨q,rfl⟩;have hr:aL c (List.replicate q.toNat x)=List.replicate q.toNat (c.row x):=by simp [aL]
        refine⟨.c (.os h.length c.size 0 (List.replicate q.toNat x).length),(h.length,.rows true c.size (aL c (List.replicate q.toNat x)))::h',k+1,.own (pO h true c (List.replicate q.toNat x)),H.push (.rows λh=>h),.push _ _ _,hpush _,λK hK=> ?_⟩;unfold gL;simp only;rw [hy];simp only [aC];rw [hd];simp only;rw [hz];refine⟨_,X7 hzs hx,?_⟩;rw [l1];simp only [aQ];rw [c1];refine⟨hne,hby,h1,h2,by simp only [jf,yG]at h3 ⊢;omega,?_⟩;rw [<-hr,<-hn,afM];have:q.toNat=(List.replicate q.toNat x).length:=by simp
        rw [show(PV.c (.os h.length c.size 0 q.toNat))= .c (.os h.length c.size 0 (List.replicate q.toNat x).length)from by rw [<-this]];exact hK
       .cases hk
      .cases hk
     .cases hk
    .cases hk
   .cases hk
  .cases hk
 .rename_i ty p x;split at hk
  .rename_i pv v hp hv;obtain⟨pp,p1,p2⟩:=dF hX he hp;obtain⟨pv',v1,v2⟩:=dF hX he hv;obtain⟨a,b,c,q1,q2,q3,q4,q5⟩:=X8 hX H hn p2 v2 hk hps;refine⟨a,b,c,q1,q2,q3,q4,λK hK=> ?_⟩;have:=q5 K hK;unfold gL;simp only;cases hy:E.ty ty with
   | none=>rw [hy]at this;exact this.elim
   | some y=>
    rw [hy]at this;simp only [aC]at this ⊢;rw [p1];simp only [aQ];rw [v1];exact this
  .cases hk
 .rename_i c;split at hk
  .rename_i a b ty t2 h1 h2 h3;split at hk
   .rename_i av bv ha hb;obtain⟨pa,a1,a2⟩:=dF hX he ha;obtain⟨pb,b1,b2⟩:=dF hX he hb;obtain⟨pv,h'',j,q1,q2,q3,q4,q5⟩:=WJ hX H hn a2 b2 hk hps;refine⟨pv,h'',j,q1,q2,q3,q4,λK hK=> ?_⟩;have:=q5 K hK;unfold gL;simp only;rw [h1,h2,h3];simp only;cases hy:E.ty ty with
    | none=>rw [hy]at this;exact this.elim
    | some y=>
     rw [hy]at this;simp only [aC]at this ⊢;split at this
     .rename_i e hd;cases hz:E.ty e with
      | none=>rw [hz]at this;exact this.elim
      | some z=>
       rw [hz]at this;simp only at this;rw [hd];simp only;rw [hz];simp only;rw [a1];simp only [aQ];rw [b1];exact this
     .exact this.elim
   .cases hk
  .rename_i a ty h1 h2 h3;split at hk
   .rename_i av ha;obtain⟨pa,a1,a2⟩:=dF hX he ha;obtain⟨pv,h'',j,q1,q2,q3,q4,q5⟩:=X9 hX H hn a2 hk hps;refine⟨pv,h'',j,q1,q2,q3,q4,λK hK=> ?_⟩;have:=q5 K hK;unfold gL;simp only;rw [h1,h2,h3];simp only;cases hy:E.ty ty with
    | none=>rw [hy]at this;exact this.elim
    | some y=>
     rw [hy]at this;simp only [aC]at this ⊢;split at this
     .rename_i e hd;cases hz:E.ty e with
      | none=>rw [hz]at this;exact this.elim
      | some z=>
       rw [hz]at this;simp only at this;obtain⟨zd,hzd,this⟩:=this;rw [hd];simp only;rw [hz];simp only;refine⟨zd,hzd,?_⟩;rw [a1];exact this
     .exact this.elim
   .cases hk
  .cases hk
 .cases hk
structure ELe{m:Nat}(a b:ES (std m)):Prop where
 ren:∀(i:Nat) (v:Option Nat),a.ren[i]? =some (some v)->b.ren[i]? =some (some v)
 len:b.ren.length=a.ren.length
 fro:∀x,x∈a.fro->x∈b.fro
 ck:∀x,x∈a.ck->x∈b.ck
 tr:∀(i:Nat) (v:Option Nat),a.ren[i]? =some (some v)->qH (std m) b i=qH (std m) a i
def ELe.refl{m:Nat}(a:ES (std m)):ELe a a:=⟨λ_ _ h=>h,rfl,λ_ h=>h,λ_ h=>h,λ_ _ _=>rfl⟩
def ELe.trans{m:Nat}{a b c:ES (std m)}(h:ELe a b)(k:ELe b c):ELe a c:=
 ⟨λi v hv=>k.ren i v (h.ren i v hv),k.len.trans h.len,λx hx=>k.fro x (h.fro x hx),λx hx=>k.ck x (h.ck x hx),λi v hv=>(k.tr i v (h.ren i v hv)).trans (h.tr i v hv)⟩
def pQ{m:Nat}{s s':ES (std m)}{i:Nat}{v:Option Nat}(h:qG (std m) s i v=some s'):
  s'.ren[i]? =some (some v)/\ELe s s'/\s'.lv=s.lv/\s'.tr=s.tr/\s'.fro=s.fro/\s'.ck=s.ck:=by
 unfold qG at h;split at h
 .rename_i hi;cases h;have hl:=(List.getElem?_eq_some_iff.1 hi).1;refine⟨by simp [hl],⟨λj w hj=> ?_,by simp,λ_ h=>h,λ_ h=>h,λ_ _ _=>rfl⟩,rfl,rfl,rfl,rfl⟩;by_cases e:i=j
  .subst e;rw [hi]at hj;cases hj
  .simp only [List.getElem?_set_ne e];exact hj
 .rename_i w hi;split at h
  .rename_i e;subst e;cases h;exact⟨hi,.refl _,rfl,rfl,rfl,rfl⟩
  .cases h
 .cases h
def WC(c:Ctx)(w:World)(N:NM)(v:Value)(y:SC):Prop:=∃x,bW c w v x/\RC N x y
structure Ren{m:Nat}(e:ES (std m))(h:List aM)(c:Ctx)(nm:Nat->Nat)(fr:Bool)(c2:Ctx)(N2:NM):Prop where
 kt:∀b,c.K true b->c2.K true b
 kf:fr=false->∀b,c.K false b->c2.K false b
 sub:∀b,c.K true b->c.K false b
 apN:∀b,c2.K true b->c2.K false b
 fro:∀l f,(l,f)∈e.fro->(f=true\/fr=false)->∀b,c.μ l=some b->c2.K f b
 name:∀(i l:Nat),e.ren[i]? =some (some (some l))->nm i<c2.n/\c2.μ (nm i)=c.μ l
 names:∀(i l sz n:Nat),e.ren[i]? =some (some (some l))->nmh h l=some (sz,n)->N2 (nm i)=some (sz,match qH (std m) e i with | some k=>min (k:Int).toNat n | none=>n)
 nil:∀(i:Nat),e.ren[i]? =some (some none)->nm i<c2.n/\c2.μ (nm i)=none/\∃sz,N2 (nm i)=some (sz,0)
def UH{c:Ctx}{w:World}{h':Heap}(H:bH c w h'){l sz lo n:Nat}{v:Value}{f:Bool}{es:List (List D)}(ho:AE.look h' l=some (.rows f sz es))(hlen:lo+n<=es.length)(hv:bW c w v (.os l sz lo n))
  {K2:Nat->Prop} (hK:∀b,c.K f b->K2 b) (hb:∀b,c.μ l=some b->K2 b):dG K2 w v (.rows sz ((es.drop lo).take n)):=by
 have hro:=(H.obj l _ ho).2;cases hv with
 | os0 a _ _ hl hm=>rw [List.take_zero];exact .none _ _ _
 | osE a _ _ _ b hl hm=>rw [List.take_zero];exact .none _ _ _
 | os _ _ _ _ cap b hl hm hn hroom=>
  simp only [iP,hm]at hro;obtain⟨cells,E,hbk,hrow⟩:=hro;obtain⟨u,hu⟩:=hrow.apr;have hlen':((es.drop lo).take n).length=n:=by simp;omega
  have hg:∀i,i<n->((es.drop lo).take n).getD i []=es.getD (lo+i) []:=by
   intro i hi;simp only [List.getD];rw [List.getElem?_take_of_lt hi,List.getElem?_drop]
  refine .rows b (lo*sz) cap sz n _ (λi j=>u (lo+i) j) (hb b hm) hlen'.symm hn ?_ ?_ ?_
  .intro i j hi hj;rw [hlen']at hi;rw [o7 hbk,show lo*sz+i*sz+j=(lo+i)*sz+j by rw [Nat.add_mul]];exact(hu (lo+i) j ah hj).1
  .intro i hi;rw [hlen']at hi;rw [hg i hi];exact(hrow (lo+i) ah).1
  .intro i j hi hj;rw [hlen']at hi;unfold gd;rw [hg i hi];exact((hu (lo+i) j ah hj).2).mono' hK
def bW.apO{c c2:Ctx}{w:World}{v:Value}{l l' sz lo n:Nat}(h:bW c w v (.os l sz lo n))(hl':l'<c2.n)(hm':c2.μ l'=c.μ l):bW c2 w v (.os l' sz lo n):=by
 cases h with
 | os0 a _ _ hl hm=>exact .os0 a l' sz hl' (hm'.trans hm)
 | osE a _ _ _ b hl hm=>exact .osE a l' sz lo b hl' (hm'.trans hm)
 | os _ _ _ _ cap b hl hm hn hroom=>exact .os l' sz lo n cap b hl' (hm'.trans hm) hn hroom
def bW.Ya{c c2:Ctx}{w:World}{v:Value}{l l' sz i j:Nat}(h:bW c w v (.ptr l sz i j))(hl':l'<c2.n)(hm':c2.μ l'=c.μ l):bW c2 w v (.ptr l' sz i j):=by
 cases h with | ptr _ _ _ _ b hl hm=>exact .ptr l' sz i j b hl' (hm'.trans hm)
def UJ{m:Nat}{c:Ctx}{w:World}{h':Heap}{h:List aM}(H:bH c w h')(HR:fD h' h){s:Sh}{y:SC}{g:Bool}{x:LV aF}{ls:List Nat}(hk:eU (std m) h s y=some (g,x,ls))
  {v:Value} (hv:WC c w (nmh h) v y) {f:Bool} {K2:Nat->Prop} (hf:f=true->g=true) (hK:∀b,c.K f b->K2 b) (hb:∀l∈ls,∀b,c.μ l=some b->K2 b):dG K2 w v (lvD s x):=by
 have up:∀f',(f=true->f'=true)->∀b,c.K f' b->K2 b:=λf' hff b hb=>hK b (by
  cases f with
  | true=>rw [hff rfl]at hb;exact hb
  | false=>cases f' with
   | true=>exact H.sub b hb
   | false=>exact hb)
 obtain⟨x0,hr,hc⟩:=hv;unfold eU at hk;split at hk
 .rename_i f0 lf;split at hk
  .rename_i e;subst e;cases hk;cases hc with | d hx hff=>
   rename_i f' x1;subst hx;rw [EJ];cases hr with | d _ _ _ hd=>
   cases hs:lf.scalar with
   | true=>exact hd.l8 _ (by rw [iR];exact hs)
   | false=>
    refine hd.mono' (up _ (λh=>(hff ?_).resolve_right (by simp [hs])));have:=hf h;cases lf<;>simp_all [Leaf.flag,Leaf.scalar]
  .cases hk
 .cases hc;split at hk
  .cases hk;cases hr;exact .none _ _ _
  .cases hk
 .rename_i f0 co xs;cases hc with | clip hff=>
  split at hk
  .rename_i e;subst e;cases hk;cases hr with | clip _ a n _ _ hd=>
   exact hd.mono' (up _ λh=>hff (hf h))
  .cases hk
 .rename_i l;cases hc with | own hN=>
  split at hk
  .rename_i f0 co xs hl;split at hk
   .rename_i e;subst e;cases hk;rw [dR hl]at hN;cases hN;obtain⟨o',ho',hO⟩:=HR.old l _ hl;cases hO with | rows hff=>
    have:=UH H ho' (by rw [aR];omega) hr (up _ λh=>hff (hf h)) (hb l (by simp));rw [List.drop_zero,List.take_of_length_le (by rw [aR];exact Nat.le_refl _)]at this;exact this
   .cases hk
  .cases hk
 .cases hk
def mq{c2:Ctx}{w:World}{N2:NM}{v:Value}{f:Bool}{y:Leaf aF}(h:dG (c2.K f) w v (nu y)):WC c2 w N2 v (.d f y):=⟨.d f (nu y),.d f v _ h,.d rfl λh=> .inl h⟩
def Lm{m:Nat}:∀ {ps:List ((Nat×Nat)×(Nat×Nat))} {s s':ES (std m)},ps.foldlM (λs p=>qG (std m) s p.1.1 (some p.2.1)) s=some s'->
  (∀p∈ps,s'.ren[p.1.1]? =some (some (some p.2.1)))/\ELe s s'/\s'.lv=s.lv
 | [],s,s',h=>by cases h;exact⟨λ_ h=>(by simp at h),.refl _,rfl⟩
 | p::ps,s,s',h=>by
  rw [List.foldlM_cons]at h;cases h1:qG (std m) s p.1.1 (some p.2.1)with
  | none=>rw [h1]at h;cases h
  | some s1=>
   rw [h1]at h;obtain⟨q1,q2,q3⟩:=Lm (ps:=ps) h;obtain⟨r1,r2,r3,_⟩:=pQ h1;refine⟨λx hx=> ?_,r2.trans q2,q3.trans r3⟩;cases hx with
   | head=>exact q2.ren _ _ r1
   | tail _ hx=>exact q1 x hx
def ELe.push{m:Nat}(s:ES (std m))(x:LV aF):ELe s (s.push (std m) x):=⟨λ_ _ h=>h,rfl,λ_ h=>h,λ_ h=>h,λ_ _ _=>rfl⟩
def WL{m:Nat}{h:List aM}{c:Co}{y:SC}{g:Bool}{x:LV aF}{ls:List Nat}(hx:eU (std m) h (.rows c) y=some (g,x,ls)):∃xs:List c.den,x= .l c xs:=by
 unfold eU at hx;split at hx
 .rename_i f0 lf;split at hx
  .rename_i e;cases hx;cases lf with
   | rows c' xs=>simp only [iZ,Sh.rows.injEq]at e;subst e;exact⟨xs,rfl⟩
   | _=>simp [iZ]at e
  .cases hx
 .cases hx;exact⟨[],rfl⟩
 .split at hx
  .rename_i e;cases hx;simp only [Sh.rows.injEq]at e;subst e;exact⟨_,rfl⟩
  .cases hx
 .split at hx
  .split at hx
   .rename_i e;cases hx;simp only [Sh.rows.injEq]at e;subst e;exact⟨_,rfl⟩
   .cases hx
  .cases hx
 .cases hx
def UK{m:Nat}{h:List aM}(nm:Nat->Nat){k:SkC}{y:SC}{s s':ES (std m)}(hk:extC (std m) h k y s=some s'):
  ∃new y2,s'.lv=new.reverse++s.lv/\ELe s s'/\(∀rest,XM aF nm k (new++rest)=some (y2,rest))/\
   ∀ {c:Ctx} {w:World} {h':Heap} {e:ES (std m)} {fr:Bool} {c2:Ctx} {N2:NM} {v:Value},bH c w h'->fD h' h->ELe s' e->(∀b∈e.ck,b=true)->Ren e h c nm fr c2 N2->(fr=true->k.fresh=true)->
    WC c w (nmh h) v y->WC c2 w N2 v y2:=by
 cases k with
 | int k=>
  simp only [extC]at hk;split at hk
  .rename_i f k' x;split at hk
   .rename_i e;subst e;cases hk;refine⟨[.i x],.d true (.int k x),rfl,.push _ _,λrest=>rfl,λH HR he hck R hfr hv=> ?_⟩;obtain⟨x0,hr,hc⟩:=hv;obtain⟨g,rfl⟩:=RC.int hc;cases hr with | d _ _ _ hd=>exact mq (hd.l8 _ rfl)
   .cases hk
  .cases hk
 | bool=>
  simp only [extC]at hk;split at hk
  .rename_i f x;cases hk;refine⟨[.b x],.d true (.bool x),rfl,.push _ _,λrest=>rfl,λH HR he hck R hfr hv=> ?_⟩;obtain⟨x0,hr,hc⟩:=hv;obtain⟨g,rfl⟩:=RC.bool hc;cases hr with | d _ _ _ hd=>exact mq (hd.l8 _ rfl)
  .cases hk
 | str=>
  simp only [extC]at hk;split at hk
  .rename_i f x;cases hk;refine⟨[.s x],.d true (.str x),rfl,.push _ _,λrest=>rfl,λH HR he hck R hfr hv=> ?_⟩;obtain⟨x0,hr,hc⟩:=hv;cases hc with | d hx _=>
   subst hx;cases hr with | d _ _ _ hd=>exact mq (y:= .str x) (hd.l8 _ rfl)
  .cases hk
 | rows f c=>
  simp only [extC]at hk;split at hk
  .rename_i l lo n;split at hk
   .rename_i g c' xs hl;split at hk
    .rename_i hcond;cases hk;obtain⟨rfl,hfg⟩:=hcond
     refine⟨[.l c ((((xs:List c.den).take ((lo:Int)+(n:Int)).toNat)).drop ((lo:Int)).toNat)],.d f (.rows c ((((xs:List c.den).take ((lo:Int)+(n:Int)).toNat)).drop ((lo:Int)).toNat)),rfl,
      ⟨λ_ _ h=>h,rfl,λx hx=>List.mem_cons_of_mem _ hx,λx hx=>List.mem_append_right _ hx,λ_ _ _=>rfl⟩,λrest=>rfl,λ{c0 w h' e fr c2 N2 v} H HR he hck R hfr hv=> ?_⟩
     obtain⟨x0,hr,hc⟩:=hv;cases hc with | os hN=>
     rename_i sz lo n mm;rw [dR hl]at hN;cases hN;obtain⟨o',ho',hO⟩:=HR.old l _ hl;cases hO with | rows hff=>
     rename_i f';have apP:∀b∈jS (std m) h (.c (.os l (lo:Int) (n:Int))),b=true:=λb hb=>hck b (he.ck b (List.mem_append_left _ hb))
     simp only [jS,hl]at apP;have h3:(lo:Int)+(n:Int)<=(xs:List c.den).length:=by
      have:=apP (bA .leq ((lo:Int)+(n:Int)) ((xs:List c.den).length:Int)) (by simp);simpa [bA]using this
     have um:f=true\/fr=false:=by
      cases fr with
      | false=>exact .inr rfl
      | true=>exact .inl (hfr rfl)
     have hKf:∀b,c0.K f b->c2.K f b:=λb hb=>by
      cases f with
      | true=>exact R.kt b hb
      | false=>exact R.kf (um.resolve_left (by simp)) b hb
     have hd:=UH H ho' (lo:=lo) (n:=n) (by rw [aR];omega) hr (K2:=c2.K f) (λb hb=>hKf b (by
      cases f with
      | true=>have:=hff (by simpa using hfg);rw [this]at hb;exact hb
      | false=>cases f' with
       | true=>exact R.sub b hb
       | false=>exact hb)) (λb hb=>R.fro l f (he.fro _ (by simp)) um b hb)
     have e1:aL c (((xs:List c.den).take ((lo:Int)+(n:Int)).toNat).drop ((lo:Int)).toNat)=((aL c xs).drop lo).take n:=by
      rw [EK,<-wz]
      congr 2<;>omega
     rw [<-e1]at hd;exact mq (y:= .rows c _) hd
    .cases hk
   .cases hk
  .split at hk
   .rename_i g x ls hx;split at hk
    .rename_i hfg;cases hk;have hxl:=WL hx;obtain⟨xs,rfl⟩:=hxl;refine⟨[.l c xs],.d f (.rows c xs),rfl,⟨λ_ _ h=>h,rfl,λx hx=>List.mem_append_right _ hx,λx hx=>hx,λ_ _ _=>rfl⟩,λrest=>rfl,λ{c0 w h' e fr c2 N2 v} H HR he hck R hfr hv=> ?_⟩;have um:f=true\/fr=false:=by
      cases fr with
      | false=>exact .inr rfl
      | true=>exact .inl (hfr rfl)
     have hKf:∀b,c0.K f b->c2.K f b:=λb hb=>by
      cases f with
      | true=>exact R.kt b hb
      | false=>exact R.kf (um.resolve_left (by simp)) b hb
     exact mq (y:= .rows c xs) (UJ H HR hx hv (λh=>by simpa [h]using hfg) hKf (λl hl b hb=>R.fro l f (he.fro _ (List.mem_append_left _ (List.mem_map.2 ⟨l,hl,rfl⟩))) um b hb))
    .cases hk
   .cases hk
 | nil=>
  simp only [extC]at hk;split at hk
  .cases hk;refine⟨[],.nil,rfl,.refl _,λrest=>rfl,λH HR he hck R hfr hv=> ?_⟩;obtain⟨x0,hr,hc⟩:=hv;cases hc;cases hr;exact⟨.nil,.nil,.nil⟩
  .cases hk
 | own i=>
  simp only [extC]at hk;split at hk
  .rename_i l;split at hk
   .cases hk
   .rename_i htr;obtain⟨r1,r2,r3,r4,r5,r6⟩:=pQ hk;refine⟨[],.own (nm i),by simpa using r3,r2,λrest=>rfl,λH HR he hck R hfr hv=> ?_⟩;obtain⟨x0,hr,hc⟩:=hv;cases hc with | own hN=>
    rename_i sz n;obtain⟨n1,n2⟩:=R.name i l (he.ren _ _ r1);have hn:=R.names i l sz n (he.ren _ _ r1) hN;have ht:qH (std m) s' i=none:=by
     unfold qH;rw [r4];have:s.tr.find? (λx=>x.1==i)=none:=by
      rw [List.find?_eq_none];intro x hx hxi;exact htr (by rw [List.any_eq_true];exact⟨x,hx,hxi⟩)
     rw [this]
    rw [he.tr i _ r1,ht]at hn;exact⟨_,bW.apO hr n1 n2,.own hn⟩
  .obtain⟨r1,r2,r3,r4,r5,r6⟩:=pQ hk;refine⟨[],.own (nm i),by simpa using r3,r2,λrest=>rfl,λH HR he hck R hfr hv=> ?_⟩;obtain⟨x0,hr,hc⟩:=hv;cases hc;cases hr;obtain⟨n1,n2,sz,n3⟩:=R.nil i (he.ren _ _ r1);exact⟨.os (nm i) sz 0 0,.os0 none _ sz n1 n2,.own n3⟩
  .rename_i l lo n;split at hk
   .rename_i f0 c xs hri hl;cases hk;have hil:=(List.getElem?_eq_some_iff.1 hri).1;refine⟨[],.own (nm i),rfl,⟨λj w hj=> ?_,by simp,λ_ h=>h,λx hx=>List.mem_append_right _ hx,λj w hj=> ?_⟩,λrest=>rfl,λ{c0 w h' e fr c2 N2 v} H HR he hck R hfr hv=> ?_⟩
    .have e:i≠j:=λe=>by subst e;rw [hri]at hj;cases hj
     simp only [List.getElem?_set_ne e];exact hj
    .have e:i≠j:=λe=>by subst e;rw [hri]at hj;cases hj
     simp [qH,e]
    .obtain⟨x0,hr,hc⟩:=hv;cases hc with | os hN=>
     rename_i sz lo n mm;have hlo:(lo:Int)=0:=by
      have:=hck (bA .eql (lo:Int) 0) (he.ck _ (by simp));simpa [bA]using this
     have:lo=0:=by omega
     subst this;have r1:=he.ren i (some l) (by simp [hil]);have ht:=he.tr i (some l) (by simp [hil]);obtain⟨n1,n2⟩:=R.name i l r1;have hn:=R.names i l sz mm r1 hN;rw [ht]at hn;have hle:(n:Int)<=(xs:List c.den).length:=by
      have:=hck (bA .leq (n:Int) ((xs:List c.den).length:Int)) (he.ck _ (by simp));simpa [bA]using this
     have hmm:=hN;rw [dR hl]at hmm;cases hmm;simp [qH]at hn;rw [Nat.min_eq_left ah]at hn;exact⟨_,bW.apO hr n1 n2,.own hn⟩
   .cases hk
  .cases hk
 | pb i sz j=>
  simp only [extC]at hk;split at hk
  .rename_i l sz' j';split at hk
   .rename_i hcond;obtain⟨rfl,rfl⟩:=hcond;obtain⟨r1,r2,r3,r4,r5,r6⟩:=pQ hk;refine⟨[],.pb (nm i) sz j,by simpa using r3,r2,λrest=>rfl,λH HR he hck R hfr hv=> ?_⟩;obtain⟨x0,hr,hc⟩:=hv;cases hc;obtain⟨n1,n2⟩:=R.name i l (he.ren _ _ r1);exact⟨_,bW.Ya hr n1 n2,.pb⟩
   .cases hk
  .cases hk
 | pr i j=>
  simp only [extC]at hk;split at hk
  .rename_i l x j';split at hk
   .rename_i hcond;obtain⟨rfl,htr⟩:=hcond;split at hk
    .rename_i s1 hs1;cases hk;obtain⟨r1,r2,r3,r4,r5,r6⟩:=pQ hs1;refine⟨[.i x],.pr (nm i) x j,by simp [ES.push,r3],r2.trans (.push _ _),λrest=>rfl,λH HR he hck R hfr hv=> ?_⟩;obtain⟨x0,hr,hc⟩:=hv;cases hc with | pr hN=>
     rename_i sz i0 mm;have r1':=he.ren i (some l) r1;obtain⟨n1,n2⟩:=R.name i l r1';exact⟨_,bW.Ya hr n1 n2,.pr (R.names i l sz mm r1' hN)⟩
    .cases hk
   .cases hk
  .cases hk
 | rp f c j=>
  simp only [extC]at hk;split at hk
  .rename_i g c' xs x j';split at hk
   .rename_i hcond;cases hk;obtain⟨rfl,rfl,hfg⟩:=hcond;refine⟨[.l c xs,.i x],.rp f c xs x j,rfl,(ELe.push _ _).trans (.push _ _),λrest=>rfl,λ{c0 w h' e fr c2 N2 v} H HR he hck R hfr hv=> ?_⟩;obtain⟨x0,hr,hc⟩:=hv;cases hc with | rp hff hi=>
    rename_i f' i0;have um:f=true\/fr=false:=by
     cases fr with
     | false=>exact .inr rfl
     | true=>exact .inl (hfr rfl)
    have hKf:∀b,c0.K f' b->c2.K f b:=λb hb=>by
     cases f with
     | true=>have:=hff (by simpa using hfg);rw [this]at hb;exact R.kt b hb
     | false=>
      refine R.kf (um.resolve_left (by simp)) b ?_;cases f' with
      | true=>exact R.sub b hb
      | false=>exact hb
    cases hr with | rp _ b off _ _ _ _ u hb h1 h2 h3 h4=>
    exact⟨.rp f c.size (aL c xs) i0 j,.rp f b off _ _ _ _ u (hKf b hb) h1 h2 (λi j hi hj=>(h3 i j hi hj).mono' hKf) h4,.rp (λh=>h) hi⟩
   .cases hk
  .cases hk
 | gp g c=>
  simp only [extC]at hk;split at hk
  .rename_i g' c';split at hk
   .rename_i hcond;cases hk;obtain⟨rfl,rfl⟩:=hcond;refine⟨[],.gp g c,rfl,.refl _,λrest=>rfl,λ{c0 w h' e fr c2 N2 v} H HR he hck R hfr hv=> ?_⟩;obtain⟨x0,hr,hc⟩:=hv;cases hc;have um:fr=false:=by
     cases fr with
     | false=>rfl
     | true=>have:=hfr rfl;simp [SkC.fresh]at this
    cases hr with | rp _ b off _ _ _ _ u hb h1 h2 h3 h4=>
    exact⟨_,.rp false b off _ _ _ _ u (R.kf um b hb) h1 h2 (λi j hi hj=>(h3 i j hi hj).mono' (R.kf um)) h4,.gp⟩
   .cases hk
  .cases hk
 | fn g caps=>
  simp only [extC]at hk;split at hk
  .rename_i g' CJ;split at hk
   .rename_i hcond;obtain⟨rfl,hsz⟩:=hcond;obtain⟨q1,q2,q3⟩:=Lm hk;refine⟨[],.fn g (caps.map λp=>(nm p.1,p.2)),by simpa using q3,q2,λrest=>rfl,λ{c0 w h' e fr c2 N2 v} H HR he hck R hfr hv=> ?_⟩;obtain⟨x0,hr,hc⟩:=hv;cases hc;cases hr with | fn _ vs _ hl hcs=>
    have hlen:caps.length=CJ.length:=by have:=congrArg List.length hsz;simpa using this
    refine⟨.fn g ((caps.map λp=>(nm p.1,p.2)).map λp=> .ptr p.1 p.2 0 0),.fn g vs _ (by simp at hl ⊢;omega) (λi hi=> ?_),.fn⟩;simp at hi;have hi':i<CJ.length:=by omega
    have h1:=hcs i (by simp;exact hi');have hz:(caps.zip CJ)[i]? =some (caps[i],CJ[i]):=by rw [List.getElem?_zip_eq_some];simp [hi,hi']
    have h2:=q1 _ (List.mem_of_getElem? hz);obtain⟨n1,n2⟩:=R.name _ _ (he.ren _ _ h2);have hsz':caps[i].2=CJ[i].2:=by
     have:=congrArg (λl=>l[i]?) hsz;simpa [hi,hi']using this
    simp only [List.getD,List.getElem?_map,List.getElem?_eq_getElem hi',List.getElem?_eq_getElem hi,Option.map_some,Option.getD_some]at h1 ⊢;rw [hsz'];exact bW.Ya h1 n1 n2
   .cases hk
  .cases hk
 | np=>
  simp only [extC]at hk;split at hk
  .cases hk;refine⟨[],.np,rfl,.refl _,λrest=>rfl,λH HR he hck R hfr hv=> ?_⟩;obtain⟨x0,hr,hc⟩:=hv;cases hc;cases hr;exact⟨.np,.np,.np⟩
  .cases hk
 | clip f c=>
  simp only [extC]at hk;split at hk
  .rename_i g c' xs;split at hk
   .rename_i hcond;cases hk;obtain⟨rfl,hfg⟩:=hcond;refine⟨[.l c xs],.clip f c xs,rfl,.push _ _,λrest=>rfl,λ{c0 w h' e fr c2 N2 v} H HR he hck R hfr hv=> ?_⟩;obtain⟨x0,hr,hc⟩:=hv;cases hc with | clip hff=>
    rename_i f';have um:f=true\/fr=false:=by
     cases fr with
     | false=>exact .inr rfl
     | true=>exact .inl (hfr rfl)
    have hKf:∀b,c0.K f' b->c2.K f b:=λb hb=>by
     cases f with
     | true=>have:=hff (by simpa using hfg);rw [this]at hb;exact R.kt b hb
     | false=>
      refine R.kf (um.resolve_left (by simp)) b ?_;cases f' with
      | true=>exact R.sub b hb
      | false=>exact hb
    cases hr with | clip _ a n _ _ hd=>exact⟨.clip f c.size (aL c xs),.clip f a n _ _ (hd.mono' hKf),.clip λh=>h⟩
   .cases hk
  .cases hk
def Lp{m:Nat}{h:List aM}(nm:Nat->Nat):∀ {ks:List SkC} {ys:List SC} {s s':ES (std m)},EB (std m) h ks ys s=some s'->
  ∃new ys2,s'.lv=new.reverse++s.lv/\ELe s s'/\(∀rest,IV aF nm ks (new++rest)=some (ys2,rest))/\
   ∀ {c:Ctx} {w:World} {h':Heap} {e:ES (std m)} {fr:Bool} {c2:Ctx} {N2:NM} {us:List Value},bH c w h'->fD h' h->ELe s' e->(∀b∈e.ck,b=true)->Ren e h c nm fr c2 N2->(fr=true->ks.all SkC.fresh=true)->
    F2 (WC c w (nmh h)) us ys->F2 (WC c2 w N2) us ys2
 | [],[],s,s',hk=>by
  simp only [EB,Option.some.injEq]at hk;subst hk;exact⟨[],[],rfl,.refl _,λrest=>rfl,λ_ _ _ _ _ _ h=>by cases h;exact .nil⟩
 | [],_::_,s,s',hk=>by simp [EB]at hk
 | _::_,[],s,s',hk=>by simp [EB]at hk
 | k::ks,y::ys,s,s',hk=>by
  simp only [EB]at hk;split at hk
  .rename_i s1 h1;obtain⟨new1,y2,a1,a2,a3,a4⟩:=UK nm h1;obtain⟨new2,ys2,b1,b2,b3,b4⟩:=Lp nm hk;refine⟨new1++new2,y2::ys2,by rw [b1,a1];simp,a2.trans b2,λrest=> ?_,λH HR he hck R hfr hu=> ?_⟩
   .simp only [IV,List.append_assoc];rw [a3];simp only;rw [b3]
   .cases hu with | cons u1 u2=>
    exact .cons (a4 H HR (b2.trans he) hck R (λh=>by have:=hfr h;simp at this;exact this.1) u1) (b4 H HR he hck R (λh=>by have:=hfr h;simp at this;simpa using this.2) u2)
  .cases hk
def GY{c c2:Ctx}{w:World}{N N2:NM}{f f':Bool}(hsub:∀b,c.K true b->c.K false b)(hK:∀b,c.K f b->c2.K f b):∀ {ys:List (Leaf aF)} {us:List Value},(f=true->f'=true\/∀y∈ys,y.scalar=true)->
  F2 (WC c w N) us (ys.map (.d f'))->F2 (WC c2 w N2) us (ys.map (.d f))
 | [],us,_,h=>by cases h;exact .nil
 | y::ys,us,hf,h=>by
  cases h with | cons h1 h2=>
  refine .cons ?_ (GY hsub hK (λh=>(hf h).imp id λq y hy=>q y (List.mem_cons_of_mem _ hy)) h2);obtain⟨x,hr,hc⟩:=h1;cases hc with | d hx hff=>
  rename_i g0 x0;subst hx;cases hr with | d _ _ _ hd=>
  cases hs:y.scalar with
  | true=>exact mq (hd.l8 _ (by rw [iR];exact hs))
  | false=>
   refine mq (hd.mono' λb hb=>hK b ?_);cases f with
   | false=>cases g0 with
    | true=>exact hsub b hb
    | false=>exact hb
   | true=>
    rcases hf rfl with h | h
    .have:=(hff h).resolve_right (by simp [hs]);rw [this]at hb;exact hb
    .have:=h y (by simp);simp [hs]at this
def EM{c2:Ctx}{w:World}{N2:NM}{f:Bool}:∀ {ys:List (Leaf aF)} {us:List Value},F2 (dG (c2.K f) w) us (ys.map nu)->F2 (WC c2 w N2) us (ys.map (.d f))
 | [],us,h=>by cases h;exact .nil
 | y::ys,us,h=>by cases h with | cons h1 h2=>exact .cons (mq h1) (EM h2)
def rQ{m:Nat}{c:Ctx}{w:World}{h':Heap}{h:List aM}(H:bH c w h')(HR:fD h' h){f:Bool}{K2:Nat->Prop}(hK:∀b,c.K f b->K2 b):
  ∀ {ss:List Sh} {ys:List SC} {us:List Value} {g:Bool} {vs:List (LV aF)} {ls:List Nat},aP (std m) h ss ys=some (g,vs,ls)->F2 (WC c w (nmh h)) us ys->(f=true->g=true)->(∀l∈ls,∀b,c.μ l=some b->K2 b)->
   F2 (dG K2 w) us (List.zipWith lvD ss vs)
 | [],[],us,g,vs,ls,hk,hu,hf,hb=>by simp [aP]at hk;obtain⟨_,rfl,_⟩:=hk;cases hu;exact .nil
 | [],_::_,_,_,_,_,hk,_,_,_=>by simp [aP]at hk
 | _::_,[],_,_,_,_,hk,_,_,_=>by simp [aP]at hk
 | s::ss,y::ys,us,g,vs,ls,hk,hu,hf,hb=>by
  cases hu with | cons h1 h2=>
  unfold aP at hk;split at hk
  .rename_i f1 v1 l1 hv1;split at hk
   .rename_i g2 vs2 ls2 hv2;split at hk<;>cases hk
    refine .cons (UJ H HR hv1 h1 (λh=> ?_) hK λl hl=>hb l (List.mem_append_left _ hl)) (rQ H HR hK hv2 h2 (λh=> ?_) λl hl=>hb l (List.mem_append_right _ hl))
    .have:=hf h;simp at this;exact this.1
    .have:=hf h;simp at this;exact this.2
   .cases hk
  .cases hk
def Lr{m:Nat}{c c2:Ctx}{w:World}{h':Heap}{h:List aM}{N2:NM}(H:bH c w h')(HR:fD h' h){f:Bool}(hK:∀b,c.K f b->c2.K f b){co:Co}{q:SVal}{g:Bool}{x:co.den}{ls:List Nat}
  (hk:toX (std m) h co q=some (g,x,ls)) {us:List Value} (hu:F2 (WC c w (nmh h)) us (cellsS q)) (hf:f=true->g=true) (hb:∀l∈ls,∀b,c.μ l=some b->c2.K f b):F2 (WC c2 w N2) us (cellsS (.sv f co x)):=by
 unfold toX at hk;split at hk
 .rename_i f' c' x';split at hk
  .rename_i e;subst e;cases hk;refine GY H.sub hK (λh=> ?_) hu;have:=hf h;rcases Bool.or_eq_true _ _▸this with h | h
   .exact .inl h
   .exact .inr (jH c' h x')
  .cases hk
 .cases hk
 .split at hk
  .rename_i f1 ys ls1 h1;split at hk
   .rename_i t ht;cases hk;rw [dh]at h1;have:=rQ H HR hK h1 hu hf hb;rw [zN co t ht,<-kI 0 co]at this;exact EM this
   .cases hk
  .cases hk
def nZ:SVal->Bool | .tup _=>true | _=>false
theorem UL{m:Nat}{h:List aM}(nm:Nat->Nat){k:SkV}{q:SVal}{s s':ES (std m)}(hk:Gn (std m) h k q s=some s'):
  nZ q=false/\∃new q2,s'.lv=new.reverse++s.lv/\ELe s s'/\(∀rest,zH aF nm k (new++rest)=some (q2,rest))/\nZ q2=false/\bF (std 0) q2=bF (std 0) q/\
   ∀ {c:Ctx} {w:World} {h':Heap} {e:ES (std m)} {fr:Bool} {c2:Ctx} {N2:NM} {us:List Value},bH c w h'->fD h' h->ELe s' e->(∀b∈e.ck,b=true)->Ren e h c nm fr c2 N2->(fr=true->k.fresh=true)->
    F2 (WC c w (nmh h)) us (cellsS q)->F2 (WC c2 w N2) us (cellsS q2):=by
 cases k with
 | c k=>
  simp only [Gn]at hk;split at hk
  .rename_i x;obtain⟨new,y2,a1,a2,a3,a4⟩:=UK nm hk;refine⟨rfl,new,.c y2,a1,a2,λrest=>by simp only [zH];rw [a3],rfl,rfl,λH HR he hck R hfr hu=> ?_⟩;cases hu with | cons h1 h2=>cases h2;exact .cons (a4 H HR he hck R hfr h1) .nil
  .cases hk
 | agg ks=>
  simp only [Gn]at hk;split at hk
  .rename_i hst;rw [dh]at hk;obtain⟨new,y2,a1,a2,a3,a4⟩:=Lp nm hk;refine⟨by cases q<;>simp_all [bF,nZ],new,.agg y2,a1,a2,λrest=>by simp only [zH];rw [a3],rfl,by rw [nY m]at hst;rw [hst];rfl,λH HR he hck R hfr hu=>a4 H HR he hck R hfr hu⟩
  .cases hk
 | sv f co=>
  simp only [Gn]at hk;split at hk
  .rename_i hst;split at hk
   .rename_i g x ls hx;split at hk
    .rename_i hfg;cases hk;refine⟨by cases q<;>simp_all [bF,nZ],[.x co x],.sv f co x,rfl,⟨λ_ _ h=>h,rfl,λx hx=>List.mem_append_right _ hx,λx hx=>hx,λ_ _ _=>rfl⟩,λrest=>rfl,rfl,by rw [nY m]at hst;rw [hst];rfl,λ{c w h' e fr c2 N2 us} H HR he hck R hfr hu=> ?_⟩;by_cases Ls:co.flat=true
     ·
      have h1:F2 (WC {c2 with K:=λg b=>c2.K g b\/c.K g b\/∃l∈ls,c.μ l=some b} w N2) us (cellsS (.sv f co x)):=Lr H HR (λb hb=>Or.inr (Or.inl hb)) hx hu (λh=>by simpa [h]using hfg) (λl hl b hb=>Or.inr (Or.inr ⟨l,hl,hb⟩));have hsc:=jH co Ls x;have hcs:cellsS (.sv f co x)=(fK (std 0) co x 0 co.fields).map (.d f):=rfl;rw [hcs]at h1 ⊢
      clear hu hx hcs hfr hfg
      generalize fK (std 0) co x 0 co.fields=lv at h1 hsc
      induction lv generalizing us with
      | nil=>cases h1;exact .nil
      | cons y lv ih=>
       cases h1 with | cons q1 q2=>
       refine .cons ?_ (ih q2 λy hy=>hsc y (List.mem_cons_of_mem _ hy));obtain⟨x0,hr,hc⟩:=q1;cases hc with | d hx0 _=>
       subst hx0;cases hr with | d _ _ _ hd=>exact mq (hd.l8 _ (by rw [iR];exact hsc y (by simp)))
     .have um:f=true\/fr=false:=by
       cases fr with
       | false=>exact .inr rfl
       | true=>have:=hfr rfl;simp only [SkV.fresh,Bool.or_eq_true]at this;exact .inl (this.resolve_right Ls)
      have hKf:∀b,c.K f b->c2.K f b:=λb hb=>by
       cases f with
       | true=>exact R.kt b hb
       | false=>exact R.kf (um.resolve_left (by simp)) b hb
      exact Lr H HR hKf hx hu (λh=>by simpa [h]using hfg) (λl hl b hb=>R.fro l f (he.fro _ (List.mem_append_left _ (List.mem_map.2 ⟨l,hl,rfl⟩))) um b hb)
    .cases hk
   .cases hk
  .cases hk
def WV(c:Ctx)(w:World)(N:NM)(u:Value)(q:SVal):Prop:=∃p,bG c w u p/\PVR N p q
def F2.wc{c:Ctx}{w:World}{N:NM}{us:List Value}{cs:List Cell}{ys:List SC}(h1:F2 (bW c w) us cs)(h2:F2 (RC N) cs ys):F2 (WC c w N) us ys:=by
 induction h1 generalizing ys with
 | nil=>cases h2;exact .nil
 | cons a _ ih=>cases h2 with | cons b h2=>exact .cons ⟨_,a,b⟩ (ih h2)
def F2.apQ{c:Ctx}{w:World}{N:NM}{us:List Value}{ys:List SC}(h:F2 (WC c w N) us ys):∃cs,F2 (bW c w) us cs/\F2 (RC N) cs ys:=by
 induction h with
 | nil=>exact⟨[],.nil,.nil⟩
 | cons h1 _ ih=>
  obtain⟨x,a,b⟩:=h1;obtain⟨cs,q1,q2⟩:=ih;exact⟨x::cs,.cons a q1,.cons b q2⟩
def WV.conv{c c2:Ctx}{w:World}{N N2:NM}{u:Value}{q q2:SVal}(h:WV c w N u q)(ht:nZ q=false)(ht2:nZ q2=false)(hs:bF (std 0) q2=bF (std 0) q)
  (hc:∀us,F2 (WC c w N) us (cellsS q)->F2 (WC c2 w N2) us (cellsS q2)):WV c2 w N2 u q2:=by
 obtain⟨p,hr,hp⟩:=h;cases hp with
 | tup _=>simp [nZ]at ht
 | one hp=>
  cases hp with
  | c hx=>
   cases hr with | c _ _ hr=>
   have:=hc [u] (.cons ⟨_,hr,hx⟩ .nil);cases q2 with
   | c y=>cases this with | cons h1 _=>obtain⟨x,a,b⟩:=h1;exact⟨.c x,.c _ _ a,.ofC b⟩
   | agg _=>simp [bF]at hs
   | sv _ _ _=>simp [bF]at hs
   | tup _=>simp [nZ]at ht2
  | agg hst hF=>
   cases hr with | agg us _ hr=>
   obtain⟨cs,a,b⟩:=F2.apQ (hc us (F2.wc hr hF));exact⟨.agg cs,.agg _ _ a,.one (.agg (by rw [hs];exact hst) b)⟩
def uo{m:Nat}{h:List aM}(nm:Nat->Nat):∀ {ks:List SkV} {qs:List SVal} {s s':ES (std m)},nW (std m) h ks qs s=some s'->
  ∃new qs2,s'.lv=new.reverse++s.lv/\ELe s s'/\(∀rest,qJ aF nm ks (new++rest)=some (qs2,rest))/\
   ∀ {c:Ctx} {w:World} {h':Heap} {e:ES (std m)} {fr:Bool} {c2:Ctx} {N2:NM} {us:List Value},bH c w h'->fD h' h->ELe s' e->(∀b∈e.ck,b=true)->Ren e h c nm fr c2 N2->(fr=true->ks.all SkV.fresh=true)->
    F2 (WV c w (nmh h)) us qs->F2 (WV c2 w N2) us qs2
 | [],[],s,s',hk=>by
  simp only [nW,Option.some.injEq]at hk;subst hk;exact⟨[],[],rfl,.refl _,λrest=>rfl,λ_ _ _ _ _ _ h=>by cases h;exact .nil⟩
 | [],_::_,s,s',hk=>by simp [nW]at hk
 | _::_,[],s,s',hk=>by simp [nW]at hk
 | k::ks,y::ys,s,s',hk=>by
  simp only [nW]at hk;split at hk
  .rename_i s1 h1;obtain⟨ht,new1,y2,a1,a2,a3,t2,st2,a4⟩:=UL nm h1;obtain⟨new2,ys2,b1,b2,b3,b4⟩:=uo nm hk;refine⟨new1++new2,y2::ys2,by rw [b1,a1];simp,a2.trans b2,λrest=> ?_,λH HR he hck R hfr hu=> ?_⟩
   .simp only [qJ,List.append_assoc];rw [a3];simp only;rw [b3]
   .cases hu with | cons u1 u2=>
    refine .cons (u1.conv ht t2 st2 λus hus=>a4 H HR (b2.trans he) hck R (λh=> ?_) hus) (b4 H HR he hck R (λh=> ?_) u2)
    .have:=hfr h;simp at this;exact this.1
    .have:=hfr h;simp at this;simpa using this.2
  .cases hk
structure OF{m:Nat}(e:ES (std m))(h:List aM)(nm:Nat->Nat)(i:Nat)(k:SkO)(old o2:aM):Prop where
 s1:∀(l sz n:Nat),k≠ .gone->e.ren[i]? =some (some (some l))->nmh h l=some (sz,n)->nmh [o2] 0=some (sz,match qH (std m) e i with | some k=>min (k:Int).toNat n | none=>n)
 s2:k≠ .gone->e.ren[i]? =some (some none)->∃sz,nmh [o2] 0=some (sz,0)
 gone:k= .gone->o2=old
 live:k≠ .gone->∃v,e.ren[i]? =some (some v)
 ng:k≠ .gone->¬Gone [o2] 0
 rel:∀ {c:Ctx} {w:World} {h':Heap} {fr:Bool} {c2:Ctx} {N2:NM},bH c w h'->fD h' h->(∀b∈e.ck,b=true)->Ren e h c nm fr c2 N2->(fr=true->k.fresh=true)->
  ∃o2',OR N2 o2' o2/\iP c2 w (nm i) o2'/\(k= .gone->o2'= .gone)/\(∀l,k≠ .gone->e.ren[i]? =some (some (some l))->∃o',AE.look h' l=some o'/\o'.live)
def bX.pre{K:Nat->Prop}{w:World}{cells:Array Value}{sz n:Nat}{es:List (List D)}(h:bX K w cells sz es):bX K w cells sz (es.take n):=λi hi=>by
 simp at hi;have e:(es.take n).getD i []=es.getD i []:=by simp only [List.getD];rw [List.getElem?_take_of_lt ah]
 refine⟨by rw [e];exact(h i ah).1,λj hj=> ?_⟩;obtain⟨v,hv,hd⟩:=(h i ah).2 j hj;exact⟨v,hv,by unfold gd;rw [e];exact hd⟩
def Yb{c:Co}(hf:c.flat=true)(x:c.den):∀d∈c.row x,d.l8=true:=by
 intro d hd;rw [<-kI 0]at hd;obtain⟨y,hy,rfl⟩:=List.mem_map.1 hd;rw [iR];exact jH c hf x y hy
def bX.flat{K K2:Nat->Prop}{w:World}{cells:Array Value}{c:Co}(hf:c.flat=true){xs:List c.den}(h:bX K w cells c.size (aL c xs)):bX K2 w cells c.size (aL c xs):=λi hi=>by
 refine⟨(h i hi).1,λj hj=> ?_⟩;obtain⟨v,hv,hd⟩:=(h i hi).2 j hj;refine⟨v,hv,hd.l8 _ ?_⟩;have hi':i<xs.length:=by simpa [aL]using hi
 unfold gd aL;have e:(xs.map c.row).getD i []=c.row xs[i]:=by simp [List.getD,hi']
 rw [e];have hl:j< (c.row xs[i]).length:=by rw [wu];exact hj
 have:(c.row xs[i]).getD j default=(c.row xs[i])[j]:=by simp [List.getD,hl]
 rw [this];exact Yb hf _ _ (List.getElem_mem hl)
def UM{m:Nat}{h:List aM}(nm:Nat->Nat){i:Nat}{k:SkO}{s s':ES (std m)}(hk:NA (std m) h i k s=some s')(old:aM)(hold:Gone [old] 0):
  ∃new o2,s'.lv=new.reverse++s.lv/\ELe s s'/\(∀rest,XO aF nm old k (new++rest)=some (o2,rest))/\∀e,ELe s' e->OF e h nm i k old o2:=by
 cases k with
 | gone=>
  have:s'=s:=by
   unfold NA at hk;simpa using hk.symm
  subst this;obtain⟨c,n,ho⟩:=hold;simp at ho;subst ho;exact⟨[],_,rfl,.refl _,λrest=>rfl,λe he=>⟨λ_ _ _ h=>absurd rfl h,λh=>absurd rfl h,λ_=>rfl,λh=>absurd rfl h,λh=>absurd rfl h,λ_ _ _ _ _=>⟨.gone,.gone,trivial,λ_=>rfl,λ_ h=>absurd rfl h⟩⟩⟩
 | box k=>
  rcases hr:s.ren[i]? with _ | _ | _ | l<;>simp only [NA,hr,reduceCtorEq]at hk
  ·
   split at hk
   .rename_i v hl;obtain⟨ht,new,q2,a1,a2,a3,t2,st2,a4⟩:=UL nm hk;refine⟨new,.box q2,a1,a2,λrest=>by simp only [XO];rw [a3],λe he=> ?_⟩;have hre:=he.ren i _ (a2.ren i _ hr);refine⟨λl' sz n _ h1 h2=> ?_,λ_ h1=> ?_,λh=>(by cases h),λ_=>⟨_,hre⟩,λ_ ⟨c,n,hg⟩=>by simp at hg,λ{c w h' fr c2 N2} H HR hck R hfr=> ?_⟩
    .rw [hre]at h1;cases h1;simp [nmh,hl]at h2
    .rw [hre]at h1;cases h1
    .obtain⟨o',ho',hO⟩:=HR.old l _ hl;cases hO with | box hF=>
     obtain⟨b,vs,E,hm,hb,hrc⟩:=(H.obj l _ ho').2;obtain⟨cs2,q1,q2'⟩:=F2.apQ (a4 H HR he hck R (λh=>hfr h) (F2.wc hrc hF));obtain⟨n1,n2⟩:=R.name i l hre;exact⟨.box cs2,.box q2',⟨b,vs,E,n2.trans hm,hb,q1⟩,λh=>(by cases h),λl' _ h1=>by rw [hre]at h1;cases h1;exact⟨_,ho',trivial⟩⟩
   .cases hk
 | rows f c=>
  rcases hr:s.ren[i]? with _ | _ | _ | l<;>simp only [NA,hr,reduceCtorEq]at hk
  .cases hk;refine⟨[.l c []],.rows f c [],rfl,.push _ _,λrest=>rfl,λe he=> ?_⟩;have hre:=he.ren i _ (by exact hr);refine⟨λl' sz n _ h1 h2=> ?_,λ_ h1=>⟨c.size,by simp [nmh]⟩,λh=>(by cases h),λ_=>⟨_,hre⟩,λ_ ⟨c,n,hg⟩=>by simp at hg,λ{c0 w h' fr c2 N2} H HR hck R hfr=> ?_⟩
   .rw [hre]at h1;cases h1
   .obtain⟨n1,n2,_⟩:=R.nil i hre;refine⟨.rows f c.size (aL c []),.rows λh=>h,?_,λh=>(by cases h),λl' _ h1=>by rw [hre]at h1;cases h1⟩;simp only [iP];rw [n2];rfl
  ·
   split at hk
   .rename_i g c' xs hl;split at hk
    .rename_i hcond;obtain⟨rfl,hfg⟩:=hcond;obtain⟨xs2,hx2,hn2,hpre⟩:∃xs2:List c.den,(match qH (std m) s i with | some n=>(std m).sub c xs ((std m).lit 0) n | none=>xs)=xs2/\xs2.length=(match qH (std m) s i with | some k=>min (k:Int).toNat (xs:List c.den).length | none=>(xs:List c.den).length)/\∃q,xs2=(xs:List c.den).take q:=by
      cases qH (std m) s i with
      | none=>exact⟨xs,rfl,rfl,(xs:List c.den).length,by simp⟩
      | some n=>exact⟨(xs:List c.den).take (n:Int).toNat,by simp,by simp,_,rfl⟩
     have hs':s'=s.push (std m) (.l c xs2):=by rw [<-hx2,(Option.some.inj hk).symm];cases qH (std m) s i<;>rfl
     subst hs';refine⟨[.l c xs2],.rows f c xs2,rfl,.push _ _,λrest=>rfl,λe he=> ?_⟩;have hre:=he.ren i _ (by exact hr);have htr:qH (std m) e i=qH (std m) s i:=he.tr i _ hr;refine⟨λl' sz n _ h1 h2=> ?_,λ_ h1=> ?_,λh=>(by cases h),λ_=>⟨_,hre⟩,λ_ ⟨c,n,hg⟩=>by simp at hg,λ{c0 w h' fr c2 N2} H HR hck R hfr=> ?_⟩
     .rw [hre]at h1;cases h1;rw [dR hl]at h2;cases h2;rw [htr];simp only [nmh,List.getElem?_cons_zero];rw [hn2]
     .rw [hre]at h1;cases h1
     .obtain⟨o',ho',hO⟩:=HR.old l _ hl;cases hO with | rows hff=>
      rename_i g';have hro:=(H.obj l _ ho').2;obtain⟨n1,n2⟩:=R.name i l hre;refine⟨.rows f c.size (aL c xs2),.rows λh=>h,?_,λh=>(by cases h),λl' _ h1=>by rw [hre]at h1;cases h1;exact⟨_,ho',trivial⟩⟩;obtain⟨q,hq⟩:=hpre;have hq':aL c xs2=(aL c xs).take q:=by rw [hq];simp [aL,List.map_take]
      simp only [iP]at hro ⊢;rw [n2];cases hm:c0.μ l with
      | none=>rw [hm]at hro;simp only at hro ⊢;rw [hq',hro];simp
      | some b=>
       rw [hm]at hro;obtain⟨cells,E,hb,hrow⟩:=hro;refine⟨cells,E,hb,?_⟩;by_cases Ls:c.flat=true
       .rw [hq'];refine bX.pre ?_;exact bX.flat Ls hrow
       .have hfg:f=true->g=true:=λh=>by simpa [h,Ls]using hfg
        rw [hq'];refine bX.pre (hrow.mono (λb hb=> ?_) λ_ _=>rfl);cases f with
        | true=>have:=hff (hfg rfl);rw [this]at hb;exact R.kt b hb
        | false=>
         have um:fr=false:=by
          cases fr with
          | false=>rfl
          | true=>have:=hfr rfl;simp [SkO.fresh]at this
         refine R.kf um b ?_;cases g' with
         | true=>exact R.sub b hb
         | false=>exact hb
    .cases hk
   .cases hk
def pR{m:Nat}{h:List aM}(nm:Nat->Nat)(old:Nat->aM)(hold:∀j,Gone [old j] 0):∀ {ks:List SkO} {i:Nat} {s s':ES (std m)},zG (std m) h i ks s=some s'->
  ∃new os2,s'.lv=new.reverse++s.lv/\ELe s s'/\(∀rest,qK aF nm old i ks (new++rest)=some (os2,rest))/\os2.length=ks.length/\
   ∀e,ELe s' e->∀(j:Nat) (k:SkO),ks[j]? =some k->∃o2,os2[j]? =some o2/\OF e h nm (i+j) k (old (i+j)) o2
 | [],i,s,s',hk=>by
  simp only [zG,Option.some.injEq]at hk;subst hk;exact⟨[],[],rfl,.refl _,λrest=>rfl,rfl,λe he j k hj=>by simp at hj⟩
 | k::ks,i,s,s',hk=>by
  simp only [zG]at hk;split at hk
  .rename_i s1 h1;obtain⟨new1,o2,a1,a2,a3,a4⟩:=UM nm h1 (old i) (hold i);obtain⟨new2,os2,b1,b2,b3,b4,b5⟩:=pR nm old hold hk;refine⟨new1++new2,o2::os2,by rw [b1,a1];simp,a2.trans b2,λrest=> ?_,by simp [b4],λe he j k' hj=> ?_⟩
   .simp only [qK,List.append_assoc];rw [a3];simp only;rw [b3]
   .cases j with
    | zero=>simp at hj;subst hj;exact⟨o2,rfl,a4 e (b2.trans he)⟩
    | succ j=>
     obtain⟨o3,q1,q2⟩:=b5 e he j k' (by simpa using hj);exact⟨o3,by simpa using q1,by rw [show i+(j+1)=i+1+j by omega];exact q2⟩
  .cases hk
def zO:∀ {r:List (Option (Option Nat))},distinct (bI r)=true->∀ {i j l:Nat},r[i]? =some (some (some l))->r[j]? =some (some (some l))->i=j
 | [],_,i,j,l,h,_=>by simp at h
 | x::r,hd,i,j,l,hi,hj=>by
  have mem:∀ {r:List (Option (Option Nat))} {i l:Nat},r[i]? =some (some (some l))->l∈bI r:=by
   intro r
   induction r with
   | nil=>intro i l h;simp at h
   | cons x r ih=>
    intro i l h;cases i with
    | zero=>simp at h;subst h;simp [bI]
    | succ i=>
     have:=ih (by simpa using h)
     match x with
     | some (some y)=>simp [bI,this]
     | some none=>simpa [bI]using this
     | none=>simpa [bI]using this
  have hr:distinct (bI r)=true:=by
   match x with
   | some (some y)=>simp [bI,distinct]at hd;exact hd.2
   | some none=>simpa [bI]using hd
   | none=>simpa [bI]using hd
  cases i with
  | zero=>
   cases j with
   | zero=>rfl
   | succ j=>
    simp at hi;subst hi;have:=mem (i:=j) (l:=l) (r:=r) (by simpa using hj);simp [bI,distinct]at hd;exact absurd this hd.1
  | succ i=>
   cases j with
   | zero=>
    simp at hj;subst hj;have:=mem (i:=i) (l:=l) (r:=r) (by simpa using hi);simp [bI,distinct]at hd;exact absurd this hd.1
   | succ j=>
    have:=zO hr (i:=i) (j:=j) (l:=l) (by simpa using hi) (by simpa using hj);omega
def pU:∀ {r:List (Option (Option Nat))} {i l:Nat},r[i]? =some (some (some l))->l∈bI r
 | [],i,l,h=>by simp at h
 | x::r,i,l,h=>by
  cases i with
  | zero=>simp at h;subst h;simp [bI]
  | succ i=>
   have:=pU (r:=r) (i:=i) (l:=l) (by simpa using h)
   match x with
   | some (some y)=>simp [bI,this]
   | some none=>simpa [bI]using this
   | none=>simpa [bI]using this
def wD:∀ {r:List (Option (Option Nat))} {l:Nat},l∈bI r->∃i:Nat,r[i]? =some (some (some l))
 | [],l,h=>by simp [bI]at h
 | x::r,l,h=>by
  have up:l∈bI r->∃i:Nat,(x::r)[i]? =some (some (some l)):=λh=>let⟨i,hi⟩:=wD h;⟨i+1,by simpa using hi⟩
  match x with
  | some (some y)=>
   simp only [bI,List.mem_cons]at h;rcases h with rfl | h
   .exact⟨0,rfl⟩
   .exact up h
  | some none=>exact up (by simpa [bI]using h)
  | none=>exact up (by simpa [bI]using h)
def CP:∀ {os:List SkO} {r:List (Option (Option Nat))},pJ os r=true->∀ {i:Nat} {v:Option Nat},r[i]? =some (some v)->os[i]? ≠some .gone
 | [],_,_,i,v,_=>by simp
 | o::os,[],_,i,v,h=>by simp at h
 | o::os,x::r,hg,i,v,h=>by
  have ht:pJ os r=true:=by
   cases o<;>cases x<;>simp_all [pJ]
  cases i with
  | zero=>
   simp at h;subst h;cases o with
   | gone=>simp [pJ]at hg
   | _=>simp
  | succ i=>simpa using CP ht (i:=i) (v:=v) (by simpa using h)
structure apR{m:Nat}(h:List aM)(e:ES (std m))(os:List SkO):Prop where
 dist:∀ {i j l:Nat},e.ren[i]? =some (some (some l))->e.ren[j]? =some (some (some l))->i=j
 fro:∀l f,(l,f)∈e.fro->(∀i:Nat,e.ren[i]? ≠some (some (some l)))/\∃g c xs,h[l]? =some (.rows g c xs)
 gone:∀ {i:Nat} {v:Option Nat},e.ren[i]? =some (some v)->os[i]? ≠some .gone
def I5{m:Nat}{h:List aM}{e:ES (std m)}{os:List SkO}(hf:ES.fine (std m) h e os=true):apR h e os:=by
 unfold ES.fine at hf;simp only [Bool.and_eq_true]at hf;obtain⟨⟨h1,h2⟩,h3⟩:=hf;refine⟨zO h1,λl f hl=> ?_,CP h3⟩;have:=List.all_eq_true.1 h2 _ hl;simp only [Bool.and_eq_true,Bool.not_eq_true']at this;refine⟨λi hi=> ?_,?_⟩
 .have hm:=pU hi;have:=this.1;simp [hm]at this
 .have h4:=this.2;unfold XL at h4;split at h4
  .rename_i g c xs hh;exact⟨g,c,xs,hh⟩
  .cases h4
def KX{m:Nat}(e:ES (std m))(ce:Ctx)(fr:Bool)(f:Bool)(b:Nat):Prop:=ce.K (f || fr) b\/∃l g,(l,g)∈e.fro/\ce.μ l=some b/\((f || fr)=true->g=true)
def rR(nm:Nat->Nat)(f:Nat->fJ):List Nat->Heap->Heap
 | [],h=>h
 | i::r,h=>(nm i,f i)::rR nm f r h
def Lu{nm:Nat->Nat}{f:Nat->fJ}{l:Nat}:∀ {is:List Nat} {h:Heap},(∀i∈is,nm i≠l)->AE.look (rR nm f is h) l=AE.look h l
 | [],_,_=>rfl
 | i::r,h,hn=>by simp only [rR];rw [aA _ _ (hn i (by simp))];exact Lu λj hj=>hn j (List.mem_cons_of_mem _ hj)
def Lv{nm:Nat->Nat}{f:Nat->fJ}(P:Nat->Prop)(hinj:∀i j,P i->P j->nm i=nm j->i=j):∀ {is:List Nat} {h:Heap},(∀i∈is,P i)->∀i∈is,AE.look (rR nm f is h) (nm i)=some (f i)
 | [],_,_,i,hi=>by simp at hi
 | j::r,h,hp,i,hi=>by
  simp only [rR];by_cases e:nm j=nm i
  .rw [e,aK];rw [hinj j i (hp j (by simp)) (hp i hi) e]
  .rw [aA _ _ e];cases hi with
   | head=>exact absurd rfl e
   | tail _ hi=>exact Lv P hinj (λj hj=>hp j (List.mem_cons_of_mem _ hj)) i hi
def yR{m:Nat}{w:World}{ce:Ctx}{he':Heap}{he:List aM}(He:bH ce w he')(HRe:fD he' he){e:ES (std m)}(hck:∀b∈e.ck,b=true){ks:List SkO}(iW:apR he e ks)(hrl:e.ren.length=ks.length)
  {nm:Nat->Nat} {old:Nat->aM} {os2:List aM} (hlen:os2.length=ks.length) (hof:∀(j:Nat) (k:SkO),ks[j]? =some k->∃o2,os2[j]? =some o2/\OF e he nm j k (old j) o2)
  {cb:Ctx} {hb':Heap} (Hb:bH cb w hb') (fr:Bool) (hfresh:fr=true->ks.all SkO.fresh=true)
  {μ2:Nat->Option Nat} {n2:Nat} (hn2:cb.n<=n2) (hμ:∀l,l<cb.n->μ2 l=cb.μ l) (hlt:∀i,i<ks.length->nm i<n2) (hinj:∀i j,i<ks.length->j<ks.length->nm i=nm j->i=j)
  (hname:∀(i l:Nat),e.ren[i]? =some (some (some l))->μ2 (nm i)=ce.μ l) (hnil:∀(i:Nat),e.ren[i]? =some (some none)->μ2 (nm i)=none)
  {h2:List aM} (hget:∀i,i<ks.length->h2[nm i]? =os2[i]?) (hbR:∀l o,(∀i,i<ks.length->nm i≠l)->h2[l]? =some o->∃o',AE.look hb' l=some o'/\OR (nmh h2) o' o) (hbN:∀l,h2.length<=l->AE.look hb' l=none)
  (sep:∀b,eH cb hb' b->eH ce he' b->False) (at6:∀f b,cb.K f b->eH ce he' b->False) (aj4:∀f b,eH cb hb' b->KX e ce fr f b->False):
  ∃(o':Nat->fJ),let c2:Ctx:={K:=λf b=>cb.K f b\/KX e ce fr f b,μ:=μ2,n:=n2};let h2':Heap:=rR nm o' (List.range ks.length) hb'
   bH c2 w h2'/\fD h2' h2/\Ren e he ce nm fr c2 (nmh h2)/\(∀b,eH c2 h2' b->eH cb hb' b\/∃(i lq:Nat) (q:fJ),e.ren[i]? =some (some (some lq))/\AE.look he' lq=some q/\q.live/\ce.μ lq=some b)/\CLe cb c2/\(∀l,(∀i,i<ks.length->nm i≠l)->AE.look h2' l=AE.look hb' l):=by
 have apS:∀(i:Nat) (o2:aM),i<ks.length->os2[i]? =some o2->nmh h2 (nm i)=nmh [o2] 0:=λi o2 hi ho=>by
  simp only [nmh,hget i hi,ho,List.getElem?_cons_zero]
 have hib:∀(i:Nat) (v:Option (Option Nat)),e.ren[i]? =some v->i<ks.length:=λi v h=>by rw [<-hrl];exact(List.getElem?_eq_some_iff.1 h).1
 have hks:∀i,i<ks.length->∃k,ks[i]? =some k:=λi hi=>⟨ks[i],List.getElem?_eq_getElem hi⟩
 have R:Ren e he ce nm fr {K:=λf b=>cb.K f b\/KX e ce fr f b,μ:=μ2,n:=n2} (nmh h2):={
  kt:=λb hb=> .inr (.inl (by simpa using hb))
  kf:=λhf b hb=> .inr (.inl (by subst hf;simpa using hb))
  sub:=He.sub
  apN:=λb hb=>by
   rcases hb with hb | hb | ⟨l,g,h1,h2,h3⟩
   .exact .inl (Hb.sub b hb)
   .refine .inr (.inl ?_);cases fr with
    | true=>simpa using hb
    | false=>exact He.sub b (by simpa using hb)
   .exact .inr (.inr ⟨l,g,h1,h2,λ_=>h3 (by simp)⟩)
  fro:=λl f hl hf b hb=> .inr (.inr ⟨l,f,hl,hb,λh=>by
   rcases hf with h1 | h1
   .exact h1
   .subst h1;simpa using h⟩)
  name:=λi l hi=>⟨hlt i (hib i _ hi),hname i l hi⟩
  names:=λi l sz n hi hl=>by
   have hi':=hib i _ hi;obtain⟨k,hk⟩:=hks i hi';obtain⟨o2,q1,q2⟩:=hof i k hk;rw [apS i o2 hi' q1];exact q2.s1 l sz n (λe=>iW.gone hi (by rw [hk,e])) hi hl
  nil:=λi hi=>by
   have hi':=hib i _ hi;obtain⟨k,hk⟩:=hks i hi';obtain⟨o2,q1,q2⟩:=hof i k hk;obtain⟨sz,hs⟩:=q2.s2 (λe=>iW.gone hi (by rw [hk,e])) hi;exact⟨hlt i hi',hnil i hi,sz,by rw [apS i o2 hi' q1];exact hs⟩}
 have hex:∀i,∃o',∀k,ks[i]? =some k->∃o2,os2[i]? =some o2/\OR (nmh h2) o' o2/\iP {K:=λf b=>cb.K f b\/KX e ce fr f b,μ:=μ2,n:=n2} w (nm i) o'/\
   (o'.live->k≠ .gone/\∃v,e.ren[i]? =some (some v)/\∀l,v=some l->∃q,AE.look he' l=some q/\q.live):=by
  intro i;cases hk:ks[i]? with
  | none=>exact⟨.gone,λk h=>by cases h⟩
  | some k=>
   obtain⟨o2,q1,q2⟩:=hof i k hk;obtain⟨o',r1,r2,r3,r4⟩:=q2.rel He HRe hck R (λh=>List.all_eq_true.1 (hfresh h) k (List.mem_of_getElem? hk));refine⟨o',λk' h=> ?_⟩;cases h;refine⟨o2,q1,r1,r2,λhl=> ?_⟩;have hng:k≠ .gone:=λe=>by rw [r3 e]at hl;exact hl
   obtain⟨v,hv⟩:=q2.live hng;exact⟨hng,v,hv,λl e=>r4 l hng (by rw [hv,e])⟩
 obtain⟨o',afO⟩:=Classical.axiomOfChoice hex;refine⟨o',?_⟩;have EN:∀i,i<ks.length->AE.look (rR nm o' (List.range ks.length) hb') (nm i)=some (o' i):=λi hi=>
  Lv (λi=>i<ks.length) hinj (λi hi=>List.mem_range.1 hi) i (List.mem_range.2 hi)
 have uw:∀l,(∀i,i<ks.length->nm i≠l)->AE.look (rR nm o' (List.range ks.length) hb') l=AE.look hb' l:=λl hl=>Lu λi hi=>hl i (List.mem_range.1 hi)
 have cle:CLe cb {K:=λf b=>cb.K f b\/KX e ce fr f b,μ:=μ2,n:=n2}:=⟨λf b h=> .inl h,hn2,hμ⟩;have hlow:∀f b,KX e ce fr f b->b<w.heap.size:=by
  rintro f b (h | ⟨l,g,h1,h2,h3⟩)
  .exact He.low _ b h
  .obtain⟨_,g',c,xs,hl⟩:=iW.fro l g h1;obtain⟨q,hq,hO⟩:=HRe.old l _ hl;cases hO with | rows _=>
   exact(He.obj l _ hq).2.lt trivial h2
 have kind:∀l o,AE.look (rR nm o' (List.range ks.length) hb') l=some o->o.live->∀b,μ2 l=some b->
   (∃i q lq,i<ks.length/\nm i=l/\e.ren[i]? =some (some (some lq))/\AE.look he' lq=some q/\q.live/\ce.μ lq=some b)\/((∀i,i<ks.length->nm i≠l)/\AE.look hb' l=some o/\cb.μ l=some b):=by
  intro l o hl hlv b hb;by_cases hx:∃i,i<ks.length/\nm i=l
  .obtain⟨i,hi,rfl⟩:=hx;rw [EN i hi]at hl;cases hl;obtain⟨k,hk⟩:=hks i hi;obtain⟨o2,q1,q2,q3,q4⟩:=afO i k hk;obtain⟨hng,v,hv,hq⟩:=q4 hlv;cases v with
   | none=>rw [hnil i hv]at hb;cases hb
   | some lq=>
    obtain⟨q,hq1,hq2⟩:=hq lq rfl;exact .inl ⟨i,q,lq,hi,rfl,hv,hq1,hq2,by rw [<-hname i lq hv];exact hb⟩
  .have hx':∀i,i<ks.length->nm i≠l:=λi hi h=>hx ⟨i,hi,h⟩
   rw [uw l hx']at hl;exact .inr ⟨hx',hl,by rw [<-hμ l (Hb.obj l o hl).1];exact hb⟩
 refine⟨?_,?_,R,?_,cle,uw⟩
 .refine⟨λl o hl=> ?_,λl o l' o1 b h1 hl1 h2 hl2 hb1 hb2=> ?_,?_,?_,λb hb=>R.apN b hb⟩
  .by_cases hx:∃i,i<ks.length/\nm i=l
   .obtain⟨i,hi,rfl⟩:=hx;rw [EN i hi]at hl;cases hl;obtain⟨k,hk⟩:=hks i hi;obtain⟨o2,q1,q2,q3,q4⟩:=afO i k hk;exact⟨hlt i hi,q3⟩
   .rw [uw l (λi hi h=>hx ⟨i,hi,h⟩)]at hl;obtain⟨a1,a2⟩:=Hb.obj l o hl;exact⟨Nat.lt_of_lt_of_le a1 hn2,a2.mono cle (λ_ _ _=>rfl) (.refl w) a1 (λ_ _ _=>rfl)⟩
  .rcases kind l o h1 hl1 b hb1 with⟨i,q,lq,hi,rfl,hr,hq,hqv,hm⟩ | ⟨hx,hq,hm⟩
   .rcases kind l' o1 h2 hl2 b hb2 with⟨j,q',lq',hj,rfl,hr',hq',aj5,hm'⟩ | ⟨hx',hq',hm'⟩
    .have:=He.inj lq q lq' q' b hq hqv hq' aj5 hm hm';subst this;rw [iW.dist hr hr']
    .exact(sep b ⟨l',o1,hq',hl2,hm'⟩ ⟨lq,q,hq,hqv,hm⟩).elim
   .rcases kind l' o1 h2 hl2 b hb2 with⟨j,q',lq',hj,rfl,hr',hq',aj5,hm'⟩ | ⟨hx',hq',hm'⟩
    .exact(sep b ⟨l,o,hq,hl1,hm⟩ ⟨lq',q',hq',aj5,hm'⟩).elim
    .exact Hb.inj l o l' o1 b hq hl1 hq' hl2 hm hm'
  .rintro f b ⟨l,o,hl,hlv,hb⟩ hk;rcases kind l o hl hlv b hb with⟨i,q,lq,hi,rfl,hr,hq,hqv,hm⟩ | ⟨hx,hq,hm⟩
   .rcases hk with hk | hk | ⟨l2,g,k1,k2,k3⟩
    .exact at6 f b hk ⟨lq,q,hq,hqv,hm⟩
    .exact He.own _ b ⟨lq,q,hq,hqv,hm⟩ hk
    .obtain⟨hnn,g',c,xs,hl2⟩:=iW.fro l2 g k1;obtain⟨q',hq',hO⟩:=HRe.old l2 _ hl2;cases hO with | rows _=>
     have:=He.inj lq q l2 _ b hq hqv hq' trivial hm k2;subst this;exact hnn i hr
   .rcases hk with hk | hk
    .exact Hb.own f b ⟨l,o,hq,hlv,hm⟩ hk
    .exact aj4 f b ⟨l,o,hq,hlv,hm⟩ hk
  .rintro f b (hk | hk)
   .exact Hb.low f b hk
   .exact hlow f b hk
 .refine⟨λl o hl=> ?_,λl hl=> ?_⟩
  .by_cases hx:∃i,i<ks.length/\nm i=l
   .obtain⟨i,hi,rfl⟩:=hx;obtain⟨k,hk⟩:=hks i hi;obtain⟨o2,q1,q2,q3,q4⟩:=afO i k hk;rw [hget i hi,q1]at hl;cases hl;exact⟨o' i,EN i hi,q2⟩
   .have hx':∀i,i<ks.length->nm i≠l:=λi hi h=>hx ⟨i,hi,h⟩
    obtain⟨q,a1,a2⟩:=hbR l o hx' hl;exact⟨q,by rw [uw l hx'];exact a1,a2⟩
  .have hx':∀i,i<ks.length->nm i≠l:=λi hi h=>by
    obtain⟨k,hk⟩:=hks i hi;obtain⟨o2,q1,_⟩:=afO i k hk;have:=hget i hi;rw [q1,h]at this;have:=(List.getElem?_eq_some_iff.1 this).1;omega
   rw [uw l hx'];exact hbN l hl
 .rintro b ⟨l,o,hl,hlv,hb⟩;rcases kind l o hl hlv b hb with⟨i,q,lq,hi,rfl,hr,hq,hqv,hm⟩ | ⟨hx,hq,hm⟩
  .exact .inr ⟨i,lq,q,hr,hq,hqv,hm⟩
  .exact .inl ⟨l,o,hq,hlv,hm⟩
def dB{s:Sig}(ct:Ct aF s):Trans:=λargs h' nn K=>∃(m:Nat) (vs:List SVal) (h:List aM),F2 (PVR (nmh h)) args vs/\fD h' h/\h.length=nn/\
 ∃cr,qL (std m) h s ct vs=some cr/\(∀b∈cr.ck,b=true)/\∃v k,cr.k cr.y=some (v,k)/\
  ∀r h'' j,PVR (nmh k) r v->fD h'' k->iD h' h h'' k cr.touched->k.length=nm nn j->K r h'' j
def jT(C:Calls aF):mU:=λf=>match C f with | []=>none | l=>some λargs h n K=>∃ct∈l,dB ct.2 args h n K
def Mu{m:Nat}(T:(PV->Heap->Nat->Prop)->Prop)(n:Nat)(h':Heap)(h:List aM)(cr:CR (std m)):Prop:=
 ∃v k,cr.k cr.y=some (v,k)/\(cr.pure=true->k=h/\cr.touched=[])/\
  ∀K,(∀pv h'' j,PVR (nmh k) pv v->fD h'' k->iD h' h h'' k cr.touched->k.length=nm n j->K pv h'' j)->T K
def NK(E:Tab)(G:mU)(op:Op)(t:Slots)(s:St)(K:PV->Heap->Nat->Prop):Prop:=
 match iF op with
 | 1=>gL E op t s.h s.n s.k K
 | _=>tK E G op {s with t:=t} K
def Mu.apT{m:Nat}{T:(PV->Heap->Nat->Prop)->Prop}{n:Nat}{h':Heap}{h:List aM}{cr:CR (std m)}{v:SVal}{k:List aM}{td:List Nat}(H:Hv2 T n h' h v k td)(h1:cr.k cr.y=some (v,k))(h2:cr.touched=td)(h3:cr.pure=false):Mu T n h' h cr:=by
 obtain⟨pv,h'',j,q1,q2,q3,q4,q5⟩:=H;exact⟨v,k,h1,λh=>(by rw [h3]at h;cases h),λK hK=>q5 K (hK pv h'' j q1 q2 (by rw [h2];exact q3) q4)⟩
def UN{X:XT}{E:Tab}(hX:XOK X E){n:Nat}{N:NM}{t:Slots}{e:Nat->Option SVal}(he:EvR X E n N t e):∀ {xs:List Operand} {vs:List SVal},Lc (std n) X e xs=some vs->
  ∃ps,F2 (PVR N) ps vs/\∀K,K ps->GA E t xs K
 | [],vs,h=>by simp only [Lc,Option.some.injEq]at h;subst h;exact⟨[],.nil,λK hK=>hK⟩
 | x::r,vs,h=>by
  simp only [Lc]at h;split at h
  .rename_i v hv;split at h
   .rename_i vs' hvs;cases h;obtain⟨pv,p1,p2⟩:=dF hX he hv;obtain⟨ps,q1,q2⟩:=UN hX he hvs;exact⟨pv::ps,.cons p2 q1,λK hK=>by unfold GA;rw [p1];exact q2 _ hK⟩
   .cases h
  .cases h
def zP{m:Nat}{h:List aM}{vs:List SVal}{cr:CR (std m)}:∀ {l:List (Sigma (Ct aF))},zJ (std m) h vs l=some cr->∃ct∈l,qL (std m) h ct.1 ct.2 vs=some cr
 | [],hk=>by simp [zJ]at hk
 | ⟨s,ct⟩::r,hk=>by
  simp only [zJ]at hk;split at hk
  .rename_i x hx;cases hk;exact⟨⟨s,ct⟩,by simp,hx⟩
  .obtain⟨ct',h1,h2⟩:=zP hk;exact⟨ct',List.mem_cons_of_mem _ h1,h2⟩
def Yc{m:Nat}{h:List aM}{s:Sig}{ct:Ct aF s}{vs:List SVal}{cr:CR (std m)}(hk:qL (std m) h s ct vs=some cr):cr.pure=true->(∀v k,cr.k cr.y=some (v,k)->k=h)/\cr.touched=[]:=by
 unfold qL at hk;split at hk
 .rename_i e1 he1;split at hk
  .rename_i e he;split at hk
   .split at hk
    .rename_i x hx;simp only [Option.some.injEq]at hk;subst hk;intro hp;simp only [Bool.and_eq_true,List.isEmpty_iff,Bool.or_eq_true]at hp;obtain⟨⟨ho,ho'⟩,hbr⟩:=hp;have at7:e.ren=[]:=by
      obtain⟨_,_,_,l1,_⟩:=uo (m:=m) (λi=>i) he1;obtain⟨_,_,_,l2,_⟩:=pR (m:=m) (λi=>i) (λ_=> .gone .i64 0) (λ_=>⟨.i64,0,rfl⟩) he;have:=l2.len.trans l1.len;simp [es0,ho]at this;exact this
     refine⟨λv k hvk=> ?_,?_⟩
     .simp only [ho']at hvk;split at hvk
      .rename_i vs' r hvs;simp only [qK,List.length_nil]at hvk;simp only [Option.some.injEq,Prod.mk.injEq]at hvk;obtain⟨_,rfl⟩:=hvk;have:∀(h:List aM) (l:List Nat),gY (std m) h l []=h:=λh l=>by cases l<;>rfl
       rw [this];split
       .rfl
       .rename_i hnb;rcases hbr with hb | hb
        .exact absurd (by rw [Bool.and_eq_true];exact hb) hnb
        .rw [hb];rfl
      .cases hvk
     .simp only [at7,bI,List.nil_append];split
      .rfl
      .rename_i hnb;rcases hbr with hb | hb
       .exact absurd (by rw [Bool.and_eq_true];exact hb) hnb
       .rw [hb];rfl
    .cases hk
   .cases hk
  .cases hk
 .cases hk
def Yd{X:XT}{E:Tab}(hX:XOK X E){C:Calls aF}{m:Nat}{s:St}{h:List aM}(H:fD s.h h)(hn:h.length=nm s.n s.k){t:Slots}{e:Nat->Option SVal}(he:EvR X E m (nmh h) t e){op:Op}
  {cr:CR (std m)} (hk:Uz (std m) X C e h op=some cr) (hps:∀b∈cr.ck,b=true) (hsome:∃v k,cr.k cr.y=some (v,k)):Mu (λK=>tK E (jT C) op {s with t:=t} K) s.n s.h h cr:=by
 unfold Uz at hk;split at hk
 .rename_i c;split at hk
  .rename_i f hf;split at hk
   .rename_i g caps vs hfv hvs;obtain⟨pf,p1,p2⟩:=dF hX he hfv;obtain⟨x,rfl,hc⟩:=p2.cell;cases hc;obtain⟨ps,q1,q2⟩:=UN hX he hvs;obtain⟨⟨sg,ct⟩,hct,hcr⟩:=zP hk;obtain⟨v,k,hvk⟩:=hsome;refine⟨v,k,hvk,λhp=> ?_,λK hK=> ?_⟩
    .obtain⟨a,b⟩:=Yc hcr hp;exact⟨a v k hvk,b⟩
    .unfold tK;simp only;rw [hf];simp only;unfold ag2;simp only;rw [p1];refine q2 _ ?_;have htab:jT C g=some λargs h n K=>∃ct∈C g,dB ct.2 args h n K:=by
      unfold jT;split
      .rename_i hnil;rw [hnil]at hct;cases hct
      .rfl
     rw [htab];refine⟨_,hct,m,vs++caps.map λp=> .c (.pb p.1 p.2 0),h,?_,H,hn,cr,hcr,hps,v,k,hvk,λr h'' j a1 a2 a3 a4=>hK r h'' _ a1 a2 a3 (by rw [a4,Xq])⟩;refine q1.append ?_
     clear hvs hk hcr hfv p1 p2
     induction caps with
     | nil=>exact .nil
     | cons p caps ih=>exact .cons (.ofC .pb) ih
   .cases hk
  .cases hk
 .cases hk
def Bv{X:XT}{E:Tab}(hX:XOK X E){C:Calls aF}{m:Nat}{s:St}{h:List aM}(H:fD s.h h)(hn:h.length=nm s.n s.k){t:Slots}{e:Nat->Option SVal}(he:EvR X E m (nmh h) t e){op:Op}
  {cr:CR (std m)} (hk:WA (std m) X C e h op=some cr) (hps:∀b∈cr.ck,b=true) (hsome:∃v k,cr.k cr.y=some (v,k)):Mu (NK E (jT C) op t s) s.n s.h h cr:=by
 unfold WA at hk;by_cases hcl:iF op=1
 .have hT:NK E (jT C) op t s=gL E op t s.h s.n s.k:=by
   funext K;unfold NK;split
   .rfl
   .rename_i h1;exact absurd hcl h1
  rw [hT]
  clear hT
  split at hk
  case h_2=>rename_i h1;exact absurd hcl h1
  clear hcl
  split at hk
  .rename_i ty p x _;split at hk
   .rename_i pv v hpv hv;split at hk
    .rename_i r hr;have key:∀cr':CR (std m),cr'.ck=r.chk->cr'.k cr'.y=some (r.v,r.h)->cr'.touched=r.touched->cr'.pure=false->cr'=cr->Mu (gL E (.store ty p x) t s.h s.n s.k) s.n s.h h cr:=by
      intro cr' e1 e2 e3 e4 e5;subst e5;have hheap:EA (std m) X e h (.store ty p x)=some r:=by simp only [EA,hpv,hv];exact hr
      exact .apT (I4 hX H hn he hheap (by rw [<-e1];exact hps)) e2 e3 e4
     split at hk
     .cases hk;exact key _ rfl (by simp only;rw [hr]) rfl rfl rfl
     .cases hk;exact key _ rfl (by simp only;rw [hr]) rfl rfl rfl
     .cases hk;exact key _ rfl (by simp only;rw [hr]) rfl rfl rfl
     .cases hk;exact key _ rfl (by simp only;rw [hr]) rfl rfl rfl
     .cases hk;exact key _ rfl rfl rfl rfl rfl
    .cases hk
   .cases hk
  .split at hk
   .rename_i r hr;have key:∀cr':CR (std m),cr'.ck=r.chk->cr'.k cr'.y=some (r.v,r.h)->cr'.touched=r.touched->cr'.pure=false->cr'=cr->Mu (gL E op t s.h s.n s.k) s.n s.h h cr:=by
     intro cr' e1 e2 e3 e4 e5;subst e5;exact .apT (I4 hX H hn he hr (by rw [<-e1];exact hps)) e2 e3 e4
    split at hk
    .rename_i l hrv;split at hk
     .rename_i f c xs hl;cases hk;refine key _ rfl ?_ rfl rfl rfl;simp only;have:r.h.set l (.rows f c xs)=r.h:=by
       apply List.ext_getElem?;intro i;rw [List.getElem?_set];split
       .rename_i e1;subst e1;rw [hl];split
        .rfl
        .rename_i hh;exact absurd (List.getElem?_eq_some_iff.1 hl).1 hh
       .rfl
      rw [this]
     .cases hk
    .cases hk;exact key _ rfl rfl rfl rfl rfl
   .cases hk
 .have hT:NK E (jT C) op t s=λK=>tK E (jT C) op {s with t:=t} K:=by
   funext K;unfold NK;split
   .rename_i h1;exact absurd h1 hcl
   .rfl
  have hk:Uz (std m) X C e h op=some cr:=by
   revert hk;split
   .rename_i h1;exact absurd h1 hcl
   .exact id
  obtain⟨a,b,c,d,e⟩:=Yd hX H hn he hk hps hsome;rw [hT];exact⟨a,b,c,d,e⟩
section
variable {n:Nat}
def zQ(gs:List (GE (std n)))(t':Slots)(N:NM)(i:Nat)(sv:SV (std n)):Prop:=match sv.tag with
 | none=>∃pv,aX t' i=some pv/\PVR N pv sv.v
 | some t=>∃e,gs[t]? =some e/\(e.g=true->∃pv,aX t' i=some pv/\PVR N pv sv.v)/\(e.g=false->aX t' i=some nN)
structure GOK(gs:List (GE (std n)))(t':Slots)(e:GE (std n)):Prop where
 yes:∀d,e.slot=some d->e.g=true->∃f,aX t' d=some (.c (.d f (.bool e.want)))
 no:∀d,e.slot=some d->e.g=false->(∃f,aX t' d=some (.c (.d f (.bool (!e.want)))))\/aX t' d=some nN
 dead:e.dead=true->e.g=false
 par:∀p,e.par=some p->∃q,gs[p]? =some q/\(e.g=true->q.g=true)
structure SR(s':St)(s:RSt (std n)):Prop where
 heap:fD s'.h s.h
 len:s.h.length=nm s'.n s'.k
 m:s'.m=s.m
 val:∀i sv,dD (std n) s.t i=some sv->zQ s.gs s'.t (nmh s.h) i sv
 gs:∀(t:Nat) (e:GE (std n)),s.gs[t]? =some e->GOK s.gs s'.t e
def Keep(k:Nat)(h0 h:List aM):Prop:=∀i,i<k->(Gone h0 i->Gone h i)/\∀x,nmh h0 i=some x->Gone h i\/nmh h i=some x
theorem Keep.refl(k:Nat)(h:List aM):Keep k h h:=λ_ _=>⟨id,λ_ h=> .inr h⟩
theorem Keep.trans{k:Nat}{a b c:List aM}(x:Keep k a b)(y:Keep k b c):Keep k a c:=λi hi=>
 ⟨λh=>(y i hi).1 ((x i hi).1 h),λv hv=>((x i hi).2 v hv).elim (λh=> .inl ((y i hi).1 h)) λh=>(y i hi).2 v h⟩
theorem iD.Lx{a' b':Heap}{a b:List aM}{td:List Nat}(x:iD a' a b' b td)(k:Nat):Keep k a b:=λi _=>⟨x.gone i,λv hv=> .inr (x.same i v hv)⟩
theorem nC{d i:Nat}{sv:SV (std n)}{t:List (Nat×SV (std n))}:dD (std n) ((d,sv)::t) i=if d=i then some sv else dD (std n) t i:=by
 simp only [dD,beq_iff_eq]
theorem zQ.mono{gs gs2:List (GE (std n))}{t' t2:Slots}{N M:NM}{i:Nat}{sv:SV (std n)}(h:zQ gs t' N i sv)(hg:∀(t:Nat) (e:GE (std n)),gs[t]? =some e->∃e2,gs2[t]? =some e2/\e2.g=e.g)(hl:aX t2 i=aX t' i)(hN:∀l x,N l=some x->M l=some x):zQ gs2 t2 M i sv:=by
 unfold zQ at h ⊢;cases hs:sv.tag with
 | none=>
  rw [hs]at h;simp only at h ⊢;obtain⟨pv,h1,h2⟩:=h;exact⟨pv,by rw [hl];exact h1,h2.mono hN⟩
 | some t=>
  rw [hs]at h;simp only at h ⊢;obtain⟨e,h1,h2,h3⟩:=h;obtain⟨e2,h4,h5⟩:=hg t e h1;refine⟨e2,h4,λh=> ?_,λh=>by rw [hl];exact h3 (h5▸h)⟩;obtain⟨pv,q1,q2⟩:=h2 (h5▸h);exact⟨pv,by rw [hl];exact q1,q2.mono hN⟩
theorem kW(d:Nat)(e:GE (std n)):(lS (std n) d e).g=e.g:=by unfold lS;split<;>(try split)<;>rfl
theorem qN{d:Nat}{e:GE (std n)}{x:Nat}(h:(lS (std n) d e).slot=some x):e.slot=some x/\x≠d:=by
 unfold lS at h;split at h
 .rename_i y hy;split at h
  .cases h
  .rename_i hne;rw [hy]at h;cases h;exact⟨hy,by simpa using hne⟩
 .rename_i hn;rw [hn]at h;cases h
theorem iL(d:Nat)(e:GE (std n)):(lS (std n) d e).want=e.want/\(lS (std n) d e).par=e.par/\(lS (std n) d e).dead=e.dead:=by unfold lS;split<;>(try split)<;>exact⟨rfl,rfl,rfl⟩
theorem SR.put{s':St}{s:RSt (std n)}(S:SR s' s){d:Option Nat}{tag:Option Nat}{v:SVal}{ov:Option PV}
  (hv:match tag with
   | none=>∃pv,ov=some pv/\PVR (nmh s.h) pv v
   | some t=>∃e,s.gs[t]? =some e/\(e.g=true->∃pv,ov=some pv/\PVR (nmh s.h) pv v)/\(e.g=false->ov=some nN)):SR (s'.put d ov) (s.put (std n) d tag v):=by
 cases d with
 | none=>exact S
 | some d=>
  have hg:∀(t:Nat) (e:GE (std n)),s.gs[t]? =some e->∃e2,(s.gs.map (lS (std n) d))[t]? =some e2/\e2.g=e.g:=λt e h=>⟨lS (std n) d e,by simp [h],kW d e⟩
  refine⟨S.heap,S.len,S.m,λi sv hi=> ?_,λt e he=> ?_⟩
  .simp only [RSt.put]at hi;rw [nC]at hi;split at hi
   .rename_i e;subst e;cases hi;unfold zQ;cases tag with
    | none=>
     obtain⟨pv,h1,h2⟩:=hv;exact⟨pv,by simp only [St.put,gM,if_pos rfl];exact h1,h2⟩
    | some t=>
     obtain⟨e,h1,h2,h3⟩:=hv;obtain⟨e2,h4,h5⟩:=hg t e h1;refine⟨e2,h4,λh=> ?_,λh=> ?_⟩
     .obtain⟨pv,q1,q2⟩:=h2 (h5▸h);exact⟨pv,by simp only [St.put,gM,if_pos rfl];exact q1,q2⟩
     .simp only [St.put,gM,if_pos rfl];exact h3 (h5▸h)
   .rename_i e;exact(S.val i sv hi).mono hg (by simp only [St.put,gM,if_neg e]) (λ_ _ h=>h)
  .simp only [RSt.put,List.getElem?_map,Option.map_eq_some_iff]at he;obtain⟨e0,h0,rfl⟩:=he;have G:=S.gs t e0 h0;have hl:∀x,x≠d->aX (St.put s' (some d) ov).t x=aX s'.t x:=λx hx=>by simp only [St.put,gM,if_neg (Ne.symm hx)]
   refine⟨λx hx hgt=> ?_,λx hx hgf=> ?_,λhd=> ?_,λp hp=> ?_⟩
   .obtain⟨a,b⟩:=qN hx;rw [hl x b,(iL d e0).1];exact G.yes x a (by rw [<-kW d e0];exact hgt)
   .obtain⟨a,b⟩:=qN hx;rw [hl x b,(iL d e0).1];exact G.no x a (by rw [<-kW d e0];exact hgf)
   .rw [kW];exact G.dead (by rw [<-(iL d e0).2.2];exact hd)
   .obtain⟨q,h1,h2⟩:=G.par p (by rw [<-(iL d e0).2.1];exact hp);refine⟨lS (std n) d q,by simp [RSt.put,h1],λh=> ?_⟩;rw [kW]at h ⊢;exact h2 h
theorem qO{d i:Nat}:∀ {t:List (Nat×SV (std n))} {sv:SV (std n)},dD (std n) (t.filter λp=> !(p.1==d)) i=some sv->i≠d/\dD (std n) t i=some sv
 | [],_,h=>by cases h
 | (j,x)::r,sv,h=>by
  by_cases c:j=d
  .subst c;rw [List.filter_cons_of_neg (by simp)]at h;obtain⟨h1,h2⟩:=qO h;refine⟨h1,?_⟩;rw [nC,if_neg (Ne.symm h1)];exact h2
  .rw [List.filter_cons_of_pos (by simpa using c),nC]at h;rw [nC];split at h
   .rename_i e;rw [if_pos e];exact⟨λe2=>c (e.trans e2),h⟩
   .rename_i e;rw [if_neg e];exact qO h
theorem SR.del{s':St}{s:RSt (std n)}(S:SR s' s){d:Option Nat}:SR (s'.put d none) (s.del (std n) d):=by
 cases d with
 | none=>exact S
 | some d=>
  have hg:∀(t:Nat) (e:GE (std n)),s.gs[t]? =some e->∃e2,(s.gs.map (lS (std n) d))[t]? =some e2/\e2.g=e.g:=λt e h=>⟨lS (std n) d e,by simp [h],kW d e⟩
  refine⟨S.heap,S.len,S.m,λi sv hi=> ?_,λt e he=> ?_⟩
  .simp only [RSt.del]at hi;obtain⟨e,hi⟩:=qO hi;exact(S.val i sv hi).mono hg (by simp only [St.put,gM,if_neg (Ne.symm e)]) (λ_ _ h=>h)
  .simp only [RSt.del,List.getElem?_map,Option.map_eq_some_iff]at he;obtain⟨e0,h0,rfl⟩:=he;have G:=S.gs t e0 h0;have hl:∀x,x≠d->aX (St.put s' (some d) none).t x=aX s'.t x:=λx hx=>by simp only [St.put,gM,if_neg (Ne.symm hx)]
   refine⟨λx hx hgt=> ?_,λx hx hgf=> ?_,λhd=> ?_,λp hp=> ?_⟩
   .obtain⟨a,b⟩:=qN hx;rw [hl x b,(iL d e0).1];exact G.yes x a (by rw [<-kW d e0];exact hgt)
   .obtain⟨a,b⟩:=qN hx;rw [hl x b,(iL d e0).1];exact G.no x a (by rw [<-kW d e0];exact hgf)
   .rw [kW];exact G.dead (by rw [<-(iL d e0).2.2];exact hd)
   .obtain⟨q,h1,h2⟩:=G.par p (by rw [<-(iL d e0).2.1];exact hp);refine⟨lS (std n) d q,by simp [RSt.del,h1],λh=> ?_⟩;rw [kW]at h ⊢;exact h2 h
theorem apU{s:RSt (std n)}{d:Option Nat}:(s.del (std n) d).h=s.h/\(s.del (std n) d).m=s.m:=by cases d<;>exact⟨rfl,rfl⟩
theorem SR.yT{s':St}{s:RSt (std n)}(S:SR s' s){h'':Heap}{k:List aM}{j:Nat}(hs:Same s.h k)(hR:fD h'' k)(hl:k.length=nm s'.n j):SR {s' with h:=h'',k:=j} {s with h:=k}:=
 ⟨hR,hl,S.m,λi sv hi=>(S.val i sv hi).mono (λ_ e h=>⟨e,h,rfl⟩) rfl hs,S.gs⟩
theorem EO:∀ {gs:List (GE (std n))} {d:Nat} {w:Bool} {i t:Nat},wY (std n) gs d w i=some t->∃e,i<=t/\gs[t-i]? =some e/\e.slot=some d/\e.want=w
 | [],_,_,_,_,h=>by simp [wY]at h
 | e::r,d,w,i,t,h=>by
  simp only [wY]at h;split at h
  .rename_i hc;cases h;simp only [Bool.and_eq_true,beq_iff_eq]at hc;exact⟨e,Nat.le_refl _,by simp,hc.1,hc.2⟩
  .obtain⟨e',h1,h2,h3⟩:=EO h;refine⟨e',ah,?_,h3⟩;rw [show t-i=t- (i+1)+1 by omega];simpa using h2
theorem LA{gs:List (GE (std n))}{d:Nat}{w:Bool}{t:Nat}(h:wY (std n) gs d w 0=some t):∃e,gs[t]? =some e/\e.slot=some d/\e.want=w:=by
 obtain⟨e,_,h2,h3⟩:=EO h;exact⟨e,by simpa using h2,h3⟩
theorem og{gs:List (GE (std n))}{t':Slots}(hg:∀(t:Nat) (e:GE (std n)),gs[t]? =some e->GOK gs t' e):∀ {f:Nat} {o:Option Nat},(∀t,o=some t->∃e,gs[t]? =some e/\e.g=true)->∀t∈NC (std n) gs f o,∃e,gs[t]? =some e/\e.g=true
 | 0,_,_,t,ht=>by simp [NC]at ht
 | _+1,none,_,t,ht=>by simp [NC]at ht
 | f+1,some x,h,t,ht=>by
  simp only [NC,List.mem_cons]at ht;rcases ht with rfl | ht
  .exact h t rfl
  .obtain⟨e,h1,h2⟩:=h x rfl;rw [h1]at ht;refine og hg (o:=e.par) (λp hp=> ?_) t ht;obtain⟨q,q1,q2⟩:=(hg x e h1).par p hp;exact⟨q,q1,q2 h2⟩
theorem pV{X:XT}{E:Tab}{gs:List (GE (std n))}{t' tt:Slots}{N:NM}{lk:Nat->Option (SV (std n))}(htt:∀d,(lk d).isSome->aX tt d=aX t' d)(hv:∀i sv,lk i=some sv->zQ gs t' N i sv){al:List Nat}(hal:∀t∈al,∃e,gs[t]? =some e/\e.g=true):
  EvR X E n N tt (gI (std n) lk al):=by
 intro i v hi;unfold gI at hi;split at hi
 .rename_i v' hl;cases hi;rw [htt i (by rw [hl];rfl)];exact hv i _ hl
 .rename_i t v' hl;split at hi
  .rename_i hc;cases hi;obtain⟨e,h1,h2⟩:=hal t (by simpa using hc);obtain⟨e',h3,h4,_⟩:=hv i _ hl;rw [h1]at h3;cases h3;rw [htt i (by rw [hl];rfl)];exact h4 h2
  .cases hi
 .cases hi
theorem fU{ρ:Type}{Q:ρ->Prop}:∀ {ps:List Bool} {mm:(ρ->Prop)->Prop},gJ (std n) ps mm Q->(∀b∈ps,b=true)/\mm Q
 | [],mm,h=>⟨λ_ h=>by simp at h,h⟩
 | b::ps,mm,h=>by
  obtain⟨hb,h⟩:b=true/\gJ (std n) ps mm Q:=h;obtain⟨h1,h2⟩:=fU (ps:=ps) h;exact⟨λx hx=>by cases hx with | head=>exact hb | tail _ hx=>exact h1 x hx,h2⟩
theorem zR{g:Bool}{ps:List Bool}(h:∀b∈under (std n) g ps,b=true)(hg:g=true):∀b∈ps,b=true:=λb hb=>by
 have:=h (!g || b) (List.mem_map.2 ⟨b,hb,rfl⟩);simpa [hg]using this
theorem Dx{ρ:Type}(op:Op)(v:SVal)(K:SVal->(ρ->Prop)->Prop):UA (std n) op v K=K v:=by
 unfold UA;split
 .split<;>rfl
 .rfl
theorem Bw{ρ:Type}{cr:CR (std n)}{K:SVal->List aM->(ρ->Prop)->Prop}{Q:ρ->Prop}(h:rM (std n) cr K Q):∃v k,cr.k cr.y=some (v,k)/\K v k Q:=by
 obtain⟨ck,ts,y,k,td,p⟩:=cr;unfold rM at h;cases ts with
 | nil=>
  simp only at h ⊢;cases hk:k y with
  | none=>rw [hk]at h;exact h.elim
  | some x=>rw [hk]at h;exact⟨x.1,x.2,rfl,h⟩
 | cons a b=>
  simp only at h ⊢;cases hk:k y with
  | none=>rw [hk]at h;exact h.elim
  | some x=>rw [hk]at h;exact⟨x.1,x.2,rfl,h⟩
theorem wE{X:XT}{E:Tab}(hX:XOK X E){h':Heap}{h:List aM}(H:fD h' h){gs:List (GE (std n))}{t' tt:Slots}(hg:∀(t:Nat) (e:GE (std n)),gs[t]? =some e->GOK gs t' e)
  {lk:Nat->Option (SV (std n))} (htt:∀d,(lk d).isSome->aX tt d=aX t' d) (hv:∀i sv,lk i=some sv->zQ gs t' (nmh h) i sv) {cur:Option Nat} (hcur:∀t,cur=some t->∃e,gs[t]? =some e/\e.g=true) {op:Op} {v:SVal} {ps:List Bool}
  (hk:tZ (std n) X lk gs h cur op=some (ps,v)) (hps:∀b∈ps,b=true):Gv (gF E op tt h') (nmh h) v:=by
 have hal:=og hg hcur (f:=gs.length+1);have he:EvR X E n (nmh h) tt (gI (std n) lk (eZ (std n) gs cur)):=pV htt hv hal;unfold tZ at hk;split at hk
 .rename_i c a b;simp only at hk;split at hk
  .rename_i fq q hc;obtain⟨pc,c1,c2⟩:=dF hX he hc;obtain⟨g,rfl⟩:=c2.bool;have halt:∀w,q=w->∀t∈(match c with | .tmp d=>(match wY (std n) gs d w 0 with | some t=>eZ (std n) gs (some t)++eZ (std n) gs cur | none=>eZ (std n) gs cur) | _=>eZ (std n) gs cur),∃e,gs[t]? =some e/\e.g=true:=by
    intro w hw t ht;split at ht
    .rename_i d;split at ht
     .rename_i t0 hf;obtain⟨e,e1,e2,e3⟩:=LA hf;rcases List.mem_append.1 ht with ht | ht
      .refine og hg (λx hx=> ?_) t ht;cases hx;refine⟨e,e1,?_⟩;cases hgg:e.g with
       | true=>rfl
       | false=>
        have hls:(lk d).isSome:=by
         have hc':gI (std n) lk (eZ (std n) gs cur) d=some (.c (.d fq (.bool q))):=hc;unfold gI at hc';split at hc'
         .rename_i hl;rw [hl];rfl
         .rename_i hl;rw [hl];rfl
         .cases hc'
        have hd:aX t' d=some (.c (.d g (.bool q))):=by rw [<-htt d hls];exact c1
        rcases(hg t0 e e1).no d e2 hgg with⟨f,hh⟩ | hh
        .rw [hd]at hh;simp only [Option.some.injEq,PV.c.injEq,Cell.d.injEq,D.bool.injEq]at hh;rw [e3,<-hw]at hh;cases q<;>simp at hh
        .rw [hd]at hh;simp [nN]at hh
      .exact hal t ht
     .exact hal t ht
    .exact hal t ht
   have hea:q=true->∀ {v},evX (std n) X (gI (std n) lk (match c with | .tmp d=>(match wY (std n) gs d true 0 with | some t=>eZ (std n) gs (some t)++eZ (std n) gs cur | none=>eZ (std n) gs cur) | _=>eZ (std n) gs cur)) a=some v->∃pv,ev E tt a=some pv/\PVR (nmh h) pv v:=
    λhq v hva=>dF hX (pV htt hv (halt true hq)) hva
   have heb:q=false->∀ {v},evX (std n) X (gI (std n) lk (match c with | .tmp d=>(match wY (std n) gs d false 0 with | some t=>eZ (std n) gs (some t)++eZ (std n) gs cur | none=>eZ (std n) gs cur) | _=>eZ (std n) gs cur)) b=some v->∃pv,ev E tt b=some pv/\PVR (nmh h) pv v:=
    λhq v hva=>dF hX (pV htt hv (halt false hq)) hva
   have fin:∀pv,PVR (nmh h) pv v->(q=true->ev E tt a=some pv)->(q=false->ev E tt b=some pv)->Gv (gF E (.pick c a b) tt h') (nmh h) v:=by
    intro pv h1 h2 h3;refine⟨pv,h1,λK hK=> ?_⟩;unfold gF;simp only;rw [c1];exact⟨λhq=>iC (h2 hq) _ hK,λhq=>iC (h3 hq) _ hK⟩
   split at hk
   .rename_i y hx hy;cases hk;have hq:q=false:=by simpa using hps (!q) (by simp)
    obtain⟨pv,p1,p2⟩:=heb hq hy;exact fin pv p2 (λh=>by rw [hq]at h;cases h) λ_=>p1
   .rename_i x hx hy;cases hk;have hq:q=true:=by simpa using hps q (by simp)
    obtain⟨pv,p1,p2⟩:=hea hq hx;exact fin pv p2 (λ_=>p1) λh=>by rw [hq]at h;cases h
   .rename_i x y hx hy _ _;unfold K7 at hk;split at hk
    .rename_i z hz;cases hk;cases hq:q with
     | true=>
      obtain⟨pv,p1,p2⟩:=hea hq ‹_›;have:=Li (N:=nmh h) (px:=pv) (py:=pv) (q:=q) (λ_=>p2) (λh=>by rw [hq]at h;cases h) hz;rw [hq]at this;exact fin pv this (λ_=>p1) λh=>by rw [hq]at h;cases h
     | false=>
      obtain⟨pv,p1,p2⟩:=heb hq ‹_›;have:=Li (N:=nmh h) (px:=pv) (py:=pv) (q:=q) (λh=>by rw [hq]at h;cases h) (λ_=>p2) hz;rw [hq]at this;exact fin pv this (λh=>by rw [hq]at h;cases h) λ_=>p1
    .cases hk
   .cases hk
  .cases hk
 .exact X4 hX H he hk hps
inductive GM (s':St) (s:RSt (std n)) (tt:Slots) (d:Nat) (want:Bool):GR (std n)->Prop
 | skip:(∀T F:Prop,F->kH (aX tt d) want T F)->GM s' s tt d want .skip
 | run {gs:List (GE (std n))} {t:Nat} {g:Bool} {e:GE (std n)}:SR s' {s with gs:=gs}->gs[t]? =some e->e.g=g->(∀i sv,dD (std n) s.t i=some sv->zQ gs s'.t (nmh s.h) i sv)->
  (g=true->∀T F:Prop,T->kH (aX tt d) want T F)->(g=false->∀T F:Prop,F->kH (aX tt d) want T F)->GM s' s tt d want (.run gs t g)
theorem EP{s':St}{s:RSt (std n)}(S:SR s' s){lk:Nat->Option (SV (std n))}(hlk:∀i sv,lk i=some sv->dD (std n) s.t i=some sv){tt:Slots}{d:Nat}{want:Bool}(htt:(lk d).isSome->aX tt d=aX s'.t d){r:GR (std n)}(hr:EC (std n) lk s.gs d want=r)(hb:r≠ .bad):
    GM s' s tt d want r:=by
  unfold EC at hr;split at hr
  · exact absurd hr.symm hb
  · rename_i tg v hd;have hL:=htt (by rw [hd];rfl);have hval:=S.val d _ (hlk d _ hd);split at hr
    · rename_i t hf;obtain⟨e,e1,e2,e3⟩:=LA hf;rw [e1]at hr;simp only at hr;have G:=S.gs t e e1;have hT:e.g=true->∀T F:Prop,T->kH (aX tt d) want T F:=λhg T F hT=>by
        obtain⟨f,hl⟩:=G.yes d e2 hg;rw [hL,hl,e3];exact fM (λ_=>hT) (λh=>absurd rfl h)
      have hF:e.g=false->∀T F:Prop,F->kH (aX tt d) want T F:=λhg T F hF=>by
        rcases G.no d e2 hg with⟨f,hl⟩ | hl
        · rw [hL,hl,e3];exact fM (λh=>by cases want<;>simp at h) (λ_=>hF)
        · rw [hL,hl];exact hF
      split at hr
      · rename_i apV;subst hr;exact .skip (hF (G.dead apV))
      · subst hr;exact .run S e1 rfl S.val hT hF
    · split at hr
      · rename_i f b;obtain⟨b,rfl⟩:∃b':Bool,b'=b:=⟨b,rfl⟩;have hg0:(if want then b else !b)=(b==want):=by cases want<;>cases b<;>rfl
        simp only at hr;have ext:∀(e:GE (std n)) (gs:List (GE (std n))),gs=s.gs++ [e]->GOK gs s'.t e->SR s' {s with gs:=gs}/\(∀i sv,dD (std n) s.t i=some sv->zQ gs s'.t (nmh s.h) i sv)/\gs[s.gs.length]? =some e:=by
          intro e gs hgs hG;subst hgs;have hmono:∀(t:Nat) (x:GE (std n)),s.gs[t]? =some x->(s.gs++ [e])[t]? =some x:=λt x hx=>by rw [List.getElem?_append_left (List.getElem?_eq_some_iff.1 hx).1];exact hx
          have pW:∀i sv,dD (std n) s.t i=some sv->zQ (s.gs++ [e]) s'.t (nmh s.h) i sv:=λi sv hi=>(S.val i sv hi).mono (λt x hx=>⟨x,hmono t x hx,rfl⟩) rfl (λ_ _ h=>h)
          refine⟨⟨S.heap,S.len,S.m,pW,λt x hx=> ?_⟩,pW,by simp⟩;by_cases hlt:t<s.gs.length
          · simp only at hx;rw [List.getElem?_append_left hlt]at hx;have G:=S.gs t x hx;exact⟨G.yes,G.no,G.dead,λp hp=>let⟨q,q1,q2⟩:=G.par p hp;⟨q,hmono p q q1,q2⟩⟩
          · simp only at hx;rw [List.getElem?_append_right ah]at hx;have:t-s.gs.length=0:=by
              have:=(List.getElem?_eq_some_iff.1 hx).1;simp at this;omega
            rw [this]at hx;simp at hx;subst hx;exact hG
        split at hr
        · subst hr;obtain⟨pv,p1,p2⟩:=hval;obtain⟨g,rfl⟩:=p2.bool;have hG:GOK (s.gs++ [⟨some d,want,none,if want then b else !b,false⟩]) s'.t ⟨some d,want,none,if want then b else !b,false⟩:=by
            refine⟨λx hx hgt=> ?_,λx hx hgf=> ?_,λh=>(by cases h),λp hp=>(by cases hp)⟩
            · cases hx;have hgt:(if want then b else !b)=true:=hgt;rw [hg0]at hgt
              exact ⟨g, by rw [p1]; have : b = want := by simpa using hgt
                           rw [this]⟩
            · cases hx;have hgf:(if want then b else !b)=false:=hgf;rw [hg0]at hgf;refine .inl ⟨g,?_⟩;rw [p1];have:b= !want:=by cases b<;>cases want<;>simp_all
              rw [this]
          obtain⟨q1,q2,q3⟩:=ext ⟨some d,want,none,if want then b else !b,false⟩ _ rfl hG;refine .run q1 q3 rfl q2 (λhg T F hT=> ?_) (λhg T F hF=> ?_)
          · rw [hL,p1];refine fM (λ_=>hT) (λh=> ?_);have hg:(if want then b else !b)=true:=hg;rw [hg0]at hg;exact absurd (by simpa using hg) h
          · rw [hL,p1];refine fM (λh=> ?_) (λ_=>hF);have hg:(if want then b else !b)=false:=hg;rw [hg0,h]at hg;simp at hg
        · rename_i t';split at hr
          · rename_i e0 he0;subst hr;obtain⟨e0',h3,h4,h5⟩:=hval;rw [he0]at h3;cases h3;have hboth:e0.g=true->∃g,aX s'.t d=some (.c (.d g (.bool b))):=λhg=>by
              obtain⟨pv,p1,p2⟩:=h4 hg;obtain⟨g,rfl⟩:=p2.bool;exact⟨g,p1⟩
            have hT:(e0.g&& (if want then b else !b))=true->∃g,aX s'.t d=some (.c (.d g (.bool want))):=λh=>by
              simp only [Bool.and_eq_true]at h;obtain⟨g,hh⟩:=hboth h.1;have:=h.2;rw [hg0]at this
              exact ⟨g, by rw [hh]; have : b = want := by simpa using this
                           rw [this]⟩
            have hF:(e0.g&& (if want then b else !b))=false->(∃g,aX s'.t d=some (.c (.d g (.bool (!want)))))\/aX s'.t d=some nN:=λh=>by
              cases hg:e0.g with
              | false=>exact .inr (h5 hg)
              | true=>
                rw [hg]at h;simp only [Bool.true_and]at h;rw [hg0]at h;obtain⟨g,hh⟩:=hboth hg;refine .inl ⟨g,?_⟩;rw [hh];have:b= !want:=by cases b<;>cases want<;>simp_all
                rw [this]
            have hG:GOK (s.gs++ [⟨some d,want,some t',e0.g&& (if want then b else !b),false⟩]) s'.t ⟨some d,want,some t',e0.g&& (if want then b else !b),false⟩:=by
              refine⟨λx hx hgt=> ?_,λx hx hgf=> ?_,λh=>(by cases h),λp hp=> ?_⟩
              · cases hx;exact hT hgt
              · cases hx;exact hF hgf
              · cases hp;refine⟨e0,by rw [List.getElem?_append_left (List.getElem?_eq_some_iff.1 he0).1];exact he0,λh=> ?_⟩;have h:(e0.g&& (if want then b else !b))=true:=h;simp only [Bool.and_eq_true]at h;exact h.1
            obtain⟨q1,q2,q3⟩:=ext ⟨some d,want,some t',e0.g&& (if want then b else !b),false⟩ _ rfl hG;refine .run q1 q3 rfl q2 (λhg T F hTT=> ?_) (λhg T F hFF=> ?_)
            · obtain⟨g,hh⟩:=hT hg;rw [hL,hh];exact fM (λ_=>hTT) (λh=>absurd rfl h)
            · rcases hF hg with⟨g,hh⟩ | hh
              · rw [hL,hh];exact fM (λh=>by cases want<;>simp at h) (λ_=>hFF)
              · rw [hL,hh];exact hFF
          · exact absurd hr.symm hb
      · split at hr
        · subst hr;obtain⟨pv,p1,p2⟩:=hval;have:pv=nN:=by
            cases p2 with
            | one h=>cases h with
              | agg hs _=>simp [bF]at hs
            | tup h=>cases h;rfl
          subst this;exact .skip λT F hF=>by rw [hL,p1];exact hF
        · exact absurd hr.symm hb
      · exact absurd hr.symm hb
end
end Go.TX
namespace Go.TX
open Go Go.AE
section
variable {n:Nat}
theorem SR.kill{s':St}{s:RSt (std n)}(S:SR s' s){t:Nat}{e:GE (std n)}(he:s.gs[t]? =some e)(hg:e.g=false):SR s' {s with gs:=zI (std n) s.gs t}:=by
 have hk:zI (std n) s.gs t=s.gs.set t {e with dead:=true}:=by unfold zI;rw [he]
 have hl:=(List.getElem?_eq_some_iff.1 he).1;have hmono:∀(i:Nat) (x:GE (std n)),s.gs[i]? =some x->∃x2,(s.gs.set t {e with dead:=true})[i]? =some x2/\x2.g=x.g:=λi x hx=>by
  by_cases h:t=i
  .subst h;rw [he]at hx;cases hx;exact⟨_,List.getElem?_set_self hl,rfl⟩
  .exact⟨x,by rw [List.getElem?_set_ne h];exact hx,rfl⟩
 rw [hk];refine⟨S.heap,S.len,S.m,λi sv hi=>(S.val i sv hi).mono hmono rfl (λ_ _ h=>h),λi x hx=> ?_⟩;have par:∀ {x:GE (std n)},(∀p,x.par=some p->∃q,s.gs[p]? =some q/\(x.g=true->q.g=true))->∀p,x.par=some p->∃q,(s.gs.set t {e with dead:=true})[p]? =some q/\(x.g=true->q.g=true):=λh p hp=>by
  obtain⟨q,q1,q2⟩:=h p hp;obtain⟨q',r1,r2⟩:=hmono p q q1;exact⟨q',r1,λh=>by rw [r2];exact q2 h⟩
 by_cases h:t=i
 .subst h;simp only [List.getElem?_set_self hl,Option.some.injEq]at hx;subst hx;have G:=S.gs t e he;exact⟨G.yes,G.no,λ_=>hg,par G.par⟩
 .simp only [List.getElem?_set_ne h]at hx;have G:=S.gs i x hx;exact⟨G.yes,G.no,G.dead,par G.par⟩
theorem ER{E:Tab}{G:mU}{o:Oper}{s:St}{K:St->Prop}(h:iF o.op≠0)(hd:dOK s.m o.dst)(hm:NK E G o.op s.t s λv h k=>K (St.put {s with h:=h,k:=k} o.dst (some v))):Xv E G o s K:=by
 refine⟨hd,?_⟩;unfold NK at hm;split
 .rename_i h0;exact absurd h0 h
 .rename_i h1;rw [h1]at hm;exact hm
 .rename_i h0 h1;split at hm
  .rename_i h2;exact absurd h2 h1
  .exact hm
theorem GZ{E:Tab}{G:mU}{o:Oper}{s:St}{K:St->Prop}(h:iF o.op=0)(hd:dOK s.m o.dst)(hm:gF E o.op s.t s.h λv=>K (s.put o.dst (some v))):Xv E G o s K:=by
 refine⟨hd,?_⟩;rw [h];exact hm
theorem Ye{m:Nat}{d:Option Nat}(h:Uy m d=true):dOK m d:=by
 cases d with
 | none=>trivial
 | some d=>unfold Uy at h;exact(by simpa using h:d<m)
theorem aha{s:RSt (std n)}{d tag:Option Nat}{v:SVal}:(s.put (std n) d tag v).h=s.h/\(s.put (std n) d tag v).m=s.m:=by cases d<;>exact⟨rfl,rfl⟩
theorem Yf{N:NM}:PVR N nN (.tup []):= .tup .nil
theorem G5{X:XT}{E:Tab}(hX:XOK X E){C:Calls aF}{ops:List Oper}{ρ:Type}{K:RSt (std n)->(ρ->Prop)->Prop}{r:ρ->Prop}{h0:List aM}{m0:Nat}:∀ {rest:List Oper} {s':St} {s:RSt (std n)},SR s' s->(∀k,Keep k h0 s.h)->s.m=m0->fF (std n) X C ops rest K s r->
  yJ E (jT C) ops rest (λs1'=>∃s1,SR s1' s1/\(∀k,Keep k h0 s1.h)/\s1.m=m0/\K s1 r) s'
 | [],s',s,S,hK0,hm0,hk=>⟨s,S,hK0,hm0,hk⟩
 | o::rest,s',s,S,hK0,hm0,hk=>by
  generalize hM:fF (std n) X C ops (o::rest) K s=M at hk;unfold fF at hM;split at hM
  .rename_i hdst;have hd:dOK s'.m o.dst:=by rw [S.m];exact Ye hdst
   have go:∀ {s2':St} {s2:RSt (std n)} {tag:Option Nat} {v:SVal},SR s2' (s2.put (std n) o.dst tag v)->(∀k,Keep k s.h s2.h)->s2.m=s.m->fF (std n) X C ops rest K (s2.put (std n) o.dst tag v) r->
     yJ E (jT C) ops rest (λs1'=>∃s1,SR s1' s1/\(∀k,Keep k h0 s1.h)/\s1.m=m0/\K s1 r) s2':=by
    intro s2' s2 tag v S2 hkeep hm2 hk2;have e1:=aha (n:=n) (s:=s2) (d:=o.dst) (tag:=tag) (v:=v);exact G5 hX (rest:=rest) S2 (λk=>by rw [e1.1];exact(hK0 k).trans (hkeep k)) (by rw [e1.2,hm2,hm0]) hk2
   have hev:∀ {gs:List (GE (std n))},SR s' {s with gs:=gs}->∀ {al:List Nat},(∀t∈al,∃e,gs[t]? =some e/\e.g=true)->EvR X E n (nmh s.h) s'.t (gI (std n) (dD (std n) s.t) al):=λS _ hal=>pV (λ_ _=>rfl) S.val hal
   unfold yJ Bd;split at hM
   .rename_i hguard;rw [hguard];simp only;split at hM
    .rename_i hcl;have hcl:iF o.op=0:=by simpa using hcl
     split at hM
     .rename_i ps v hv;subst hM;obtain⟨hps,hk⟩:=fU hk;rw [Dx]at hk;obtain⟨pv,p1,p2⟩:=wE hX S.heap S.gs (tt:=s'.t) (λ_ _=>rfl) S.val (cur:=none) (λt h=>by cases h) hv hps;refine GZ hcl hd (p2 _ (go (S.put (tag:=none) ⟨pv,rfl,p1⟩) (λ_=> .refl _ _) rfl hk))
     ·(subst hM;exact hk.elim)
    .rename_i hcl;have hcl:iF o.op≠0:=by simpa using hcl
     split at hM
     .rename_i cr hcr;subst hM;obtain⟨hps,hk⟩:=fU hk;obtain⟨v,k,hvk,hk⟩:=Bw hk;obtain⟨v',k',e1,_,e3⟩:=Bv hX S.heap S.len (hev S (al:=[]) (λt h=>by simp at h)) hcr hps ⟨v,k,hvk⟩;rw [hvk]at e1;cases e1;refine ER hcl hd (e3 _ λpv h'' j a1 a2 a3 a4=> ?_);have S2:=S.yT a3.same a2 a4;exact go (s2:={s with h:=k}) (S2.put (tag:=none) ⟨pv,rfl,a1⟩) a3.Lx rfl hk
     ·(subst hM;exact hk.elim)
   .rename_i j want hguard;rw [hguard];simp only;refine⟨hd,?_⟩;split at hM
    .rename_i d hgs;rw [hgs];simp only [Cy];have hgm:=λhb=>EP S (lk:=dD (std n) s.t) (λ_ _ h=>h) (tt:=s'.t) (d:=d) (want:=want) (λ_=>rfl) rfl hb
     split at hM
     .rename_i hr;rw [hr]at hgm;subst hM;cases hgm (by simp)with | skip h=>
      refine h _ _ (go (s2:=s) (S.put (tag:=none) ⟨nN,rfl,Yf⟩) (λ_=> .refl _ _) rfl hk)
     .rename_i gs t g hr;rw [hr]at hgm;cases hgm (by simp)with | run S1 hget hg pW hT hF=>
      rename_i e;subst hg;have hcur:e.g=true->∀t0,some t=some t0->∃e,gs[t0]? =some e/\e.g=true:=λh t0 ht=>by cases ht;exact⟨e,hget,h⟩
      split at hM
      .rename_i hcl;have hcl:iF o.op=0:=by simpa using hcl
       split at hM
       .rename_i ps v hv;subst hM;obtain⟨hps,hk⟩:=fU hk;cases hg:e.g with
        | true=>
         obtain⟨pv,p1,p2⟩:=wE hX S1.heap S1.gs (tt:=s'.t) (λ_ _=>rfl) pW (hcur hg) hv (zR hps hg);refine hT hg _ _ (GZ hcl hd (p2 _ (go (s2:={s with gs:=gs}) (S1.put (tag:=some t) ⟨e,hget,λ_=>⟨pv,rfl,p1⟩,λh=>by rw [hg]at h;cases h⟩) (λ_=> .refl _ _) rfl hk)))
        | false=>
         exact hF hg _ _ (go (s2:={s with gs:=gs}) (S1.put (tag:=some t) ⟨e,hget,λh=>(by rw [hg]at h;cases h),λ_=>rfl⟩) (λ_=> .refl _ _) rfl hk)
       ·(subst hM;exact hk.elim)
      .rename_i hcl;have hcl:iF o.op≠0:=by simpa using hcl
       split at hM
       .rename_i cr hcr;split at hM
        .rename_i hpure;subst hM;obtain⟨hps,hk⟩:=fU hk;obtain⟨v,k,hvk,hk⟩:=Bw hk;cases hg:e.g with
         | true=>
          obtain⟨v',k',e1,e2,e3⟩:=Bv hX S1.heap S1.len (hev S1 (og S1.gs (hcur hg) (f:=gs.length+1))) hcr (zR hps hg) ⟨v,k,hvk⟩;rw [hvk]at e1;cases e1;obtain⟨rfl,htd⟩:=e2 hpure;refine hT hg _ _ (ER hcl hd (e3 _ λpv h'' j a1 a2 a3 a4=> ?_));have S2:=S1.yT (Same.refl _) a2 a4;exact go (s2:={s with gs:=gs}) (S2.put (tag:=some t) ⟨e,hget,λ_=>⟨pv,rfl,a1⟩,λh=>by rw [hg]at h;cases h⟩) (λ_=> .refl _ _) rfl hk
         | false=>
          exact hF hg _ _ (go (s2:={s with gs:=gs}) (S1.put (tag:=some t) ⟨e,hget,λh=>(by rw [hg]at h;cases h),λ_=>rfl⟩) (λ_=> .refl _ _) rfl hk)
        .subst hM;obtain⟨hkT,hkF⟩:(e.g=true->gJ (std n) cr.ck (rM (std n) cr λv h=>fF (std n) X C ops rest K (RSt.put (std n) {s with h:=h,gs:=gs} o.dst none v)) r)/\(e.g=false->fF (std n) X C ops rest K (RSt.put (std n) {s with gs:=zI (std n) gs t} o.dst none (.tup [])) r):=hk;cases hg:e.g with
         | true=>
          obtain⟨hps,hk⟩:=fU (hkT hg);obtain⟨v,k,hvk,hk⟩:=Bw hk;obtain⟨v',k',e1,e2,e3⟩:=Bv hX S1.heap S1.len (hev S1 (og S1.gs (hcur hg) (f:=gs.length+1))) hcr hps ⟨v,k,hvk⟩;rw [hvk]at e1;cases e1;refine hT hg _ _ (ER hcl hd (e3 _ λpv h'' j a1 a2 a3 a4=> ?_));have S2:=S1.yT a3.same a2 a4;exact go (s2:={s with h:=k,gs:=gs}) (S2.put (tag:=none) ⟨pv,rfl,a1⟩) a3.Lx rfl hk
         | false=>
          have hk:=hkF hg;have S2:=S1.kill hget hg;exact hF hg _ _ (go (s2:={s with gs:=zI (std n) gs t}) (S2.put (tag:=none) ⟨nN,rfl,Yf⟩) (λ_=> .refl _ _) rfl hk)
       ·(subst hM;exact hk.elim)
     ·(subst hM;exact hk.elim)
    ·(subst hM;exact hk.elim)
  ·(subst hM;exact hk.elim)
end
end Go.TX
namespace Go.TX
open Go Go.AE
variable [aB]
section
variable {n:Nat}
theorem Yg{t:Slots}{r:Nat}:∀ {rs:List Nat},r∈rs->aX (cut t rs) r=aX t r
 | [],h=>by simp at h
 | x::rs,h=>by
  simp only [cut,aX];split
  .rename_i e;rw [e]
  .rename_i e;cases h with
   | head=>exact absurd rfl e
   | tail _ h=>exact Yg h
theorem aj6{h:List aM}{x:Cell}{y:SC}(hr:RC (nmh h) x y){s:Sh}{f:Bool}{v:LV aF}(hk:eU (std n) h s y=some (f,v,[])):∃g,(f=true->g=true)/\ZC x g (lvD s v):=by
 unfold eU at hk;split at hk
 .rename_i f0 lf;split at hk
  .rename_i e;subst e;cases hk;cases hr with | d hx hf=>
   rename_i g0 x0;subst hx;rw [EJ];refine⟨g0 || (nu lf).l8,λh=> ?_,.d _ _⟩;rw [iR];cases lf with
   | rows c xs=>simp only [Leaf.flag]at h;rcases hf h with h | h<;>simp_all [Leaf.scalar]
   | _=>simp [Leaf.scalar]
  .cases hk
 .cases hr;split at hk
  .cases hk;exact⟨true,λ_=>rfl,.nil _⟩
  .cases hk
 .rename_i f0 c xs;cases hr with | clip hf=>
  split at hk
  .rename_i e;subst e;cases hk;exact⟨_,hf,.clip _ _ _⟩
  .cases hk
 .split at hk
  .split at hk
   .cases hk
   .cases hk
  .cases hk
 .cases hk
theorem LB{h:List aM}:∀ {ss:List Sh} {ys:List SC} {xs:List Cell} (_:F2 (RC (nmh h)) xs ys) {f:Bool} {vs:List (LV aF)},aP (std n) h ss ys=some (f,vs,[])->∃g,(f=true->g=true)/\ZCs xs g (List.zipWith lvD ss vs)
 | [],[],xs,hF,f,vs,hk=>by simp [aP]at hk;obtain⟨rfl,rfl⟩:=hk;cases hF;exact⟨true,λ_=>rfl,.nil⟩
 | [],_::_,_,_,_,_,hk=>by simp [aP]at hk
 | _::_,[],_,_,_,_,hk=>by simp [aP]at hk
 | s::ss,y::ys,xs,hF,f,vs,hk=>by
  cases hF with | cons h1 h2=>
  unfold aP at hk;split at hk
  .rename_i f1 v1 l1 hv1;split at hk
   .rename_i g2 vs2 ls2 hv2;split at hk
    .simp only [Option.some.injEq,Prod.mk.injEq,List.append_eq_nil_iff]at hk;obtain⟨rfl,rfl,rfl,rfl⟩:=hk;obtain⟨ga,a1,a2⟩:=aj6 h1 hv1;obtain⟨gb,b1,b2⟩:=LB h2 hv2;exact⟨ga&&gb,λh=>by simp at h;simp [a1 h.1,b1 h.2],.cons a2 b2⟩
    .cases hk
   .cases hk
  .cases hk
theorem G6{N:NM}:∀ {ys:List (Leaf aF)} {xs:List Cell} {f:Bool},F2 (RC N) xs (ys.map (.d f))->∃g,(f=true\/(∀y∈ys,y.scalar=true)->g=true)/\ZCs xs g (ys.map nu)
 | [],_,_,h=>by cases h;exact⟨true,λ_=>rfl,.nil⟩
 | y::ys,_,f,.cons h1 h2=>by
  obtain⟨g,q1,q2⟩:=G6 h2;cases h1 with | d hx hf=>
  rename_i g0 x0;subst hx;refine⟨(g0 || (nu y).l8)&&g,λh=> ?_,.cons (.d _ _) q2⟩;rw [iR];rcases h with h | h
  .rcases hf h with h' | h'<;>simp [h',q1 (.inl h)]
  .simp [h y (by simp),q1 (.inr λy hy=>h y (List.mem_cons_of_mem _ hy))]
theorem apW{h:List aM}{p:PV}{q:SVal}(hp:PVR (nmh h) p q){c:Co}{f:Bool}{x:c.den}(hk:toX (std n) h c q=some (f,x,[])):∃g,(f=true->g=true)/\ZCs (aN p) g (c.row x):=by
 unfold toX at hk;split at hk
 .rename_i f' c' x';split at hk
  .rename_i e;subst e;cases hk;have hF:=hp.cells;have hx:cellsS (.sv f' c' x')=(fK (std 0) c' x' 0 c'.fields).map (.d f'):=rfl;rw [hx]at hF;obtain⟨g,q1,q2⟩:=G6 hF;rw [kI]at q2;refine⟨g,λh=>q1 ?_,q2⟩;rcases Bool.or_eq_true _ _▸h with h | h
   .exact .inl h
   .exact .inr (jH c' h x')
  .cases hk
 .cases hk
 .split at hk
  .rename_i f1 ys ls1 h1;split at hk
   .rename_i t ht;simp only [Option.some.injEq,Prod.mk.injEq]at hk;obtain⟨rfl,rfl,rfl⟩:=hk;rw [dh]at h1;obtain⟨g,q1,q2⟩:=LB hp.cells h1;rw [zN c t ht]at q2;exact⟨g,q1,q2⟩
   .cases hk
  .cases hk
theorem UO{X:XT}{E:Tab}(hX:XOK X E){t:Slots}{e:Nat->Option SVal}{c:Co}{h:List aM}(he:EvR X E n (nmh h) t e):∀ {parts:List (Nat×Operand)} {f:Bool} {xs:List c.den} {k:List aM},qF (std n) X e c h parts=some (f,xs,k,[])->
  ∃g,(f=true->g=true)/\xs.length=parts.length/\ZPs E t c.size parts g (aL c xs)
 | [],f,xs,k,hk=>by
  simp only [qF,Option.some.injEq,Prod.mk.injEq]at hk;obtain⟨rfl,rfl,_⟩:=hk;exact⟨true,λ_=>rfl,rfl,.nil⟩
 | (i,x)::r,f,xs,k,hk=>by
  simp only [qF]at hk;split at hk
  .rename_i v hv;split at hk
   .rename_i f1 y l1 hy;split at hk
    .rename_i g1 ys k1 l2 hys;simp only [Option.some.injEq,Prod.mk.injEq,List.append_eq_nil_iff]at hk;obtain⟨rfl,rfl,_,rfl,rfl⟩:=hk;obtain⟨pv,p1,p2⟩:=dF hX he hv;obtain⟨ga,a1,a2⟩:=apW p2 hy;obtain⟨gb,b1,b2,b3⟩:=UO hX he (h:=h) hys;have hl:(aN pv).length=c.size:=by
      have:∀ {cs:List Cell} {g:Bool} {ds:List D},ZCs cs g ds->cs.length=ds.length:=by
       intro cs g ds hz
       induction hz with
       | nil=>rfl
       | cons _ _ ih=>simp [ih]
      rw [this a2,wu]
     exact⟨ga&&gb,λh=>by simp at h;simp [a1 h.1,b1 h.2],by simp [b2],.cons p1 hl a2 b3⟩
    .cases hk
   .cases hk
  .cases hk
theorem aua{X:XT}{E:Tab}(hX:XOK X E){t:Slots}{e:Nat->Option SVal}{h:List aM}(he:EvR X E n (nmh h) t e){op:Op}{ps:List Bool}{v:SVal}(hk:zX (std n) X e h op=some (ps,v)):Gv (zA E op t) (nmh h) v:=by
 unfold zX at hk;split at hk
 .rename_i ty len parts;rw [hX.ty]at hk;split at hk
  .rename_i y hy;split at hk
   .rename_i el hd;split at hk
    .rename_i z c hz hco;split at hk
     .rename_i hcond;simp only [Bool.and_eq_true,Bool.not_eq_true',beq_iff_eq,beq_eq_false_iff_ne,ne_eq]at hcond;obtain⟨⟨⟨hsz,hne⟩,hrange⟩,hbig⟩:=hcond;have hbig:=Nat.le_of_ble_eq_true hbig;obtain⟨z',hz',hzs⟩:=gB hX hsz;rw [hz]at hz';cases hz';split at hk
      .rename_i f xs k hps;cases hk;obtain⟨g,q1,q2,q3⟩:=UO hX he hps;have hlen:xs.length=len:=by
        have:=congrArg List.length hrange;simp at this;rw [q2];simpa using this
       refine⟨.c (.clip g c.size (aL c xs)),.ofC (.clip q1),λK hK=> ?_⟩;unfold zA;simp only;rw [hy];simp only [aC];rw [hd];simp only;rw [hz];exact⟨hne,hrange,hbig,g,aL c xs,by rw [hzs];exact q3,by rw [aR];exact hlen,by rw [hzs];exact hK⟩
      .cases hk
     .cases hk
    .cases hk
   .cases hk
  .cases hk
 .cases hk
theorem LC{E:Tab}{N:NM}{h' h'':Heap}{ty:TypeId}{pv:PV}{q:SVal}(hp:PVR N pv q)(hl:∀l∈ug (std n) q,AE.look h'' l=AE.look h' l)(K:PV->Prop):kC E h'' ty pv K=kC E h' ty pv K:=by
 have key:∀l sz i j,pv= .c (.ptr l sz i j)->AE.look h'' l=AE.look h' l:=by
  intro l sz i j e;subst e;cases hp with | one hp=>cases hp with | c hc=>
  cases hc with
  | pb=>exact hl _ (by simp [ug])
  | pr _=>exact hl _ (by simp [ug])
 unfold kC;cases E.ty ty with
 | none=>rfl
 | some y=>
  simp only [aC];split
  .rename_i l sz i j;rw [key l sz i j rfl]
  .rfl
  .rfl
theorem stable{X:XT}{E:Tab}(hX:XOK X E){N:NM}{h' h'':Heap}{t:Slots}{e:Nat->Option SVal}(he:EvR X E n N t e){op:Op}(hl:∀l∈gN (std n) X e op,AE.look h'' l=AE.look h' l)(hev:isLoad op=true->∃ty x q,op= .load ty x/\evX (std n) X e x=some q)(K:PV->Prop):
  gF E op t h'' K=gF E op t h' K:=by
 cases hL:isLoad op with
 | false=>rw [yM hL]
 | true=>
  obtain⟨ty,x,q,rfl,hq⟩:=hev hL;obtain⟨pv,p1,p2⟩:=dF hX he hq;simp only [gN,hq]at hl;unfold gF;simp only;rw [p1];simp only [aQ];exact LC p2 hl K
def HI(E:Tab)(ops:List Oper)(h':Heap)(h:List aM)(hs':List Held)(hs:List (Nat×List Nat)):Prop:=∀p∈hs,(∀l∈p.2,l<h.length)/\∃o t v,nU hs' p.1=some (o,t,v)/\
 ∀h'',(∀l∈p.2,AE.look h'' l=AE.look h' l)->iA E ops o t h'' (λv'=>v'=v)
theorem HI.turn{E:Tab}{ops:List Oper}{h' h'':Heap}{h k:List aM}{hs':List Held}{hs:List (Nat×List Nat)}(H:HI E ops h' h hs' hs){td:List Nat}(x:iD h' h h'' k td):HI E ops h'' k hs' (ni hs td):=by
 intro p hp;simp only [ni,List.mem_filter]at hp;obtain⟨hp,hn⟩:=hp;obtain⟨h1,o,t,v,h2,h3⟩:=H p hp;refine⟨λl hl=>Nat.lt_of_lt_of_le (h1 l hl) x.len,o,t,v,h2,λh3' hh=>h3 h3' λl hl=> ?_⟩;have:=List.all_eq_true.1 hn l hl;rw [hh l hl,(x.keep l (h1 l hl) (by simpa using this)).2]
theorem zS(hs:List (Nat×List Nat)):ni hs []=hs:=by
 unfold ni;rw [List.filter_eq_self];intro p _;simp
theorem Dy{E:Tab}{ops:List Oper}{h' h'':Heap}{h k:List aM}{hs':List Held}{hs:List (Nat×List Nat)}(H:HI E ops h' h hs' hs){td:List Nat}(x:iD h' h h'' k td):∀ {cs:List Nat},cs.all (IW hs td)=true->Nl E ops h'' hs' cs
 | [],_=>trivial
 | j::r,hc=>by
  simp only [List.all_cons,Bool.and_eq_true]at hc;refine⟨?_,Dy H x hc.2⟩;have hj:=hc.1;simp only [IW,List.any_eq_true,Bool.and_eq_true,beq_iff_eq]at hj;obtain⟨p,hp,hpj,hall⟩:=hj;obtain⟨h1,o,t,v,h2,h3⟩:=H p hp;rw [<-hpj,h2];refine h3 h'' λl hl=>(x.keep l (h1 l hl) ?_).2
  have:=List.all_eq_true.1 hall l hl;simpa using this
theorem HI.push{E:Tab}{ops:List Oper}{h':Heap}{h:List aM}{hs':List Held}{hs:List (Nat×List Nat)}(H:HI E ops h' h hs' hs){i:Nat}(hi:¬(hs.any λp=>p.1==i)=true){ns:List Nat}{o:Oper}{t:Slots}{v:Option PV}
  (hns:∀l∈ns,l<h.length) (hst:∀h'',(∀l∈ns,AE.look h'' l=AE.look h' l)->iA E ops o t h'' (λv'=>v'=v)):HI E ops h' h ((i,o,t,v)::hs') ((i,ns)::hs):=by
 intro p hp;cases hp with
 | head=>exact⟨hns,o,t,v,by simp [nU],hst⟩
 | tail _ hp=>
  obtain⟨h1,o',t',v',h2,h3⟩:=H p hp;have hne:i≠p.1:=λe=>hi (by rw [List.any_eq_true];exact⟨p,hp,by simp [e]⟩)
  exact⟨h1,o',t',v',by rw [KY hne];exact h2,h3⟩
theorem G7{E:Tab}{X:XT}{N:NM}{t:Slots}{e:Nat->Option SVal}(he:EvR X E n N t e){k:Int}:∀ {l:List (Int×Nat)} {b:Bool},Dw (std n) e k l=some b->∀K:Bool->Prop,K b->Eh t k l K
 | [],b,h,K,hb=>by cases h;exact hb
 | (k',r)::rest,b,h,K,hb=>by
  unfold Dw at h;split at h
  .rename_i f b1 hr;split at h
   .rename_i q hq;cases h;obtain⟨pv,h1,h2⟩:=he r _ hr;obtain⟨g,rfl⟩:=h2.bool;refine⟨g,b1,h1,?_⟩;have hb:K (bif decide (k=k')then b1 else q):=hb;by_cases c:k=k'
    .rw [if_pos c];rw [decide_eq_true c]at hb;exact hb
    .rw [if_neg c];rw [decide_eq_false c]at hb;exact G7 he hq K hb
   .cases h
  .cases h
theorem NP{X:XT}{ops:List Oper}{e:Nat->Option SVal}{h:List aM}{op:Op}(hp:Ej op=true):ND (std n) X ops e h op=match zX (std n) X e h op with | some r=>some (some r) | none=>none:=by
 cases op
 case makeMap=>cases hp
 case insert=>cases hp
 case move=>cases hp
 case lookup a b q d=>cases q<;>first | rfl | cases hp
 all_goals first | rfl | (simp only [ND];generalize zX (std n) X e h _=z;cases z<;>rfl)
theorem map_ok{X:XT}{E:Tab}(hX:XOK X E){ops:List Oper}{t:Slots}{e:Nat->Option SVal}{h:List aM}(he:EvR X E n (nmh h) t e){op:Op}{r:Option (List Bool×SVal)}(hk:ND (std n) X ops e h op=some r):
  match r with | none=>∀K:Option PV->Prop,K none->zM E ops op t K | some (_,v)=>∃pv,PVR (nmh h) pv v/\∀K:Option PV->Prop,K (some pv)->zM E ops op t K:=by
 by_cases hp:Ej op=true
 .rw [NP hp]at hk;split at hk
  .rename_i q hq;cases hk;obtain⟨ps,v⟩:=q;obtain⟨pv,p1,p2⟩:=aua hX he hq;exact⟨pv,p1,λK hK=>by rw [zw hp];exact p2 _ hK⟩
  .cases hk
 .cases op
  case makeMap=>cases hk;exact λK h=>h
  case insert a b c v=>
   cases v with
   | tmp r=>
    simp only [ND]at hk;cases hq:e r with
    | some q=>
     rw [hq]at hk;cases hk;obtain⟨pv,p1,_⟩:=he _ _ hq;exact λK h=>⟨⟨pv,p1⟩,h⟩
    | none=>rw [hq]at hk;cases hk
   | _=>cases hk
  case move x=>
   simp only [ND]at hk;split at hk
   .rename_i hs;cases hk;exact λK h=>⟨hs,h⟩
   .cases hk
  case lookup a b q d=>
   cases q with
   | tmp q=>
    simp only [ND]at hk;split at hk
    .rename_i f m hq;split at hk
     .rename_i bb hb;cases hk;obtain⟨pv,p1,p2⟩:=he _ _ hq;obtain⟨g,rfl⟩:=p2.int;exact⟨_,.ofC (.d rfl λ_=> .inl rfl),λK hK=>⟨g,m,p1,G7 he hb _ hK⟩⟩
     .cases hk
    .cases hk
   | _=>exact absurd rfl hp
  all_goals exact absurd rfl hp
theorem yU{X:XT}{gs:List (GE (std n))}{lk:Nat->Option (SV (std n))}{h:List aM}{cur:Option Nat}{op:Op}{ps:List Bool}{v:SVal}(hk:tZ (std n) X lk gs h cur op=some (ps,v))(hl:isLoad op=true):
  (∃ty x q,op= .load ty x/\evX (std n) X (gI (std n) lk (eZ (std n) gs cur)) x=some q)/\∀l∈gN (std n) X (gI (std n) lk (eZ (std n) gs cur)) op,l<h.length:=by
 cases op<;>simp only [isLoad,Bool.false_eq_true]at hl
 rename_i ty x;simp only [tZ,Uw]at hk;obtain⟨q,hq,hk⟩:=dW hk;refine⟨⟨ty,x,q,rfl,hq⟩,λl hl=> ?_⟩;simp only [gN,hq]at hl;unfold K8 at hk;split at hk
 .cases hk
 .unfold ug at hl;split at hl
  .simp at hl;subst hl;simp only at hk;split at hk
   .rename_i hh;exact(List.getElem?_eq_some_iff.1 hh).1
   .cases hk
  .simp at hl;subst hl;simp only at hk;split at hk
   .rename_i hh;exact(List.getElem?_eq_some_iff.1 hh).1
   .cases hk
  .simp at hl
end
end Go.TX
namespace Go.TX
open Go Go.AE
variable [aB]
section
variable {n:Nat}
theorem Bz(gs:List (GE (std n))):eZ (std n) gs none=[]:=by unfold eZ;rw [NC];simp
theorem ET{E:Tab}{ops:List Oper}{o:Oper}(hg:o.guard=none)(t:Slots)(h:Heap)(K:Option PV->Prop):iA E ops o t h K=gF E o.op t h λv=>K (some v):=by unfold iA;rw [hg]
theorem qP{E:Tab}{ops:List Oper}{o:Oper}{j d:Nat}{w:Bool}(hg:o.guard=some (j,w))(hd:gslot ops j=some d)(t:Slots)(h:Heap)(K:Option PV->Prop):
 iA E ops o t h K=kH (aX t d) w (gF E o.op t h λv=>K (some v)) (K (some nN)):=by unfold iA;rw [hg];simp only;rw [hd];rfl
theorem I6{X:XT}{E:Tab}(hX:XOK X E){C:Calls aF}{ops:List Oper}{ρ:Type}{K:RSt (std n)->(ρ->Prop)->Prop}{r:ρ->Prop}{h0:List aM}{m0:Nat}:∀ {rest:List fC} {hs:List (Nat×List Nat)} {hs':List Held} {s':St} {s:RSt (std n)},SR s' s->(∀k,Keep k h0 s.h)->s.m=m0->
    HI E ops s'.h s.h hs' hs->iG (std n) X C ops rest hs K s r->
    fE E (jT C) ops rest hs' (λs1'=>∃s1,SR s1' s1/\(∀k,Keep k h0 s1.h)/\s1.m=m0/\K s1 r) s'
  | [],hs,hs',s',s,S,hK0,hm0,HH,hk=>⟨s,S,hK0,hm0,hk⟩
  | (i,rs,cs)::rest,hs,hs',s',s,S,hK0,hm0,HH,hk=>by
    generalize hM:iG (std n) X C ops ((i,rs,cs)::rest) hs K s=M at hk;unfold iG at hM;unfold fE;split at hM
    · (subst hM;exact hk.elim)
    · rename_i o ho;rw [ho];simp only [ag4];split at hM
      · rename_i hdst;have hd:dOK s'.m o.dst:=by rw [S.m];exact Ye hdst
        refine⟨hd,?_⟩;simp only at hM;have hlk:∀i sv,(if rs.contains i then dD (std n) s.t i else none)=some sv->dD (std n) s.t i=some sv:=λi sv h=>by
          split at h
          · exact h
          · cases h
        have Yh:∀d,(if rs.contains d then dD (std n) s.t d else none).isSome->aX (cut s'.t rs) d=aX s'.t d:=λd h=>by
          split at h
          · rename_i hc;exact Yg (by simpa using hc)
          · cases h
        have hev:∀ {gs:List (GE (std n))},SR s' {s with gs:=gs}->∀ {al:List Nat},(∀t∈al,∃e,gs[t]? =some e/\e.g=true)->EvR X E n (nmh s.h) (cut s'.t rs) (gI (std n) (λi=>if rs.contains i then dD (std n) s.t i else none) al):=
          λS1 _ hal=>pV (t':=s'.t) Yh (λi sv h=>S1.val i sv (hlk i sv h)) hal
        have go:∀ {s2':St} {s2:RSt (std n)} {tag:Option Nat} {v:SVal} {hs2:List (Nat×List Nat)} {aj7:List Held},SR s2' (s2.put (std n) o.dst tag v)->(∀k,Keep k s.h s2.h)->s2.m=s.m->HI E ops s2'.h s2.h aj7 hs2->iG (std n) X C ops rest hs2 K (s2.put (std n) o.dst tag v) r->
            fE E (jT C) ops rest aj7 (λs1'=>∃s1,SR s1' s1/\(∀k,Keep k h0 s1.h)/\s1.m=m0/\K s1 r) s2':=by
          intro s2' s2 tag v hs2 aj7 S2 hkeep hm2 HI2 hk2;have e1:=aha (n:=n) (s:=s2) (d:=o.dst) (tag:=tag) (v:=v);exact I6 hX (rest:=rest) S2 (λk=>by rw [e1.1];exact(hK0 k).trans (hkeep k)) (by rw [e1.2,hm2,hm0]) (by rw [e1.1];exact HI2) hk2
        have I7:∀(d:Option Nat) (v:Option PV),(s'.put d v).h=s'.h:=λd v=>by cases d<;>rfl
        split at hM
        ·
          rename_i hkind;split at hM
          · (subst hM;exact hk.elim)
          rename_i hnew;split at hM
          · rename_i hguard;rw [hkind];split at hM
            · rename_i ps v hv;subst hM;obtain⟨hps,hk⟩:=fU hk;rw [Dx]at hk;have pW:∀i sv,(if rs.contains i then dD (std n) s.t i else none)=some sv->zQ s.gs s'.t (nmh s.h) i sv:=λi sv h=>S.val i sv (hlk i sv h)
              obtain⟨pv,p1,p2⟩:=wE hX S.heap S.gs Yh pW (cur:=none) (λt h=>by cases h) hv hps;simp only;rw [ET hguard];have hE0:=hev S (al:=eZ (std n) s.gs none) (λt h=>by rw [Bz]at h;simp at h);rw [Bz]at hE0;have hln:=λhL=>yU hv hL
              rw [Bz]at hln;have hst:∀h'',(∀l∈gN (std n) X (gI (std n) (λi=>if rs.contains i then dD (std n) s.t i else none) []) o.op,AE.look h'' l=AE.look s'.h l)->iA E ops o (cut s'.t rs) h'' (λv'=>v'=some pv):=λh'' hh=>by
                rw [ET hguard,stable hX hE0 hh (λhL=>(hln hL).1)];exact p2 _ rfl
              have hns:∀l∈gN (std n) X (gI (std n) (λi=>if rs.contains i then dD (std n) s.t i else none) []) o.op,l<s.h.length:=λl hl=>by
                cases hL:isLoad o.op with
                | true=>exact(hln hL).2 l hl
                | false => unfold gN at hl; split at hl
                           · rename_i hop;rw [hop]at hL;simp [isLoad]at hL
                           · simp at hl
              exact p2 _ (go (s2:=s) (S.put (tag:=none) ⟨pv,rfl,p1⟩) (λ_=> .refl _ _) rfl (by rw [I7];exact HH.push hnew hns hst) hk)
            · (subst hM;exact hk.elim)
          · rename_i j want hguard;rw [hkind];split at hM
            · rename_i d hgs;have hgm:=λhb=>EP S (lk:=λi=>if rs.contains i then dD (std n) s.t i else none) hlk (tt:=cut s'.t rs) (d:=d) (want:=want) (Yh d) rfl hb
              simp only;rw [qP hguard hgs];split at hM
              · rename_i hr;rw [hr]at hgm;subst hM;cases hgm (by simp)with | skip h=>
                refine h _ _ (go (s2:=s) (S.put (tag:=none) ⟨nN,rfl,Yf⟩) (λ_=> .refl _ _) rfl (by rw [I7];exact HH.push hnew (λl hl=>by simp at hl) (λh'' _=>by rw [qP hguard hgs];exact h _ _ rfl)) hk)
              · rename_i gs t g hr;rw [hr]at hgm;cases hgm (by simp)with | run S1 hget hg pW hT hF=>
                rename_i e;subst hg;split at hM
                · rename_i ps v hv;subst hM;obtain⟨hps,hk⟩:=fU hk;have hns:∀l∈gN (std n) X (gI (std n) (λi=>if rs.contains i then dD (std n) s.t i else none) (eZ (std n) gs (some t))) o.op,l<s.h.length:=λl hl=>by
                    cases hL:isLoad o.op with
                    | true=>exact(yU hv hL).2 l hl
                    | false => unfold gN at hl; split at hl
                               · rename_i hop;rw [hop]at hL;simp [isLoad]at hL
                               · simp at hl
                  cases hg:e.g with
                  | true=>
                    have hcur:∀t0,some t=some t0->∃e,gs[t0]? =some e/\e.g=true:=λt0 ht=>by cases ht;exact⟨e,hget,hg⟩
                    obtain⟨pv,p1,p2⟩:=wE hX S1.heap S1.gs Yh (λi sv h=>pW i sv (hlk i sv h)) hcur hv (zR hps hg);have hE0:EvR X E n (nmh s.h) (cut s'.t rs) (gI (std n) (λi=>if rs.contains i then dD (std n) s.t i else none) (eZ (std n) gs (some t))):=hev S1 (og S1.gs hcur (f:=gs.length+1));refine hT hg _ _ (p2 _ (go (s2:={s with gs:=gs}) (S1.put (tag:=some t) ⟨e,hget,λ_=>⟨pv,rfl,p1⟩,λh=>by rw [hg]at h;cases h⟩) (λ_=> .refl _ _) rfl (by
                      rw [I7];refine HH.push hnew hns (λh'' hh=> ?_);rw [qP hguard hgs,stable hX hE0 hh (λhL=>(yU hv hL).1)];exact hT hg _ _ (p2 _ rfl)) hk))
                  | false=>
                    exact hF hg _ _ (go (s2:={s with gs:=gs}) (S1.put (tag:=some t) ⟨e,hget,λh=>(by rw [hg]at h;cases h),λ_=>rfl⟩) (λ_=> .refl _ _) rfl (by
                      rw [I7];refine HH.push hnew hns (λh'' hh=> ?_);rw [qP hguard hgs];exact hF hg _ _ rfl) hk)
                · (subst hM;exact hk.elim)
              · (subst hM;exact hk.elim)
            · (subst hM;exact hk.elim)
        · rename_i hkind;rw [hkind];split at hM
          · rename_i ps v hv;subst hM;obtain⟨hps,hk⟩:=fU hk;obtain⟨pv,p1,p2⟩:=map_ok hX (ops:=ops) (hev S (al:=[]) (λt h=>by simp at h)) hv;simp only;exact p2 _ (go (s2:=s) (S.put (tag:=none) ⟨pv,rfl,p1⟩) (λ_=> .refl _ _) rfl (by rw [I7];exact HH) hk)
          · rename_i hv;subst hM;have p2:=map_ok hX (ops:=ops) (hev S (al:=[]) (λt h=>by simp at h)) hv;simp only;refine p2 _ ?_;have e1:=apU (n:=n) (s:=s) (d:=o.dst);exact I6 hX (rest:=rest) S.del (λk=>by rw [e1.1];exact hK0 k) (by rw [e1.2,hm0]) (by rw [e1.1,I7];exact HH) hk
          · (subst hM;exact hk.elim)
        · rename_i hkind;rw [hkind];split at hM
          · rename_i hr hv;subst hM;obtain⟨hps,hk⟩:=fU hk;have he0:EvR X E n (nmh s.h) [] (λ_=>none):=λi v h=>by cases h
            obtain⟨pv,h'',j,q1,q2,q3,q4,q5⟩:=I4 hX S.heap S.len he0 hv hps;simp only;have S2:=S.yT q3.same q2 q4;have htd:hr.touched=[]:=by
              unfold kindOf at hkind;split at hkind
              · rename_i ty hop;rw [hop]at hv;simp only [EA]at hv;split at hv
                · split at hv
                  · split at hv<;>(cases hv;rfl)
                  · cases hv;rfl
                  · cases hv
                · cases hv
              all_goals first | cases hkind | (split at hkind<;>cases hkind)
            have HI2:=HH.turn q3;rw [htd,zS]at HI2;exact q5 _ (go (s2:={s with h:=hr.h}) (S2.put (tag:=none) ⟨pv,rfl,q1⟩) q3.Lx rfl (by cases o.dst<;>exact HI2) hk)
          · (subst hM;exact hk.elim)
        · rename_i hk0 hk1 hk2;split at hM
          · rename_i hguard;split at hM
            · rename_i cr hcr;split at hM
              · rename_i hcs;subst hM;obtain⟨hps,hk⟩:=fU hk;obtain⟨v,k,hvk,hk⟩:=Bw hk;obtain⟨v',k',e1,_,e3⟩:=Bv hX S.heap S.len (hev S (al:=[]) (λt h=>by simp at h)) hcr hps ⟨v,k,hvk⟩;rw [hvk]at e1;cases e1;split
                · rename_i h;exact absurd h hk0
                · rename_i h;exact absurd h hk1
                · rename_i h;exact absurd h hk2
                · rw [hguard];refine e3 _ λpv h'' j a1 a2 a3 a4=>⟨Dy HH a3 hcs,?_⟩
                  have S2:=S.yT a3.same a2 a4;exact go (s2:={s with h:=k}) (S2.put (tag:=none) ⟨pv,rfl,a1⟩) a3.Lx rfl (by cases o.dst<;>exact HH.turn a3) hk
              · (subst hM;exact hk.elim)
            · (subst hM;exact hk.elim)
          · rename_i j want hguard;split at hM
            · rename_i d hgs;have hgm:=λhb=>EP S (lk:=λi=>if rs.contains i then dD (std n) s.t i else none) hlk (tt:=cut s'.t rs) (d:=d) (want:=want) (Yh d) rfl hb
              have goal:kH (aX (cut s'.t rs) d) want
                  (Wq E (jT C) o (cut s'.t rs) s' λv h k=>Nl E ops h hs' cs/\fE E (jT C) ops rest hs' (λs1'=>∃s1,SR s1' s1/\(∀k,Keep k h0 s1.h)/\s1.m=m0/\K s1 r) (St.put {s' with h:=h,k:=k} o.dst (some v)))
                  (fE E (jT C) ops rest hs' (λs1'=>∃s1,SR s1' s1/\(∀k,Keep k h0 s1.h)/\s1.m=m0/\K s1 r) (s'.put o.dst (some nN))):=by
                split at hM
                · rename_i hr;rw [hr]at hgm;subst hM;cases hgm (by simp)with | skip h=>
                  exact h _ _ (go (s2:=s) (S.put (tag:=none) ⟨nN,rfl,Yf⟩) (λ_=> .refl _ _) rfl (by rw [I7];exact HH) hk)
                · rename_i gs t g hr;rw [hr]at hgm;cases hgm (by simp)with | run S1 hget hg pW hT hF=>
                  rename_i e;subst hg;have hcur:e.g=true->∀t0,some t=some t0->∃e,gs[t0]? =some e/\e.g=true:=λh t0 ht=>by cases ht;exact⟨e,hget,h⟩
                  split at hM
                  · rename_i cr hcr;split at hM
                    · rename_i hcs;split at hM
                      · rename_i hpure;subst hM;obtain⟨hps,hk⟩:=fU hk;obtain⟨v,k,hvk,hk⟩:=Bw hk;cases hg:e.g with
                        | true=>
                          obtain⟨v',k',e1,e2,e3⟩:=Bv hX S1.heap S1.len (hev S1 (og S1.gs (hcur hg) (f:=gs.length+1))) hcr (zR hps hg) ⟨v,k,hvk⟩;rw [hvk]at e1;cases e1;obtain⟨rfl,htd⟩:=e2 hpure;refine hT hg _ _ (e3 _ λpv h'' j a1 a2 a3 a4=>⟨Dy HH a3 hcs,?_⟩);have S2:=S1.yT (Same.refl _) a2 a4;have HI2:=HH.turn a3;rw [htd,zS]at HI2;exact go (s2:={s with gs:=gs}) (S2.put (tag:=some t) ⟨e,hget,λ_=>⟨pv,rfl,a1⟩,λh=>by rw [hg]at h;cases h⟩) (λ_=> .refl _ _) rfl (by cases o.dst<;>exact HI2) hk
                        | false=>
                          exact hF hg _ _ (go (s2:={s with gs:=gs}) (S1.put (tag:=some t) ⟨e,hget,λh=>(by rw [hg]at h;cases h),λ_=>rfl⟩) (λ_=> .refl _ _) rfl (by rw [I7];exact HH) hk)
                      · subst hM;obtain⟨hkT,hkF⟩:(e.g=true->gJ (std n) cr.ck (rM (std n) cr λv h=>iG (std n) X C ops rest (ni hs cr.touched) K (RSt.put (std n) {s with h:=h,gs:=gs} o.dst none v)) r)/\(e.g=false->iG (std n) X C ops rest hs K (RSt.put (std n) {s with gs:=zI (std n) gs t} o.dst none (.tup [])) r):=hk;cases hg:e.g with
                        | true=>
                          obtain⟨hps,hk⟩:=fU (hkT hg);obtain⟨v,k,hvk,hk⟩:=Bw hk;obtain⟨v',k',e1,e2,e3⟩:=Bv hX S1.heap S1.len (hev S1 (og S1.gs (hcur hg) (f:=gs.length+1))) hcr hps ⟨v,k,hvk⟩;rw [hvk]at e1;cases e1;refine hT hg _ _ (e3 _ λpv h'' j a1 a2 a3 a4=>⟨Dy HH a3 hcs,?_⟩);have S2:=S1.yT a3.same a2 a4;exact go (s2:={s with h:=k,gs:=gs}) (S2.put (tag:=none) ⟨pv,rfl,a1⟩) a3.Lx rfl (by cases o.dst<;>exact HH.turn a3) hk
                        | false=>
                          have hk:=hkF hg;have S2:=S1.kill hget hg;exact hF hg _ _ (go (s2:={s with gs:=zI (std n) gs t}) (S2.put (tag:=none) ⟨nN,rfl,Yf⟩) (λ_=> .refl _ _) rfl (by rw [I7];exact HH) hk)
                    · (subst hM;exact hk.elim)
                  · (subst hM;exact hk.elim)
                · (subst hM;exact hk.elim)
              split
              · rename_i h;exact absurd h hk0
              · rename_i h;exact absurd h hk1
              · rename_i h;exact absurd h hk2
              · rw [hguard];simp only;rw [hgs];exact goal
            · (subst hM;exact hk.elim)
      · (subst hM;exact hk.elim)
end
end Go.TX
namespace Go.TX
open Go Go.AE
variable [aB]
section
variable {n:Nat}
theorem G8{s:RSt (std n)}:∀ {l:List (Nat×SkV)} {e0 e:ES (std n)},uh (std n) s.t s.h l e0=some e->
  ∃vs,F2 (λi v=>dD (std n) s.t i=some ⟨none,v⟩) (l.map (·.1)) vs/\nW (std n) s.h (l.map (·.2)) vs e0=some e
 | [],e0,e,h=>by simp only [uh,Option.some.injEq]at h;subst h;exact⟨[],.nil,rfl⟩
 | p::l,e0,e,h=>by
  simp only [uh]at h;split at h
  .rename_i v hl;split at h
   .rename_i e1 h1;obtain⟨vs,q1,q2⟩:=G8 (l:=l) h;exact⟨v::vs,.cons hl q1,by simp only [List.map_cons,nW];rw [h1];exact q2⟩
   .cases h
  .cases h
theorem I8{k:Nat}{os:List SkO}{i:Nat}(hi:i<k)(hik:i<os.length):(es0 (std n) k os).ren[i]? =some (if qI os[i]? then none else some (some i)):=by
 have hb:Nat.blt i k=true:=by simpa using hi
 simp only [es0,List.getElem?_map,List.getElem?_range hik,Option.map_some,hb,Bool.true_and];cases qI os[i]? <;>rfl
theorem I9(k:Nat)(os:List SkO):(es0 (std n) k os).ren.length=os.length:=by simp [es0]
theorem Ja{c:Ctx}{w:World}{N:NM}{us:List Value}{vs:List SVal}(h:F2 (WV c w N) us vs):∃pvs,F2 (bG c w) us pvs/\F2 (PVR N) pvs vs:=by
 induction h with
 | nil=>exact⟨[],.nil,.nil⟩
 | cons h1 _ ih=>
  obtain⟨p,a,b⟩:=h1;obtain⟨pvs,q1,q2⟩:=ih;exact⟨p::pvs,.cons a q1,.cons b q2⟩
theorem EU{N:NM}:∀ {ids:List Nat} {vs:List SVal} {pvs:List PV},F2 (PVR N) pvs vs->∀i sv,dD (std n) (ids.zip (vs.map λv=>(⟨none,v⟩:SV (std n)))) i=some sv->sv.tag=none/\∃pv,aX (ids.zip (pvs.map some)) i=some pv/\PVR N pv sv.v
 | [],vs,pvs,_,i,sv,h=>by simp [dD]at h
 | j::ids,[],pvs,hF,i,sv,h=>by simp [dD]at h
 | j::ids,v::vs,pvs,hF,i,sv,h=>by
  cases hF with | cons h1 h2=>
  simp only [List.map_cons,List.zip_cons_cons,nC]at h ⊢;simp only [aX];split at h
  .rename_i e;cases h;rw [if_pos e];exact⟨rfl,_,rfl,h1⟩
  .rename_i e;rw [if_neg e];exact EU h2 i sv h
theorem EW{c:Ctx}{w:World}{a:Act}:∀ {ids:List Nat} {us:List Value} {pvs:List PV},F2 (bG c w) us pvs->F2 (λi u=>a.tmps[i]? =some u) ids us->∀i v,aX (ids.zip (pvs.map some)) i=some v->∃u,a.tmps[i]? =some u/\bG c w u v
 | [],us,pvs,_,_,i,v,h=>by simp [aX]at h
 | j::ids,us,pvs,hF,hI,i,v,h=>by
  cases hI with | cons h3 h4=>
  cases hF with | cons h1 h2=>
  simp only [List.map_cons,List.zip_cons_cons,aX]at h;split at h
  .rename_i e;subst e;cases h;exact⟨_,h3,h1⟩
  .exact EW h2 h4 i v h
theorem EZ{E:Tab}{s':St}{s:RSt (std n)}(S:SR s' s){c:Ctx}{w:World}{a:Act}(A:jw E s' c w a):∀ {ids:List Nat} {vs:List SVal},F2 (λi v=>dD (std n) s.t i=some ⟨none,v⟩) ids vs->∃us,F2 (λi u=>a.tmps[i]? =some u) ids us/\F2 (WV c w (nmh s.h)) us vs
 | [],_,h=>by cases h;exact⟨[],.nil,.nil⟩
 | i::ids,_,.cons h1 h2=>by
  obtain⟨us,q1,q2⟩:=EZ S A h2;obtain⟨pv,p1,p2⟩:=S.val i _ h1;obtain⟨u,hu,hr⟩:=A.abs.slot i pv p1;exact⟨u::us,.cons hu q1,.cons ⟨pv,hr,p2⟩ q2⟩
def μX(e:ES (std n))(c:Ctx)(i:Nat):Option Nat:=match e.ren[i]? with | some (some (some l))=>c.μ l | some (some none)=>none | _=>c.μ i
theorem LD(w:World)(K:Bool->Nat->Prop)(μ:Nat->Option Nat)(k:Nat)(hlow:∀f b,K f b->b<w.heap.size)(hsub:∀b,K true b->K false b):bH {K:=K,μ:=μ,n:=k} w []:=
 ⟨λl o h=>by simp [AE.look]at h,λl o l' o' b h=>by simp [AE.look]at h,λf b ⟨l,o,hl,_⟩=>by simp [AE.look]at hl,hlow,hsub⟩
theorem Jb{E:Tab}{k:Nat}{sk:Gm}{s:RSt (std n)}{ck:List Bool}{x:gZ sk.tys}(hx:ED (std n) k sk s=some (ck,x))(hck:∀b∈ck,b=true){s':St}(S:SR s' s){c:Ctx}{w:World}{a:Act}(A:jw E s' c w a)
  {c0:Ctx} {w0:World} {h0:Heap} (hc0:c0.n=k) (g:Grow c0 w0 h0 c w s'.h) {m:Nat} (hm:s.m=m):
  ∃c2 s2',Grow c0 w0 h0 c2 w s2'.h/\jw E s2' c2 w a/\SR s2' (rO (std n) sk m x)/\Keep k s.h (rO (std n) sk m x).h/\(rO (std n) sk m x).m=m:=by
 unfold ED at hx;split at hx
 .cases hx
 rename_i hkl;have hkl:k<=sk.objs.length:=by
  have:Nat.ble k sk.objs.length=true:=by simpa using hkl
  exact Nat.le_of_ble_eq_true this
 split at hx
 .rename_i e1 he1;split at hx
  .rename_i e he;split at hx
   .rename_i iW;split at hx
    .rename_i x' hx';cases hx;have iW:=I5 iW;obtain⟨vs,v1,v2⟩:=G8 he1;obtain⟨us,u1,u2⟩:=EZ S A v1;obtain⟨new1,vs2,a1,a2,a3,a4⟩:=uo (λi=>i) v2;obtain⟨new2,os2,b1,b2,b3,b4,b5⟩:=pR (λi=>i) (λ_=>(.gone .i64 0:aM)) (λ_=>⟨.i64,0,rfl⟩) he;have hlv:e.lv.reverse=new1++new2:=by rw [b1,a1];simp [es0]
     have hun:=unpack_pack hx';rw [hlv]at hun;have hrl:e.ren.length=sk.objs.length:=by rw [b2.len,a2.len,I9]
     have hof:∀(j:Nat) (kk:SkO),sk.objs[j]? =some kk->∃o2,os2[j]? =some o2/\OF e s.h (λi=>i) j kk (.gone .i64 0) o2:=λj kk hj=>by
      obtain⟨o2,q1,q2⟩:=b5 e (.refl _) j kk hj;exact⟨o2,q1,by simpa using q2⟩
     have Cx:rO (std n) sk m x={t:=(sk.slots.map (·.1)).zip (vs2.map λv=>(⟨none,v⟩:SV (std n))),gs:=[],h:=os2,m:=m}:=by
      unfold rO;rw [hun,a3];simp only;have:=b3 [];rw [List.append_nil]at this;rw [show qK aF (λi=>i) (λ_=>dP.gone Co.i64 ((std n).lit 0)) 0 sk.objs new2=some (os2,[])from this]
     have H:=A.abs.heap
     obtain⟨o',m1,m2,m3,m4,m5,_⟩:=yR (ks:=sk.objs) (nm:=λi=>i) (old:=λ_=>(.gone .i64 0:aM)) H S.heap hck iW hrl b4 hof (cb:={K:=λ_ _=>False,μ:=μX e c,n:=k}) (hb':=[])
      (LD w _ _ _ (λ_ _ h=>h.elim) (λ_ h=>h)) false (λh=>by cases h) (μ2:=μX e c) (n2:=sk.objs.length) hkl (λ_ _=>rfl) (λi hi=>hi) (λi j _ _ h=>h)
      (λi l hi=>by simp only [μX];rw [hi]) (λi hi=>by simp only [μX];rw [hi]) (h2:=os2) (λi _=>rfl)
      (λl o hl ho=>by
       have:sk.objs.length<=l:=by
        rcases Nat.lt_or_ge l sk.objs.length with h | h
        .exact absurd rfl (hl l h)
        .exact h
       rw [List.getElem?_eq_none ah]at ho;cases ho) (λ_ _=>rfl)
      (λb ⟨l,o,hl,_⟩ _=>by simp [AE.look]at hl) (λf b h _=>h) (λf b ⟨l,o,hl,_⟩ _=>by simp [AE.look]at hl)
     have hmu:∀l,l<k->μX e c l=c.μ l:=λl hl=>by
      have h0:=I8 (n:=n) hl (Nat.lt_of_lt_of_le hl hkl) (os:=sk.objs);unfold μX;by_cases hg:qI sk.objs[l]? =true
      .have hgo:sk.objs[l]? =some .gone:=by
        unfold qI at hg;split at hg
        .assumption
        .cases hg
       cases hr:e.ren[l]? with
       | none=>rfl
       | some q=>
        cases q with
        | none=>rfl
        | some v=>exact absurd hgo (iW.gone hr)
      .rw [if_neg hg]at h0;have:=b2.ren l _ (a2.ren l _ h0);rw [this]
     have hgr:Grow c0 w0 h0 {K:=λf b=>False\/KX e c false f b,μ:=μX e c,n:=sk.objs.length} w (rR (λi=>i) o' (List.range sk.objs.length) []):=by
      refine⟨⟨λf b hb=> .inr (.inl (by simpa using g.le.K f b hb)),by rw [hc0];exact hkl,λl hl=> ?_⟩,g.size,g.stays,g.kept,λf b hb=> ?_,λb hb=> ?_,g.os,g.tape,g.output⟩
      .show μX e c l=c0.μ l;rw [hmu l (by rw [<-hc0];exact hl)];exact g.le.μ l hl
      .rcases hb with hb | hb | ⟨l,f',q1,q2,q3⟩
       .exact hb.elim
       .exact g.wP f b (by simpa using hb)
       .obtain⟨_,g',cc,xs,hl⟩:=iW.fro l f' q1;obtain⟨o2,ho2,hO⟩:=S.heap.old l _ hl;cases hO with | rows _=>
        exact .inr ((g.oH b ⟨l,_,ho2,trivial,q2⟩).elim .inr .inl)
      .rcases m4 b hb with⟨l,o,hl,_⟩ | ⟨i,lq,q,_,q1,q2,q3⟩
       .simp [AE.look]at hl
       .exact g.oH b ⟨lq,q,q1,q2,q3⟩
     obtain⟨pvs,p1,p2⟩:=Ja (a4 H S.heap (b2) hck m3 (λh=>by cases h) u2);refine⟨_,{t:=(sk.slots.map (·.1)).zip (pvs.map some),h:=rR (λi=>i) o' (List.range sk.objs.length) [],n:=sk.objs.length,k:=0,m:=m},hgr,⟨⟨λi v hv=>EW p1 u1 i v hv,m1,?_⟩,rfl,A.defers,by rw [A.size,S.m,hm]⟩,?_,?_,by rw [Cx]⟩
     .intro gg d hd;obtain⟨q1,u,q2,q3⟩:=A.abs.glob gg d hd;exact⟨.inr (.inl (by simpa using q1)),u,q2,q3.mono' λb hb=> .inr (.inl (by simpa using hb))⟩
     .rw [Cx];refine⟨m2,by simp [nm,b4],rfl,λi sv hi=> ?_,λt e he=>by simp at he⟩;obtain⟨q1,q2⟩:=EU p2 i sv hi;unfold zQ;rw [q1];exact q2
     .rw [Cx];intro i hi;have hik:i<sk.objs.length:=Nat.lt_of_lt_of_le hi hkl;have hsk:sk.objs[i]? =some sk.objs[i]:=List.getElem?_eq_getElem hik;obtain⟨o2,q1,q2⟩:=hof i _ hsk;have h0:=I8 (n:=n) hi hik;by_cases hg:sk.objs[i]= .gone
      .have:Gone os2 i:=⟨.i64,0,by rw [q1,q2.gone hg]⟩;exact⟨λ_=>this,λ_ _=> .inl this⟩
      .have hig:qI sk.objs[i]? =false:=by
        rw [hsk];unfold qI;split
        .rename_i hh;exact absurd (Option.some.inj hh) hg
        .rfl
       rw [hig]at h0;have h0:(es0 (std n) k sk.objs).ren[i]? =some (some (some i)):=by simpa using h0
       have hre:=b2.ren i _ (a2.ren i _ h0);have htr:qH (std n) e i=none:=by rw [b2.tr i _ (a2.ren i _ h0),a2.tr i _ h0];rfl
       refine⟨λ⟨cc,nn,hgo⟩=> ?_,λx hx=> .inr ?_⟩
       .obtain⟨oo,r1,r2,r3,r4⟩:=q2.rel H S.heap hck m3 (λh=>by cases h);obtain⟨o3,h3,h4⟩:=r4 i hg hre;obtain⟨o4,h5,h6⟩:=S.heap.old i _ hgo;rw [h3]at h5;cases h5;cases h6;exact h4.elim
       .have:=q2.s1 i x.1 x.2 hg hre (by rw [hx]);rw [htr]at this;simp only [nmh,q1];simpa [nmh]using this
    .cases hx
   .cases hx
  .cases hx
 .cases hx
end
end Go.TX
namespace Go.TX
open Go Go.AE
variable [aB]
section
variable {n:Nat}
def LX(E:Tab)(c0:Ctx)(w0:World)(h0:Heap)(k:Nat)(H0:List aM)(m0:Nat){ρ:Type}(K:Exit->RSt (std n)->(ρ->Prop)->Prop)(r:ρ->Prop):Exit->Act->World->Prop
 | .outgrown,_,_=>False
 | .panic _,_,_=>False
 | .goto _,_,_=>False
 | e,a,w=>∃c s' s,Grow c0 w0 h0 c w s'.h/\jw E s' c w a/\SR s' s/\Keep k H0 s.h/\s.m=m0/\K e s r
theorem NQ{E:Tab}{c0:Ctx}{w0:World}{h0:Heap}{k:Nat}{H0:List aM}{m0:Nat}(hc0:c0.n=k){code:Code}{a:Act}{w:World}{sk:Gm}{pl:Bool}{s:RSt (std n)}(hs:s.m=m0){ρ:Type}{K:Exit->RSt (std n)->(ρ->Prop)->Prop}{r:ρ->Prop}
  {W: {σ:Type}->(Exit->RSt (std n)->(σ->Prop)->Prop)->(σ->Prop)->Prop} (hW:∀ {σ:Type} {K':Exit->RSt (std n)->(σ->Prop)->Prop} {r':σ->Prop},W K' r'->code.wp E.P (LX E c0 w0 h0 k H0 m0 K' r') a w)
  (h:NG (std n) k sk pl s K W r):code.wp E.P (LX E c0 w0 h0 k H0 m0 K r) a w:=by
 have step:∀ {t:gZ sk.tys} {s1:RSt (std n)} {ck:List Bool},ED (std n) k sk s1=some (ck,t)->(∀b∈ck,b=true)->K .normal (rO (std n) sk s.m t) r->∀ {c s' a w},Grow c0 w0 h0 c w s'.h->jw E s' c w a->SR s' s1->Keep k H0 s1.h->s1.m=m0->LX E c0 w0 h0 k H0 m0 K r .normal a w:=by
  intro t s1 ck h1 h2 h3 c s' a w g A S hK hm;obtain⟨c2,s2',g2,A2,S2,K2,hm2⟩:=Jb h1 h2 S A hc0 g hm;rw [hs]at h3;exact⟨c2,s2',_,g2,A2,S2,hK.trans K2,hm2,h3⟩
 unfold NG at h;split at h
 .refine wp_mono (hW h) ?_;intro e a' w' he;cases e with
  | outgrown=>exact he.elim
  | panic _=>exact he
  | goto _=>exact he
  | normal=>
   obtain⟨c,s',s1,a1,a2,a3,a4,a5,a6⟩:=he;simp only at a6;rcases hx:ED (std n) k sk s1 with _ | ⟨ck,t'⟩
   .rw [hx]at a6;exact a6.elim
   .rw [hx]at a6;obtain⟨q1,q2⟩:=fU a6;exact step hx q1 q2 a1 a2 a3 a4 a5
  | ret=>obtain⟨c,s',s1,a1,a2,a3,a4,a5,a6⟩:=he;exact a6.elim
  | exit i=>obtain⟨c,s',s1,a1,a2,a3,a4,a5,a6⟩:=he;exact a6.elim
 .refine wp_mono (hW h) ?_;intro e a' w' he;cases e with
  | outgrown=>exact he.elim
  | panic _=>exact he
  | goto _=>exact he
  | normal=>
   obtain⟨c,s',s1,a1,a2,a3,a4,a5,a6⟩:=he;simp only at a6;rcases hx:ED (std n) k sk s1 with _ | ⟨ck,t'⟩
   .rw [hx]at a6;exact a6.elim
   .rw [hx]at a6;obtain⟨q1,q2⟩:=fU a6;exact step hx q1 q2 a1 a2 a3 a4 a5
  | ret=>obtain⟨c,s',s1,a1,a2,a3,a4,a5,a6⟩:=he;exact⟨c,s',s1,a1,a2,a3,a4,a5,a6⟩
  | exit i=>obtain⟨c,s',s1,a1,a2,a3,a4,a5,a6⟩:=he;exact⟨c,s',s1,a1,a2,a3,a4,a5,a6⟩
section
variable {X:XT} {E:Tab} (hE:aD E) (hX:XOK X E) {C:Calls aF} (hG:oJ E (jT C)) (hm:E.P.follows .mixedOrders=true) {ord:Nat->List fC} {chk:Nat->Array Oper->Nat->Bool} (LG:∀id ops m,chk id ops m=true->Static E ord id ops m)
 {c0:Ctx} {w0:World} {h0:Heap} {k:Nat} {H0:List aM} {m0:Nat} (hc0:c0.n=k)
include hE hX hG hm LG
theorem aj8{id:Nat}{ops:Array Oper}{draw:Bool}{s:RSt (std n)}{ρ:Type}{K:Exit->RSt (std n)->(ρ->Prop)->Prop}{r:ρ->Prop}
  (h:(if draw then(if chk id ops s.m then iG (std n) X C ops.toList (ord id) [] (λs=>K .normal s) s else(std n).fail)else fF (std n) X C ops.toList ops.toList (λs=>K .normal s) s:(std n).M ρ) r)
  {s':St} {c:Ctx} {w:World} {a:Act} (A:jw E s' c w a) (g:Grow c0 w0 h0 c w s'.h) (S:SR s' s) (hK:Keep k H0 s.h) (hs:s.m=m0):(Code.region id ops draw).wp E.P (LX E c0 w0 h0 k H0 m0 K r) a w:=by
 have fin:∀ {e:Exit} {a:Act} {w:World},wV E c0 w0 h0 (λe s1'=>e= .normal/\∃s1,SR s1' s1/\(∀k,Keep k s.h s1.h)/\s1.m=m0/\K .normal s1 r) e a w->LX E c0 w0 h0 k H0 m0 K r e a w:=by
  intro e a w he;cases e with
  | outgrown=>exact he.elim
  | panic _=>exact he
  | goto _=>exact he
  | normal=>obtain⟨c,s1',a1,a2,_,s1,a3,a4,a5,a6⟩:=he;exact⟨c,s1',s1,a1,a2,a3,hK.trans (a4 k),a5,a6⟩
  | ret=>obtain⟨c,s1',a1,a2,q,_⟩:=he;cases q
  | exit i=>obtain⟨c,s1',a1,a2,q,_⟩:=he;cases q
 split at h
 .rename_i hd;subst hd;split at h
  .rename_i hc;have hst:=LG _ _ _ hc;have hr:=I6 hX (h0:=s.h) (m0:=m0) (hs':=[]) S (λ_=> .refl _ _) hs (λp hp=>by simp at hp) h;refine wp_mono (ajR hE hG hm ord id ops (λe s1'=>e= .normal/\∃s1,SR s1' s1/\(∀k,Keep k s.h s1.h)/\s1.m=m0/\K .normal s1 r) s' c0 w0 h0 c w a A g ⟨by rw [S.m];exact hst,?_⟩) λe a w=>fin
   simpa using hr
  .exact h.elim
 .rename_i hd;have:draw=false:=by simpa using hd
  subst this;have hr:=G5 hX (h0:=s.h) (m0:=m0) S (λ_=> .refl _ _) hs h;refine wp_mono (wp_region_list (zu hE hG (Q:=λe s1'=>e= .normal/\∃s1,SR s1' s1/\(∀k,Keep k s.h s1.h)/\s1.m=m0/\K .normal s1 r) ops ops.toList A g ?_)) λe a w=>fin
  simpa using hr
end
end
end Go.TX
