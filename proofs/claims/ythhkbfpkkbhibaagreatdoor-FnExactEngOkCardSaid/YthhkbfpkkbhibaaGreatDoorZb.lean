/- Part 2 of a proof: what the last part needs. No condition. -/
import Derived.Test.YthhkbfpkkbhibaaGreatDoorZa
set_option maxHeartbeats 1000000
set_option linter.all false
set_option linter.unusedSectionVars false
set_option linter.unusedVariables false
set_option linter.unusedSimpArgs false
namespace Go.TX
open Go Go.AE
inductive Leaf (A:Car) where
 | int (k:IntKind) (x:A.I) | bool (x:A.B) | str (x:A.S) | rows (c:Co) (xs:A.L c)
inductive TC (A:Car) where
 | d (f:Bool) (x:Leaf A)
 | nil
 | clip (f:Bool) (c:Co) (xs:A.L c)
 | own (l:Nat)
 | os (l:Nat) (lo n:A.I)
 | pb (l sz j:Nat)
 | pr (l:Nat) (i:A.I) (j:Nat)
 | rp (f:Bool) (c:Co) (xs:A.L c) (i:A.I) (j:Nat)
 | gp (g:Nat) (c:Co)
 | fn (g:FuncId) (caps:List (Nat×Nat))
 | np
inductive TV (A:Car) where
 | c (x:TC A)
 | agg (cs:List (TC A))
 | sv (f:Bool) (c:Co) (x:A.X c)
 | tup (vs:List (TV A))
inductive dZ (A:Car) where
 | box (v:TV A)
 | rows (f:Bool) (c:Co) (xs:A.L c)
 | gone (c:Co) (n:A.I)
structure XT where
 ty:TypeId->Option TY
 co:TypeId->Option Co
 glob:Nat->Option Co
 ieq:TypeId->Option Co
section
variable (A:Alg)
def ahf(c:Co)(j:Nat)(x:A.X c):Sh->Leaf A.au
 | .int k=> .int k (A.fI c j x)
 | .bool=> .bool (A.fB c j x)
 | .str=> .str (A.fS c j x)
 | .rows c'=> .rows c' (A.fL c j c' x)
def fP(c:Co)(x:A.X c):Nat->List Sh->List (Leaf A.au)
 | _,[]=> []
 | j,s::r=>ahf A c j x s::fP c x (j+1) r
def pE(f:Bool)(c:Co)(x:A.X c):List (TC A.au):=(fP A c x 0 c.fields).map (.d f)
def bU:TV A.au->List (TC A.au)
 | .c x=> [x]
 | .agg cs=>cs
 | .sv f c x=>pE A f c x
 | .tup _=> []
def Leaf.lv{A:Car}:Leaf A->LV A
 | .int _ x=> .i x | .bool x=> .b x | .str x=> .s x | .rows c xs=> .l c xs
def Leaf.flag{A:Car}(f:Bool):Leaf A->Bool
 | .rows _ _=>f | _=>true
def ji{A:Car}:Leaf A->Sh
 | .int k _=> .int k | .bool _=> .bool | .str _=> .str | .rows c _=> .rows c
def fQ(h:List (dZ A.au))(s:Sh)(x:TC A.au):Option (Bool×LV A.au×List Nat):=
 match x with
 | .d f y=>if ji y=s then some (y.flag f,y.lv,[])else none
 | .nil=>match s with | .rows c=>some (true,.l c (A.D6 c),[]) | _=>none
 | .clip f c xs=>if Sh.rows c=s then some (f,.l c xs,[])else none
 | .own l=>match h[l]? with | some (.rows f c xs)=>if Sh.rows c=s then some (f,.l c xs,[l])else none | _=>none
 | _=>none
def aJ(h:List (dZ A.au)):List Sh->List (TC A.au)->Option (Bool×List (LV A.au)×List Nat)
 | [],[]=>some (true,[],[])
 | s::r,x::xs=>match fQ A h s x with
  | some (f,y,l)=>match aJ h r xs with | some (g,ys,ls)=>if l.all λi=> !ls.contains i then some (f&&g,y::ys,l++ls)else none | none=>none
  | none=>none
 | _,_=>none
def toX(h:List (dZ A.au))(c:Co)(v:TV A.au):Option (Bool×A.X c×List Nat):=
 match v with
 | .sv f c' x=>if e:c'=c then some (f || c.flat,e▸x,[])else none
 | .tup _=>none
 | v=>match aJ A h c.fields (bU A v)with
  | some (f,ys,ls)=>match pack A.au c.qg ys with | some t=>some (f,A.mkX c t,ls) | none=>none
  | none=>none
def bH:TV A.au->Bool | .agg _ | .sv .. =>true | _=>false
def jO(y:TY)(j:Nat)(whole:TV A.au)(cs:List (TC A.au)):Option (TV A.au):=
 if y.desc.agg then
  (if(j==0)&& (y.size==cs.length)&&bH A whole then some whole else if Nat.ble (j+y.size) cs.length then some (.agg ((cs.drop j).take y.size))else none)
 else match cs[j]? with
  | some x=>(match y.desc with
   | .int k=>(match x with | .d _ (.int k' _)=>if k=k' then some (.c x)else none | _=>none)
   | _=>some (.c x))
  | none=>none
abbrev PR:=Option (List A.B×TV A.au)
def okV(v:TV A.au):PR A:=some ([],v)
def okI(k:IntKind)(x:A.I):PR A:=some ([],.c (.d true (.int k x)))
def okB(x:A.B):PR A:=some ([],.c (.d true (.bool x)))
def Kg(v:Option (TV A.au)):PR A:=match v with | some v=>some ([],v) | none=>none
def evX(X:XT)(e:Nat->Option (TV A.au)):Operand->Option (TV A.au)
 | .tmp i=>e i
 | .const v=>match v with
  | .int k n=>some (.c (.d true (.int k (A.lit n))))
  | .bool b=>some (.c (.d true (.bool (A.bl b))))
  | .string s=>some (.c (.d true (.str (A.st s))))
  | .slice none 0 0=>some (.c .nil)
  | .pointer none=>some (.c .np)
  | _=>none
 | .global g=>match X.glob g with | some c=>some (.c (.gp g c)) | none=>none
 | .func f=>some (.c (.fn f []))
def Kh(X:XT)(h:List (dZ A.au))(ty:TypeId)(p:TV A.au):PR A:=
 match X.ty ty with
 | none=>none
 | some y=>match p with
  | .c (.pb l sz j)=>match h[l]? with
   | some (.box v)=>if(bU A v).length==sz then Kg A (jO A y j v (bU A v))else none
   | _=>none
  | .c (.pr l i j)=>match h[l]? with
   | some (.rows f c xs)=>match jO A y j (.sv f c (A.get c xs i)) (pE A f c (A.get c xs i))with
    | some v=>some ([A.cmp .leq (A.lit 0) i,A.cmp .lss i (A.len c xs)],v)
    | none=>none
   | _=>none
  | .c (.rp f c xs i j)=>Kg A (jO A y j (.sv f c (A.get c xs i)) (pE A f c (A.get c xs i)))
  | .c (.gp g c)=>match y.desc with | .slice _=>some ([],.c (.d false (.rows c (A.glob g c)))) | _=>none
  | _=>none
def Hw:BinOp->Bool
 | .add | .sub | .mul | .quo | .rem | .and | .or | .xor | .shl | .shr=>true
 | _=>false
def Vh:BinOp->Bool
 | .eql | .neq | .lss | .leq | .gtr | .geq=>true
 | _=>false
def ahg(X:XT)(op:BinOp)(ty:TypeId)(a b:TV A.au):PR A:=
  match a,b with
  | .c (.d _ (.int k x)),.c (.d _ (.int k' y))=>
    if k=k'\/Ra op=true then
      (match op with
       | .quo | .rem=>some ([A.cmp .neq y (A.lit 0)],.c (.d true (.int k (A.arith op k x y))))
       | .shl | .shr=>some ([A.cmp .leq (A.lit 0) y],.c (.d true (.int k (A.arith op k x y))))
       | op=>if Hw op then okI A k (A.arith op k x y)else if Vh op then okB A (A.cmp op x y)else none)
    else none
  | .c (.d _ (.bool x)),.c (.d _ (.bool y))=>match X.ty ty with
    | some z=>match z.desc with
      | .bool=>(match op with | .eql=>okB A (A.eqB x y) | .neq=>okB A (A.xY (A.eqB x y)) | _=>none)
      | _=>none
    | none=>none
  | .c (.d _ (.str x)),.c (.d _ (.str y))=>match X.ty ty with
    | some z=>match z.desc with
      | .str=>(match op with | .eql=>okB A (A.eqS x y) | .neq=>okB A (A.xY (A.eqS x y)) | _=>none)
      | _=>none
    | none=>none
  | .c (.os _ _ m),.c .nil=>match X.ty ty with
    | some z=>match z.desc with
      | .slice _=>(match op with
        | .eql=>some ([A.cmp .neq m (A.lit 0)],.c (.d true (.bool (A.bl false))))
        | .neq=>some ([A.cmp .neq m (A.lit 0)],.c (.d true (.bool (A.bl true))))
        | _=>none)
      | _=>none
    | none=>none
  | .c (.d _ (.rows c xs)),.c .nil=>match X.ty ty with
    | some z=>match z.desc with
      | .slice _=>(match op with
        | .eql=>some ([A.cmp .neq (A.len c xs) (A.lit 0)],.c (.d true (.bool (A.bl false))))
        | .neq=>some ([A.cmp .neq (A.len c xs) (A.lit 0)],.c (.d true (.bool (A.bl true))))
        | _=>none)
      | _=>none
    | none=>none
  | v,w=>match X.ieq ty with
    | some c=>match toX A [] c v,toX A [] c w with
      | some (_,x,_),some (_,y,_)=>(match op with | .eql=>okB A (A.eqX c x y) | .neq=>okB A (A.xY (A.eqX c x y)) | _=>none)
      | _,_=>none
    | none=>none
def ahh(h:List (dZ A.au))(v:TV A.au):TV A.au:=match v with
 | .c (.own l)=>(match h[l]? with | some (.rows _ c xs)=> .c (.os l (A.lit 0) (A.len c xs)) | _=>v)
 | _=>v
def unX(op:UnOp)(a:TV A.au):PR A:=
 match op,a with
 | .not,.c (.d _ (.bool b))=>okB A (A.xY b)
 | .neg,.c (.d _ (.int k n))=>okI A k (A.neg k n)
 | _,_=>none
def Vi(X:XT)(src dst:TypeId)(a:TV A.au):PR A:=
 match X.ty src,X.ty dst with
 | some z,some y=>match y.desc,a with
  | .int k,.c (.d _ (.int _ n))=>okI A k (A.conv k n)
  | .str,.c (.d _ (.rows .u8 xs))=>(match z.desc with
   | .slice e=>(match X.ty e with
    | some t=>(match t.desc with | .int .u8=>some ([],.c (.d true (.str (A.Mg xs)))) | _=>none)
    | none=>none)
   | _=>none)
  | _,_=>none
 | _,_=>none
def xZ(X:XT)(s:TypeId)(a:TV A.au)(f:Nat):PR A:=
 match X.ty s with
 | some y=>match y.desc with
  | .struct fs=>match fs[f]? with
   | some (off,ft)=>match X.ty ft with
    | some z=>if z.size==0 then none else(match a with
     | .c (.pb l sz j)=>okV A (.c (.pb l sz (j+off)))
     | .c (.pr l i j)=>okV A (.c (.pr l i (j+off)))
     | .c (.rp g c xs i j)=>okV A (.c (.rp g c xs i (j+off)))
     | _=>none)
    | none=>none
   | none=>none
  | _=>none
 | none=>none
def Mj(X:XT)(s:TypeId)(a:TV A.au)(f:Nat):PR A:=
 match X.ty s with
 | some y=>match y.desc with
  | .struct fs=>match fs[f]? with
   | some (off,ft)=>match X.ty ft with
    | some z=>if bH A a&&Nat.ble (off+z.size) (bU A a).length then
      (if z.desc.agg then okV A (.agg (((bU A a).drop off).take z.size))else match (bU A a)[off]? with | some x=>okV A (.c x) | none=>none)
     else none
    | none=>none
   | none=>none
  | _=>none
 | none=>none
def ku(X:XT)(e:TypeId)(c:Co):Bool:=match X.ty e with | some z=>z.size==c.fields.length | none=>false
def x9(X:XT)(h:List (dZ A.au))(t:TypeId)(a ix:TV A.au):PR A:=
 match X.ty t with
 | some y=>match y.desc,ix with
  | .slice e,.c (.d _ (.int _ i))=>match a with
   | .c (.d f (.rows c xs))=>if ku X e c then some ([A.cmp .leq (A.lit 0) i,A.cmp .lss i (A.len c xs)],.c (.rp f c xs i 0))else none
   | .c (.clip f c xs)=>if ku X e c then some ([A.cmp .leq (A.lit 0) i,A.cmp .lss i (A.len c xs)],.c (.rp f c xs i 0))else none
   | .c (.own l)=>match h[l]? with
    | some (.rows _ c xs)=>if ku X e c then some ([A.cmp .leq (A.lit 0) i,A.cmp .lss i (A.len c xs)],.c (.pr l i 0))else none
    | _=>none
   | .c (.os l lo n)=>match h[l]? with
    | some (.rows _ c _)=>if ku X e c then some ([A.cmp .leq (A.lit 0) i,A.cmp .lss i n,A.cmp .leq (A.lit 0) lo],.c (.pr l (A.addN lo i) 0))else none
    | _=>none
   | _=>none
  | _,_=>none
 | none=>none
def ahi(h:List (dZ A.au))(a:TV A.au):PR A:=
 match a with
 | .c (.d _ (.rows c xs))=>okI A .i64 (A.len c xs)
 | .c (.clip _ c xs)=>okI A .i64 (A.len c xs)
 | .c (.own l)=>match h[l]? with | some (.rows _ c xs)=>okI A .i64 (A.len c xs) | _=>none
 | .c (.os _ _ n)=>okI A .i64 n
 | .c .nil=>okI A .i64 (A.lit 0)
 | _=>none
def ahj(a:TV A.au):PR A:=
 match a with
 | .c (.pb l s j)=>okV A (.c (.pb l s j))
 | .c (.pr l i j)=>okV A (.c (.pr l i j))
 | .c (.rp f c xs i j)=>okV A (.c (.rp f c xs i j))
 | _=>none
def Hy(X:XT)(e:Nat->Option (TV A.au))(o:Option Operand)(dflt:A.I):Option A.I:=
 match o with
 | none=>some dflt
 | some x=>match evX A X e x with | some (.c (.d _ (.int _ n)))=>some n | _=>none
def Mk(X:XT)(e:Nat->Option (TV A.au))(h:List (dZ A.au))(ty:TypeId)(a:TV A.au)(lo hi mx:Option Operand):PR A:=
 match X.ty ty with
 | some y=>match y.desc with
  | .slice el=>match Hy A X e lo (A.lit 0)with
   | some l=>match a with
    | .c (.d f (.rows c xs))=>if ku X el c then
      match Hy A X e hi (A.len c xs)with
      | some r=>match mx with
       | none=>some ([A.cmp .leq (A.lit 0) l,A.cmp .leq l r,A.cmp .leq r (A.len c xs)],.c (.d f (.rows c (A.sub c xs l r))))
       | some _=>match Hy A X e mx (A.lit 0)with
        | some m=>if hi.isSome then some ([A.cmp .leq (A.lit 0) l,A.cmp .leq l r,A.cmp .leq r (A.len c xs),A.cmp .eql m r],.c (.clip f c (A.sub c xs l r)))else none
        | none=>none
      | none=>none
     else none
    | .c (.own w)=>match h[w]?,mx with
     | some (.rows _ c xs),none=>if ku X el c then
       match Hy A X e hi (A.len c xs)with
       | some r=>some ([A.cmp .leq (A.lit 0) l,A.cmp .leq l r,A.cmp .leq r (A.len c xs)],.c (.os w l (A.Kc r l)))
       | none=>none
      else none
     | _,_=>none
    | .c (.os w l0 n)=>match h[w]?,mx with
     | some (.rows _ c _),none=>if ku X el c then
       match Hy A X e hi n with
       | some r=>some ([A.cmp .leq (A.lit 0) l,A.cmp .leq l r,A.cmp .leq r n,A.cmp .leq (A.lit 0) l0],.c (.os w (A.addN l0 l) (A.Kc r l)))
       | none=>none
      else none
     | _,_=>none
    | .c .nil=>match mx,Hy A X e hi (A.lit 0)with
     | none,some r=>if(X.ty el).isSome then some ([A.cmp .eql l (A.lit 0),A.cmp .eql r (A.lit 0)],.c .nil)else none
     | _,_=>none
    | _=>none
   | none=>none
  | _=>none
 | none=>none
def Ki(X:XT)(e:Nat->Option (TV A.au))(fs:List (Nat×TypeId)):List (Nat×Operand)->List (TC A.au)->Option (List (TC A.au))
 | [],cs=>some cs
 | (i,x)::rest,cs=>match fs[i]? with
  | some (off,ft)=>match X.ty ft,evX A X e x with
   | some z,some v=>if((bU A v).length==z.size)&& !(z.size==0)&&Nat.ble (off+z.size) cs.length then
    Ki X e fs rest (cs.take off++bU A v++cs.drop (off+(bU A v).length))else none
   | _,_=>none
  | none=>none
def Rs:Cell->Option (TC A.au)
 | .d true (.int k n)=>some (.d true (.int k (A.lit n)))
 | .d true (.bool b)=>some (.d true (.bool (A.bl b)))
 | .d true (.str s)=>some (.d true (.str (A.st s)))
 | .nil=>some .nil
 | .np=>some .np
 | _=>none
def jD:List Cell->Option (List (TC A.au))
 | []=>some []
 | x::r=>match Rs A x,jD r with | some y,some ys=>some (y::ys) | _,_=>none
def Ml(X:XT)(e:Nat->Option (TV A.au))(ty:TypeId)(parts:List (Nat×Operand)):PR A:=
 match X.ty ty with
 | some y=>match y.desc with
  | .struct fs=>if fs.all λft=>(X.ty ft.2).isSome then
    match jD A y.zero with
    | some z=>match Ki A X e fs parts z with | some cs=>okV A (.agg cs) | none=>none
    | none=>none
   else none
  | _=>none
 | none=>none
def Kj(X:XT)(e:Nat->Option (TV A.au)):List Operand->Option (List (Nat×Nat))
 | []=>some []
 | x::r=>match evX A X e x with
  | some (.c (.pb l sz 0))=>match Kj X e r with | some ys=>some ((l,sz)::ys) | none=>none
  | _=>none
def Vj(b:A.B):TC A.au->TC A.au->Option (TC A.au)
 | .d f (.int k x),.d g (.int k' y)=>if k=k' then some (.d (f&&g) (.int k (A.Mh b x y)))else none
 | .d f (.bool x),.d g (.bool y)=>some (.d (f&&g) (.bool (A.Hu b x y)))
 | .d f (.rows c xs),.d g (.rows c' ys)=>if e:c'=c then some (.d (f&&g) (.rows c (A.Mi b c xs (e▸ys))))else none
 | _,_=>none
def Mq(b:A.B):TV A.au->TV A.au->Option (TV A.au)
 | .c x,.c y=>match Vj A b x y with | some z=>some (.c z) | none=>none
 | _,_=>none
def D7(X:XT)(e:Nat->Option (TV A.au))(h:List (dZ A.au))(c:Call):PR A:=
 match c.callee with
 | .builtin .len=>match c.args.toList,c.argTypes.toList with
  | [x],[ty]=>match X.ty ty,evX A X e x with
   | some y,some v=>(match y.desc with | .slice _=>ahi A h v | _=>none)
   | _,_=>none
  | _,_=>none
 | .builtin .cap=>match c.args.toList,c.argTypes.toList with
  | [x],[ty]=>match X.ty ty,evX A X e x with
   | some y,some (.c .nil)=>(match y.desc with | .slice _=>okI A .i64 (A.lit 0) | _=>none)
   | _,_=>none
  | _,_=>none
 | .builtin .min=>match c.args.toList with
  | [x,y]=>match evX A X e x,evX A X e y with
   | some (.c (.d _ (.int k m))),some (.c (.d _ (.int _ n)))=>okI A k (A.Mf m n)
   | _,_=>none
  | _=>none
 | .builtin .max=>match c.args.toList with
  | [x,y]=>match evX A X e x,evX A X e y with
   | some (.c (.d _ (.int k m))),some (.c (.d _ (.int _ n)))=>okI A k (A.jo m n)
   | _,_=>none
  | _=>none
 | _=>none
def y7(v:Option (TV A.au))(K:TV A.au->PR A):PR A:=match v with | some v=>K v | none=>none
def Rt(X:XT)(e:Nat->Option (TV A.au))(h:List (dZ A.au))(op:Op):PR A:=
 match op with
 | .move x | .assign x=>y7 A (evX A X e x) λv=>okV A v
 | .load ty p=>y7 A (evX A X e p) λv=>Kh A X h ty v
 | .nilCheck x=>y7 A (evX A X e x) λv=>ahj A v
 | .binOp op ty x y _=>y7 A (evX A X e x) λa=>y7 A (evX A X e y) λb=>ahg A X op ty (ahh A h a) b
 | .unOp op _ x=>y7 A (evX A X e x) λa=>unX A op a
 | .convert s d x=>y7 A (evX A X e x) λa=>Vi A X s d a
 | .fieldAddr s x f=>y7 A (evX A X e x) λa=>xZ A X s a f
 | .field s x f=>y7 A (evX A X e x) λa=>Mj A X s a f
 | .indexAddr ty x i=>y7 A (evX A X e x) λa=>y7 A (evX A X e i) λb=>x9 A X h ty a b
 | .slice ty x lo hi mx=>y7 A (evX A X e x) λa=>Mk A X e h ty a lo hi mx
 | .extract x i=>y7 A (evX A X e x) λa=>match a with | .tup vs=>Kg A vs[i]? | _=>none
 | .build ty parts=>Ml A X e ty parts.toList
 | .makeFunc fn first caps=>match fn with
  | .func g=>if first.toList.isEmpty then(match Kj A X e caps.toList with | some cs=>okV A (.c (.fn g cs)) | none=>none)else none
  | _=>none
 | .call c=>D7 A X e h c
 | _=>none
structure HR where
 chk:List A.B
 v:TV A.au
 h:List (dZ A.au)
 touched:List Nat
def bB(h:List (dZ A.au)):List Nat->List (dZ A.au)
 | []=>h
 | l::r=>bB (match h[l]? with | some (.rows _ c xs)=>h.set l (.gone c (A.len c xs)) | _=>h) r
def jo:Int:=1073741824
def zdB(l:List Cell):Bool:=l.all λx=>match x with | .d _ _=>true | .nil=>true | _=>false
def ahk(h:List (dZ A.au))(c:Co)(zx:Option (A.X c))(v:TV A.au):Option (Bool×A.L c):=
 match v with
 | .c (.d _ (.int _ n))=>match zx with | some x=>some (true,A.rep c n x) | none=>none
 | .c .nil=>some (true,A.D6 c)
 | .c (.d f (.rows c' xs))=>if e:c'=c then some (f,e▸xs)else none
 | .c (.clip f c' xs)=>if e:c'=c then some (f,e▸xs)else none
 | .c (.own l)=>match h[l]? with | some (.rows f c' xs)=>if e:c'=c then some (f,e▸xs)else none | _=>none
 | .c (.os l lo n)=>match h[l]? with | some (.rows f c' xs)=>if e:c'=c then some (f,e▸A.sub c' xs lo (A.addN lo n))else none | _=>none
 | _=>none
def kC(h:List (dZ A.au))(v:TV A.au):List A.B:=
 match v with
 | .c (.os l lo n)=>match h[l]? with
  | some (.rows _ c' xs)=> [A.cmp .leq (A.lit 0) lo,A.cmp .leq (A.lit 0) n,A.cmp .leq (A.addN lo n) (A.len c' xs)]
  | _=> []
 | .c (.d _ (.int _ n))=> [A.cmp .leq (A.lit 0) n,A.cmp .leq n (A.lit jo)]
 | _=> []
def D8(X:XT)(t2:TypeId)(v:TV A.au):Bool:=
 match X.ty t2 with
 | some y2=>(match y2.desc,v with | .slice _,.c (.d _ (.int ..))=>false | .slice _,.c _=>true | .int _,.c (.d _ (.int ..))=>true | _,_=>false)
 | none=>false
def Rv(z:TY)(c:Co):Option (A.X c):=
 match jD A z.zero with
 | some zs=>(match toX A [] c (.agg zs)with | some (_,x,_)=>some x | none=>none)
 | none=>none
def Hz(X:XT)(h:List (dZ A.au))(ty t2:TypeId)(a b:TV A.au):Option (HR A):=
 match X.ty ty with
 | some y=>match y.desc with
  | .slice e=>match X.ty e,X.co e with
   | some z,some c=>if ku X e c&& !(z.size==0)&&Nat.ble z.bytes 1024&&D8 A X t2 b&&zdB z.zero then
     match (ahk A h c (Rv A z c) b).map λp=>(p.1 || c.flat,p.2)with
     | some (f2,ds)=>match a with
      | .c .nil=>some ⟨kC A h b++ [A.cmp .leq (A.len c ds) (A.lit jo)],.c (.own h.length),h++ [.rows f2 c ds],[]⟩
      | .c (.own l)=>match h[l]? with
       | some (.rows f1 c1 xs)=>if q:c1=c then
         some ⟨kC A h b++ [A.cmp .leq (A.addN (A.len c1 xs) (A.len c ds)) (A.lit jo)],.c (.own h.length),
          h.set l (.gone c1 (A.len c1 xs))++ [.rows (f1&&f2) c (A.app c (q▸xs) ds)],[l]⟩
        else none
       | _=>none
      | .c (.os l lo n)=>match h[l]? with
       | some (.rows f1 c1 xs)=>if q:c1=c then
         some ⟨kC A h b++ [A.cmp .eql lo (A.lit 0),A.cmp .leq (A.lit 0) n,A.cmp .leq n (A.len c1 xs),A.cmp .leq (A.addN n (A.len c ds)) (A.lit jo)],.c (.own h.length),
          h.set l (.gone c1 (A.len c1 xs))++ [.rows (f1&&f2) c (A.app c (A.sub c (q▸xs) (A.lit 0) n) ds)],[l]⟩
        else none
       | _=>none
      | .c (.clip f1 c1 xs)=>if q:c1=c then
        some ⟨kC A h b++ [A.orB (A.cmp .lss (A.lit 0) (A.len c ds)) (A.cmp .eql (A.len c1 xs) (A.lit 0)),A.cmp .leq (A.addN (A.len c1 xs) (A.len c ds)) (A.lit jo)],.c (.own h.length),
         h++ [.rows (f1&&f2) c (A.app c (q▸xs) ds)],[]⟩
       else none
      | _=>none
     | none=>none
    else none
   | _,_=>none
  | _=>none
 | none=>none
def qY(X:XT)(e:Nat->Option (TV A.au))(c:Co):List (dZ A.au)->List (Nat×Operand)->Option (Bool×List (A.X c)×List (dZ A.au)×List Nat)
 | h,[]=>some (true,[],h,[])
 | h,(_,x)::r=>match evX A X e x with
  | some v=>match toX A h c v with
   | some (f,y,ls)=>match qY X e c (bB A h ls) r with
    | some (g,ys,h',ls')=>some (f&&g,y::ys,h',ls++ls')
    | none=>none
   | none=>none
  | none=>none
def Kk(c:Co)(cs:List (LV A.au))(j:Nat)(ys:List (LV A.au)):Option (A.X c):=
 match pack A.au c.qg (cs.take j++ys++cs.drop (j+ys.length))with | some t=>some (A.mkX c t) | none=>none
def uw(X:XT)(h:List (dZ A.au))(ty:TypeId)(p v:TV A.au):Option (HR A):=
 match X.ty ty with
 | some y=>if(y.size==0) || !((bU A v).length==y.size)then none else match p with
  | .c (.pb l sz j)=>match h[l]? with
   | some (.box w)=>
    if(j==0)&& ((bU A v).length==(bU A w).length)&& ((bU A w).length==sz)&& (bH A v==bH A w)then some ⟨[],.tup [],h.set l (.box v),[l]⟩
    else if Nat.ble (j+(bU A v).length) (bU A w).length&& ((bU A w).length==sz)then
     some ⟨[],.tup [],h.set l (.box (.agg ((bU A w).take j++bU A v++(bU A w).drop (j+(bU A v).length)))),[l]⟩
    else none
   | _=>none
  | .c (.pr l i j)=>match h[l]? with
   | some (.rows f c xs)=>
    if(j==0)&& (y.size==c.fields.length)then
     match toX A h c v with
     | some (g,x,ls)=>if ls.contains l then none else
      some ⟨[A.cmp .leq (A.lit 0) i,A.cmp .lss i (A.len c xs)],.tup [],(bB A h ls).set l (.rows (f&&g) c (A.set c xs i x)),l::ls⟩
     | none=>none
    else match aJ A h ((c.fields.drop j).take y.size) (bU A v)with
     | some (g,ys,ls)=>if ls.contains l || !Nat.ble (j+y.size) c.fields.length then none else
      match Kk A c ((fP A c (A.get c xs i) 0 c.fields).map Leaf.lv) j ys with
      | some z=>some ⟨[A.cmp .leq (A.lit 0) i,A.cmp .lss i (A.len c xs)],.tup [],(bB A h ls).set l (.rows (f&&g) c (A.set c xs i z)),l::ls⟩
      | none=>none
     | none=>none
   | _=>none
  | _=>none
 | none=>none
def Mr(X:XT)(h:List (dZ A.au))(ty:TypeId)(v:TV A.au):Option (HR A):=
 match X.ty ty with
 | some y=>match y.desc with
  | .slice e=>match X.ty e,X.co e with
   | some z,some c=>match jD A z.zero with
    | some zs=>match toX A [] c (.agg zs)with
     | some (_,x,_)=>if ku X e c&& !(z.size==0)then
      match v with
      | .c .nil=>some ⟨[],.tup [],h,[]⟩
      | .c (.own l)=>match h[l]? with
       | some (.rows f c1 xs)=>if c1=c then some ⟨[],.tup [],h.set l (.rows f c (A.rep c (A.len c1 xs) x)),[l]⟩else none
       | _=>none
      | .c (.os l lo n)=>match h[l]? with
       | some (.rows f c1 xs)=>if q:c1=c then
         some ⟨kC A h v,.tup [],h.set l (.rows f c (A.app c (A.app c (A.sub c (q▸xs) (A.lit 0) lo) (A.rep c n x)) (A.sub c (q▸xs) (A.addN lo n) (A.len c1 xs)))),[l]⟩
        else none
       | _=>none
      | _=>none
      else none
     | none=>none
    | none=>none
   | _,_=>none
  | _=>none
 | none=>none
def D9(X:XT)(e:Nat->Option (TV A.au))(h:List (dZ A.au))(op:Op):Option (HR A):=
 match op with
 | .alloc ty=>match X.ty ty with
  | some y=>match jD A y.zero with
   | some [x]=>if y.desc.agg then some ⟨[],.c (.pb h.length y.size 0),h++ [.box (.agg [x])],[]⟩else some ⟨[],.c (.pb h.length y.size 0),h++ [.box (.c x)],[]⟩
   | some (x::r)=>some ⟨[],.c (.pb h.length y.size 0),h++ [.box (.agg (x::r))],[]⟩
   | _=>none
  | none=>none
 | .box _ x=>match evX A X e x with
  | some v=>if(bU A v).length==0 then none else some ⟨[],.c (.pb h.length (bU A v).length 0),h++ [.box v],[]⟩
  | none=>none
 | .buildSlice ty len parts=>match X.ty ty with
  | some y=>match y.desc with
   | .slice el=>match X.ty el,X.co el with
    | some z,some c=>if ku X el c&& !(z.size==0)&& (parts.toList.map (·.1)==List.range len)&&Nat.ble (len*z.size) 16777216 then
      match qY A X e c h parts.toList with
      | some (f,xs,h',ls)=>some ⟨[],.c (.own h'.length),h'++ [.rows f c (A.lst c xs)],ls⟩
      | none=>none
     else none
    | _,_=>none
   | _=>none
  | none=>none
 | .makeSlice ty l cp=>match X.ty ty with
  | some y=>match y.desc with
   | .slice el=>match X.ty el,X.co el with
    | some z,some c=>match jD A z.zero,evX A X e l,evX A X e cp with
     | some zs,some (.c (.d _ (.int _ m))),some (.c (.d _ (.int _ m')))=>match toX A [] c (.agg zs)with
      | some (_,x,_)=>if ku X el c&& !(z.size==0)&&Nat.ble z.bytes 1024 then
        some ⟨[A.cmp .eql m' m,A.cmp .leq (A.lit 0) m,A.cmp .leq m (A.lit jo)],.c (.own h.length),h++ [.rows true c (A.rep c m x)],[]⟩
       else none
      | none=>none
     | _,_,_=>none
    | _,_=>none
   | _=>none
  | none=>none
 | .store ty p x=>match evX A X e p,evX A X e x with
  | some pv,some v=>uw A X h ty pv v
  | _,_=>none
 | .call c=>match c.callee,c.args.toList,c.argTypes.toList with
  | .builtin .append,[a,b],[ty,t2]=>match evX A X e a,evX A X e b with
   | some av,some bv=>Hz A X h ty t2 av bv
   | _,_=>none
  | .builtin .clear,[a],[ty]=>match evX A X e a with
   | some av=>Mr A X h ty av
   | none=>none
  | _,_,_=>none
 | _=>none
end
end Go.TX
namespace Go.TX
open Go Go.AE
variable [aB]
inductive SkC where
 | int (k:IntKind) | bool | str | rows (f:Bool) (c:Co) | nil | own (l:Nat) | pb (l sz j:Nat) | pr (l j:Nat) | rp (f:Bool) (c:Co) (j:Nat) | gp (g:Nat) (c:Co)
 | fn (g:FuncId) (caps:List (Nat×Nat)) | np | clip (f:Bool) (c:Co)
 deriving DecidableEq,Inhabited,Repr
inductive SkV where
 | c (x:SkC) | agg (cs:List SkC) | sv (f:Bool) (c:Co)
 deriving DecidableEq,Inhabited,Repr
inductive SkO where
 | box (v:SkV) | rows (f:Bool) (c:Co) | gone
 deriving DecidableEq,Inhabited,Repr
structure jY where
 slots:List (Nat×SkV)
 objs:List SkO
 deriving DecidableEq,Inhabited
abbrev SkC.tys : SkC -> List LTy
 | .int _=> [.i] | .bool=> [.b] | .str=> [.s] | .rows _ c=> [.l c] | .pr _ _=> [.i] | .rp _ c _=> [.l c,.i] | .clip _ c=> [.l c] | _=> []
abbrev SkC.CS : List SkC -> List LTy
 | []=> []
 | x::r=>x.tys++SkC.CS r
abbrev SkV.tys : SkV -> List LTy
 | .c x=>x.tys | .agg cs=>SkC.CS cs | .sv _ q=> [.x q]
abbrev SkV.CS : List SkV -> List LTy
 | []=> []
 | x::r=>x.tys++SkV.CS r
abbrev SkO.tys : SkO -> List LTy
 | .box v=>v.tys | .rows _ c=> [.l c] | .gone=> []
abbrev SkO.CS : List SkO -> List LTy
 | []=> []
 | x::r=>x.tys++SkO.CS r
abbrev jY.tys(k : jY) : List LTy := SkV.CS (k.slots.map (·.2)) ++ SkO.CS k.objs
structure Sig where
 args:List SkV
 objs:List SkO
 res:List SkV
 dV:List SkO
 deriving DecidableEq,Inhabited
abbrev Sig.inp(s : Sig) : List LTy := SkV.CS s.args ++ SkO.CS s.objs
abbrev Sig.out(s : Sig) : List LTy := SkV.CS s.res ++ SkO.CS s.dV
def SkC.fresh:SkC->Bool | .rows f _=>f | .clip f _=>f | .rp f _ _=>f | .gp _ _=>false | _=>true
def SkV.fresh:SkV->Bool | .c x=>x.fresh | .agg cs=>cs.all SkC.fresh | .sv f q=>f || q.flat
def SkO.fresh:SkO->Bool | .box v=>v.fresh | .rows f _=>f | .gone=>true
def Sig.fresh(s:Sig):Bool:=s.res.all SkV.fresh&&s.dV.all SkO.fresh
structure Ct(A:Car)(s:Sig) where
 pre:Tup A s.inp->A.B
 fn:Tup A s.inp->Tup A s.out
abbrev Calls(A:Car):=FuncId->List (Sigma (Ct A))
inductive Ann where
 | u | seq (a b:Ann) | cond (a b:Ann) | block (a:Ann) | loop (k:jY) (a:Ann) | cut (k:jY) (a:Ann)
 deriving Inhabited
section
variable (A:Alg)
structure ES where
 ren:List (Option (Option Nat))
 fro:List (Nat×Bool)
 tr:List (Nat×A.I×A.I)
 ck:List A.B
 lv:List (LV A.au)
def ES.push(s:ES A)(x:LV A.au):ES A:={s with lv:=x::s.lv}
def qZ(s:ES A)(i:Nat)(v:Option Nat):Option (ES A):=
 match s.ren[i]? with
 | some none=>some {s with ren:=s.ren.set i (some v)}
 | some (some w)=>if w=v then some s else none
 | none=>none
def extC(h:List (dZ A.au))(k:SkC)(v:TC A.au)(s:ES A):Option (ES A):=
 match k with
 | .int k=>match v with | .d _ (.int k' x)=>if k=k' then some (s.push A (.i x))else none | _=>none
 | .bool=>match v with | .d _ (.bool x)=>some (s.push A (.b x)) | _=>none
 | .str=>match v with | .d _ (.str x)=>some (s.push A (.s x)) | _=>none
 | .rows f c=>match v with
  | .os l lo n=>match h[l]? with
   | some (.rows g c' xs)=>if c=c'/\(!f || g)then some {(s.push A (.l c' (A.sub c' xs lo (A.addN lo n))))with fro:=(l,f)::s.fro,ck:=kC A h (.c v)++s.ck}else none
   | _=>none
  | v=>match fQ A h (.rows c) v with
   | some (g,x,ls)=>if !f || g then some {(s.push A x)with fro:=ls.map (λl=>(l,f))++s.fro}else none
   | none=>none
 | .nil=>match v with | .nil=>some s | _=>none
 | .own i=>match v with
  | .own l=>if s.tr.any (·.1==i)then none else qZ A s i (some l)
  | .nil=>qZ A s i none
  | .os l lo n=>match s.ren[i]?,h[l]? with
   | some none,some (.rows _ c xs)=>some {s with ren:=s.ren.set i (some (some l)),tr:=(i,lo,n)::s.tr,ck:=[A.cmp .leq (A.lit 0) lo,A.cmp .leq (A.lit 0) n,A.cmp .leq (A.addN lo n) (A.len c xs)]++s.ck}
   | _,_=>none
  | _=>none
 | .pb i sz j=>match v with | .pb l sz' j'=>if sz=sz'/\j=j'/\ !(s.tr.any (·.1==i))then qZ A s i (some l)else none | _=>none
 | .pr i j=>match v with | .pr l x j'=>if j=j'/\ !(s.tr.any (·.1==i))then(match qZ A s i (some l)with | some s=>some (s.push A (.i x)) | none=>none)else none | _=>none
 | .rp f c j=>match v with | .rp g c' xs x j'=>if c=c'/\j=j'/\(!f || g)then some ((s.push A (.l c' xs)).push A (.i x))else none | _=>none
 | .gp g c=>match v with | .gp g' c'=>if g=g'/\c=c' then some s else none | _=>none
 | .fn g caps=>match v with
  | .fn g' om=>if g=g'/\caps.map (·.2)=om.map (·.2)/\caps.all (λp=> !(s.tr.any (·.1==p.1)))then
    (caps.zip om).foldlM (λs p=>qZ A s p.1.1 (some p.2.1)) s else none
  | _=>none
 | .np=>match v with | .np=>some s | _=>none
 | .clip f c=>match v with | .clip g c' xs=>if c=c'/\(!f || g)then some (s.push A (.l c' xs))else none | _=>none
def Ea(h:List (dZ A.au)):List SkC->List (TC A.au)->ES A->Option (ES A)
 | [],[],s=>some s
 | k::r,v::vs,s=>match extC A h k v s with | some s=>Ea h r vs s | none=>none
 | _,_,_=>none
def FN(h:List (dZ A.au))(k:SkV)(v:TV A.au)(s:ES A):Option (ES A):=
 match k with
 | .c k=>match v with | .c x=>extC A h k x s | _=>none
 | .agg ks=>if bH A v then Ea A h ks (bU A v) s else none
 | .sv f c=>if bH A v then match toX A h c v with
  | some (g,x,ls)=>if !f || g then some {(s.push A (.x c x))with fro:=ls.map (λl=>(l,f))++s.fro}else none
  | none=>none
  else none
def oq(h:List (dZ A.au)):List SkV->List (TV A.au)->ES A->Option (ES A)
 | [],[],s=>some s
 | k::r,v::vs,s=>match FN A h k v s with | some s=>oq h r vs s | none=>none
 | _,_,_=>none
def jk(s:ES A)(i:Nat):Option (A.I×A.I):=match s.tr.find? (·.1==i)with | some x=>some x.2 | none=>none
def Ms(h:List (dZ A.au))(i:Nat)(k:SkO)(s:ES A):Option (ES A):=
 match k,s.ren[i]? with
 | .gone,_=>some s
 | .box k,some (some (some l))=>match h[l]? with | some (.box v)=>FN A h k v s | _=>none
 | .rows f c,some (some (some l))=>match h[l]? with
  | some (.rows g c' xs)=>if c=c'/\(!f || g || c.flat)then some (s.push A (.l c' (match jk A s i with | some p=>A.sub c' xs p.1 (A.addN p.1 p.2) | none=>xs)))else none
  | _=>none
 | .rows _ c,some (some none)=>some (s.push A (.l c (A.D6 c)))
 | _,_=>none
def y8(h:List (dZ A.au)):Nat->List SkO->ES A->Option (ES A)
 | _,[],s=>some s
 | i,k::r,s=>match Ms A h i k s with | some s=>y8 h (i+1) r s | none=>none
def bJ:List (Option (Option Nat))->List Nat
 | []=> []
 | some (some l)::r=>l::bJ r
 | _::r=>bJ r
def distinct:List Nat->Bool
 | []=>true
 | x::r=> !r.contains x&&distinct r
def q9:Option SkO->Bool | some .gone=>true | _=>false
def qh:List SkO->List (Option (Option Nat))->Bool
 | .gone::os,some _::_=>false
 | _::os,_::r=>qh os r
 | _,_=>true
def Vk(h:List (dZ A.au))(l:Nat):Bool:=match h[l]? with | some (.rows ..)=>true | _=>false
def ES.fine(h:List (dZ A.au))(s:ES A)(os:List SkO):Bool:=distinct (bJ s.ren)&& (s.fro.all λp=> !(bJ s.ren).contains p.1&&Vk A h p.1)&&qh os s.ren
def es0(k:Nat)(os:List SkO):ES A:={ren:=(List.range os.length).map λi=>if Nat.blt i k&& !q9 os[i]? then some (some i)else none,fro:=[],tr:=[],ck:=[],lv:=[]}
end
section
variable (A:Car)
def Vm(nm:Nat->Nat):SkC->List (LV A)->Option (TC A×List (LV A))
 | .int k,.i x::r=>some (.d true (.int k x),r)
 | .bool,.b x::r=>some (.d true (.bool x),r)
 | .str,.s x::r=>some (.d true (.str x),r)
 | .rows f _,.l c x::r=>some (.d f (.rows c x),r)
 | .nil,r=>some (.nil,r)
 | .own i,r=>some (.own (nm i),r)
 | .pb i sz j,r=>some (.pb (nm i) sz j,r)
 | .pr i j,.i x::r=>some (.pr (nm i) x j,r)
 | .rp f _ j,.l c x:: .i y::r=>some (.rp f c x y j,r)
 | .gp g c,r=>some (.gp g c,r)
 | .fn g caps,r=>some (.fn g (caps.map λp=>(nm p.1,p.2)),r)
 | .np,r=>some (.np,r)
 | .clip f _,.l c x::r=>some (.clip f c x,r)
 | _,_=>none
def HV(nm:Nat->Nat):List SkC->List (LV A)->Option (List (TC A)×List (LV A))
 | [],r=>some ([],r)
 | k::ks,r=>match Vm A nm k r with
  | some (x,r)=>match HV nm ks r with | some (xs,r)=>some (x::xs,r) | none=>none
  | none=>none
def y9(nm:Nat->Nat):SkV->List (LV A)->Option (TV A×List (LV A))
 | .c k,r=>match Vm A nm k r with | some (x,r)=>some (.c x,r) | none=>none
 | .agg ks,r=>match HV A nm ks r with | some (xs,r)=>some (.agg xs,r) | none=>none
 | .sv f _,.x c x::r=>some (.sv f c x,r)
 | _,_=>none
def ru(nm:Nat->Nat):List SkV->List (LV A)->Option (List (TV A)×List (LV A))
 | [],r=>some ([],r)
 | k::ks,r=>match y9 A nm k r with
  | some (x,r)=>match ru nm ks r with | some (xs,r)=>some (x::xs,r) | none=>none
  | none=>none
def Vn(nm:Nat->Nat)(old:dZ A):SkO->List (LV A)->Option (dZ A×List (LV A))
 | .box k,r=>match y9 A nm k r with | some (v,r)=>some (.box v,r) | none=>none
 | .rows f _,.l c x::r=>some (.rows f c x,r)
 | .gone,r=>some (old,r)
 | _,_=>none
def uz(nm:Nat->Nat)(old:Nat->dZ A):Nat->List SkO->List (LV A)->Option (List (dZ A)×List (LV A))
 | _,[],r=>some ([],r)
 | i,k::ks,r=>match Vn A nm (old i) k r with
  | some (x,r)=>match uz nm old (i+1) ks r with | some (xs,r)=>some (x::xs,r) | none=>none
  | none=>none
end
section
variable (A:Alg)
structure SV where
 tag:Option Nat
 v:TV A.au
structure GE where
 slot:Option Nat
 want:Bool
 par:Option Nat
 g:A.B
 dead:Bool
structure RSt where
 t:List (Nat×SV A)
 gs:List (GE A)
 h:List (dZ A.au)
 m:Nat
 deriving Inhabited
def dL:List (Nat×SV A)->Nat->Option (SV A)
 | [],_=>none
 | (i,v)::r,j=>if i==j then some v else dL r j
def lW(d:Nat)(e:GE A):GE A:=match e.slot with | some x=>if x==d then {e with slot:=none}else e | none=>e
def RSt.put(s:RSt A)(d:Option Nat)(tag:Option Nat)(v:TV A.au):RSt A:=
 match d with | none=>s | some d=> {s with t:=(d,⟨tag,v⟩)::s.t,gs:=s.gs.map (lW A d)}
def RSt.del(s:RSt A)(d:Option Nat):RSt A:=
 match d with | none=>s | some d=> {s with t:=s.t.filter λp=> !(p.1==d),gs:=s.gs.map (lW A d)}
def Rw(m:Nat):Option Nat->Bool | none=>true | some d=>Nat.blt d m
def Mv(gs:List (GE A)):Nat->Option Nat->List Nat
 | 0,_=> []
 | _,none=> []
 | f+1,some t=>t::(match gs[t]? with | some e=>Mv gs f e.par | none=> [])
def fC(gs:List (GE A))(t:Option Nat):List Nat:=Mv A gs (gs.length+1) t
def iq:List (GE A)->Nat->Bool->Nat->Option Nat
 | [],_,_,_=>none
 | e::r,d,w,i=>if(e.slot==some d)&& (e.want==w)then some i else iq r d w (i+1)
def gN(lk:Nat->Option (SV A))(al:List Nat)(i:Nat):Option (TV A.au):=
 match lk i with
 | some ⟨none,v⟩=>some v
 | some ⟨some t,v⟩=>if al.contains t then some v else none
 | none=>none
inductive GR where
 | bad | skip | run (gs:List (GE A)) (t:Nat) (g:A.B)
def Eb(lk:Nat->Option (SV A))(gs:List (GE A))(d:Nat)(want:Bool):GR A:=
 match lk d with
 | none=> .bad
 | some ⟨tg,v⟩=>match iq A gs d want 0 with
  | some t=>match gs[t]? with | some e=>if e.dead then .skip else .run gs t e.g | none=> .bad
  | none=>match v with
   | .c (.d _ (.bool b))=>
    let g0:=if want then b else A.xY b
    match tg with
    | none=> .run (gs++ [⟨some d,want,none,g0,false⟩]) gs.length g0
    | some t'=>match gs[t']? with
     | some e=> .run (gs++ [⟨some d,want,some t',A.Ke e.g g0,false⟩]) gs.length (A.Ke e.g g0)
     | none=> .bad
   | .tup []=>match tg with | none=> .skip | some _=> .bad
   | _=> .bad
def za(gs:List (GE A))(t:Nat):List (GE A):=match gs[t]? with | some e=>gs.set t {e with dead:=true} | none=>gs
def uD(X:XT)(lk:Nat->Option (SV A))(gs:List (GE A))(h:List (dZ A.au))(cur:Option Nat)(op:Op):PR A:=
 let al:=fC A gs cur
 match op with
 | .pick c a b=>match evX A X (gN A lk al) c with
  | some (.c (.d _ (.bool q)))=>
   let alt (w:Bool):List Nat:=match c with
    | .tmp d=>(match iq A gs d w 0 with | some t=>fC A gs (some t)++al | none=>al)
    | _=>al
   match evX A X (gN A lk (alt true)) a,evX A X (gN A lk (alt false)) b with
   | some (.tup []),some y=>some ([A.xY q],y)
   | some x,some (.tup [])=>some ([q],x)
   | some x,some y=>Kg A (Mq A q x y)
   | _,_=>none
  | _=>none
 | op=>Rt A X (gN A lk al) h op
def Kl(X:XT)(e:Nat->Option (TV A.au)):List Operand->Option (List (TV A.au))
 | []=>some []
 | x::r=>match evX A X e x with | some v=>(match Kl X e r with | some vs=>some (v::vs) | none=>none) | none=>none
def newNames:List (Option (Option Nat))->Nat->Nat->List Nat
 | _,_,0=> []
 | [],n,k+1=>n::newNames [] (n+1) k
 | some (some l)::r,n,k+1=>l::newNames r n k
 | _::r,n,k+1=>n::newNames r (n+1) k
def uE(h:List (dZ A.au))(l:Nat):dZ A.au:=
 match h[l]? with | some (.rows _ c xs)=> .gone c (A.len c xs) | some (.gone c n)=> .gone c n | _=> .gone .i64 (A.lit 0)
def iD(h:List (dZ A.au)):List Nat->List (dZ A.au)->List (dZ A.au)
 | l::ls,o::os=>iD (if Nat.blt l h.length then h.set l o else h++ [o]) ls os
 | _,_=>h
def ang:List (TV A.au)->TV A.au | [v]=>v | vs=> .tup vs
structure CR where
 ck:List A.B
 ts:List LTy
 y:Tup A.au ts
 k:Tup A.au ts->Option (TV A.au×List (dZ A.au))
 touched:List Nat
 pure:Bool
def rz(h:List (dZ A.au))(s:Sig)(ct:Ct A.au s)(args:List (TV A.au)):Option (CR A):=
  match oq A h s.args args (es0 A 0 s.objs)with
  | some e=>match y8 A h 0 s.objs e with
    | some e=>if ES.fine A h e s.objs&&e.tr.isEmpty then match pack A.au s.inp e.lv.reverse with
      | some x=>
        let br:=s.fresh&&e.fro.all λp=> !p.2
        some { ck := e.ck ++ [ct.pre x], ts := s.out, y := ct.fn x, touched := bJ e.ren ++ (if br then [] else e.fro.map (·.1)), pure := s.objs.isEmpty && s.dV.isEmpty && (br || e.fro.isEmpty)
               k:=λy=>
                 let h1:=if br then h else bB A h (e.fro.map (·.1))
                 let nms:=newNames e.ren h1.length s.dV.length
                 let nm:=λi=>nms.getD i 0
                 match ru A.au nm s.res (unpack A.au s.out y)with
                 | some (vs,r)=>match uz A.au nm (λi=>uE A h1 (nm i)) 0 s.dV r with
                   | some (os,_)=>some (ang A vs,iD A h1 nms os)
                   | none=>none
                 | none=>none}
      | none=>none
      else none
    | none=>none
  | none=>none
def ze(h:List (dZ A.au))(args:List (TV A.au)):List (Sigma (Ct A.au))->Option (CR A)
 | []=>none
 | ⟨s,ct⟩::r=>match rz A h s ct args with | some x=>some x | none=>ze h args r
def Rx(X:XT)(C:Calls A.au)(e:Nat->Option (TV A.au))(h:List (dZ A.au))(op:Op):Option (CR A):=
 match op with
 | .call c=>match c.callee with
  | .value f=>match evX A X e f,Kl A X e c.args.toList with
   | some (.c (.fn g caps)),some vs=>ze A h (vs++caps.map λp=> .c (.pb p.1 p.2 0)) (C g)
   | _,_=>none
  | _=>none
 | _=>none
def TW(X:XT)(C:Calls A.au)(e:Nat->Option (TV A.au))(h:List (dZ A.au))(op:Op):Option (CR A):=
 match iN op with
 | 1=>match op with
  | .store ty p x=>match evX A X e p,evX A X e x with
   | some pv,some v=>match uw A X h ty pv v with
    | some r=>match v with
     | .c (.d f (.int q n))=>some {ck:=r.chk,ts:=[.i],y:=(n,()),k:=λy=>(match uw A X h ty pv (.c (.d f (.int q y.1)))with | some r=>some (r.v,r.h) | none=>none),touched:=r.touched,pure:=false}
     | .c (.d f (.bool n))=>some {ck:=r.chk,ts:=[.b],y:=(n,()),k:=λy=>(match uw A X h ty pv (.c (.d f (.bool y.1)))with | some r=>some (r.v,r.h) | none=>none),touched:=r.touched,pure:=false}
     | .c (.d f (.rows c n))=>some {ck:=r.chk,ts:=[.l c],y:=(n,()),k:=λy=>(match uw A X h ty pv (.c (.d f (.rows c y.1)))with | some r=>some (r.v,r.h) | none=>none),touched:=r.touched,pure:=false}
     | .sv f c n=>some {ck:=r.chk,ts:=[.x c],y:=(n,()),k:=λy=>(match uw A X h ty pv (.sv f c y.1)with | some r=>some (r.v,r.h) | none=>none),touched:=r.touched,pure:=false}
     | _=>some {ck:=r.chk,ts:=[],y:=(),k:=λ_=>some (r.v,r.h),touched:=r.touched,pure:=false}
    | none=>none
   | _,_=>none
  | _=>match D9 A X e h op with
   | some r=>match r.v with
    | .c (.own l)=>match r.h[l]? with
     | some (.rows f c xs)=>some {ck:=r.chk,ts:=[.l c],y:=(xs,()),k:=λy=>some (r.v,r.h.set l (.rows f c y.1)),touched:=r.touched,pure:=false}
     | _=>none
    | _=>some {ck:=r.chk,ts:=[],y:=(),k:=λ_=>some (r.v,r.h),touched:=r.touched,pure:=false}
   | none=>none
 | _=>Rx A X C e h op
def Ry{ρ:Type}(op:Op)(v:TV A.au)(K:TV A.au->A.M ρ):A.M ρ:=
 match op with
 | .assign _=>match v with
  | .c (.d f (.int k x))=>A.tq [.i] (x,()) λy=>K (.c (.d f (.int k y.1)))
  | .c (.d f (.bool x))=>A.tq [.b] (x,()) λy=>K (.c (.d f (.bool y.1)))
  | .c (.d f (.rows c x))=>A.tq [.l c] (x,()) λy=>K (.c (.d f (.rows c y.1)))
  | v=>K v
 | _=>K v
def gP{ρ:Type}:List A.B->A.M ρ->A.M ρ
 | [],m=>m
 | b::r,m=>A.chk b (gP r m)
def under(g:A.B)(ps:List A.B):List A.B:=ps.map λp=>A.orB (A.xY g) p
def rX{ρ:Type}(r:CR A)(K:TV A.au->List (dZ A.au)->A.M ρ):A.M ρ:=
 match r.ts,r.y,r.k with
 | [],y,k=>(match k y with | some (v,h)=>K v h | none=>A.fail)
 | ts,y,k=>A.tq ts y λy=>match k y with | some (v,h)=>K v h | none=>A.fail
def fH{ρ:Type}(X:XT)(C:Calls A.au)(ops:List Oper):List Oper->(RSt A->A.M ρ)->RSt A->A.M ρ
 | [],K,s=>K s
 | o::r,K,s=>if Rw s.m o.dst then match o.guard with
  | none=>if iN o.op==0 then match uD A X (dL A s.t) s.gs s.h none o.op with
    | some (ps,v)=>gP A ps (Ry A o.op v λv=>fH X C ops r K (s.put A o.dst none v))
    | none=>A.fail
   else match TW A X C (gN A (dL A s.t) []) s.h o.op with
    | some cr=>gP A cr.ck (rX A cr λv h=>fH X C ops r K (RSt.put A {s with h:=h} o.dst none v))
    | none=>A.fail
  | some (j,want)=>match gslot ops j with
   | some d=>match Eb A (dL A s.t) s.gs d want with
    | .skip=>fH X C ops r K (s.put A o.dst none (.tup []))
    | .run gs t g=>if iN o.op==0 then match uD A X (dL A s.t) gs s.h (some t) o.op with
      | some (ps,v)=>gP A (under A g ps) (fH X C ops r K (RSt.put A {s with gs:=gs} o.dst (some t) v))
      | none=>A.fail
     else match TW A X C (gN A (dL A s.t) (fC A gs (some t))) s.h o.op with
      | some cr=>if cr.pure then gP A (under A g cr.ck) (rX A cr λv _=>fH X C ops r K (RSt.put A {s with gs:=gs} o.dst (some t) v))
       else A.cond g (gP A cr.ck (rX A cr λv h=>fH X C ops r K (RSt.put A {s with h:=h,gs:=gs} o.dst none v)))
        (fH X C ops r K (RSt.put A {s with gs:=za A gs t} o.dst none (.tup [])))
      | none=>A.fail
    | .bad=>A.fail
   | none=>A.fail
  else A.fail
def uF:TV A.au->List Nat
 | .c (.pb l _ _)=> [l] | .c (.pr l _ _)=> [l] | _=> []
def gW(X:XT)(e:Nat->Option (TV A.au)):Op->List Nat
 | .load _ x=>match evX A X e x with | some v=>uF A v | none=> []
 | _=> []
def HY(hs:List (Nat×List Nat))(touched:List Nat)(j:Nat):Bool:=hs.any λp=>(p.1==j)&&p.2.all λl=> !touched.contains l
def mW(hs:List (Nat×List Nat))(touched:List Nat):List (Nat×List Nat):=hs.filter λp=>p.2.all λl=> !touched.contains l
def zX(X:XT)(e:Nat->Option (TV A.au))(h:List (dZ A.au))(op:Op):PR A:=
 match op with
 | .buildSlice ty len parts=>match X.ty ty with
  | some y=>match y.desc with
   | .slice el=>match X.ty el,X.co el with
    | some z,some c=>if ku X el c&& !(z.size==0)&& (parts.toList.map (·.1)==List.range len)&&Nat.ble (len*z.size) 16777216 then
      match qY A X e c h parts.toList with
      | some (f,xs,_,[])=>some ([],.c (.clip f c (A.lst c xs)))
      | _=>none
     else none
    | _,_=>none
   | _=>none
  | none=>none
 | _=>none
def C8(e:Nat->Option (TV A.au))(k:A.I):List (Int×Nat)->Option A.B
 | []=>some (A.bl false)
 | (k',r)::rest=>match e r with
  | some (.c (.d _ (.bool b)))=>(match C8 e k rest with | some q=>some (A.Hu (A.cmp .eql k (A.lit k')) b q) | none=>none)
  | _=>none
def Mw(X:XT)(ops:List Oper)(e:Nat->Option (TV A.au))(h:List (dZ A.au))(op:Op):Option (Option (List A.B×TV A.au)):=
 match op with
 | .makeMap .. =>some none
 | .insert _ _ _ v=>(match v with | .tmp r=>(match e r with | some _=>some none | none=>none) | _=>none)
 | .move x=>if lu x then some none else none
 | .lookup _ _ (.tmp q) _=>(match e q with
  | some (.c (.d _ (.int .i64 n)))=>(match C8 A e n (kW ops)with | some b=>some (some ([],.c (.d true (.bool b)))) | none=>none)
  | _=>none)
 | op=>(match zX A X e h op with | some r=>some (some r) | none=>none)
def iO{ρ:Type}(X:XT)(C:Calls A.au)(ops:List Oper):List fO->List (Nat×List Nat)->(RSt A->A.M ρ)->RSt A->A.M ρ
 | [],_,K,s=>K s
 | (i,rs,cs)::r,hs,K,s=>match ops[i]? with
  | none=>A.fail
  | some o=>if Rw s.m o.dst then
   let lk:=λi=>if rs.contains i then dL A s.t i else none
   match kindOf o.op with
   | 0=>if hs.any λp=>p.1==i then A.fail else match o.guard with
    | none=>match uD A X lk s.gs s.h none o.op with
     | some (ps,v)=>gP A ps (Ry A o.op v λv=>iO X C ops r ((i,gW A X (gN A lk []) o.op)::hs) K (s.put A o.dst none v))
     | none=>A.fail
    | some (j,want)=>match gslot ops j with
     | some d=>match Eb A lk s.gs d want with
      | .skip=>iO X C ops r ((i,[])::hs) K (s.put A o.dst none (.tup []))
      | .run gs t g=>match uD A X lk gs s.h (some t) o.op with
       | some (ps,v)=>gP A (under A g ps) (iO X C ops r ((i,gW A X (gN A lk (fC A gs (some t))) o.op)::hs) K (RSt.put A {s with gs:=gs} o.dst (some t) v))
       | none=>A.fail
      | .bad=>A.fail
     | none=>A.fail
   | 1=>match Mw A X ops (gN A lk []) s.h o.op with
    | some (some (ps,v))=>gP A ps (iO X C ops r hs K (s.put A o.dst none v))
    | some none=>iO X C ops r hs K (s.del A o.dst)
    | none=>A.fail
   | 2=>match D9 A X (λ_=>none) s.h o.op with
    | some hr=>gP A hr.chk (iO X C ops r hs K (RSt.put A {s with h:=hr.h} o.dst none hr.v))
    | none=>A.fail
   | _=>match o.guard with
    | none=>match TW A X C (gN A lk []) s.h o.op with
     | some cr=>
      if cs.all (HY hs cr.touched)then gP A cr.ck (rX A cr λv h=>iO X C ops r (mW hs cr.touched) K (RSt.put A {s with h:=h} o.dst none v))else A.fail
     | none=>A.fail
    | some (j,want)=>match gslot ops j with
     | some d=>match Eb A lk s.gs d want with
      | .skip=>iO X C ops r hs K (s.put A o.dst none (.tup []))
      | .run gs t g=>match TW A X C (gN A lk (fC A gs (some t))) s.h o.op with
       | some cr=>if cs.all (HY hs cr.touched)then
         if cr.pure then gP A (under A g cr.ck) (rX A cr λv _=>iO X C ops r hs K (RSt.put A {s with gs:=gs} o.dst (some t) v))
         else A.cond g (gP A cr.ck (rX A cr λv h=>iO X C ops r (mW hs cr.touched) K (RSt.put A {s with h:=h,gs:=gs} o.dst none v)))
          (iO X C ops r hs K (RSt.put A {s with gs:=za A gs t} o.dst none (.tup [])))
        else A.fail
       | none=>A.fail
      | .bad=>A.fail
     | none=>A.fail
   else A.fail
def uG(t:List (Nat×SV A))(h:List (dZ A.au)):List (Nat×SkV)->ES A->Option (ES A)
 | [],e=>some e
 | p::r,e=>match dL A t p.1 with
  | some ⟨none,v⟩=>(match FN A h p.2 v e with | some e=>uG t h r e | none=>none)
  | _=>none
def Ec(k:Nat)(sk:jY)(s:RSt A):Option (List A.B×Tup A.au sk.tys):=
 if !Nat.ble k sk.objs.length then none else match uG A s.t s.h sk.slots (es0 A k sk.objs)with
 | some e=>match y8 A s.h 0 sk.objs e with
  | some e=>if ES.fine A s.h e sk.objs then(match pack A.au sk.tys e.lv.reverse with | some x=>some (e.ck,x) | none=>none)else none
  | none=>none
 | none=>none
def rY(sk:jY)(m:Nat)(x:Tup A.au sk.tys):RSt A:=
 match ru A.au (λi=>i) (sk.slots.map (·.2)) (unpack A.au sk.tys x)with
 | some (vs,r)=>match uz A.au (λi=>i) (λ_=> .gone .i64 (A.lit 0)) 0 sk.objs r with
  | some (os,_)=> {t:=(sk.slots.map (·.1)).zip (vs.map λv=>⟨none,v⟩),gs:=[],h:=os,m:=m}
  | none=>default
 | none=>default
def plain:Code->Bool
 | .skip=>true | .region .. =>true | .seq a b=>plain a&&plain b | .cond _ x y=>plain x&&plain y
 | _=>false
def Mx{ρ:Type}(k:Nat)(sk:jY)(pl:Bool)(s:RSt A)(K:Exit->RSt A->A.M ρ)(W: {σ:Type}->(Exit->RSt A->A.M σ)->A.M σ):A.M ρ:=
 if pl then A.bind sk.tys (W λe s'=>match e with
  | .normal=>(match Ec A k sk s' with | some (ck,t)=>gP A ck (A.ret sk.tys t) | none=>A.fail)
  | _=>A.fail) λt=>K .normal (rY A sk s.m t)
 else A.uo sk.tys (W λe s'=>match e with
  | .normal=>(match Ec A k sk s' with | some (ck,t)=>gP A ck (A.inl sk.tys t) | none=>A.fail)
  | e=>A.inr sk.tys (K e s')) λt=>K .normal (rY A sk s.m t)
def bL(X:XT)(C:Calls A.au)(ord:Nat->List fO)(chk:Nat->Array Oper->Nat->Bool)(k:Nat): {ρ:Type}->Ann->Code->RSt A->(Exit->RSt A->A.M ρ)->A.M ρ
 | _,_,.skip,s,K=>K .normal s
 | _,an,.region id ops draw,s,K=>
  let W: {σ:Type}->(Exit->RSt A->A.M σ)->A.M σ:=λK=>
   if draw then(if chk id ops s.m then iO A X C ops.toList (ord id) [] (λs=>K .normal s) s else A.fail)
   else fH A X C ops.toList ops.toList (λs=>K .normal s) s
  match an with
  | .cut sk .u=>Mx A k sk true s K W
  | _=>W K
 | _,an,.seq x y,s,K=>match an with
  | .seq a b=>bL X C ord chk k a x s λe s'=>match e with | .normal=>bL X C ord chk k b y s' K | e=>K e s'
  | .u=>bL X C ord chk k .u x s λe s'=>match e with | .normal=>bL X C ord chk k .u y s' K | e=>K e s'
  | _=>A.fail
 | _,an,.cond c x y,s,K=>match evX A X (gN A (dL A s.t) []) c with
  | some (.c (.d _ (.bool b)))=>match an with
   | .cond a1 a2=>A.cond b (bL X C ord chk k a1 x s K) (bL X C ord chk k a2 y s K)
   | .u=>A.cond b (bL X C ord chk k .u x s K) (bL X C ord chk k .u y s K)
   | .cut sk (.cond a1 a2)=>Mx A k sk (plain x&&plain y) s K λK'=>A.cond b (bL X C ord chk k a1 x s K') (bL X C ord chk k a2 y s K')
   | _=>A.fail
  | _=>A.fail
 | _,an,.block id b,s,K=>match an with
  | .block a=>bL X C ord chk k a b s λe s'=>match e with | .exit i=>if i==id then K .normal s' else K (.exit i) s' | e=>K e s'
  | .u=>bL X C ord chk k .u b s λe s'=>match e with | .exit i=>if i==id then K .normal s' else K (.exit i) s' | e=>K e s'
  | .cut sk (.block a)=>Mx A k sk false s K λK'=>bL X C ord chk k a b s λe s'=>match e with | .exit i=>if i==id then K' .normal s' else K' (.exit i) s' | e=>K' e s'
  | _=>A.fail
 | _,.loop sk a,.loop b,s,K=>match Ec A k sk s with
  | some (ck,x0)=>gP A ck (A.iter sk.tys (λx=>bL X C ord chk k a b (rY A sk s.m x) λe s'=>match e with
    | .normal=>(match Ec A k sk s' with | some (ck,t)=>gP A ck (A.inl sk.tys t) | none=>A.fail)
    | e=>A.inr sk.tys (K e s')) x0)
  | none=>A.fail
 | _,_,.exit id,s,K=>K (.exit id) s
 | _,_,.ret,s,K=>K .ret s
 | _,_,_,_,_=>A.fail
def MB(X:XT)(s:RSt A):List ResultVar->Option (List (TV A.au))
 | []=>some []
 | .tmp t::r=>match dL A s.t t with
  | some ⟨none,v⟩=>(match MB X s r with | some vs=>some (v::vs) | none=>none)
  | _=>none
 | .cell t ty::r=>match dL A s.t t with
  | some ⟨none,p⟩=>match Kh A X s.h ty p with
   | some ([],v)=>(match MB X s r with | some vs=>some (v::vs) | none=>none)
   | _=>none
  | _=>none
def T9(X:XT)(sg:Sig)(fn:Func)(s:RSt A):A.M (Tup A.au sg.out):=
 match MB A X s fn.results.toList with
  | some rs=>match oq A s.h sg.res rs (es0 A sg.objs.length sg.dV)with
   | some e=>match y8 A s.h 0 sg.dV e with
    | some e=>if ES.fine A s.h e sg.dV then(match pack A.au sg.out e.lv.reverse with | some y=>gP A e.ck (A.ret sg.out y) | none=>A.fail)else A.fail
    | none=>A.fail
   | none=>A.fail
  | none=>A.fail
def HZ(X:XT)(C:Calls A.au)(ord:Nat->List fO)(chk:Nat->Array Oper->Nat->Bool)(an:Ann)(sg:Sig)(fn:Func)(code:Code)(x:Tup A.au sg.inp):A.M (Tup A.au sg.out):=
 if !Nat.ble sg.objs.length sg.dV.length then A.fail else match ru A.au (λi=>i) sg.args (unpack A.au sg.inp x)with
 | some (vs,r)=>match uz A.au (λi=>i) (λ_=> .gone .i64 (A.lit 0)) 0 sg.objs r with
  | some (os,_)=>
   bL A X C ord chk sg.objs.length an code {t:=(List.range vs.length).zip (vs.map λv=>⟨none,v⟩),gs:=[],h:=os,m:=vs.length+(fn.ntmps-vs.length)} λe s=>
    match e with
    | .ret | .normal=>T9 A X sg fn s
    | _=>A.fail
  | none=>A.fail
 | none=>A.fail
end
end Go.TX
namespace Go.TX
open Go Go.AE
abbrev aD:Car:={I:=Int,B:=Bool,S:=ByteArray,L:=λc=>List c.den,X:=Co.den}
def ac6(b:Blk):List (LV aD):=[.i b.pc,.i b.len,.l .iop b.ops,.i b.fin,.i b.x,.i b.y,.i b.k]
def aey(m:bq):List (LV aD):=[.l .i64 m.regs,.i m.pc,.l .i64 m.mem,.i m.save,.b m.kg,.b m.waits,.i m.halt,.l .i64 m.ins,.l .i64 m.outs,.i m.count]
def Co.yc:(c:Co)->c.den->List (LV aD)
 | .i64,n=> [.i n] | .u8,n=> [.i n] | .bool,b=> [.b b] | .str,s=> [.s s]
 | .ins,i=> [.i i.op,.i i.d,.i i.a,.i i.k]
 | .form,f=> [.b f.d,.b f.a,.i f.most,.l .str f.words]
 | .mono,m=> [.i m.bC,.l .i64 m.atoms]
 | .poly,p=> [.l .mono p]
 | .atom,a=> [.i a.kind,.i a.k,.l .mono a.x,.l .mono a.y]
 | .tab,t=> [.l .atom t]
 | .iop,o=> [.i o.kind,.i o.x,.i o.y,.i o.k,.i o.at_]
 | .blk,b=>ac6 b
 | .aM,m=>aey m
 | .ev,e=> [.i e.kind,.i e.at_,.l .mono e.x,.l .mono e.y,.l .poly e.regs]
 | .sym,s=> [.l .ev s.events,.l .poly s.regs,.i s.fin,.l .mono s.x,.l .mono s.y,.i s.k]
 | .cac,c=> .l .i64 c.words::ac6 c.blk
 | .cer,c=>ac6 c.base++ac6 c.made
 | .ask,a=> [.b a.own,.l .u8 a.bytes]
 | .eng,e=>aey e.aM++ [.l .cac e.cache,.l .cer e.dS]
 | .ints,t=> [.l .i64 t]
abbrev iE:=Tup aD
def Co.mk:(c:Co)->iE c.qg->c.den
 | .i64,t=>t.1 | .u8,t=>t.1 | .bool,t=>t.1 | .str,t=>t.1
 | .ins,t=>⟨t.1,t.2.1,t.2.2.1,t.2.2.2.1⟩
 | .form,t=>⟨t.1,t.2.1,t.2.2.1,t.2.2.2.1⟩
 | .mono,t=>⟨t.1,t.2.1⟩
 | .poly,t=>t.1
 | .atom,t=>⟨t.1,t.2.1,t.2.2.1,t.2.2.2.1⟩
 | .tab,t=>t.1
 | .iop,t=>⟨t.1,t.2.1,t.2.2.1,t.2.2.2.1,t.2.2.2.2.1⟩
 | .blk,t=>⟨t.1,t.2.1,t.2.2.1,t.2.2.2.1,t.2.2.2.2.1,t.2.2.2.2.2.1,t.2.2.2.2.2.2.1⟩
 | .aM,t=>⟨t.1,t.2.1,t.2.2.1,t.2.2.2.1,t.2.2.2.2.1,t.2.2.2.2.2.1,t.2.2.2.2.2.2.1,t.2.2.2.2.2.2.2.1,t.2.2.2.2.2.2.2.2.1,t.2.2.2.2.2.2.2.2.2.1⟩
 | .ev,t=>⟨t.1,t.2.1,t.2.2.1,t.2.2.2.1,t.2.2.2.2.1⟩
 | .sym,t=>⟨t.1,t.2.1,t.2.2.1,t.2.2.2.1,t.2.2.2.2.1,t.2.2.2.2.2.1⟩
 | .cac,t=>⟨t.1,⟨t.2.1,t.2.2.1,t.2.2.2.1,t.2.2.2.2.1,t.2.2.2.2.2.1,t.2.2.2.2.2.2.1,t.2.2.2.2.2.2.2.1⟩⟩
 | .cer,t=>⟨⟨t.1,t.2.1,t.2.2.1,t.2.2.2.1,t.2.2.2.2.1,t.2.2.2.2.2.1,t.2.2.2.2.2.2.1⟩,
  ⟨t.2.2.2.2.2.2.2.1,t.2.2.2.2.2.2.2.2.1,t.2.2.2.2.2.2.2.2.2.1,t.2.2.2.2.2.2.2.2.2.2.1,t.2.2.2.2.2.2.2.2.2.2.2.1,t.2.2.2.2.2.2.2.2.2.2.2.2.1,t.2.2.2.2.2.2.2.2.2.2.2.2.2.1⟩⟩
 | .ask,t=>⟨t.1,t.2.1⟩
 | .eng,t=>⟨⟨t.1,t.2.1,t.2.2.1,t.2.2.2.1,t.2.2.2.2.1,t.2.2.2.2.2.1,t.2.2.2.2.2.2.1,t.2.2.2.2.2.2.2.1,t.2.2.2.2.2.2.2.2.1,t.2.2.2.2.2.2.2.2.2.1⟩,t.2.2.2.2.2.2.2.2.2.2.1,t.2.2.2.2.2.2.2.2.2.2.2.1⟩
 | .ints,t=>t.1
def bytesOf(l:List UInt8):ByteArray:=⟨l.toArray⟩
def uH:List Form:=[
 ⟨false,false,3,[bytesOf [115,116,111,112],bytesOf [114,101,116,117,114,110],bytesOf [108,101,116],bytesOf [107,101,101,112]]⟩,
 ⟨true,false,255,[bytesOf [115,101,116]]⟩,⟨true,true,0,[bytesOf [109,111,118,101]]⟩,⟨true,true,3,[bytesOf [97,100,100]]⟩,⟨true,true,3,[bytesOf [115,117,98]]⟩,
 ⟨true,true,3,[bytesOf [109,117,108]]⟩,⟨true,true,3,[bytesOf [97,110,100]]⟩,⟨true,true,3,[bytesOf [120,111,114]]⟩,⟨true,true,15,[bytesOf [115,104,105,102,116]]⟩,
 ⟨true,true,255,[bytesOf [108,111,97,100]]⟩,⟨true,true,255,[bytesOf [115,116,111,114,101]]⟩,⟨true,true,255,[bytesOf [115,97,109,101]]⟩,⟨true,true,255,[bytesOf [108,101,115,115]]⟩,
 ⟨false,true,0,[bytesOf [103,111]]⟩,⟨true,false,0,[bytesOf [111,117,116]]⟩,⟨true,false,0,[bytesOf [105,110]]⟩]
def Rz:(c:Co)->List c.den
 | .form=>uH
 | _=> []
def CU{α ρ:Type}(k:α->(ρ->Prop)->Prop)(Q:ρ->Prop):α ⊕ ρ->Prop
 | .inl x=>k x Q
 | .inr r=>Q r
def itW{α ρ:Type}:Nat->(α->(α ⊕ ρ->Prop)->Prop)->α->(ρ->Prop)->Prop
 | 0,_,_,_=>False
 | n+1,f,x,Q=>f x (CU (itW n f) Q)
def RA{α ρ:Type}(f:α->(α ⊕ ρ->Prop)->Prop)(x:α)(Q:ρ->Prop):Prop:=
 ∃(I:α->Prop) (μ:α->Nat),I x/\∀y,I y->f y (CU (λz _=>I z/\μ z<μ y) Q)
def gX(op:BinOp)(k:IntKind)(x y:Int):Int:=
 match op with
 | .add=>k.wrap (x+y) | .sub=>k.wrap (x-y) | .mul=>k.wrap (x*y) | .quo=>k.wrap (x.tdiv y) | .rem=>x.tmod y
 | .and=>kQ .and k x y | .or=>kQ .or k x y | .xor=>kQ .xor k x y
 | .shl=>k.wrap (x*2^ (min y.toNat k.bits)) | .shr=>x.fdiv (2^ (min y.toNat k.bits))
 | _=>0
def bG(op:BinOp)(x y:Int):Bool:=
 match op with
 | .eql=>decide (x=y) | .neq=> !decide (x=y) | .lss=>decide (x<y) | .leq=>decide (x<=y) | .gtr=>decide (y<x) | .geq=>decide (y<=x)
 | _=>false
def Vo(x y:Ins):Bool:=decide (x=y)
def Vp(x y:IOp):Bool:=decide (x=y)
def ahl:(c:Co)->c.den->c.den->Bool
 | .ins,x,y=>Vo x y | .iop,x,y=>Vp x y | _,_,_=>false
def bV(c:Co)(j:Nat)(x:c.den):Int:=match (c.yc x)[j]? with | some (.i n)=>n | _=>0
def Km(c:Co)(j:Nat)(x:c.den):Bool:=match (c.yc x)[j]? with | some (.b n)=>n | _=>false
def asn(c:Co)(j:Nat)(x:c.den):ByteArray:=match (c.yc x)[j]? with | some (.s n)=>n | _=>default
def iR(c:Co)(j:Nat)(c':Co)(x:c.den):List c'.den:=match (c.yc x)[j]? with | some (.l q xs)=>if e:q=c' then e▸xs else [] | _=> []
abbrev std(N : Nat) : Alg where
 au:=aD
 M:=fun ρ=>(ρ->Prop)->Prop
 lit:=λn=>(n:Int)
 bl:=λb=>(b:Bool)
 st:=λs=>(s:ByteArray)
 arith:=gX
 cmp:=bG
 addN:=λ(x y:Int)=>x+y
 Kc:=λ(x y:Int)=>x-y
 neg:=λk (x:Int)=>k.wrap (0-x)
 conv:=λk (x:Int)=>k.wrap x
 Mf:=λ(m n:Int)=>if n<m then n else m
 jo:=λ(m n:Int)=>if m<n then n else m
 xY:=λ(b:Bool)=> !b
 Ke:=λ(a b:Bool)=>a&&b
 orB:=λ(a b:Bool)=>a || b
 eqB:=λ(a b:Bool)=>a==b
 eqS:=λ(a b:ByteArray)=>a.toList==b.toList
 Mg:=λ(xs:List Int)=>strOfNums xs
 Mh:=λ(b:Bool) (x y:Int)=>bif b then x else y
 Hu:=λ(b:Bool) (x y:Bool)=>bif b then x else y
 Mi:=λ(b:Bool) c (x y:List c.den)=>(bif b then x else y:List c.den)
 TU:=λ(b:Bool) _ x y=>bif b then x else y
 len:=λc (xs:List c.den)=>(xs.length:Int)
 D6:=λc=>([]:List c.den)
 get:=λc (xs:List c.den) (i:Int)=>xs.getD i.toNat default
 set:=λc (xs:List c.den) (i:Int) x=>xs.set i.toNat x
 app:=λc (xs ys:List c.den)=>xs++ys
 sub:=λc (xs:List c.den) (lo hi:Int)=>(xs.take hi.toNat).drop lo.toNat
 rep:=λc (n:Int) x=>List.replicate n.toNat x
 lst:=λc (xs:List c.den)=>xs
 glob:=λ_ c=>Rz c
 fI:=bV
 fB:=Km
 fS:=asn
 fL:=iR
 mkX:=Co.mk
 eqX:=ahl
 ret:=λ_ t Q=>Q t
 fail:=λ_=>False
 tq:=λ_ t k=>k t
 chk:=λ(b:Bool) m Q=>b=true/\m Q
 cond:=λ(b:Bool) x y Q=>(b=true->x Q)/\(b=false->y Q)
 bind:=λ_ m k Q=>m λt=>k t Q
 uo:=λ_ m k Q=>m (CU k Q)
 inl:=λ_ t Q=>Q (.inl t)
 inr:=λ_ m Q=>m λr=>Q (.inr r)
 iter:=λ_ f x Q=>RA f x Q
abbrev Co.size(c:Co):Nat:=c.fields.length
def anh(n:Int):List D:=[.int .i64 n]
def Ed(xs:List Int):D:= .rows 1 (xs.map anh)
def aez(m:aj):List D:=[.int .i64 m.bC,Ed m.atoms]
def Ee(p:List aj):D:= .rows 2 (p.map aez)
def Vq(p:List aj):List D:=[Ee p]
def aeA(a:Atom):List D:=[.int .i64 a.kind,.int .i64 a.k,Ee a.x,Ee a.y]
def ani(o:IOp):List D:=[.int .i64 o.kind,.int .i64 o.x,.int .i64 o.y,.int .i64 o.k,.int .i64 o.at_]
def anj(s:ByteArray):List D:=[.str s]
def u8R(n:Int):List D:=[.int .u8 n]
def ac7(b:Blk):List D:=[.int .i64 b.pc,.int .i64 b.len,.rows 5 (b.ops.map ani),.int .i64 b.fin,.int .i64 b.x,.int .i64 b.y,.int .i64 b.k]
def aeB(m:bq):List D:=[Ed m.regs,.int .i64 m.pc,Ed m.mem,.int .i64 m.save,.bool m.kg,.bool m.waits,.int .i64 m.halt,Ed m.ins,Ed m.outs,.int .i64 m.count]
def evR(e:Ev):List D:=[.int .i64 e.kind,.int .i64 e.at_,Ee e.x,Ee e.y,.rows 1 (e.regs.map Vq)]
def ank(c:Cac):List D:=Ed c.words::ac7 c.blk
def anl(c:Cer):List D:=ac7 c.base++ac7 c.made
def Co.row:(c:Co)->c.den->List D
 | .i64,n=>anh n | .u8,n=>u8R n | .bool,b=> [.bool b] | .str,s=>anj s
 | .ins,i=> [.int .i64 i.op,.int .i64 i.d,.int .i64 i.a,.int .i64 i.k]
 | .form,f=> [.bool f.d,.bool f.a,.int .i64 f.most,.rows 1 (f.words.map anj)]
 | .mono,m=>aez m | .poly,p=>Vq p | .atom,a=>aeA a | .tab,t=> [.rows 4 (t.map aeA)] | .iop,o=>ani o
 | .blk,b=>ac7 b | .aM,m=>aeB m | .ev,e=>evR e
 | .sym,s=> [.rows 5 (s.events.map evR),.rows 1 (s.regs.map Vq),.int .i64 s.fin,Ee s.x,Ee s.y,.int .i64 s.k]
 | .cac,c=>ank c | .cer,c=>anl c | .ask,a=> [.bool a.own,.rows 1 (a.bytes.map u8R)]
 | .eng,e=>aeB e.aM++ [.rows 8 (e.cache.map ank),.rows 14 (e.dS.map anl)]
 | .ints,t=> [Ed t]
def aL(c:Co)(xs:List c.den):List (List D):=xs.map c.row
def mX:Leaf aD->D
 | .int k x=> .int k x | .bool b=> .bool b | .str s=> .str s | .rows c xs=> .rows c.size (aL c xs)
def lvD:Sh->LV aD->D
 | .int k,.i n=> .int k n
 | _,.i n=> .int .i64 n
 | _,.b b=> .bool b
 | _,.s s=> .str s
 | _,.l c xs=> .rows c.size (aL c xs)
 | _,.x _ _=> .bool false
def Vr(c:Co)(x:c.den):c.row x=List.zipWith lvD c.fields (c.yc x):=by cases c<;>rfl
theorem mF(c:Co)(x:c.den):(c.row x).length=c.size:=by cases c<;>rfl
def Vt(c:Co)(x:c.den):(c.yc x).length=c.size:=by cases c<;>rfl
def jE(N:Nat)(c:Co)(x:c.den):(fP (std N) c x 0 c.fields).map mX=c.row x:=by cases c<;>rfl
def AQ(N:Nat)(c:Co)(x:c.den):(fP (std N) c x 0 c.fields).map ji=c.fields:=by cases c<;>rfl
def Ga(N:Nat)(c:Co)(x:c.den):(fP (std N) c x 0 c.fields).map Leaf.lv=c.yc x:=by cases c<;>rfl
def Ua{t:LTy}{v:LV aD}{a:LT aD t}(h:ahe aD t v=some a):anf aD t a=v:=by
 cases t<;>cases v<;>simp only [ahe,reduceCtorEq]at h<;>(try (cases h;rfl))
 all_goals
  split at h
  .rename_i e;subst e;cases h;rfl
  .cases h
def unpack_pack:∀ {ts:List LTy} {vs:List (LV aD)} {t:iE ts},pack aD ts vs=some t->unpack aD ts t=vs
 | [],[],_,_=>rfl
 | [],_::_,_,h=>by simp [pack]at h
 | _::_,[],_,h=>by simp [pack]at h
 | t::r,v::vs,x,h=>by
  unfold pack at h;split at h
  .rename_i a ha;split at h
   .rename_i b hb;cases h;simp only [unpack];rw [Ua ha,unpack_pack hb]
   .cases h
  .cases h
def RD(c:Co)(t:iE c.qg):c.yc (c.mk t)=unpack aD c.qg t:=by cases c<;>rfl
abbrev SC:=TC aD
abbrev SVal:=TV aD
abbrev aK:=dZ aD
abbrev NM:=Nat->Option (Nat×Nat)
def Leaf.scalar:Leaf aD->Bool | .rows _ _=>false | _=>true
inductive RC (N:NM):Cell->SC->Prop
 | d {f g:Bool} {x:D} {y:Leaf aD}:x=mX y->(g=true->f=true\/y.scalar=true)->RC N (.d f x) (.d g y)
 | nil:RC N .nil .nil
 | clip {f g:Bool} {c:Co} {xs:List c.den}:(g=true->f=true)->RC N (.clip f c.size (aL c xs)) (.clip g c xs)
 | own {l sz n:Nat}:N l=some (sz,n)->RC N (.os l sz 0 n) (.own l)
 | os {l sz lo n m:Nat}:N l=some (sz,m)->RC N (.os l sz lo n) (.os l (lo:Int) (n:Int))
 | pb {l sz j:Nat}:RC N (.ptr l sz 0 j) (.pb l sz j)
 | pr {l sz i j m:Nat}:N l=some (sz,m)->RC N (.ptr l sz i j) (.pr l (i:Int) j)
 | rp {f g:Bool} {c:Co} {xs:List c.den} {i j:Nat}:(g=true->f=true)->i<xs.length->RC N (.rp f c.size (aL c xs) i j) (.rp g c xs (i:Int) j)
 | gp {g:Nat} {c:Co}:RC N (.rp false 1 [[.rows c.size (aL c (Rz c))]] 0 0) (.gp g c)
 | fn {g:FuncId} {caps:List (Nat×Nat)}:RC N (.fn g (caps.map λp=> .ptr p.1 p.2 0 0)) (.fn g caps)
 | np:RC N .np .np
def cellsS(v:SVal):List SC:=bU (std 0) v
def MC(n:Nat)(c:Co)(x:c.den):∀(l:List Sh) (j:Nat),fP (std n) c x j l=fP (std 0) c x j l
 | [],_=>rfl
 | s::r,j=>by simp_all
def Kn(n:Nat)(f:Bool)(c:Co)(x:c.den):pE (std n) f c x=pE (std 0) f c x:=congrArg (List.map (TC.d f)) (MC n c x _ _)
def dD(n:Nat)(v:SVal):bU (std n) v=cellsS v:=by
 cases v with
 | sv f c x=>exact Kn n f c x
 | _=>rfl
inductive PV0 (N:NM):PV->SVal->Prop
 | c {x:Cell} {y:SC}:RC N x y->PV0 N (.c x) (.c y)
 | agg {cs:List Cell} {v:SVal}:bH (std 0) v=true->F2 (RC N) cs (cellsS v)->PV0 N (.agg cs) v
inductive PVR (N:NM):PV->SVal->Prop
 | one {p:PV} {v:SVal}:PV0 N p v->PVR N p v
 | tup {ps:List PV} {vs:List SVal}:F2 (PV0 N) ps vs->PVR N (.tup ps) (.tup vs)
def nmh(h:List aK):NM:=λl=>match h[l]? with
 | some (.rows _ c xs)=>some (c.size,(xs:List c.den).length)
 | some (.gone c n)=>some (c.size,(n:Int).toNat)
 | _=>none
inductive OR (N:NM):fM->aK->Prop
 | box {cs:List Cell} {v:SVal}:F2 (RC N) cs (cellsS v)->OR N (.box cs) (.box v)
 | rows {f g:Bool} {c:Co} {xs:List c.den}:(g=true->f=true)->OR N (.rows f c.size (aL c xs)) (.rows g c xs)
 | gone {c:Co} {n:Int}:OR N .gone (.gone c n)
structure fE(h':Heap)(h:List aK):Prop where
 old:∀l o,h[l]? =some o->∃o',AE.look h' l=some o'/\OR (nmh h) o' o
 new:∀l,h.length<=l->AE.look h' l=none
def RC.mono{N M:NM}(hN:∀l x,N l=some x->M l=some x){x:Cell}{y:SC}(h:RC N x y):RC M x y:=by
 cases h with
 | d h1 h2=>exact .d h1 h2
 | nil=>exact .nil
 | clip h=>exact .clip h
 | own h=>exact .own (hN _ _ h)
 | os h=>exact .os (hN _ _ h)
 | pb=>exact .pb
 | pr h=>exact .pr (hN _ _ h)
 | rp h h'=>exact .rp h h'
 | gp=>exact .gp
 | fn=>exact .fn
 | np=>exact .np
def PV0.mono{N M:NM}(hN:∀l x,N l=some x->M l=some x){x:PV}{y:SVal}(h:PV0 N x y):PV0 M x y:=by
 cases h with
 | c h=>exact .c (h.mono hN)
 | agg h1 h2=>exact .agg h1 (h2.mono λ_ _ h=>h.mono hN)
def PVR.mono{N M:NM}(hN:∀l x,N l=some x->M l=some x){x:PV}{y:SVal}(h:PVR N x y):PVR M x y:=by
 cases h with
 | one h=>exact .one (h.mono hN)
 | tup h=>exact .tup (h.mono λ_ _ h=>h.mono hN)
def OR.mono{N M:NM}(hN:∀l x,N l=some x->M l=some x){x:fM}{y:aK}(h:OR N x y):OR M x y:=by
 cases h with
 | box h=>exact .box (h.mono λ_ _ h=>h.mono hN)
 | rows h=>exact .rows h
 | gone=>exact .gone
def PVR.cell{N:NM}{p:PV}{y:SC}(h:PVR N p (.c y)):∃x,p= .c x/\RC N x y:=by
 cases h with | one h=>cases h with
  | c h=>exact⟨_,rfl,h⟩
  | agg h _=>simp [bH]at h
def PVR.ofC{N:NM}{x:Cell}{y:SC}(h:RC N x y):PVR N (.c x) (.c y):= .one (.c h)
theorem RC.int{N:NM}{x:Cell}{f:Bool}{k:IntKind}{n:Int}(h:RC N x (.d f (.int k n))):∃g,x= .d g (.int k n):=by
 cases h with | d h1 h2=>exact⟨_,by rw [h1];rfl⟩
theorem RC.bool{N:NM}{x:Cell}{f:Bool}{b:Bool}(h:RC N x (.d f (.bool b))):∃g,x= .d g (.bool b):=by
 cases h with | d h1 h2=>exact⟨_,by rw [h1];rfl⟩
theorem PVR.int{N:NM}{p:PV}{f:Bool}{k:IntKind}{n:Int}(h:PVR N p (.c (.d f (.int k n)))):∃g,p= .c (.d g (.int k n)):=by
 obtain⟨x,rfl,hc⟩:=h.cell;grind [RC.int]
theorem PVR.bool{N:NM}{p:PV}{f:Bool}{b:Bool}(h:PVR N p (.c (.d f (.bool b)))):∃g,p= .c (.d g (.bool b)):=by
 obtain⟨x,rfl,hc⟩:=h.cell;grind [RC.bool]
def PVR.ci{N:NM}(k:IntKind)(n:Int)(f:Bool):PVR N (ci k n) (.c (.d f (.int k n))):= .ofC (.d rfl λ_=> .inl rfl)
def PVR.cb{N:NM}(b f:Bool):PVR N (AE.cb b) (.c (.d f (.bool b))):= .ofC (.d rfl λ_=> .inl rfl)
def PVR.cells{N:NM}{p:PV}{v:SVal}(h:PVR N p v):F2 (RC N) (aO p) (cellsS v):=by
 cases h with
 | one h=>cases h with
  | c h=>exact .cons h .nil
  | agg _ h=>exact h
 | tup h=>exact .nil
def PVR.len{N:NM}{p:PV}{v:SVal}(h:PVR N p v):(aO p).length=(cellsS v).length:=h.cells.length
def F2.Vu{N:NM}{f g:Bool}(hf:g=true->f=true):∀(ys:List (Leaf aD)),F2 (RC N) ((ys.map mX).map (.d f)) (ys.map (.d g))
 | []=> .nil
 | _::ys=> .cons (.d rfl λh=> .inl (hf h)) (F2.Vu hf ys)
def Ub{N:NM}(n:Nat){f g:Bool}(hf:g=true->f=true)(c:Co)(x:c.den):F2 (RC N) ((c.row x).map (.d f)) (pE (std n) g c x):=by
 unfold pE;rw [<-jE n c x];exact F2.Vu hf _
structure XOK(X:XT)(E:Tab):Prop where
 ty:X.ty=E.ty
 glob:∀g c,X.glob g=some c->E.glob g=some (.rows c.size (aL c (Rz c)))
 ieq:∀t c,X.ieq t=some c->(c= .ins/\E.ieq t=some 4)\/(c= .iop/\E.ieq t=some 5)
def Gv(T:(PV->Prop)->Prop)(N:NM)(v:SVal):Prop:=∃pv,PVR N pv v/\∀K,K pv->T K
def Gv.mk{T:(PV->Prop)->Prop}{N:NM}{v:SVal}(pv:PV)(h:PVR N pv v)(hk:∀K,K pv->T K):Gv T N v:=⟨pv,h,hk⟩
def EvR(X:XT)(E:Tab)(n:Nat)(N:NM)(t:Slots)(e:Nat->Option SVal):Prop:=∀i v,e i=some v->∃pv,aW t i=some pv/\PVR N pv v
def dM{X:XT}{E:Tab}(hX:XOK X E){n:Nat}{N:NM}{t:Slots}{e:Nat->Option SVal}(he:EvR X E n N t e){x:Operand}{v:SVal}(h:evX (std n) X e x=some v):
  ∃pv,ev E t x=some pv/\PVR N pv v:=by
 cases x with
 | tmp i=>exact he i v h
 | const c=>
  simp only [evX]at h;split at h<;>cases h
  .exact⟨_,rfl,.ci _ _ _⟩
  .exact⟨_,rfl,.cb _ _⟩
  .exact⟨_,rfl,.ofC (.d rfl λ_=> .inl rfl)⟩
  .exact⟨_,rfl,.ofC .nil⟩
  .exact⟨_,rfl,.ofC .np⟩
 | global g=>
  simp only [evX]at h;split at h
  .rename_i c hc;cases h;refine⟨_,by simp only [ev,hX.glob g c hc,Option.map_some],.ofC .gp⟩
  .cases h
 | func f=>cases h;exact⟨_,rfl,.ofC (RC.fn (caps:=[]))⟩
theorem iI{o:Option PV}{pv:PV}(h:o=some pv)(K:PV->Prop):K pv->aP o K:=by rw [h];exact id
def ME{d:kM}(h:d.agg=true):∃fs,d= .struct fs:=by cases d<;>simp [kM.agg]at h;exact⟨_,rfl⟩
def Ca(n:Nat)(w:SVal):bH (std n) w=bH (std 0) w:=by cases w<;>rfl
def Vv{n:Nat}{N:NM}{f g:Bool}(hf:g=true->f=true){c:Co}{x:c.den}{y:TY}{j:Nat}{v:SVal}
  (h:jO (std n) y j (.sv g c x) (pE (std n) g c x)=some v):Gv (tu f y (c.row x) j) N v:=by
 have hrc:=Ub (N:=N) n hf c x;have hl:(pE (std n) g c x).length=(c.row x).length:=by have:=hrc.length;simp_all
 unfold jO at h;split at h
 .rename_i hagg;obtain⟨fs,hfs⟩:=ME hagg;have key:∀v,F2 (RC N) ((((c.row x).drop j).take y.size).map (.d f)) (cellsS v)->bH (std 0) v=true->j+y.size<=(c.row x).length->Gv (tu f y (c.row x) j) N v:=by
   intro v h1 h2 h3;refine⟨_,.one (.agg h2 h1),λK hk=> ?_⟩
   grind [tu]
  split at h
  .rename_i h0;simp only [Bool.and_eq_true,beq_iff_eq]at h0;obtain⟨⟨rfl,hs⟩,_⟩:=h0;cases h;refine key _ ?_ rfl ah;have:((c.row x).drop 0).take y.size=c.row x:=by simp_all
   rw [this];have:=hrc;rw [Kn]at this;exact this
  .split at h
   .rename_i h1;cases h;have h1:=Nat.le_of_ble_eq_true h1;refine key _ ?_ rfl ah;rw [List.map_take,List.map_drop];exact(hrc.drop j).take y.size
   .cases h
 .rename_i hagg;split at h
  .rename_i q hq;obtain⟨a,ha,hra⟩:=hrc.get hq;rw [List.getElem?_map]at ha;cases hd:(c.row x)[j]? with
   | none=>simp_all
   | some d=>
   rw [hd]at ha;simp at ha;subst ha;split at h
   .rename_i k hk;split at h
    .rename_i f' k' m;split at h
     .rename_i e;subst e;cases h;obtain⟨g',hg'⟩:=RC.int hra;cases hg';exact⟨_,.ci k m _,λK hK=>by grind [tu]⟩
     .cases h
    .cases h
   .rename_i hni;cases h;refine⟨_,.ofC hra,λK hK=> ?_⟩
    grind [List.getElem?_eq_some_iff,tu,kM.agg,absurd,bool]
  .cases h
def RF{n:Nat}{N:NM}{f g:Bool}(hf:g=true->f=true){c:Co}{xs:List c.den}{y:TY}{i j:Nat}{v:SVal}(hi:i<xs.length)
  (h:jO (std n) y j (.sv g c (xs.getD i default)) (pE (std n) g c (xs.getD i default))=some v):Gv (UE f (aL c xs) i j y) N v:=by
 obtain⟨pv,h1,h2⟩:=Vv (N:=N) hf h;refine⟨pv,h1,λK hK=>⟨by simpa [aL]using hi,λrow hr=> ?_⟩⟩
 grind [aL,List.getElem?_eq_getElem,Option.some.injEq,default,List.getD]
def ac8{n:Nat}{N:NM}{cs:List Cell}{w v:SVal}{y:TY}{j:Nat}(hc:F2 (RC N) cs (cellsS w))(h:jO (std n) y j w (bU (std n) w)=some v):Gv (GY cs j y) N v:=by
 have hl:(bU (std n) w).length=cs.length:=by rw [dD];exact hc.length.symm
 unfold jO at h;split at h
 .rename_i hagg;split at h
  .rename_i h0;simp only [Bool.and_eq_true,beq_iff_eq]at h0;obtain⟨⟨rfl,hs⟩,hw⟩:=h0;cases h;refine⟨.agg ((cs.drop 0).take y.size),.one (.agg ah ?_),λK hK=> ?_⟩
   all_goals grind [List.take_of_length_le,GY]
  .split at h
   .rename_i h1;cases h;have h1:=Nat.le_of_ble_eq_true h1;refine⟨.agg ((cs.drop j).take y.size),.one (.agg rfl ?_),λK hK=>by grind [GY]⟩;have:=(hc.drop j).take y.size;rw [<-dD n]at this;exact this
   .cases h
 .rename_i hagg;split at h
  .rename_i q hq;rw [dD]at hq;obtain⟨a,ha,hra⟩:=hc.get hq;have hv:v= .c q:=by
    split at h
    .split at h
     all_goals simp_all
    .cases h;rfl
   subst hv;exact⟨_,.ofC hra,λK hK=>by unfold GY;rw [if_neg hagg,ha];exact hK⟩
  .cases h
def fE.names{h':Heap}{h:List aK}(H:fE h' h){l:Nat}{o:aK}(ho:h[l]? =some o):∃o',AE.look h' l=some o'/\OR (nmh h) o' o:=H.old l o ho
def Ko{X:XT}{E:Tab}(hX:XOK X E){n:Nat}{h':Heap}{h:List aK}(H:fE h' h){ty:TypeId}{p:PV}{q v:SVal}{ps:List Bool}(hp:PVR (nmh h) p q)
  (hk:Kh (std n) X h ty q=some (ps,v)) (hps:∀b∈ps,b=true):Gv (kN E h' ty p) (nmh h) v:=by
 unfold Kh at hk;rw [hX.ty]at hk;cases hy:E.ty ty with
 | none=>simp_all
 | some y=>
 rw [hy]at hk;simp only at hk;have lift:∀ {T:(PV->Prop)->Prop},Gv T (nmh h) v->(∀K,T K->kN E h' ty p K)->Gv (kN E h' ty p) (nmh h) v:=λ⟨pv,h1,h2⟩ f=>⟨pv,h1,λK hK=>f K (h2 K hK)⟩
 split at hk
 .rename_i l sz j;obtain⟨x,rfl,hc⟩:=hp.cell;cases hc;split at hk
  .rename_i w hw;split at hk
   .obtain⟨o',ho',hO⟩:=H.old l _ hw;cases hO with | box hF=>
    unfold Kg at hk;split at hk
    .rename_i u hu;cases hk;refine lift (ac8 hF hu) λK hT=> ?_
     unfold kN;rw [hy];simp only [aC];rw [ho'];exact⟨rfl,hT⟩
    .cases hk
   .cases hk
  .cases hk
 .rename_i l i j;obtain⟨x,rfl,hc⟩:=hp.cell;cases hc with | pr hN=>
  rename_i sz i m;split at hk
  .rename_i f c xs hw;obtain⟨o',ho',hO⟩:=H.old l _ hw;cases hO with | rows hf=>
   split at hk
   .rename_i u hu;cases hk;have h2:=hps ((std n).cmp .lss (i:Int) ((std n).len c xs)) (by simp);have hi:i< (xs:List c.den).length:=by grind [bG]
    have hs:sz=c.size:=by grind [nmh,Option.some.injEq,Prod.mk.injEq]
    refine lift (RF (n:=n) hf hi (by simpa [std]using hu)) λK hT=> ?_
    unfold kN;rw [hy];simp only [aC];rw [ho'];exact⟨hs,hT⟩
   .cases hk
  .cases hk
 .rename_i f c xs i j;obtain⟨x,rfl,hc⟩:=hp.cell;cases hc with | rp hf hi=>
  unfold Kg at hk;split at hk
  .rename_i u hu;cases hk;refine lift (RF (n:=n) hf hi (by simpa [std]using hu)) λK hT=> ?_
   unfold kN;rw [hy];exact hT
  .cases hk
 .rename_i g c;obtain⟨x,rfl,hc⟩:=hp.cell;cases hc;split at hk
  .rename_i e he;cases hk;refine⟨_,.ofC (.d (f:=false) rfl (λh=>by cases h)),λK hK=> ?_⟩;unfold kN;rw [hy];simp only [aC];refine⟨by simp,λrow hr=> ?_⟩;simp at hr;subst hr;unfold tu;rw [he];exact⟨by simp,λx hx=>by simp at hx;subst hx;exact hK⟩
  .cases hk
 .cases hk
def ahm{n:Nat}{N:NM}{p:PV}{q v:SVal}{ps:List Bool}(hp:PVR N p q)(hk:ahj (std n) q=some (ps,v)):Gv (Lu p) N v:=by
 unfold ahj at hk;split at hk
 .cases hk;obtain⟨x,rfl,hc⟩:=hp.cell;cases hc;exact⟨_,.ofC .pb,λK hK=>hK⟩
 .cases hk;obtain⟨x,rfl,hc⟩:=hp.cell;cases hc with | pr h=>exact⟨_,.ofC (.pr h),λK hK=>hK⟩
 .cases hk;obtain⟨x,rfl,hc⟩:=hp.cell;cases hc with | rp h h'=>exact⟨_,.ofC (.rp h h'),λK hK=>hK⟩
 .cases hk
def anm{n:Nat}{N:NM}{op:UnOp}{p:PV}{q v:SVal}{ps:List Bool}(hp:PVR N p q)(hk:unX (std n) op q=some (ps,v)):Gv (unA op p) N v:=by
 unfold unX at hk;split at hk
 .cases hk;obtain⟨g,rfl⟩:=hp.bool;exact⟨_,.cb _ _,λK hK=>hK⟩
 .cases hk;obtain⟨g,rfl⟩:=hp.int;exact⟨_,.ci _ _ _,λK hK=>hK⟩
 .cases hk
def Gb:∀xs:List Int,JD (aL .u8 xs)=some xs
 | []=>rfl
 | x::r=>by
  have ih:=Gb r;show(match ag4 (Co.row .u8 x),JD (aL .u8 r)with | some n,some l=>some (n::l) | _,_=>none)=_;rw [ih];rfl
def ac9{X:XT}{E:Tab}(hX:XOK X E){n:Nat}{N:NM}{s d:TypeId}{p:PV}{q v:SVal}{ps:List Bool}(hp:PVR N p q)(hk:Vi (std n) X s d q=some (ps,v)):Gv (Dj E s d p) N v:=by
 unfold Vi at hk;rw [hX.ty]at hk;split at hk
 .rename_i y1 y2 h1 h2;split at hk
  .rename_i k f k' m hd;cases hk;obtain⟨g,rfl⟩:=hp.int;refine⟨_,.ci _ _ _,λK hK=> ?_⟩
   grind [Dj,aC]
  .rename_i f xs hd;split at hk
   .rename_i e hs;split at hk
    .rename_i t ht;split at hk
     .rename_i hte;cases hk;obtain⟨x,rfl,hc⟩:=hp.cell;have hc':∃g,x= .d g (.rows Co.u8.size (aL .u8 xs)):=by cases hc with | d e1 _=>exact⟨_,by rw [e1];rfl⟩
      obtain⟨g,rfl⟩:=hc';refine⟨.c (.d true (.str (strOfNums xs))),.ofC (.d rfl λ_=> .inl rfl),λK hK=> ?_⟩;unfold Dj;rw [h2];simp only [aC];rw [hd];simp only;rw [h1];simp only;rw [hs];simp only;rw [ht];simp only;refine⟨hte,?_⟩;rw [Gb];exact hK
     .cases hk
    .cases hk
   .cases hk
  .cases hk
 .cases hk
def H7{X:XT}{E:Tab}(hX:XOK X E){n:Nat}{N:NM}{s:TypeId}{i:Nat}{p:PV}{q v:SVal}{ps:List Bool}(hp:PVR N p q)(hk:xZ (std n) X s q i=some (ps,v)):Gv (iQ E s p i) N v:=by
 unfold xZ at hk;rw [hX.ty]at hk;split at hk
 .rename_i y hy;split at hk
  .rename_i fs hd;split at hk
   .rename_i off ft hf;split at hk
    .rename_i z hz;split at hk
     .cases hk
     .rename_i hne;have hne:z.size≠0:=by simpa using hne
      have fin:∀K,(match p with | .c (.ptr l sz i j)=>K (.c (.ptr l sz i (j+off))) | .c (.rp r sz es i j)=>K (.c (.rp r sz es i (j+off))) | _=>False)->iQ E s p i K:=by grind [iQ,aC]
      split at hk
      .cases hk;obtain⟨x,rfl,hc⟩:=hp.cell;cases hc;exact⟨_,.ofC .pb,λK hK=>fin K hK⟩
      .cases hk;obtain⟨x,rfl,hc⟩:=hp.cell;cases hc with | pr h=>exact⟨_,.ofC (.pr h),λK hK=>fin K hK⟩
      .cases hk;obtain⟨x,rfl,hc⟩:=hp.cell;cases hc with | rp h h'=>exact⟨_,.ofC (.rp h h'),λK hK=>fin K hK⟩
      .cases hk
    .cases hk
   .cases hk
  .cases hk
 .cases hk
def PVR.struct{N:NM}{p:PV}{v:SVal}(h:PVR N p v)(hs:bH (std 0) v=true):∃cs,p= .agg cs/\F2 (RC N) cs (cellsS v):=by
 cases h with
 | one h=>cases h with
  | c _=>simp [bH]at hs
  | agg _ h=>exact⟨_,rfl,h⟩
 | tup _=>simp [bH]at hs
def Vw{X:XT}{E:Tab}(hX:XOK X E){n:Nat}{N:NM}{s:TypeId}{i:Nat}{p:PV}{q v:SVal}{ps:List Bool}(hp:PVR N p q)(hk:Mj (std n) X s q i=some (ps,v)):Gv (tH E s p i) N v:=by
 unfold Mj at hk;rw [hX.ty]at hk;split at hk
 .rename_i y hy;split at hk
  .rename_i fs hd;split at hk
   .rename_i off ft hf;split at hk
    .rename_i z hz;split at hk
     .rename_i hc;simp only [Bool.and_eq_true]at hc;obtain⟨hst,hle⟩:=hc;have hle:=Nat.le_of_ble_eq_true hle;obtain⟨cs,rfl,hF⟩:=hp.struct ah;have hl:(bU (std n) q).length=cs.length:=by rw [dD];exact hF.length.symm
      have fin:∀K,(if z.desc.agg then K (.agg ((cs.drop off).take z.size))else BM cs[off]? λx=>K (.c x))->tH E s (.agg cs) i K:=by grind [tH,aC]
      split at hk
      .rename_i hagg;cases hk;refine⟨.agg ((cs.drop off).take z.size),.one (.agg rfl ?_),λK hK=>fin K (by simp_all)⟩;have:=(hF.drop off).take z.size;rw [<-dD n]at this;exact this
      .rename_i hagg;split at hk
       .rename_i x hx;cases hk;rw [dD]at hx;obtain⟨a,ha,hra⟩:=hF.get hx;exact⟨_,.ofC hra,λK hK=>fin K (by rw [if_neg hagg,ha];exact hK)⟩
       .cases hk
     .cases hk
    .cases hk
   .cases hk
  .cases hk
 .cases hk
def Uc{N:NM}{op:BinOp}{k:IntKind}{x y:Int}{v:SVal}{ps:List Bool}{n:Nat}
    (hk:(match op with
       | .quo | .rem=>some ([(std n).cmp .neq y ((std n).lit 0)],.c (.d true (.int k ((std n).arith op k x y))))
       | .shl | .shr=>some ([(std n).cmp .leq ((std n).lit 0) y],.c (.d true (.int k ((std n).arith op k x y))))
       | op=>if Hw op then okI (std n) k ((std n).arith op k x y)else if Vh op then okB (std n) ((std n).cmp op x y)else none:PR (std n))=some (ps,v))
    (hps:∀b∈ps,b=true):Gv (Am op k x y) N v:=by
  cases op<;>simp only [Hw,Vh,okI,okB,if_true,Bool.false_eq_true,if_false,Option.some.injEq,Prod.mk.injEq,reduceCtorEq]at hk<;>
    first
    | exact hk.elim
    | (obtain⟨rfl,rfl⟩:=hk;exact⟨_,.ci _ _ _,λK hK=>hK⟩)
    | (obtain⟨rfl,rfl⟩:=hk;exact⟨_,.cb _ _,λK hK=>hK⟩)
    | (obtain ⟨rfl, rfl⟩ := hk
       have h:=hps _ (List.mem_singleton.2 rfl);refine⟨_,.ci _ _ _,λK hK=>⟨?_,hK⟩⟩;simpa [bG]using h)
def F2.H9{N:NM}:∀ {cs:List Cell} {ys:List SC},F2 (RC N) cs ys->∀(ns:List Int),(∃fs:List Bool,ys=List.zipWith (λf n=>TC.d f (.int .i64 n)) fs ns/\fs.length=ns.length)->iA cs=some ns
 | [],_,h,ns,⟨fs,e,hl⟩=>by
  cases h;cases ns with
  | nil=>rfl
  | cons a b=>simp_all
 | _::_,_,.cons h1 h2,ns,⟨fs,e,hl⟩=>by
  cases ns with
  | nil=>simp_all
  | cons a b=>cases fs with
   | nil=>simp at hl
   | cons c d=>
    simp only [List.zipWith_cons_cons,List.cons.injEq]at e;obtain⟨rfl,rfl⟩:=e;obtain⟨g,rfl⟩:=RC.int h1;have:=F2.H9 h2 b ⟨d,rfl,by simpa using hl⟩;simp [iA,Lv,this]
def rZ{n:Nat}{h:List aK}:∀ {ss:List Sh} {ys:List SC} {f:Bool} {vs:List (LV aD)} {ls:List Nat},(∀s∈ss,s=Sh.i)->aJ (std n) h ss ys=some (f,vs,ls)->
  ∃ns:List Int,vs=ns.map LV.i/\∃fs:List Bool,ys=List.zipWith (λf n=>TC.d f (.int .i64 n)) fs ns/\fs.length=ns.length
 | [],[],f,vs,ls,_,hk=>by simp_all [aJ]
 | [],_::_,_,_,_,_,hk=>by simp [aJ]at hk
 | _::_,[],_,_,_,_,hk=>by simp [aJ]at hk
 | s::ss,y::ys,f,vs,ls,hs,hk=>by
  unfold aJ at hk;split at hk
  .rename_i f1 y1 l1 h1;split at hk
   .rename_i g ys1 ls1 h2;split at hk<;>cases hk
    obtain⟨ns,rfl,fs,rfl,hl⟩:=rZ (λs hs'=>hs s (List.mem_cons_of_mem _ hs')) h2;have:=hs s (by simp);subst this;unfold fQ at h1;split at h1
    .rename_i f0 lf;split at h1
     .rename_i e;cases lf with
      | int k x=>simp [ji,Sh.i]at e;subst e;cases h1;exact⟨x::ns,rfl,f0::fs,rfl,by simp [hl]⟩
      | bool x=>simp [ji,Sh.i]at e
      | str x=>simp [ji,Sh.i]at e
      | rows c x=>simp [ji,Sh.i]at e
     .cases h1
    .simp_all
    .simp_all
    .split at h1
     all_goals simp_all
    .cases h1
   .cases hk
  .cases hk
theorem Kq(x:Ins):Co.yc .ins x=[x.op,x.d,x.a,x.k].map LV.i:=rfl
theorem Kr(x:IOp):Co.yc .iop x=[x.kind,x.x,x.y,x.k,x.at_].map LV.i:=rfl
def Ud{a b:List Int}(h:a.map (LV.i (A:=aD))=b.map LV.i):a=b:=by
 induction a generalizing b with
 | nil=>cases b<;>simp_all
 | cons x a ih=>cases b with
  | nil=>simp at h
  | cons y b=>grind
theorem zf{n:Nat}{N:NM}{c:Co}(hc:∀s∈c.fields,s=Sh.i){q:SVal}{p:PV}{f:Bool}{x:c.den}{ls:List Nat}(hp:PVR N p q)(hk:toX (std n) [] c q=some (f,x,ls))(ns:List Int)(hns:c.yc x=ns.map LV.i):
  iA (aO p)=some ns:=by
 unfold toX at hk;split at hk
 .rename_i f' c' x';split at hk
  .rename_i e;subst e;cases hk;have h:=hp.cells;have hx:cellsS (.sv f' c' x')=(fP (std 0) c' x' 0 c'.fields).map (.d f'):=rfl;rw [hx]at h;refine F2.H9 h ns ?_;have h1:=Ga 0 c' x';have h2:=AQ 0 c' x';rw [hns]at h1
   revert h1 h2
   generalize fP (std 0) c' x' 0 c'.fields=lv;intro h1 h2;have h3:∀y∈lv,ji y=Sh.i:=λy hy=>hc _ (by grind)
   clear h2 hns hp h hx hc
   induction lv generalizing ns with
   | nil=>simp_all
   | cons y lv ih=>cases ns with
    | nil=>simp at h1
    | cons a b=>
     simp only [List.map_cons,List.cons.injEq]at h1;obtain⟨fs,e,hl⟩:=ih b h1.2 (λy hy=>h3 y (List.mem_cons_of_mem _ hy));have hy:=h3 y (by simp);cases y with
     | int k x=>simp [ji,Sh.i]at hy;subst hy;simp [Leaf.lv]at h1;exact⟨f'::fs,by simp [e,h1.1],by simp [hl]⟩
     | bool x=>grind [ji]
     | str x=>grind [ji]
     | rows c x=>grind [ji]
  .cases hk
 .cases hk
 .split at hk
  .rename_i f1 ys ls1 h1;split at hk
   .rename_i t ht;cases hk;obtain⟨ms,rfl,fs,hy,hl⟩:=rZ hc h1;rw [dD]at hy;have h2:c.yc (c.mk t)=ms.map LV.i:=by rw [RD,unpack_pack ht]
    rw [show(std n).mkX c t=c.mk t from rfl]at hns;rw [h2]at hns;have:=Ud hns;subst this;exact F2.H9 hp.cells ms ⟨fs,hy,hl⟩
   .cases hk
  .cases hk
def Ef{N:NM}{p:PV}{q:SVal}(hp:PVR N p q){ns:List Int}(h:iA (aO p)=some ns)(hl:2<=ns.length):∃cs,p= .agg cs/\iA cs=some ns:=by
 cases p with
 | c x=>grind [aO,iA]
 | agg cs=>exact⟨cs,rfl,h⟩
 | tup vs=>grind [aO,iA]
def ano{x y:Ins}:([x.op,x.d,x.a,x.k]==[y.op,y.d,y.a,y.k])=Vo x y:=by
 unfold Vo;rw [Bool.eq_iff_iff];cases x;cases y;simp
def anp{x y:IOp}:([x.kind,x.x,x.y,x.k,x.at_]==[y.kind,y.x,y.y,y.k,y.at_])=Vp x y:=by
 unfold Vp;rw [Bool.eq_iff_iff];cases x;cases y;simp
theorem aQ(c:Co)(xs:List c.den):(aL c xs).length=xs.length:=by simp [aL]
def ahn{X:XT}{E:Tab}(hX:XOK X E){n:Nat}{N:NM}{op:BinOp}{ty:TypeId}{p p':PV}{a b v:SVal}{ps:List Bool}(hp:PVR N p a)(hp':PVR N p' b)
  (hk:ahg (std n) X op ty a b=some (ps,v)) (hps:∀b∈ps,b=true):Gv (Ao E op ty p p') N v:=by
 unfold ahg at hk;split at hk
 .rename_i f k x f' k' y;obtain⟨g,rfl⟩:=hp.int;obtain⟨g',rfl⟩:=hp'.int;split at hk
  .rename_i e;obtain⟨pv,h1,h2⟩:=Uc (N:=N) hk hps;exact⟨pv,h1,λK hK=>⟨e,h2 K hK⟩⟩
  .cases hk
 .rename_i f x f' y;obtain⟨g,rfl⟩:=hp.bool;obtain⟨g',rfl⟩:=hp'.bool;rw [hX.ty]at hk;split at hk
  .rename_i z hz;split at hk
   .rename_i hd;split at hk
    .cases hk;exact⟨_,.cb _ _,λK hK=>by unfold Ao;simp only;rw [hz];exact⟨hd,hK⟩⟩
    .cases hk;exact⟨_,.cb _ _,λK hK=>by unfold Ao;simp only;rw [hz];exact⟨hd,hK⟩⟩
    .cases hk
   .cases hk
  .cases hk
 .rename_i f x f' y;have str:∀ {p:PV} {f:Bool} {s:ByteArray},PVR N p (.c (.d f (.str s)))->∃g,p= .c (.d g (.str s)):=λh=>by
   obtain⟨x,rfl,hc⟩:=h.cell;cases hc with | d e1 _=>exact⟨_,by rw [e1];rfl⟩
  obtain⟨g,rfl⟩:=str hp;obtain⟨g',rfl⟩:=str hp';rw [hX.ty]at hk;split at hk
  .rename_i z hz;split at hk
   .rename_i hd;split at hk
    .cases hk;exact⟨_,.cb _ _,λK hK=>by unfold Ao;simp only;rw [hz];exact⟨hd,hK⟩⟩
    .cases hk;exact⟨_,.cb _ _,λK hK=>by unfold Ao;simp only;rw [hz];exact⟨hd,hK⟩⟩
    .cases hk
   .cases hk
  .cases hk
 .rename_i l lo m;obtain⟨x,rfl,hr⟩:=hp.cell;obtain⟨x',rfl,hr'⟩:=hp'.cell;rw [hX.ty]at hk;split at hk
  .rename_i z hz;split at hk
   .rename_i el hd;cases hr with
    | @os l sz lo n0 m0 hN=>
    cases hr';have ne:(!decide ((n0:Int)=0))=true->n0≠0:=λh e=>by simp_all
    split at hk
    .cases hk;exact⟨_,.cb _ _,λK hK=>⟨ne (hps _ (List.mem_singleton.2 rfl)),by rw [hz];exact⟨⟨el,hd⟩,hK⟩⟩⟩
    .cases hk;exact⟨_,.cb _ _,λK hK=>⟨ne (hps _ (List.mem_singleton.2 rfl)),by rw [hz];exact⟨⟨el,hd⟩,hK⟩⟩⟩
    .cases hk
   .cases hk
  .cases hk
 .rename_i f c xs;obtain⟨x,rfl,hr⟩:=hp.cell;obtain⟨x',rfl,hr'⟩:=hp'.cell;rw [hX.ty]at hk;split at hk
  .rename_i z hz;split at hk
   .rename_i el hd;cases hr with
    | d e1 _=>
    cases hr';subst e1;have ne:(!decide ((xs.length:Int)=0))=true->aL c xs≠ []:=λh e=>by grind [aQ,Bool.not_eq_true',decide_eq_false_iff_not]
    split at hk
    .cases hk;exact⟨_,.cb _ _,λK hK=>⟨ne (hps _ (List.mem_singleton.2 rfl)),by rw [hz];exact⟨⟨el,hd⟩,hK⟩⟩⟩
    .cases hk;exact⟨_,.cb _ _,λK hK=>⟨ne (hps _ (List.mem_singleton.2 rfl)),by rw [hz];exact⟨⟨el,hd⟩,hK⟩⟩⟩
    .cases hk
   .cases hk
  .cases hk
 .split at hk
  .rename_i c hc;split at hk
   .rename_i f1 x l1 f2 y l2 hx hy;have main:∀(m:Nat) (xs ys:List Int),E.ieq ty=some m->xs.length=m->ys.length=m->2<=m->iA (aO p)=some xs->iA (aO p')=some ys->(xs==ys)=(std n).eqX c x y->Gv (Ao E op ty p p') N v:=by
     intro m xs ys he hlx hly h2 hax hay hq;obtain⟨cs,rfl,hcs⟩:=Ef hp hax ah;obtain⟨ds,rfl,hds⟩:=Ef hp' hay ah;split at hk
     .cases hk;exact⟨_,.cb _ _,λK hK=>by grind [Ao,tF]⟩
     .cases hk;exact⟨_,.cb _ _,λK hK=>by grind [Ao,tF]⟩
     .cases hk
    rcases hX.ieq ty c hc with⟨rfl,he⟩ | ⟨rfl,he⟩
    .exact main 4 _ _ he rfl rfl ah (zf (by decide) hp hx _ (Kq x)) (zf (by decide) hp' hy _ (Kq y)) ano
    .exact main 5 _ _ he rfl rfl ah (zf (by decide) hp hx _ (Kr x)) (zf (by decide) hp' hy _ (Kr y)) anp
   .cases hk
  .cases hk
def gH{X:XT}{E:Tab}(hX:XOK X E){e:TypeId}{c:Co}(h:ku X e c=true):∃z,E.ty e=some z/\z.size=c.size:=by
 unfold ku at h;rw [hX.ty]at h
 grind
theorem dF{h:List aK}{l:Nat}{f:Bool}{c:Co}{xs:List c.den}(hl:h[l]? =some (.rows f c xs)):nmh h l=some (c.size,xs.length):=by simp only [nmh,hl]
def ada{n:Nat}{h:List aK}{p:PV}{v:SVal}(hp:PVR (nmh h) p v):PVR (nmh h) p (ahh (std n) h v):=by
 unfold ahh;split
 .rename_i l;split
  .rename_i f c xs hl;obtain⟨x,rfl,hr⟩:=hp.cell;cases hr with
   | @own l sz m hN=>
    have e:=dF hl;rw [hN]at e;cases e;exact .ofC (.os hN)
  .exact hp
 .exact hp
def Ia{X:XT}{E:Tab}(hX:XOK X E){n:Nat}{h:List aK}{t:TypeId}{p p':PV}{a b v:SVal}{ps:List Bool}(hp:PVR (nmh h) p a)(hp':PVR (nmh h) p' b)
  (hk:x9 (std n) X h t a b=some (ps,v)) (hps:∀b∈ps,b=true):Gv (jA E t p p') (nmh h) v:=by
 unfold x9 at hk;rw [hX.ty]at hk;split at hk
 .rename_i y hy;split at hk
  .rename_i e f k i hd;obtain⟨i,rfl⟩:∃i':Int,i'=i:=⟨i,rfl⟩;obtain⟨g,rfl⟩:=hp'.int
   have fin:∀z,E.ty e=some z->∀K,(match p with
     | .c (.d f (.rows sz es))=>(es≠ []->sz=z.size)/\0<=i/\i<es.length/\K (.c (.rp f sz es i.toNat 0))
     | .c (.clip f sz es)=>(es≠ []->sz=z.size)/\0<=i/\i<es.length/\K (.c (.rp f sz es i.toNat 0))
     | .c (.os l sz lo n)=>sz=z.size/\0<=i/\i<n/\K (.c (.ptr l sz (lo+i.toNat) 0))
     | _=>False)->jA E t p (.c (.d g (.int k i))) K:=by
    intro z hz K hK;unfold jA;rw [hy];simp only [aC];rw [hd];simp only;rw [hz];exact hK
   split at hk
   .rename_i f0 c xs;split at hk
    .rename_i hs;cases hk;obtain⟨z,hz,hzs⟩:=gH hX hs;obtain⟨x,rfl,hc⟩:=hp.cell;cases hc with | d hx hf=>
     subst hx;have h0:(0:Int)<=i:=by simp_all [bG]
     have h1:i< (xs:List c.den).length:=by simp_all [bG]
     refine⟨_,.ofC (x:= .rp _ c.size (aL c xs) i.toNat 0) (by
      grind [RC.rp,nmh,Leaf.scalar,Int.toNat_of_nonneg]),λK hK=>fin z hz K ⟨λ_=>hzs.symm,h0,by rw [aQ];omega,hK⟩⟩
    .cases hk
   .rename_i f0 c xs;split at hk
    .rename_i hs;cases hk;obtain⟨z,hz,hzs⟩:=gH hX hs;obtain⟨x,rfl,hc⟩:=hp.cell;cases hc with | clip hf=>
     have h0:(0:Int)<=i:=by simp_all [bG]
     have h1:i< (xs:List c.den).length:=by simp_all [bG]
     refine⟨_,.ofC (x:= .rp _ c.size (aL c xs) i.toNat 0) (by
      grind [RC.rp,nmh,Int.toNat_of_nonneg]),λK hK=>fin z hz K ⟨λ_=>hzs.symm,h0,by rw [aQ];omega,hK⟩⟩
    .cases hk
   .rename_i l;split at hk
    .rename_i f1 c xs hl;split at hk
     .rename_i hs;cases hk;obtain⟨z,hz,hzs⟩:=gH hX hs;obtain⟨x,rfl,hc⟩:=hp.cell;cases hc with | own hN=>
      have hN':=hN;rw [dF hl]at hN';cases hN';have h0:(0:Int)<=i:=by simp_all [bG]
      have h1:i< (xs:List c.den).length:=by simp_all [bG]
      refine⟨_,.ofC (x:= .ptr l c.size (0+i.toNat) 0) (by
       grind [RC.pr,nmh,Int.toNat_of_nonneg]),λK hK=>fin z hz K ⟨hzs.symm,h0,h1,hK⟩⟩
     .cases hk
    .cases hk
   .rename_i l lo n;split at hk
    .rename_i f1 c xs hl;split at hk
     .rename_i hs;cases hk;obtain⟨z,hz,hzs⟩:=gH hX hs;obtain⟨x,rfl,hc⟩:=hp.cell;cases hc with | os hN=>
      rename_i sz lo n m;have hN':=hN;rw [dF hl]at hN';cases hN';have h0:(0:Int)<=i:=by simp_all [bG]
      have h1:i< (n:Int):=by simp_all [bG]
      refine⟨_,.ofC (x:= .ptr l c.size (lo+i.toNat) 0) (by
       have:=RC.pr (N:=nmh h) (i:=lo+i.toNat) (j:=0) hN
       grind),λK hK=>fin z hz K ⟨hzs.symm,h0,h1,hK⟩⟩
     .cases hk
    .cases hk
   .cases hk
  .cases hk
 .cases hk
def aho{n:Nat}{h:List aK}{p:PV}{q v:SVal}{ps:List Bool}(hp:PVR (nmh h) p q)(hk:ahi (std n) h q=some (ps,v)):Gv (JE p) (nmh h) v:=by
 unfold ahi at hk;split at hk
 .cases hk;obtain⟨x,rfl,hc⟩:=hp.cell;cases hc with | d hx _=>subst hx;exact⟨_,.ci _ _ _,λK hK=>by grind [JE,mX,aQ]⟩
 .cases hk;obtain⟨x,rfl,hc⟩:=hp.cell;cases hc with | clip _=>exact⟨_,.ci _ _ _,λK hK=>by grind [JE,aQ]⟩
 .obtain⟨x,rfl,hc⟩:=hp.cell;cases hc with | own hN=>
  split at hk
  .rename_i f c xs hl;cases hk;rw [dF hl]at hN;cases hN;exact⟨_,.ci _ _ _,λK hK=>hK⟩
  .cases hk
 .cases hk;obtain⟨x,rfl,hc⟩:=hp.cell;cases hc;exact⟨_,.ci _ _ _,λK hK=>hK⟩
 .cases hk;obtain⟨x,rfl,hc⟩:=hp.cell;cases hc;exact⟨_,.ci _ _ _,λK hK=>hK⟩
 .cases hk
def rA{X:XT}{E:Tab}(hX:XOK X E){n:Nat}{N:NM}{t:Slots}{e:Nat->Option SVal}(he:EvR X E n N t e){o:Option Operand}{d m:Int}(hk:Hy (std n) X e o d=some m){K:Int->Prop}(h:K m):yM E t o d K:=by
 cases o with
 | none=>simp only [Hy,Option.some.injEq]at hk;subst hk;exact h
 | some x=>
  simp only [Hy]at hk;split at hk
  .rename_i f k m' hx;cases hk;obtain⟨pv,h1,h2⟩:=dM hX he hx;obtain⟨g,rfl⟩:=h2.int;unfold yM;simp only;rw [h1];exact h
  .cases hk
theorem vW(c:Co)(xs:List c.den)(l r:Nat):((aL c xs).take r).drop l=aL c ((xs.take r).drop l):=by simp [aL,List.map_take,List.map_drop]
def Vx{X:XT}{E:Tab}(hX:XOK X E){n:Nat}{h:List aK}{t:Slots}{e:Nat->Option SVal}(he:EvR X E n (nmh h) t e){ty:TypeId}{p:PV}{q v:SVal}{lo hi mx:Option Operand}{ps:List Bool}(hp:PVR (nmh h) p q)
    (hk:Mk (std n) X e h ty q lo hi mx=some (ps,v)) (hps:∀b∈ps,b=true):Gv (tJ E t ty p lo hi mx) (nmh h) v:=by
  unfold Mk at hk;rw [hX.ty]at hk;split at hk
  · rename_i y hy;split at hk
    · rename_i el hd;split at hk
      · rename_i l hl;obtain⟨l,rfl⟩:∃l':Int,l'=l:=⟨l,rfl⟩
        have fin:∀z,E.ty el=some z->∀K,(match p with
          | .c (.d f (.rows sz es))=>(es≠ []->sz=z.size)/\(yM E t hi es.length λh=>0<=l/\l<=h/\h<=es.length/\
              (match mx with
               | none=>K (.c (.d f (.rows sz ((es.take h.toNat).drop l.toNat))))
               | some _=>yM E t mx 0 λm=>hi.isSome=true/\m=h/\K (.c (.clip f sz ((es.take h.toNat).drop l.toNat)))))
          | .c (.os b sz lo0 n)=>sz=z.size/\mx=none/\(yM E t hi n λh=>0<=l/\l<=h/\h<=n/\K (.c (.os b sz (lo0+l.toNat) (h.toNat-l.toNat))))
          | .c .nil=>mx=none/\(yM E t hi 0 λh=>l=0/\h=0/\K (.c .nil))
          | _=>False)->tJ E t ty p lo hi mx K:=by
          intro z hz K hK;unfold tJ;rw [hy];simp only [aC];rw [hd];simp only;rw [hz];exact rA hX he hl hK
        split at hk
        · rename_i f0 c xs;split at hk
          · rename_i hs;obtain⟨z,hz,hzs⟩:=gH hX hs;obtain⟨x,rfl,hc⟩:=hp.cell;cases hc with | d hx hf=>
            subst hx;split at hk
            · rename_i r hr;obtain⟨r,rfl⟩:∃l':Int,l'=r:=⟨r,rfl⟩;split at hk
              · rename_i hm;cases hk;have h0:(0:Int)<=l:=by simpa [bG]using hps (bG .leq 0 l) (by simp)
                have h1:l<=r:=by simpa [bG]using hps (bG .leq l r) (by simp)
                have h2:r<=(xs:List c.den).length:=by simpa [bG]using hps (bG .leq r ((xs:List c.den).length:Int)) (by simp)
                refine⟨_,.ofC (.d (y:= .rows c ((xs.take r.toNat).drop l.toNat)) rfl hf),λK hK=>fin z hz K ⟨λ_=>hzs.symm,?_⟩⟩;rw [aQ];refine rA hX he hr ⟨h0,h1,h2,?_⟩;simp only [vW];exact hK
              · rename_i mo hm;split at hk
                · rename_i m hmm;obtain⟨m,rfl⟩:∃l':Int,l'=m:=⟨m,rfl⟩;split at hk
                  · rename_i hsome;cases hk;have h0:(0:Int)<=l:=by simpa [bG]using hps (bG .leq 0 l) (by simp)
                    have h1:l<=r:=by simpa [bG]using hps (bG .leq l r) (by simp)
                    have h2:r<=(xs:List c.den).length:=by simpa [bG]using hps (bG .leq r ((xs:List c.den).length:Int)) (by simp)
                    have h3:m=r:=by simpa [bG]using hps (bG .eql m r) (by simp)
                    refine⟨_,.ofC (.clip (c:=c) (xs:=((xs.take r.toNat).drop l.toNat)) (λh=>(hf h).resolve_right (by simp [Leaf.scalar]))),λK hK=>fin z hz K ⟨λ_=>hzs.symm,?_⟩⟩;rw [aQ];refine rA hX he hr ⟨h0,h1,h2,?_⟩;simp only [vW];exact rA hX he hmm ⟨hsome,h3,hK⟩
                  · cases hk
                · cases hk
            · cases hk
          · cases hk
        · rename_i w;split at hk
          · rename_i f1 c xs hw;split at hk
            · rename_i hs;obtain⟨z,hz,hzs⟩:=gH hX hs;obtain⟨x,rfl,hc⟩:=hp.cell;cases hc with | own hN=>
              have hN':=hN;rw [dF hw]at hN';cases hN';split at hk
              · rename_i r hr;cases hk;obtain⟨r,rfl⟩:∃l':Int,l'=r:=⟨r,rfl⟩;have h0:(0:Int)<=l:=by simpa [bG]using hps (bG .leq 0 l) (by simp)
                have h1:l<=r:=by simpa [bG]using hps (bG .leq l r) (by simp)
                have h2:r<=(xs:List c.den).length:=by simpa [bG]using hps (bG .leq r ((xs:List c.den).length:Int)) (by simp)
                refine⟨_,.ofC (x:= .os w c.size (0+l.toNat) (r.toNat-l.toNat)) (by
                  have:=RC.os (N:=nmh h) (lo:=0+l.toNat) (n:=r.toNat-l.toNat) hN;rw [show((0+l.toNat:Nat):Int)=l by omega,show((r.toNat-l.toNat:Nat):Int)=r-l by omega]at this;exact this),λK hK=>fin z hz K ⟨hzs.symm,rfl,?_⟩⟩
                exact rA hX he hr ⟨h0,h1,h2,hK⟩
              · cases hk
            · cases hk
          · cases hk
        · rename_i w l0 n0;split at hk
          · rename_i f1 c xs hw;split at hk
            · rename_i hs;obtain⟨z,hz,hzs⟩:=gH hX hs;obtain⟨x,rfl,hc⟩:=hp.cell;cases hc with | os hN=>
              rename_i sz l0 n0 m;have hN':=hN;rw [dF hw]at hN';cases hN';split at hk
              · rename_i r hr;cases hk;obtain⟨r,rfl⟩:∃l':Int,l'=r:=⟨r,rfl⟩;have h0:(0:Int)<=l:=by simpa [bG]using hps (bG .leq 0 l) (by simp)
                have h1:l<=r:=by simpa [bG]using hps (bG .leq l r) (by simp)
                have h2:r<=(n0:Int):=by simpa [bG]using hps (bG .leq r (n0:Int)) (by simp)
                refine⟨_,.ofC (x:= .os w c.size (l0+l.toNat) (r.toNat-l.toNat)) (by
                  have:=RC.os (N:=nmh h) (lo:=l0+l.toNat) (n:=r.toNat-l.toNat) hN;rw [show((l0+l.toNat:Nat):Int)=(l0:Int)+l by omega,show((r.toNat-l.toNat:Nat):Int)=r-l by omega]at this;exact this),λK hK=>fin z hz K ⟨hzs.symm,rfl,?_⟩⟩
                exact rA hX he hr ⟨h0,h1,h2,hK⟩
              · cases hk
            · cases hk
          · cases hk
        · split at hk
          · rename_i r hr;split at hk
            · rename_i hsm;cases hk;obtain⟨r,rfl⟩:∃l':Int,l'=r:=⟨r,rfl⟩;obtain⟨x,rfl,hc⟩:=hp.cell;cases hc;have h1:l=0:=by simpa [bG]using hps (bG .eql l 0) (by simp)
              have h2:r=0:=by simpa [bG]using hps (bG .eql r 0) (by simp)
              obtain⟨z,hz⟩:=Option.isSome_iff_exists.1 hsm;exact⟨_,.ofC .nil,λK hK=>fin z hz K ⟨rfl,rA hX he hr ⟨h1,h2,hK⟩⟩⟩
            · cases hk
          · cases hk
        · cases hk
      · cases hk
    · cases hk
  · cases hk
def Vy{n:Nat}{N:NM}{x:Cell}{y:SC}(h:Rs (std n) x=some y):RC N x y:=by
 unfold Rs at h;split at h<;>first | (cases h;exact .d rfl λ_=> .inl rfl) | (cases h;exact .nil) | (cases h;exact .np) | cases h
def AU{n:Nat}{N:NM}:∀ {xs:List Cell} {ys:List SC},jD (std n) xs=some ys->F2 (RC N) xs ys
 | [],ys,h=>by simp [jD]at h;subst h;exact .nil
 | x::xs,ys,h=>by
  simp only [jD]at h;split at h
  .rename_i y ys' h1 h2;cases h;exact .cons (Vy h1) (AU h2)
  .cases h
def RG{X:XT}{E:Tab}(hX:XOK X E){n:Nat}{N:NM}{t:Slots}{e:Nat->Option SVal}(he:EvR X E n N t e)(fs:List (Nat×TypeId)):
  ∀(parts:List (Nat×Operand)) {cs':List Cell} {cs out:List SC},F2 (RC N) cs' cs->Ki (std n) X e fs parts cs=some out->∃out',F2 (RC N) out' out/\∀K,K out'->rT E t (nW E fs) parts cs' K
 | [],cs',cs,out,hc,hk=>by simp only [Ki,Option.some.injEq]at hk;subst hk;exact⟨_,hc,λK hK=>hK⟩
 | (i,x)::rest,cs',cs,out,hc,hk=>by
  simp only [Ki]at hk;rw [hX.ty]at hk;split at hk
  .rename_i off ft hf;split at hk
   .rename_i z v hz hv;split at hk
    .rename_i hcond;simp only [Bool.and_eq_true,beq_iff_eq,Bool.not_eq_true',beq_eq_false_iff_ne,ne_eq]at hcond;obtain⟨⟨h1,h2⟩,h3⟩:=hcond;have h3:=Nat.le_of_ble_eq_true h3;obtain⟨pv,hp,hr⟩:=dM hX he hv;have hcells:=hr.cells;have hlen:(aO pv).length=(bU (std n) v).length:=by rw [dD];exact hcells.length
     have hcl:cs'.length=cs.length:=hc.length;rw [dD]at hk;have hnew:F2 (RC N) (splice cs' (aO pv) off) (cs.take off++cellsS v++cs.drop (off+(cellsS v).length)):=by
      unfold splice;rw [show(aO pv).length=(cellsS v).length from hcells.length];exact((hc.take off).append hcells).append (hc.drop _)
     obtain⟨out',ho,hK⟩:=RG hX he fs rest hnew hk;refine⟨out',ho,λK hK'=> ?_⟩;unfold rT;have hpl:nW E fs i=some (off,z.size):=by grind [nW]
     rw [hpl];simp only;rw [hp];exact⟨ah,h2,ah,hK K hK'⟩
    .cases hk
   .cases hk
  .cases hk
def Vz{X:XT}{E:Tab}(hX:XOK X E){n:Nat}{N:NM}{t:Slots}{e:Nat->Option SVal}(he:EvR X E n N t e){ty:TypeId}{parts:List (Nat×Operand)}{v:SVal}{ps:List Bool}
  (hk:Ml (std n) X e ty parts=some (ps,v)):Gv (Ap E t ty parts) N v:=by
 unfold Ml at hk;split at hk
 .rename_i y hy;rw [hX.ty]at hy;split at hk
  .rename_i fs hd;split at hk
   .rename_i hall;split at hk
    .rename_i z hz;split at hk
     .rename_i cs hcs;cases hk;obtain⟨out',ho,hK⟩:=RG hX he fs parts (AU hz) hcs;refine⟨_,.one (.agg rfl ho),λK hK'=> ?_⟩;unfold Ap;rw [hy];simp only [aC];rw [hd];refine⟨λft hft=> ?_,hK _ hK'⟩;have:=List.all_eq_true.1 hall ft hft;rw [hX.ty]at this;exact this
     .cases hk
    .cases hk
   .cases hk
  .cases hk
 .cases hk
def RH{X:XT}{E:Tab}(hX:XOK X E){n:Nat}{N:NM}{t:Slots}{e:Nat->Option SVal}(he:EvR X E n N t e):
  ∀(xs:List Operand) {cs:List (Nat×Nat)},Kj (std n) X e xs=some cs->∀K,K (cs.map λp=>Cell.ptr p.1 p.2 0 0)->rU E t xs K
 | [],cs,hk,K,hK=>by simp only [Kj,Option.some.injEq]at hk;subst hk;exact hK
 | x::r,cs,hk,K,hK=>by
  simp only [Kj]at hk;split at hk
  .rename_i l sz hx;split at hk
   .rename_i ys hys;cases hk;obtain⟨pv,h1,h2⟩:=dM hX he hx;obtain⟨c,rfl,hc⟩:=h2.cell;cases hc;unfold rU;rw [h1];exact RH hX he r hys _ hK
   .cases hk
  .cases hk
def Kt{n:Nat}{N:NM}{q:Bool}{x y z:SVal}{px py:PV}(hx:q=true->PVR N px x)(hy:q=false->PVR N py y)(hk:Mq (std n) q x y=some z):PVR N (bif q then px else py) z:=by
 unfold Mq at hk;split at hk
 .rename_i a b;split at hk
  .rename_i c hc;cases hk;unfold Vj at hc;split at hc
   .rename_i f k m g k' m';split at hc
    .rename_i e;subst e;cases hc;cases q with
     | true=>obtain⟨g,rfl⟩:=(hx rfl).int;exact .ofC (.d rfl λ_=> .inr rfl)
     | false=>obtain⟨g,rfl⟩:=(hy rfl).int;exact .ofC (.d rfl λ_=> .inr rfl)
    .cases hc
   .cases hc;cases q with
    | true=>obtain⟨g,rfl⟩:=(hx rfl).bool;exact .ofC (.d rfl λ_=> .inr rfl)
    | false=>obtain⟨g,rfl⟩:=(hy rfl).bool;exact .ofC (.d rfl λ_=> .inr rfl)
   .rename_i f c xs g c' ys;split at hc
    .rename_i e;subst e;cases hc;cases q with
     | true=>
      obtain⟨u,rfl,h⟩:=(hx rfl).cell;cases h with | d h1 h2=>exact .ofC (.d h1 λh=> .inl ((h2 (by simp_all)).resolve_right (by simp [Leaf.scalar])))
     | false=>
      obtain⟨u,rfl,h⟩:=(hy rfl).cell;cases h with | d h1 h2=>exact .ofC (.d h1 λh=> .inl ((h2 (by simp_all)).resolve_right (by simp [Leaf.scalar])))
    .cases hc
   .cases hc
  .cases hk
 .cases hk
def Ku{X:XT}{E:Tab}(hX:XOK X E){n:Nat}{h':Heap}{h:List aK}{t:Slots}{e:Nat->Option SVal}(he:EvR X E n (nmh h) t e){c:Call}{v:SVal}{ps:List Bool}
  (hk:D7 (std n) X e h c=some (ps,v)):Gv (gM E (.call c) t h') (nmh h) v:=by
 unfold D7 at hk;split at hk
 .rename_i hb;split at hk
  .rename_i x ty hx hty;split at hk
   .rename_i y q hy hq;rw [hX.ty]at hy;split at hk
    .rename_i el hd;obtain⟨pv,h1,h2⟩:=dM hX he hq;obtain⟨pv',h3,h4⟩:=aho h2 hk;refine⟨pv',h3,λK hK=> ?_⟩;show rV E t c K
     grind [rV,aC,iI]
    .cases hk
   .cases hk
  .cases hk
 .rename_i hb;split at hk
  .rename_i x ty hx hty;split at hk
   .rename_i y hy hq;rw [hX.ty]at hy;split at hk
    .rename_i el hd;cases hk;obtain⟨pv,h1,h2⟩:=dM hX he hq;obtain⟨x',rfl,hc⟩:=h2.cell;cases hc;refine⟨_,.ci _ _ _,λK hK=> ?_⟩;show rV E t c K;unfold rV;rw [hb];simp only;rw [hx,hty];simp only;rw [hy];simp only [aC];rw [hd];exact⟨trivial,iI h1 _ hK⟩
    .cases hk
   .cases hk
  .cases hk
 .rename_i hb;split at hk
  .rename_i x y hx;split at hk
   .rename_i f k m g k' m' h1 h2;cases hk;obtain⟨p1,q1,r1⟩:=dM hX he h1;obtain⟨p2,q2,r2⟩:=dM hX he h2;obtain⟨_,rfl⟩:=r1.int;obtain⟨_,rfl⟩:=r2.int;refine⟨_,.ci _ _ _,λK hK=> ?_⟩;show rV E t c K;unfold rV;rw [hb];simp only;rw [hx];simp only;rw [q1];simp only [aP];rw [q2];exact hK
   .cases hk
  .cases hk
 .rename_i hb;split at hk
  .rename_i x y hx;split at hk
   .rename_i f k m g k' m' h1 h2;cases hk;obtain⟨p1,q1,r1⟩:=dM hX he h1;obtain⟨p2,q2,r2⟩:=dM hX he h2;obtain⟨_,rfl⟩:=r1.int;obtain⟨_,rfl⟩:=r2.int;refine⟨_,.ci _ _ _,λK hK=> ?_⟩;show rV E t c K;unfold rV;rw [hb];simp only;rw [hx];simp only;rw [q1];simp only [aP];rw [q2];exact hK
   .cases hk
  .cases hk
 .cases hk
def eD{n:Nat}{v:Option SVal}{K:SVal->PR (std n)}{r:List Bool×SVal}(h:y7 (std n) v K=some r):∃u,v=some u/\K u=some r:=by
 cases v with
 | none=>cases h
 | some u=>exact⟨u,rfl,h⟩
theorem VA{X:XT}{E:Tab}(hX:XOK X E){n:Nat}{h':Heap}{h:List aK}(H:fE h' h){t:Slots}{e:Nat->Option SVal}(he:EvR X E n (nmh h) t e){op:Op}{v:SVal}{ps:List Bool}
  (hk:Rt (std n) X e h op=some (ps,v)) (hps:∀b∈ps,b=true):Gv (gM E op t h') (nmh h) v:=by
 have up1:∀ {x:Operand} {pv:PV} {T:PV->(PV->Prop)->Prop},ev E t x=some pv->Gv (T pv) (nmh h) v->(∀K,gM E op t h' K=aP (ev E t x) λa=>T a K)->Gv (gM E op t h') (nmh h) v:=
  λh1 ⟨pv',h2,h3⟩ hT=>⟨pv',h2,λK hK=>by rw [hT];exact iI h1 _ (h3 K hK)⟩
 have up2:∀ {x y:Operand} {p1 p2:PV} {T:PV->PV->(PV->Prop)->Prop},ev E t x=some p1->ev E t y=some p2->Gv (T p1 p2) (nmh h) v->(∀K,gM E op t h' K=aP (ev E t x) λa=>aP (ev E t y) λb=>T a b K)->Gv (gM E op t h') (nmh h) v:=
  λh1 h1' ⟨pv',h2,h3⟩ hT=>⟨pv',h2,λK hK=>by rw [hT];exact iI h1 _ (iI h1' _ (h3 K hK))⟩
 unfold Rt at hk;split at hk
 .obtain⟨u,hu,hk⟩:=eD hk;cases hk;obtain⟨pv,h1,h2⟩:=dM hX he hu;exact⟨pv,h2,λK hK=>iI h1 _ hK⟩
 .obtain⟨u,hu,hk⟩:=eD hk;cases hk;obtain⟨pv,h1,h2⟩:=dM hX he hu;exact⟨pv,h2,λK hK=>iI h1 _ hK⟩
 .obtain⟨u,hu,hk⟩:=eD hk;obtain⟨pv,h1,h2⟩:=dM hX he hu;exact up1 h1 (Ko hX H h2 hk hps) λK=>rfl
 .obtain⟨u,hu,hk⟩:=eD hk;obtain⟨pv,h1,h2⟩:=dM hX he hu;exact up1 (T:=Lu) h1 (ahm h2 hk) λK=>rfl
 .obtain⟨u,hu,hk⟩:=eD hk;obtain⟨w,hw,hk⟩:=eD hk;obtain⟨pv,h1,h2⟩:=dM hX he hu;obtain⟨pv',h1',h2'⟩:=dM hX he hw;exact up2 h1 h1' (ahn hX (ada h2) h2' hk hps) λK=>rfl
 .obtain⟨u,hu,hk⟩:=eD hk;obtain⟨pv,h1,h2⟩:=dM hX he hu;exact up1 h1 (anm h2 hk) λK=>rfl
 .obtain⟨u,hu,hk⟩:=eD hk;obtain⟨pv,h1,h2⟩:=dM hX he hu;exact up1 h1 (ac9 hX h2 hk) λK=>rfl
 .obtain⟨u,hu,hk⟩:=eD hk;obtain⟨pv,h1,h2⟩:=dM hX he hu;exact up1 (T:=λa K=>iQ E _ a _ K) h1 (H7 hX h2 hk) λK=>rfl
 .obtain⟨u,hu,hk⟩:=eD hk;obtain⟨pv,h1,h2⟩:=dM hX he hu;exact up1 (T:=λa K=>tH E _ a _ K) h1 (Vw hX h2 hk) λK=>rfl
 .obtain⟨u,hu,hk⟩:=eD hk;obtain⟨w,hw,hk⟩:=eD hk;obtain⟨pv,h1,h2⟩:=dM hX he hu;obtain⟨pv',h1',h2'⟩:=dM hX he hw;exact up2 h1 h1' (Ia hX h2 h2' hk hps) λK=>rfl
 .obtain⟨u,hu,hk⟩:=eD hk;obtain⟨pv,h1,h2⟩:=dM hX he hu;exact up1 (T:=λa K=>tJ E t _ a _ _ _ K) h1 (Vx hX he h2 hk hps) λK=>rfl
 .obtain⟨u,hu,hk⟩:=eD hk;obtain⟨pv,h1,h2⟩:=dM hX he hu;rename_i x i;split at hk
  .rename_i vs;unfold Kg at hk;split at hk
   .rename_i w hw;cases hk;cases h2 with
    | one h2=>cases h2 with
     | agg hs _=>simp [bH]at hs
    | tup hF=>
     obtain⟨a,ha,hra⟩:=hF.get hw;exact⟨a,.one hra,λK hK=>iI h1 _ (by unfold pR;simp only;rw [ha];exact hK)⟩
   .cases hk
  .cases hk
 .exact Vz hX he hk
 .rename_i fn first caps
  split at hk
  .rename_i g;split at hk
   .rename_i hf;split at hk
    .rename_i cs hcs;cases hk;refine⟨_,.ofC .fn,λK hK=> ?_⟩;exact⟨Array.ext' (by simpa using hf),RH hX he _ hcs _ hK⟩
    .cases hk
   .cases hk
  .cases hk
 .exact Ku hX he hk
 .cases hk
def Gone(h:List aK)(l:Nat):Prop:=∃c n,h[l]? =some (.gone c n)
def Same(h k:List aK):Prop:=∀l x,nmh h l=some x->nmh k l=some x
def Same.refl(h:List aK):Same h h:=λ_ _ h=>h
def Same.trans{a b c:List aK}(h:Same a b)(k:Same b c):Same a c:=λl x hx=>k l x (h l x hx)
def fE.set{h':Heap}{h:List aK}(H:fE h' h){l:Nat}{o:aK}{o':fM}(hl:l<h.length)(hs:Same h (h.set l o))(ho:OR (nmh (h.set l o)) o' o):fE ((l,o')::h') (h.set l o) where
 old:=λk x hx=>by
  by_cases e:l=k
  .grind [List.getElem?_set_self,aH]
  .rw [List.getElem?_set_ne e]at hx;obtain⟨x',h1,h2⟩:=H.old k x hx;exact⟨x',by grind [aA],h2.mono hs⟩
 new:=λk hk=>by
  rw [List.length_set]at hk;rw [aA _ _ ah];exact H.new k hk
def AV(h:List aK)(o:aK):Same h (h++ [o]):=λl x hx=>by grind [Nat.lt_or_ge,nmh,List.getElem?_eq_none,List.getElem?_append_left]
def fE.push{h':Heap}{h:List aK}(H:fE h' h){o:aK}{o':fM}(ho:OR (nmh (h++ [o])) o' o):fE ((h.length,o')::h') (h++ [o]) where
 old:=λk x hx=>by
  by_cases e:h.length=k
  .grind [aH]
  .have hk:k<h.length:=by grind
   rw [List.getElem?_append_left hk]at hx;obtain⟨x',h1,h2⟩:=H.old k x hx;exact⟨x',by grind [aA],h2.mono (AV h o)⟩
 new:=λk hk=>by
  simp at hk;rw [aA _ _ ah];exact H.new k ah
theorem MF{h:List aK}{l k:Nat}{o:aK}(e:l≠k):nmh (h.set l o) k=nmh h k:=by simp only [nmh,List.getElem?_set_ne e]
theorem kX{h:List aK}{l:Nat}{o o':aK}(ho:h[l]? =some o)(hq:nmh [o] 0=nmh [o'] 0):nmh (h.set l o')=nmh h:=by grind [List.getElem?_eq_some_iff,nmh,List.getElem?_set_self,MF]
def fJ(h:List aK)(l:Nat):List aK:=match h[l]? with | some (.rows _ c xs)=>h.set l (.gone c ((xs:List c.den).length:Int)) | _=>h
def gJ(n:Nat)(h:List aK)(l:Nat)(r:List Nat):bB (std n) h (l::r)=bB (std n) (fJ h l) r:=by
 rw [bB];unfold fJ;split
 all_goals simp_all
def mY(n:Nat):∀(a b:List Nat) (h:List aK),bB (std n) h (a++b)=bB (std n) (bB (std n) h a) b
 | [],_,_=>rfl
 | l::r,b,h=>by simp only [List.cons_append,gJ];exact mY n r b _
def Gc(h:List aK)(l:Nat):nmh (fJ h l)=nmh h:=by grind [fJ,kX,nmh]
def uI(n:Nat):∀(ls:List Nat) (h:List aK),nmh (bB (std n) h ls)=nmh h
 | [],_=>rfl
 | l::r,h=>by rw [gJ,uI n r,Gc]
theorem vX{h:List aK}{l k:Nat}(e:l≠k):(fJ h l)[k]? =h[k]? :=by grind [fJ,List.getElem?_set_ne]
def jP(n:Nat):∀(ls:List Nat) (h:List aK) {k:Nat},k∉ls->(bB (std n) h ls)[k]? =h[k]?
 | [],_,_,_=>rfl
 | l::r,h,k,hk=>by
  rw [gJ,jP n r _ (λh=>hk (List.mem_cons_of_mem _ h)),vX (λe=>hk (by simp [e]))]
theorem vY(h:List aK)(l:Nat):(fJ h l).length=h.length:=by grind [fJ]
def ou(n:Nat):∀(ls:List Nat) (h:List aK),(bB (std n) h ls).length=h.length
 | [],_=>rfl
 | l::r,h=>by rw [gJ,ou n r,vY]
theorem fE.fJ{h':Heap}{h:List aK}(H:fE h' h){l:Nat}{f:Bool}{c:Co}{xs:List c.den}(hl:h[l]? =some (.rows f c xs)):fE ((l,.gone)::h') (TX.fJ h l):=by
 have e:TX.fJ h l=h.set l (.gone c (xs.length:Int)):=by unfold TX.fJ;rw [hl]
 rw [e];exact H.set (List.getElem?_eq_some_iff.1 hl).1 (λk x hx=>by rw [kX hl (by simp [nmh])];exact hx) .gone
structure iJ(h':Heap)(h:List aK)(h'':Heap)(k:List aK)(td:List Nat):Prop where
 same:Same h k
 len:h.length<=k.length
 gone:∀l,Gone h l->Gone k l
 keep:∀l,l<h.length->l∉td->k[l]? =h[l]? /\AE.look h'' l=AE.look h' l
def iJ.refl(h':Heap)(h:List aK)(td:List Nat):iJ h' h h' h td:=⟨.refl h,Nat.le_refl _,λ_ h=>h,λ_ _ _=>⟨rfl,rfl⟩⟩
def iJ.trans{a' b' c':Heap}{a b c:List aK}{s t:List Nat}(x:iJ a' a b' b s)(y:iJ b' b c' c t):iJ a' a c' c (s++t) where
 same:=x.same.trans y.same
 len:=Nat.le_trans x.len y.len
 gone:=λl h=>y.gone l (x.gone l h)
 keep:=λl hl hn=>by
  obtain⟨h1,h2⟩:=x.keep l hl (λh=>hn (List.mem_append_left _ h));obtain⟨h3,h4⟩:=y.keep l (Nat.lt_of_lt_of_le hl x.len) (λh=>hn (List.mem_append_right _ h));simp_all
def iJ.mono{a' b':Heap}{a b:List aK}{s t:List Nat}(x:iJ a' a b' b s)(h:∀l,l∈s->l∈t):iJ a' a b' b t:=⟨x.same,x.len,x.gone,λl hl hn=>x.keep l hl (λhs=>hn (h l hs))⟩
theorem iJ.fJ{h':Heap}{h:List aK}(l:Nat){o':fM}:iJ h' h ((l,o')::h') (TX.fJ h l) [l] where
 same:=λk x hx=>by rw [Gc];exact hx
 len:=by grind [vY]
 gone:=λk ⟨c,m,hk⟩=>by
  unfold TX.fJ;split
  .rename_i f co xs hl;by_cases e:l=k
   .simp_all
   .exact⟨c,m,by simp_all⟩
  omega
 keep:=λk _ hn=>by grind [vX,aA]
def iJ.push{h':Heap}{h:List aK}(o:aK)(o':fM)(td:List Nat):iJ h' h ((h.length,o')::h') (h++ [o]) td where
 same:=AV h o
 len:=by simp
 gone:=λk ⟨c,m,hk⟩=>⟨c,m,by grind⟩
 keep:=λl hl _=>⟨List.getElem?_append_left hl,aA _ _ ah⟩
def iJ.set{h':Heap}{h:List aK}{l:Nat}{o:aK}{o':fM}(hs:Same h (h.set l o))(hg:¬Gone h l):iJ h' h ((l,o')::h') (h.set l o) [l] where
 same:=hs
 len:=by simp
 gone:=λk ⟨c,m,hk⟩=>by
  by_cases e:l=k
  .simp_all
  .exact⟨c,m,by simp_all⟩
 keep:=λk _ hn=>by grind [List.getElem?_set_ne,aA]
theorem jc(y:Leaf aD):(mX y).mg=y.scalar:=by cases y<;>rfl
def Eh(y:Leaf aD):lvD (ji y) y.lv=mX y:=by cases y<;>rfl
def Kv{n:Nat}{h':Heap}{h:List aK}{done:List Nat}(H:fE h' (bB (std n) h done)){x:Cell}{y:SC}(hr:RC (nmh h) x y){s:Sh}{f:Bool}{v:LV aD}{ls:List Nat}
  (hk:fQ (std n) h s y=some (f,v,ls)) (hd:∀l∈ls,l∉done):
  ∃g h'',(f=true->g=true)/\fE h'' (bB (std n) h (done++ls))/\iJ h' (bB (std n) h done) h'' (bB (std n) h (done++ls)) ls/\∀K,K g (lvD s v) h''->BN h' x K:=by
 unfold fQ at hk;split at hk
 .rename_i f0 lf;split at hk
  .rename_i e;cases hk;cases hr with | d hx hf=>
   rename_i g0 x0;subst hx;refine⟨g0 || (mX lf).mg,h',λh=> ?_,by simp_all,by rw [List.append_nil];exact .refl _ _ _,λK hK=> ?_⟩
   .rw [jc];cases lf with
    | rows c xs=>grind [Leaf.flag,Leaf.scalar]
    | _=>simp [Leaf.scalar]
   .subst e;rw [Eh]at hK;exact hK
  .cases hk
 .cases hr;split at hk
  .rename_i c;cases hk;exact⟨true,h',λ_=>rfl,by simp_all,by rw [List.append_nil];exact .refl _ _ _,λK hK=>⟨c.size,hK⟩⟩
  .cases hk
 .rename_i f0 c xs;cases hr with | clip hf=>
  split at hk
  .rename_i e;subst e;cases hk;exact⟨_,h',hf,by simp_all,by rw [List.append_nil];exact .refl _ _ _,λK hK=>hK⟩
  .cases hk
 .rename_i l;cases hr with | own hN=>
  split at hk
  .rename_i f0 c xs hl;split at hk
   .rename_i e;subst e;cases hk;rw [dF hl]at hN;cases hN;have hl':(bB (std n) h done)[l]? =some (.rows f c xs):=by rw [jP n _ _ (hd l (by simp))];exact hl
    obtain⟨o',ho',hO⟩:=H.old l _ hl';cases hO with | rows hf=>
    rename_i g0;refine⟨g0,(l,.gone)::h',hf,by rw [mY,gJ];exact H.fJ hl',by rw [mY,gJ];exact iJ.fJ l,λK hK=> ?_⟩;unfold BN;simp only;rw [ho'];refine⟨rfl,by rw [aQ];omega,?_⟩;have:((aL c xs).drop 0).take xs.length=aL c xs:=by grind [List.take_of_length_le,aQ]
    rw [this];exact hK
   .cases hk
  .cases hk
 .cases hk
def pF{n:Nat}{h:List aK}:∀ {ss:List Sh} {ys:List SC} {xs:List Cell} {h':Heap} {done:List Nat} (_:fE h' (bB (std n) h done)) (_:F2 (RC (nmh h)) xs ys) {f:Bool} {vs:List (LV aD)} {ls:List Nat},
  aJ (std n) h ss ys=some (f,vs,ls)->(∀l∈ls,l∉done)->
  ∃g h'',(f=true->g=true)/\fE h'' (bB (std n) h (done++ls))/\iJ h' (bB (std n) h done) h'' (bB (std n) h (done++ls)) ls/\∀K,K g (List.zipWith lvD ss vs) h''->o8 h' xs K
 | [],[],xs,h',done,H,hF,f,vs,ls,hk,hd=>by
  simp [aJ]at hk;obtain⟨rfl,rfl,rfl⟩:=hk;cases hF;exact⟨true,h',λ_=>rfl,by simp_all,by rw [List.append_nil];exact .refl _ _ _,λK hK=>hK⟩
 | [],_::_,_,_,_,_,_,_,_,_,hk,_=>by simp [aJ]at hk
 | _::_,[],_,_,_,_,_,_,_,_,hk,_=>by simp [aJ]at hk
 | s::ss,y::ys,xs,h',done,H,hF,f,vs,ls,hk,hd=>by
  cases hF with | cons h1 h2=>
  unfold aJ at hk;split at hk
  .rename_i f1 v1 l1 hv1;split at hk
   .rename_i g2 vs2 ls2 hv2;split at hk
    .rename_i aso;cases hk;have aso:∀l∈ls2,l∉l1:=λl hl hl1=>by simp_all
     obtain⟨ga,ha,qa1,qa2,qa3,qa4⟩:=Kv H h1 hv1 (λl hl=>hd l (List.mem_append_left _ hl));obtain⟨gb,hb,qb1,qb2,qb3,qb4⟩:=pF (done:=done++l1) qa2 h2 hv2 (λl hl hm=>by simp_all);rw [List.append_assoc]at qb2 qb3;refine⟨ga&&gb,hb,λh=>by simp_all,qb2,qa3.trans qb3,λK hK=> ?_⟩;exact qa4 _ (qb4 _ hK)
    .cases hk
   .cases hk
  .cases hk
theorem zh(c:Co)(t:iE c.qg){vs:List (LV aD)}(h:pack aD c.qg vs=some t):List.zipWith lvD c.fields vs=c.row (c.mk t):=by
 rw [Vr,RD,unpack_pack h]
def wQ{N:NM}:∀ {ys:List (Leaf aD)} {xs:List Cell} {f:Bool},F2 (RC N) xs (ys.map (.d f))->∀(h':Heap),∃g,(f=true\/(∀y∈ys,y.scalar=true)->g=true)/\∀K,K g (ys.map mX) h'->o8 h' xs K
 | [],_,_,h,h'=>by cases h;exact⟨true,λ_=>rfl,λK hK=>hK⟩
 | y::ys,_,f,.cons h1 h2,h'=>by
  obtain⟨g,q1,q2⟩:=wQ h2 h';cases h1 with | d hx hf=>
  rename_i g0 x0;subst hx;refine⟨(g0 || (mX y).mg)&&g,λh=> ?_,λK hK=>q2 _ hK⟩
  grind [jc,List.mem_cons_of_mem]
theorem jQ(c:Co)(h:c.flat=true)(x:c.den):∀y∈fP (std 0) c x 0 c.fields,y.scalar=true:=by
 intro y hy;have h1:=AQ 0 c x;have h2:ji y∈c.fields:=by grind
 have h3:=List.all_eq_true.1 h _ h2;cases y<;>simp_all [ji,Leaf.scalar]
theorem VB{n:Nat}{h':Heap}{h:List aK}(H:fE h' h){p:PV}{q:SVal}(hp:PVR (nmh h) p q){c:Co}{f:Bool}{x:c.den}{ls:List Nat}(hk:toX (std n) h c q=some (f,x,ls)):
  ∃g h'',(f=true->g=true)/\fE h'' (bB (std n) h ls)/\iJ h' h h'' (bB (std n) h ls) ls/\(aO p).length=c.size/\∀K,K g (c.row x) h''->o8 h' (aO p) K:=by
 unfold toX at hk;split at hk
 .rename_i f' c' x';split at hk
  .rename_i e;subst e;cases hk;have hF:=hp.cells;have hx:cellsS (.sv f' c' x')=(fP (std 0) c' x' 0 c'.fields).map (.d f'):=rfl;have hlen:(aO p).length=c'.size:=by
    rw [hF.length,hx,List.length_map];have:=congrArg List.length (AQ 0 c' x');simpa using this
   rw [hx]at hF;obtain⟨g,q1,q2⟩:=wQ hF h';refine⟨g,h',λh=>q1 ?_,H,.refl _ _ _,hlen,λK hK=>q2 K (by rw [jE];exact hK)⟩
   grind [jQ]
  .cases hk
 .cases hk
 .split at hk
  .rename_i f1 ys ls1 h1;split at hk
   .rename_i t ht;cases hk;have hF:=hp.cells;rw [dD]at h1;obtain⟨g,h'',q1,q2,q3,q4⟩:=pF (done:=[]) H hF h1 (λ_ _=>by simp);rw [List.nil_append]at q2 q3;refine⟨g,h'',q1,q2,q3,?_,λK hK=>q4 K (by grind [zh])⟩;have hl:=congrArg List.length (unpack_pack ht);have hl2:(cellsS q).length=c.fields.length:=by
     clear q2 q3 q4 hF ht hl q1
     revert h1
     generalize cellsS q=zs;generalize c.fields=ss;intro h1
     induction ss generalizing zs f ys ls with
     | nil=>grind [aJ]
     | cons s ss ih=>cases zs with
      | nil=>simp [aJ]at h1
      | cons z zs=>grind [aJ]
    rw [hF.length,hl2]
   .cases hk
  .cases hk
def Hv{m:Nat}(T:(PV->Heap->Nat->Prop)->Prop)(n:Nat)(h':Heap)(h:List aK)(r:HR (std m)):Prop:=
 ∃pv h'' k',PVR (nmh r.h) pv r.v/\fE h'' r.h/\iJ h' h h'' r.h r.touched/\r.h.length=nm n k'/\∀K,K pv h'' k'->T K
def VD:∀ {l:List Cell},zdB l=true->∃ds,ZD l ds
 | [],_=>⟨[],.nil⟩
 | x::r,h=>by
  simp only [zdB,List.all_cons,Bool.and_eq_true]at h;obtain⟨ds,hd⟩:=VD (l:=r) h.2;have h1:=h.1;cases x with
  | d f y=>exact⟨y::ds,.d f y hd⟩
  | nil=>exact⟨.rows 0 []::ds,.nl 0 hd⟩
  | _=>simp at h1
theorem Ei{α:Type}(l:List α)(lo n:Nat):(l.drop lo).take n=(l.take (lo+n)).drop lo:=by
 rw [List.drop_take];congr 1;omega
def Cc{n:Nat}:∀ {zc:List Cell} {zs:List SC} {ss:List Sh} {f:Bool} {vs:List (LV aD)} {ls:List Nat},jD (std n) zc=some zs->aJ (std n) [] ss zs=some (f,vs,ls)->ZD zc (List.zipWith lvD ss vs)
 | [],zs,ss,f,vs,ls,h1,h2=>by
  simp [jD]at h1;subst h1;cases ss with
  | nil=>simp [aJ]at h2;obtain⟨_,rfl,_⟩:=h2;exact .nil
  | cons s ss=>simp [aJ]at h2
 | x::zc,zs,ss,f,vs,ls,h1,h2=>by
  simp only [jD]at h1;split at h1
  .rename_i y ys hy hys;cases h1;cases ss with
   | nil=>simp [aJ]at h2
   | cons s ss=>
    simp only [aJ]at h2;split at h2
    .rename_i f1 v1 l1 hv;split at h2
     .rename_i g vs' ls' hvs;split at h2<;>cases h2
      have ih:=Cc hys hvs;simp only [List.zipWith_cons_cons];unfold Rs at hy;split at hy
      .cases hy;simp only [fQ]at hv;split at hv
       .rename_i e;cases hv;subst e;exact .d _ _ ih
       .cases hv
      .cases hy;simp only [fQ]at hv;split at hv
       .rename_i e;cases hv;subst e;exact .d _ _ ih
       .cases hv
      .cases hy;simp only [fQ]at hv;split at hv
       .rename_i e;cases hv;subst e;exact .d _ _ ih
       .cases hv
      .cases hy;simp only [fQ]at hv;split at hv
       .cases hv;exact .nl _ ih
       .cases hv
      .cases hy;simp [fQ]at hv
      .cases hy
     .cases h2
    .cases h2
  .cases h1
def VE{n:Nat}{zc:List Cell}{zs:List SC}{c:Co}{f:Bool}{x:c.den}{ls:List Nat}(h1:jD (std n) zc=some zs)(h2:toX (std n) [] c (.agg zs)=some (f,x,ls)):ZD zc (c.row x):=by
 simp only [toX]at h2;split at h2
 .rename_i f1 ys l1 hl;split at h2
  .rename_i t ht;cases h2;have:=Cc h1 (by simpa [bU]using hl);rw [zh c t ht]at this;exact this
  .cases h2
 .cases h2
def adb{n:Nat}{h':Heap}{h:List aK}(H:fE h' h){c:Co}{p:PV}{v:SVal}{f:Bool}{ds:List c.den}(hp:PVR (nmh h) p v){zx:Option c.den}{zd:List D}(hzx:∀x,zx=some x->zd=c.row x)(hk:ahk (std n) h c zx v=some (f,ds))
  (hps:∀b∈kC (std n) h v,b=true):∃g sz,(f=true->g=true)/\(aL c ds≠ []->sz=c.size)/\∀K,K g sz (aL c ds)->LG h' zd p K:=by
 unfold ahk at hk;split at hk
 .rename_i fq kq q;cases hxx:zx with
  | none=>rw [hxx]at hk;cases hk
  | some x=>
   rw [hxx]at hk;cases hk;obtain⟨g0,rfl⟩:=hp.int;have e:=hzx x hxx;have h1:(0:Int)<=q:=by simpa [bG]using hps (bG .leq 0 q) (by simp [kC])
   have h2:q<=jo:=by simpa [bG]using hps (bG .leq q jo) (by simp [kC])
   obtain⟨q,rfl⟩:∃w:Int,w=q:=⟨q,rfl⟩;refine⟨true,zd.length,λ_=>rfl,λ_=>by rw [e,mF],λK hK=> ?_⟩;unfold LG;simp only;refine⟨h1,by simp only [jo,yN]at h2 ⊢;omega,?_⟩;have er:aL c (List.replicate q.toNat x)=List.replicate q.toNat zd:=by rw [e];simp [aL]
   rw [<-er];exact hK
 .cases hk;obtain⟨x,rfl,hc⟩:=hp.cell;cases hc;exact⟨true,0,λ_=>rfl,λh=>absurd rfl h,λK hK=>hK⟩
 .rename_i f0 c' xs;split at hk
  .rename_i e;subst e;cases hk;obtain⟨x,rfl,hc⟩:=hp.cell;cases hc with | d hx hf=>
   subst hx;exact⟨_,c'.size,λh=>(hf h).resolve_right (by simp [Leaf.scalar]),λ_=>rfl,λK hK=>hK⟩
  .cases hk
 .rename_i f0 c' xs;split at hk
  .rename_i e;subst e;cases hk;obtain⟨x,rfl,hc⟩:=hp.cell;cases hc with | clip hf=>
   exact⟨_,c'.size,hf,λ_=>rfl,λK hK=>hK⟩
  .cases hk
 .rename_i l;split at hk
  .rename_i f0 c' xs hl;split at hk
   .rename_i e;subst e;cases hk;obtain⟨x,rfl,hc⟩:=hp.cell;cases hc with | own hN=>
    rw [dF hl]at hN;cases hN;obtain⟨o',ho',hO⟩:=H.old l _ hl;cases hO with | rows hf=>
    refine⟨_,c'.size,hf,λ_=>rfl,λK hK=> ?_⟩;unfold LG;simp only;rw [ho'];refine⟨rfl,by rw [aQ];omega,?_⟩;rw [List.drop_zero,List.take_of_length_le (by rw [aQ];exact Nat.le_refl _)];exact hK
   .cases hk
  .cases hk
 .rename_i l lo m;split at hk
  .rename_i f0 c' xs hl;split at hk
   .rename_i e;subst e;cases hk;obtain⟨x,rfl,hc⟩:=hp.cell;cases hc with | os hN=>
    rename_i sz lo m q;rw [dF hl]at hN;cases hN;obtain⟨o',ho',hO⟩:=H.old l _ hl;cases hO with | rows hf=>
    simp only [kC,hl]at hps;have h3:(lo:Int)+(m:Int)<=(xs:List c'.den).length:=by
     have:=hps (bG .leq ((lo:Int)+(m:Int)) ((xs:List c'.den).length:Int)) (by simp);simpa [bG]using this
    refine⟨_,c'.size,hf,λ_=>rfl,λK hK=> ?_⟩;unfold LG;simp only;rw [ho'];refine⟨rfl,by rw [aQ];omega,?_⟩;have e:aL c' (((xs:List c'.den).take ((lo:Int)+(m:Int)).toNat).drop ((lo:Int)).toNat)=((aL c' xs).drop lo).take m:=by
     rw [Ei,<-vW]
     congr 2<;>omega
    rw [<-e];exact hK
   .cases hk
  .cases hk
 .cases hk
def Gd(c:Co)(xs ys:List c.den):aL c (xs++ys)=aL c xs++aL c ys:=by simp [aL]
def PVR.own{h:List aK}{l sz n:Nat}(hN:nmh h l=some (sz,n)):PVR (nmh h) (.c (.os l sz 0 n)) (.c (.own l)):= .ofC (.own hN)
def qj(h:List aK)(f:Bool)(c:Co)(xs:List c.den):nmh (h++ [.rows f c xs]) h.length=some (c.size,xs.length):=by
 simp [nmh]
def Ej{h:List aK}{l:Nat}{f:Bool}{c:Co}{xs:List c.den}(hl:h[l]? =some (.rows f c xs)):¬Gone h l:=λ⟨_,_,h2⟩=>by rw [hl]at h2;cases h2
def Ue{X:XT}{E:Tab}(hX:XOK X E){m:Nat}{h':Heap}{h:List aK}(H:fE h' h){n k:Nat}(hn:h.length=nm n k){ty t2:TypeId}{pa pb:PV}{a b:SVal}(ha:PVR (nmh h) pa a)(hb:PVR (nmh h) pb b)
  {r:HR (std m)} (hk:Hz (std m) X h ty t2 a b=some r) (hps:∀b∈r.chk,b=true):
  Hv (λK=>aC (E.ty ty) λy=>match y.desc with
   | .slice e=>aC (E.ty e) λz=>(aC (E.ty t2) λy2=>pX y2.desc pb)/\yO h' n k z pa pb K
   | _=>False) n h' h r:=by
 unfold Hz at hk;rw [hX.ty]at hk;split at hk
 .rename_i y hy;split at hk
  .rename_i e hd;split at hk
   .rename_i z c hz hco;split at hk
    .rename_i hcond;simp only [Bool.and_eq_true,Bool.not_eq_true',beq_eq_false_iff_ne,ne_eq]at hcond;obtain⟨⟨⟨⟨hsz,hne⟩,hby⟩,hsrc⟩,hzd⟩:=hcond;have hby:=Nat.le_of_ble_eq_true hby;obtain⟨zd,hzd,hzx⟩:∃zd,ZD z.zero zd/\∀x,Rv (std m) z c=some x->zd=c.row x:=by
      cases hq:Rv (std m) z c with
      | none=>obtain⟨zd,hzd⟩:=VD hzd;exact⟨zd,hzd,λx h=>by cases h⟩
      | some x=>
       unfold Rv at hq;split at hq
       .rename_i zs hzs;split at hq
        .rename_i fz x' lz hx;cases hq;exact⟨_,VE hzs hx,λy h=>by cases h;rfl⟩
        .cases hq
       .cases hq
     obtain⟨z',hz',hzs⟩:=gH hX hsz;rw [hz]at hz';cases hz';have hst:aC (E.ty t2) λy2=>pX y2.desc pb:=by
      unfold D8 at hsrc;rw [hX.ty]at hsrc;split at hsrc
      .rename_i y2 hy2;rw [hy2];simp only [aC];split at hsrc
       .cases hsrc
       .rename_i e2 x hne2 he2;obtain⟨x',rfl,hc⟩:=hb.cell;unfold pX;cases hc with
        | d hx hf=>
         rename_i f g x0 y0;subst hx;cases y0 with
         | int k q=>exact absurd rfl (hne2 _ _ _)
         | _=>rw [he2];trivial
        | _=>rw [he2];trivial
       .rename_i kk fq kq q he2;obtain⟨g0,rfl⟩:=hb.int;unfold pX;rw [he2];trivial
       .cases hsrc
      .cases hsrc
     split at hk
     .rename_i f2 ds hds;obtain⟨⟨f0,ds0⟩,hds,he2⟩:=Option.map_eq_some_iff.1 hds;simp only [Prod.mk.injEq]at he2;obtain⟨hf2,he3⟩:=he2;have he3:=he3.symm;subst he3
      have main:(∀b'∈kC (std m) h b,b'=true)->∀(v:SVal) (k':List aK) (td:List Nat),(∀(g sz:_),(f2=true->g=true)->(aL c ds≠ []->sz=c.size)->∃pv h'' j,PVR (nmh k') pv v/\fE h'' k'/\iJ h' h h'' k' td/\k'.length=nm n j/\
        ∀K:PV->Heap->Nat->Prop,K pv h'' j->tT h' n k z pa g (aL c ds) K)->r.h=k'->r.v=v->r.touched=td->Hv (λK=>aC (E.ty ty) λy=>match y.desc with
         | .slice e=>aC (E.ty e) λz=>(aC (E.ty t2) λy2=>pX y2.desc pb)/\yO h' n k z pa pb K
         | _=>False) n h' h r:=by
       intro hsc v k' td hm e1 e2 e3;obtain⟨g,sz,hg,hs,hK⟩:=adb H hb hzx hds hsc;obtain⟨pv,h'',j,q1,q2,q3,q4,q5⟩:=hm (g || Dv (aL c ds)) sz (λh=>by
        rw [<-hf2]at h;rcases Bool.or_eq_true _ _▸h with h | h
        .simp [hg h]
        .have:Dv (aL c ds)=true:=by
          unfold Dv aL;simp only [List.all_map,List.all_eq_true,Function.comp_apply];intro x _ d hd;rw [<-jE 0]at hd;obtain⟨y,hy,rfl⟩:=List.mem_map.1 hd;rw [jc];exact jQ c h x y hy
         simp [this]) hs
       subst e1;subst e2;subst e3;refine⟨pv,h'',j,q1,q2,q3,q4,λK hKK=> ?_⟩;rw [hy];simp only [aC];rw [hd];simp only;rw [hz];exact⟨hst,zd,hzd,hne,hby,hK _ ⟨λh=>(hs h).trans hzs.symm,q5 K hKK⟩⟩
      split at hk
      .cases hk;obtain⟨x,rfl,hc⟩:=ha.cell;cases hc;refine main (λb hb=>hps b (by simp [hb])) _ _ _ (λg sz hg hs=> ?_) rfl rfl rfl;have hlen:(ds.length:Int)<=jo:=by simpa [bG]using hps (bG .leq (ds.length:Int) jo) (by simp)
       refine⟨_,(h.length,.rows g c.size (aL c ds))::h',k+1,.own (qj h f2 c ds),H.push (.rows hg),.push _ _ _,by simp [nm]at hn ⊢;omega,λK hK=> ?_⟩;refine⟨by rw [aQ];simp [jo,yN]at hlen ⊢;omega,?_⟩;rw [<-hn,hzs,aQ];exact hK
      .rename_i l;split at hk
       .rename_i f1 c1 xs hl;split at hk
        .rename_i q;subst q;cases hk;obtain⟨x,rfl,hc⟩:=ha.cell;cases hc with | own hN=>
         rw [dF hl]at hN;cases hN;obtain⟨o',ho',hO⟩:=H.old l _ hl;cases hO with | rows hf=>
         rename_i f';refine main (λb hb=>hps b (by simp [hb])) _ _ _ (λg sz hg hs=> ?_) rfl rfl rfl;have hlen:((xs:List c1.den).length:Int)+(ds.length:Int)<=jo:=by simpa [bG]using hps (bG .leq ((xs.length:Int)+(ds.length:Int)) jo) (by simp)
         have hG:=H.fJ hl;have eG:fJ h l=h.set l (.gone c1 (xs.length:Int)):=by unfold fJ;rw [hl]
         have hGl:(fJ h l).length=h.length:=vY h l;have hP:=hG.push (o:= .rows (f1&&f2) c1 (xs++ds)) (o':= .rows (f'&&g) c1.size (aL c1 (xs++ds))) (.rows (λh=>by simp at h;simp [hf h.1,hg h.2]));rw [hGl]at hP;have hE:=(iJ.fJ (h':=h') (h:=h) l (o':= .gone)).trans (iJ.push (h':=(l,.gone)::h') (h:=fJ h l) (.rows (f1&&f2) c1 (xs++ds)) (.rows (f'&&g) c1.size (aL c1 (xs++ds))) []);rw [hGl]at hE;refine⟨.c (.os h.length c1.size 0 (xs++ds).length),_,k+1,?_,by rw [<-eG];exact hP,by rw [<-eG];exact hE,by simp [nm]at hn ⊢;omega,λK hK=> ?_⟩
         .have:=qj (fJ h l) (f1&&f2) c1 (xs++ds);rw [hGl]at this;rw [<-eG];exact .own this
         .unfold tT;simp only;rw [ho'];simp only [nU];refine⟨by rw [aQ,Nat.zero_add];exact Nat.le_refl _,by trivial,hzs.symm,by rw [aQ];simp [jo,yN]at hlen ⊢;omega,?_⟩;rw [List.drop_zero,List.take_of_length_le (by rw [aQ];exact Nat.le_refl _),<-hn,hzs,aQ,<-Gd,<-List.length_append];exact hK
        .cases hk
       .cases hk
      .rename_i l lo q0;split at hk
       .rename_i f1 c1 xs hl;split at hk
        .rename_i q;subst q;cases hk;obtain⟨x,rfl,hc⟩:=ha.cell;cases hc with | os hN=>
         rename_i sz lo q0 mm;rw [dF hl]at hN;cases hN;obtain⟨o',ho',hO⟩:=H.old l _ hl;cases hO with | rows hf=>
         rename_i f';refine main (λb hb=>hps b (by simp [hb])) _ _ _ (λg sz hg hs=> ?_) rfl rfl rfl;have hlo:(lo:Int)=0:=by simpa [bG]using hps (bG .eql (lo:Int) 0) (by simp)
         have hq:(q0:Int)<=(xs:List c1.den).length:=by simpa [bG]using hps (bG .leq (q0:Int) (xs.length:Int)) (by simp)
         have hlen:(q0:Int)+(ds.length:Int)<=jo:=by simpa [bG]using hps (bG .leq ((q0:Int)+(ds.length:Int)) jo) (by simp)
         have hG:=H.fJ hl;have eG:fJ h l=h.set l (.gone c1 (xs.length:Int)):=by unfold fJ;rw [hl]
         have hGl:(fJ h l).length=h.length:=vY h l;have es:(((xs:List c1.den).take ((q0:Int)).toNat).drop ((0:Int)).toNat)=xs.take q0:=by simp
         have hP:=hG.push (o:= .rows (f1&&f2) c1 (xs.take q0++ds)) (o':= .rows (f'&&g) c1.size (aL c1 (xs.take q0++ds))) (.rows (λh=>by simp at h;simp [hf h.1,hg h.2]));rw [hGl]at hP;have hE:=(iJ.fJ (h':=h') (h:=h) l (o':= .gone)).trans (iJ.push (h':=(l,.gone)::h') (h:=fJ h l) (.rows (f1&&f2) c1 (xs.take q0++ds)) (.rows (f'&&g) c1.size (aL c1 (xs.take q0++ds))) []);rw [hGl]at hE;have hgoal:(h.set l (.gone c1 (xs.length:Int))++ [dZ.rows (f1&&f2) c1 ((((xs:List c1.den).take ((q0:Int)).toNat).drop ((0:Int)).toNat)++ds)])=fJ h l++ [.rows (f1&&f2) c1 (xs.take q0++ds)]:=by rw [es,eG]
         refine⟨.c (.os h.length c1.size 0 (xs.take q0++ds).length),_,k+1,?_,by show fE _ (h.set l (.gone c1 (xs.length:Int))++ [dZ.rows (f1&&f2) c1 ((((xs:List c1.den).take ((q0:Int)).toNat).drop ((0:Int)).toNat)++ds)]);rw [hgoal];exact hP,
          by show iJ _ _ _ (h.set l (.gone c1 (xs.length:Int))++ [dZ.rows (f1&&f2) c1 ((((xs:List c1.den).take ((q0:Int)).toNat).drop ((0:Int)).toNat)++ds)]) _;rw [hgoal];exact hE,by simp [nm]at hn ⊢;omega,λK hK=> ?_⟩
         .have:=qj (fJ h l) (f1&&f2) c1 (xs.take q0++ds);rw [hGl]at this;show PVR (nmh (h.set l (.gone c1 (xs.length:Int))++ [dZ.rows (f1&&f2) c1 ((((xs:List c1.den).take ((q0:Int)).toNat).drop ((0:Int)).toNat)++ds)])) _ _;rw [hgoal];exact .own this
         .unfold tT;simp only;rw [ho'];simp only [nU];refine⟨by rw [aQ];omega,by trivial,hzs.symm,by rw [aQ];simp [jo,yN]at hlen ⊢;omega,?_⟩;have hl0:lo=0:=by omega
          subst hl0;have e1:((aL c1 xs).drop 0).take q0++aL c1 ds=aL c1 (xs.take q0++ds):=by simp [aL,List.map_take]
          have e2:q0+ds.length=(xs.take q0++ds).length:=by simp;omega
          rw [<-hn,hzs,aQ,e1,e2];exact hK
        .cases hk
       .cases hk
      .rename_i f1 c1 xs;split at hk
       .rename_i q;subst q;cases hk;obtain⟨x,rfl,hc⟩:=ha.cell;cases hc with | clip hf=>
        rename_i f';refine main (λb hb=>hps b (by simp [hb])) _ _ _ (λg sz hg hs=> ?_) rfl rfl rfl;have hor:(decide ((0:Int)< (ds.length:Int)) || decide (((xs:List c1.den).length:Int)=0))=true:=by
         have:=hps ((bG .lss 0 (ds.length:Int)) || (bG .eql (xs.length:Int) 0)) (by simp);simpa [bG]using this
        have hlen:((xs:List c1.den).length:Int)+(ds.length:Int)<=jo:=by simpa [bG]using hps (bG .leq ((xs.length:Int)+(ds.length:Int)) jo) (by simp)
        refine⟨.c (.os h.length c1.size 0 (xs++ds).length),(h.length,.rows (f'&&g) c1.size (aL c1 (xs++ds)))::h',k+1,.own (qj h (f1&&f2) c1 (xs++ds)),H.push (.rows (λh=>by simp at h;simp [hf h.1,hg h.2])),.push _ _ _,by simp [nm]at hn ⊢;omega,λK hK=> ?_⟩;refine⟨λ_=>hzs.symm,λhe=> ?_,by rw [aQ,aQ];simp [jo,yN]at hlen ⊢;omega,?_⟩
        .simp only [Bool.or_eq_true,decide_eq_true_eq]at hor;rcases hor with h1 | h1
         .have:ds=[]:=by simpa [aL]using he
          subst this;simp at h1
         .have:xs=[]:=List.length_eq_zero_iff.1 ah;subst this;rfl
        .rw [<-hn,hzs,aQ,aQ,<-Gd,<-List.length_append];exact hK
       .cases hk
      .cases hk
     .cases hk
    .cases hk
   .cases hk
  .cases hk
 .cases hk
def Hv2(T:(PV->Heap->Nat->Prop)->Prop)(n:Nat)(h':Heap)(h:List aK)(v:SVal)(k:List aK)(td:List Nat):Prop:=
 ∃pv h'' j,PVR (nmh k) pv v/\fE h'' k/\iJ h' h h'' k td/\k.length=nm n j/\∀K,K pv h'' j->T K
theorem qb{k:IntKind}:∀ {es:List (List D)} {l:List Int},kS k es=some l->l.map (ic k)=es
 | [],l,h=>by grind [kS]
 | e::r,l,h=>by
  unfold kS at h;split at h
  .rename_i hh;cases hh
  .rename_i k' n r' hh;cases hh;split at h
   .rename_i e;subst e;split at h
    .rename_i l' hl;cases h;simp [ic,qb hl]
    .cases h
   .cases h
  .cases h
theorem JV(d:kM)(es:List (List D)):ir d es=es:=by
 unfold ir
 grind [qb]
def Kw{X:XT}{E:Tab}(hX:XOK X E){n:Nat}{t:Slots}{e:Nat->Option SVal}{c:Co}:∀ {parts:List (Nat×Operand)} {h':Heap} {h:List aK} (_:fE h' h) (_:EvR X E n (nmh h) t e) {f:Bool} {xs:List c.den} {k:List aK} {ls:List Nat},
  qY (std n) X e c h parts=some (f,xs,k,ls)->
  ∃g h'',(f=true->g=true)/\fE h'' k/\iJ h' h h'' k ls/\nmh k=nmh h/\k.length=h.length/\xs.length=parts.length/\∀K,K g (aL c xs) h''->tQ E t c.size h' parts K
 | [],h',h,H,he,f,xs,k,ls,hk=>by
  simp only [qY,Option.some.injEq,Prod.mk.injEq]at hk;obtain⟨rfl,rfl,rfl,rfl⟩:=hk;exact⟨true,h',λ_=>rfl,H,.refl _ _ _,rfl,rfl,rfl,λK hK=>hK⟩
 | (i,x)::r,h',h,H,he,f,xs,k,ls,hk=>by
  simp only [qY]at hk;split at hk
  .rename_i v hv;split at hk
   .rename_i f1 y l1 hy;split at hk
    .rename_i g1 ys k1 l2 hys;cases hk;obtain⟨pv,p1,p2⟩:=dM hX he hv;obtain⟨ga,ha,q1,q2,q3,q4,q5⟩:=VB H p2 hy;have hnm:nmh (bB (std n) h l1)=nmh h:=uI n l1 h;obtain⟨gb,hb,r1,r2,r3,r4,r5,r6,r7⟩:=Kw hX q2 (by rw [hnm];exact he) hys;refine⟨ga&&gb,hb,λh=>by simp_all,r2,q3.trans r3,r4.trans hnm,by rw [r5,ou],by simp [r6],λK hK=> ?_⟩;unfold tQ;rw [p1];exact⟨q4,q5 _ (r7 _ hK)⟩
    .cases hk
   .cases hk
  .cases hk
def MH(c:Co)(old:c.den){j n:Nat}{ys:List (LV aD)}(hj:j+n<=c.fields.length)(hy:ys.length=n){t:iE c.qg}(ht:pack aD c.qg ((c.yc old).take j++ys++(c.yc old).drop (j+ys.length))=some t):
  c.row (c.mk t)=gT (c.row old) (List.zipWith lvD ((c.fields.drop j).take n) ys) j:=by
 have h1:=zh c t ht;have hl:(c.yc old).length=c.fields.length:=Vt c old;have hf:c.fields=c.fields.take j++(c.fields.drop j).take n++c.fields.drop (j+n):=by
  rw [List.append_assoc,<-List.drop_drop,List.take_append_drop,List.take_append_drop]
 have hz:(List.zipWith lvD ((c.fields.drop j).take n) ys).length=n:=by simp;omega
 unfold gT;rw [<-h1,Vr c old,hz,List.take_zipWith,List.drop_zipWith]
 conv=>lhs;rw [hf]
 rw [List.zipWith_append (by simp;omega),List.zipWith_append (by simp;omega),hy]
def El{m:Nat}{h:List aK}:∀ {ss:List Sh} {ys:List SC} {f:Bool} {vs:List (LV aD)} {ls:List Nat},aJ (std m) h ss ys=some (f,vs,ls)->vs.length=ss.length
 | [],[],_,_,_,hk=>by simp [aJ]at hk;obtain⟨_,rfl,_⟩:=hk;rfl
 | [],_::_,_,_,_,hk=>by simp [aJ]at hk
 | _::_,[],_,_,_,hk=>by simp [aJ]at hk
 | s::ss,y::ys,f,vs,ls,hk=>by
  unfold aJ at hk;split at hk
  .split at hk
   .rename_i hv2;split at hk
    .cases hk;simp [El hv2]
    .cases hk
   .cases hk
  .cases hk
def AX(h:Heap)(p v:PV)(K:Heap->Prop):Prop:=
 match p with
 | .c (.ptr l sz i j)=>nU (AE.look h l) λo=>match o with
  | .box cs=>i=0/\j+(aO v).length<=cs.length/\K ((l,.box (splice cs (aO v) j))::h)
  | .rows f sz' es=>sz=sz'/\i<es.length/\o8 h (aO v) λg ds h'=>AE.look h' l=some (.rows f sz' es)/\j+ds.length<=sz/\
   ∀row,es[i]? =some row->K ((l,.rows (f&&g) sz (es.set i (if j=0/\ds.length=sz then ds else gT row ds j)))::h')
  | .gone=>False
 | _=>False
def VF{X:XT}{E:Tab}(hX:XOK X E){m:Nat}{h':Heap}{h:List aK}(H:fE h' h){n k:Nat}(hn:h.length=nm n k){ty:TypeId}{pp pv:PV}{p v:SVal}(hp:PVR (nmh h) pp p)(hv:PVR (nmh h) pv v)
  {r:HR (std m)} (hk:uw (std m) X h ty p v=some r) (hps:∀b∈r.chk,b=true):
  Hv2 (λK=>aC (E.ty ty) λy=>Au h' y pp pv λh''=>K (.tup []) h'' k) n h' h r.v r.h r.touched:=by
 have Uf:∀N,PVR N (.tup []) (.tup []):=λN=> .tup .nil
 unfold uw at hk;rw [hX.ty]at hk;have hyy:∃y,E.ty ty=some y:=by grind
 obtain⟨y,hy⟩:=hyy;rw [hy]at hk;simp only at hk;split at hk
 .cases hk
 .rename_i hc0;simp only [Bool.or_eq_true,beq_iff_eq,Bool.not_eq_true',beq_eq_false_iff_ne,ne_eq,not_or,Decidable.not_not]at hc0;obtain⟨hne,hvl⟩:=hc0;have hcells:=hv.cells;have hcl:(aO pv).length=(cellsS v).length:=hcells.length;rw [dD]at hvl;have pre:∀ {td:List Nat} {k':List aK} {h'':Heap} {vv:SVal},PVR (nmh k') (.tup []) vv->fE h'' k'->iJ h' h h'' k' td->k'.length=h.length->(∀K:PV->Heap->Nat->Prop,K (.tup []) h'' k->AX h' pp pv λh1=>K (.tup []) h1 k)->Hv2 (λK=>aC (E.ty ty) λy=>Au h' y pp pv λh''=>K (.tup []) h'' k) n h' h vv k' td:=by
   intro td k' h'' vv a0 a1 a2 a3 a4;refine⟨.tup [],h'',k,a0,a1,a2,by rw [a3,hn],λK hK=> ?_⟩;rw [hy];simp only [aC];exact⟨by rw [hcl,hvl],by simpa using hne,a4 K hK⟩
  split at hk
  .rename_i l sz j;split at hk
   .rename_i w hw;obtain⟨x,rfl,hc⟩:=hp.cell;cases hc;obtain⟨o',ho',hO⟩:=H.old l _ hw;cases hO with | box hF=>
    rename_i cs;have at5:cs.length=(cellsS w).length:=hF.length;have hll:l<h.length:=(List.getElem?_eq_some_iff.1 hw).1;have hng:¬Gone h l:=λ⟨_,_,h2⟩=>by simp_all
    have asq:∀w2,F2 (RC (nmh h)) (splice cs (aO pv) j) (cellsS w2)->j+(aO pv).length<=cs.length->Hv2 (λK=>aC (E.ty ty) λy=>Au h' y (.c (.ptr l sz 0 j)) pv λh''=>K (.tup []) h'' k) n h' h (.tup []) (h.set l (.box w2)) [l]:=by
     intro w2 hF2 hle;have hs:nmh (h.set l (.box w2))=nmh h:=kX hw (by simp [nmh]);refine pre (Uf _) (H.set hll (λk x hx=>by rw [hs];exact hx) (.box (by rw [hs];exact hF2))) (.set (λk x hx=>by rw [hs];exact hx) hng) (by simp) (λK hK=> ?_);unfold AX;simp only;rw [ho'];exact⟨by trivial,hle,hK⟩
    split at hk
    .rename_i hcond;cases hk;simp_all [dD,Bool.and_eq_true,beq_iff_eq,splice,aO,List.take_zero,List.drop_of_length_le]
    .split at hk
     .rename_i hcond;cases hk;simp only [dD,Bool.and_eq_true,beq_iff_eq]at hcond;obtain⟨h1,h2⟩:=hcond;have h1:=Nat.le_of_ble_eq_true h1;rw [show bU (std m) w=cellsS w from dD m w,show bU (std m) v=cellsS v from dD m v];refine asq (.agg _) ?_ ah;show F2 _ _ ((cellsS w).take j++cellsS v++(cellsS w).drop (j+(cellsS v).length));unfold splice;rw [hcl];exact((hF.take j).append hcells).append (hF.drop _)
     .cases hk
   .cases hk
  .rename_i l i j;split at hk
   .rename_i f c xs hw;obtain⟨x,rfl,hc⟩:=hp.cell;cases hc with | pr hN=>
    rename_i sz i mm;rw [dF hw]at hN;cases hN;obtain⟨o',ho',hO⟩:=H.old l _ hw;cases hO with | rows hf=>
    rename_i f';have hll:l<h.length:=(List.getElem?_eq_some_iff.1 hw).1
    have hrows:∀(ls:List Nat) (g g':Bool) (h1:Heap) (z:c.den) (ds:List D),l∉ls->(g=true->g'=true)->fE h1 (bB (std m) h ls)->iJ h' h h1 (bB (std m) h ls) ls->(i:Int)< (xs:List c.den).length->j+ds.length<=c.size->
      (∀K,K g' ds h1->o8 h' (aO pv) K)->(∀row,(aL c xs)[i]? =some row->(if j=0/\ds.length=c.size then ds else gT row ds j)=c.row z)->
      Hv2 (λK=>aC (E.ty ty) λy=>Au h' y (.c (.ptr l c.size i j)) pv λh''=>K (.tup []) h'' k) n h' h (.tup []) ((bB (std m) h ls).set l (.rows (f&&g) c (xs.set i z))) (l::ls):=by
     intro ls g g' h1 z ds hnl hg R1 R2 hi hjd anq hrow;have hget:(bB (std m) h ls)[l]? =some (.rows f c xs):=by rw [jP m ls h hnl];exact hw
     have hs:nmh ((bB (std m) h ls).set l (.rows (f&&g) c (xs.set i z)))=nmh (bB (std m) h ls):=kX hget (by simp [nmh]);have asr:l< (bB (std m) h ls).length:=by grind
     have hset:aL c (xs.set i z)=(aL c xs).set i (c.row z):=by simp [aL,List.map_set]
     refine pre (Uf _) (R1.set (o':= .rows (f'&&g') c.size (aL c (xs.set i z))) asr (λk x hx=>by rw [hs];exact hx) (.rows (λh=>by simp_all)))
      ((R2.trans (.set (λk x hx=>by rw [hs];exact hx) (Ej hget))).mono (λq hq=>by grind)) (by rw [List.length_set,ou]) (λK hK=> ?_)
     unfold AX;simp only;rw [ho'];refine⟨by trivial,by rw [aQ];omega,anq _ ⟨?_,hjd,λrow hr=> ?_⟩⟩
     .rw [(R2.keep l hll hnl).2];exact ho'
     simp_all
    split at hk
    .rename_i hcond;simp only [Bool.and_eq_true,beq_iff_eq]at hcond;obtain⟨rfl,hys⟩:=hcond;split at hk
     .rename_i g x ls hx;split at hk
      .cases hk
      .rename_i hnl;cases hk;have hnl:l∉ls:=by simpa using hnl
       obtain⟨g',h1,q1,q2,q3,q4,q5⟩:=VB H hv hx;have hi:(i:Int)< (xs:List c.den).length:=by simp_all [bG]
       exact hrows ls g g' h1 x (c.row x) hnl q1 q2 q3 hi (by rw [mF];omega) q5 (λrow hr=>by grind [mF])
     .cases hk
    .rename_i hcond;split at hk
     .rename_i g ys ls hyl;split at hk
      .cases hk
      .rename_i hnl;simp only [Bool.or_eq_true,Bool.not_eq_true',not_or]at hnl;obtain⟨hnl,hjb⟩:=hnl;have hnl:l∉ls:=by simpa using hnl
       have hjb:j+y.size<=c.fields.length:=Nat.le_of_ble_eq_true (by simpa using hjb);split at hk
       .rename_i z hz;cases hk;unfold Kk at hz;split at hz
        .rename_i t ht;cases hz;rw [Ga]at ht;rw [dD]at hyl;have hyn:ys.length=y.size:=by rw [El hyl,List.length_take,List.length_drop];omega
         have H0:fE h' (bB (std m) h []):=H;obtain⟨g',h1,q1,q2,q3,q4⟩:=pF (done:=[]) H0 hcells hyl (λ_ _=>by simp);rw [List.nil_append]at q2 q3;have hi:(i:Int)< (xs:List c.den).length:=by simpa [bG]using hps (bG .lss (i:Int) ((xs:List c.den).length:Int)) (by simp)
         have hds:(List.zipWith lvD ((c.fields.drop j).take y.size) ys).length=y.size:=by simp;omega
         refine hrows ls g g' h1 _ (List.zipWith lvD ((c.fields.drop j).take y.size) ys) hnl q1 q2 q3 hi (by rw [hds];exact hjb) q4 (λrow hr=> ?_);show _=c.row (c.mk t);rw [MH c _ hjb hyn ht];have hi':i< (xs:List c.den).length:=by omega
         have hrow:row=c.row ((xs:List c.den).getD ((i:Int)).toNat default):=by
          simp only [aL,List.getElem?_map,List.getElem?_eq_getElem hi',Option.map_some,Option.some.injEq]at hr;subst hr;simp [List.getD,List.getElem?_eq_getElem hi']
         subst hrow;split
         .rename_i hh;rw [hds]at hh;exact absurd (by simp only [Bool.and_eq_true,beq_iff_eq];exact hh) hcond
         .rfl
        .cases hz
       .cases hk
     .cases hk
   .cases hk
  .cases hk
def VG{X:XT}{E:Tab}(hX:XOK X E){m:Nat}{h':Heap}{h:List aK}(H:fE h' h){n k:Nat}(hn:h.length=nm n k){ty:TypeId}{pv:PV}{v:SVal}(hv:PVR (nmh h) pv v)
  {r:HR (std m)} (hk:Mr (std m) X h ty v=some r) (hps:∀b∈r.chk,b=true):
  Hv2 (λK=>aC (E.ty ty) λy=>match y.desc with
   | .slice e=>aC (E.ty e) λz=>∃zd,ZD z.zero zd/\tV h' zd z pv λh''=>K (.tup []) h'' k
   | _=>False) n h' h r.v r.h r.touched:=by
 unfold Mr at hk;rw [hX.ty]at hk;split at hk
 .rename_i y hy;split at hk
  .rename_i e hd;split at hk
   .rename_i z c hz hco;split at hk
    .rename_i zs hzs;split at hk
     .rename_i fx x lx hx;split at hk
      .rename_i hcond;simp only [Bool.and_eq_true,Bool.not_eq_true',beq_eq_false_iff_ne,ne_eq]at hcond;obtain⟨hsz,hne⟩:=hcond;obtain⟨z',hz',ade⟩:=gH hX hsz;rw [hz]at hz';cases hz';have hZ:=VE hzs hx;have Uf:∀N,PVR N (.tup []) (.tup []):=λN=> .tup .nil
       have pre:∀ {td:List Nat} {k':List aK} {h'':Heap} {vv:SVal},PVR (nmh k') (.tup []) vv->fE h'' k'->iJ h' h h'' k' td->k'.length=h.length->(∀K:PV->Heap->Nat->Prop,K (.tup []) h'' k->tV h' (c.row x) z pv λh1=>K (.tup []) h1 k)->
         Hv2 (λK=>aC (E.ty ty) λy=>match y.desc with
          | .slice e=>aC (E.ty e) λz=>∃zd,ZD z.zero zd/\tV h' zd z pv λh''=>K (.tup []) h'' k
          | _=>False) n h' h vv k' td:=by
        intro td k' h'' vv a0 a1 a2 a3 a4;refine⟨.tup [],h'',k,a0,a1,a2,by rw [a3,hn],λK hK=> ?_⟩;rw [hy];simp only [aC];rw [hd];simp only;rw [hz];exact⟨_,hZ,a4 K hK⟩
       split at hk
       .cases hk;obtain⟨x',rfl,hc⟩:=hv.cell;cases hc;exact pre (Uf _) H (.refl _ _ _) rfl (λK hK=>hK)
       .rename_i l;split at hk
        .rename_i f c1 xs hl;split at hk
         .rename_i q;subst q;cases hk;obtain⟨x',rfl,hc⟩:=hv.cell;cases hc with | own hN=>
          rw [dF hl]at hN;cases hN;obtain⟨o',ho',hO⟩:=H.old l _ hl;cases hO with | rows hf=>
          have hs:nmh (h.set l (.rows f c1 (List.replicate ((xs:List c1.den).length:Int).toNat x)))=nmh h:=kX hl (by simp [nmh]);refine pre (Uf _) (H.set (o':= .rows _ c1.size (aL c1 (List.replicate ((xs:List c1.den).length:Int).toNat x))) (List.getElem?_eq_some_iff.1 hl).1 (λk x hx=>by rw [hs];exact hx) (.rows hf)) (.set (λk x hx=>by rw [hs];exact hx) (Ej hl)) (by simp) (λK hK=> ?_);unfold tV;simp only;rw [ho'];refine⟨by trivial,ade.symm,by simpa using hne,by rw [aQ];omega,?_⟩;simp_all [aL,List.replicate,List.take_zero,List.drop_of_length_le,aQ]
         .cases hk
        .cases hk
       .rename_i l lo q0;split at hk
        .rename_i f c1 xs hl;split at hk
         .rename_i q;subst q;cases hk;obtain⟨x',rfl,hc⟩:=hv.cell;cases hc with | os hN=>
          rename_i sz lo q0 mm;rw [dF hl]at hN;cases hN;obtain⟨o',ho',hO⟩:=H.old l _ hl;cases hO with | rows hf=>
          have h3:(lo:Int)+(q0:Int)<=(xs:List c1.den).length:=by simp_all [bG,kC]
          have e0:((((xs:List c1.den).take ((lo:Int)).toNat).drop ((0:Int)).toNat++List.replicate ((q0:Int)).toNat x)++(xs.take ((xs.length:Int)).toNat).drop ((lo:Int)+(q0:Int)).toNat)=xs.take lo++List.replicate q0 x++xs.drop (lo+q0):=by
           rw [show((lo:Int)+(q0:Int)).toNat=lo+q0 by omega,show((xs.length:Int)).toNat=xs.length by omega,List.take_length];simp
          show Hv2 _ _ _ _ _ (h.set l (.rows f c1 ((((xs:List c1.den).take ((lo:Int)).toNat).drop ((0:Int)).toNat++List.replicate ((q0:Int)).toNat x)++(xs.take ((xs.length:Int)).toNat).drop ((lo:Int)+(q0:Int)).toNat))) _;rw [e0];have hlen:(xs.take lo++List.replicate q0 x++xs.drop (lo+q0)).length=xs.length:=by simp;omega
          have hs:nmh (h.set l (.rows f c1 (xs.take lo++List.replicate q0 x++xs.drop (lo+q0))))=nmh h:=kX hl (by grind [nmh,List.getElem?_cons_zero]);refine pre (Uf _) (H.set (o':= .rows _ c1.size (aL c1 (xs.take lo++List.replicate q0 x++xs.drop (lo+q0)))) (List.getElem?_eq_some_iff.1 hl).1 (λk x hx=>by rw [hs];exact hx) (.rows hf)) (.set (λk x hx=>by rw [hs];exact hx) (Ej hl)) (by simp) (λK hK=> ?_);unfold tV;simp only;rw [ho'];refine⟨by trivial,ade.symm,by simpa using hne,by rw [aQ];omega,?_⟩;simp_all [aL,List.replicate,List.map_take,List.map_drop]
         .cases hk
        .cases hk
       .cases hk
      .cases hk
     .cases hk
    .cases hk
   .cases hk
  .cases hk
 .cases hk
def adf{h:List aK}(o:aK){p:PV}{v:SVal}(hp:PVR (nmh h) p v):PVR (nmh (h++ [o])) p v:=hp.mono (AV h o)
def Ib{X:XT}{E:Tab}(hX:XOK X E){m:Nat}{h':Heap}{h:List aK}(H:fE h' h){n k:Nat}(hn:h.length=nm n k){t:Slots}{e:Nat->Option SVal}(he:EvR X E m (nmh h) t e){op:Op}
  {r:HR (std m)} (hk:D9 (std m) X e h op=some r) (hps:∀b∈r.chk,b=true):Hv2 (gU E op t h' n k) n h' h r.v r.h r.touched:=by
 have hpush:∀o:aK,(h++ [o]).length=nm n (k+1):=λo=>by simp [nm]at hn ⊢;omega
 unfold D9 at hk;split at hk
 .rename_i ty;rw [hX.ty]at hk;split at hk
  .rename_i y hy;have main:∀(xs:List SC) (w:SVal),jD (std m) y.zero=some xs->xs≠ []->cellsS w=xs->r=⟨[],.c (.pb h.length y.size 0),h++ [.box w],[]⟩->Hv2 (gU E (.alloc ty) t h' n k) n h' h r.v r.h r.touched:=by
    intro xs w hz hne hw hr;subst hr;have hF:F2 (RC (nmh (h++ [.box w]))) y.zero (cellsS w):=by rw [hw];exact AU hz
    refine⟨.c (.ptr h.length y.size 0 0),(h.length,.box y.zero)::h',k+1,.ofC .pb,H.push (.box hF),.push _ _ _,hpush _,λK hK=> ?_⟩;unfold gU;simp only;rw [hy];refine⟨λhz0=>hne ?_,by rw [<-hn];exact hK⟩;rw [hz0]at hz;simp [jD]at hz;exact hz
   split at hk
   .rename_i x hz;split at hk<;>cases hk
    .exact main _ (.agg [x]) hz (by simp) rfl rfl
    .exact main _ (.c x) hz (by simp) rfl rfl
   .rename_i x r' hsd hz;cases hk;exact main _ (.agg (x::r')) hz (by simp) rfl rfl
   .cases hk
  .cases hk
 .split at hk
  .rename_i v hv;split at hk
   .cases hk
   .rename_i hne;cases hk;obtain⟨pv,p1,p2⟩:=dM hX he hv;have hl:(aO pv).length=(bU (std m) v).length:=by rw [dD];exact p2.len
    refine⟨.c (.ptr h.length (bU (std m) v).length 0 0),(h.length,.box (aO pv))::h',k+1,.ofC .pb,H.push (.box (adf _ p2).cells),.push _ _ _,hpush _,λK hK=> ?_⟩;unfold gU;simp only;rw [p1];exact⟨by simpa [hl]using hne,by rw [<-hn,hl];exact hK⟩
  .cases hk
 .rename_i ty len parts;rw [hX.ty]at hk;split at hk
  .rename_i y hy;split at hk
   .rename_i el hd;split at hk
    .rename_i z c hz hco;split at hk
     .rename_i hcond;simp only [Bool.and_eq_true,Bool.not_eq_true',beq_iff_eq,beq_eq_false_iff_ne,ne_eq]at hcond;obtain⟨⟨⟨hsz,hne⟩,hrange⟩,hbig⟩:=hcond;have hbig:=Nat.le_of_ble_eq_true hbig;obtain⟨z',hz',hzs⟩:=gH hX hsz;rw [hz]at hz';cases hz';split at hk
      .rename_i f xs k1 ls asu;cases hk;obtain⟨g,h'',q1,q2,q3,q4,q5,q6,q7⟩:=Kw hX H he asu;have hlen:xs.length=len:=by
        have:=congrArg List.length hrange;simp at this;rw [q6];simpa using this
       have hP:=q2.push (o:= .rows f c xs) (o':= .rows g c.size (aL c xs)) (.rows q1);have hE:=(q3.trans (iJ.push (h':=h'') (h:=k1) (.rows f c xs) (.rows g c.size (aL c xs)) [])).mono (λl hl=>by simpa using hl);refine⟨.c (.os k1.length c.size 0 xs.length),_,k+1,.own (qj k1 f c xs),hP,hE,by simp [nm]at hn ⊢;omega,λK hK=> ?_⟩;unfold gU;simp only;rw [hy];simp only [aC];rw [hd];simp only;rw [hz];refine⟨hne,hrange,hbig,?_⟩;rw [hzs];refine q7 _ ?_;rw [JV,<-hn,<-q5,<-hlen];exact hK
      .cases hk
     .cases hk
    .cases hk
   .cases hk
  .cases hk
 .rename_i ty l cp;rw [hX.ty]at hk;split at hk
  .rename_i y hy;split at hk
   .rename_i el hd;split at hk
    .rename_i z c hz hco;split at hk
     .rename_i zs fl kl q fc kc q' hzs hl hc;split at hk
      .rename_i fx x lx hx;split at hk
       .rename_i hcond;cases hk;simp only [Bool.and_eq_true,Bool.not_eq_true',beq_eq_false_iff_ne,ne_eq]at hcond;obtain⟨⟨hsz,hne⟩,hby⟩:=hcond;have hby:=Nat.le_of_ble_eq_true hby;obtain⟨z',hz',ade⟩:=gH hX hsz;rw [hz]at hz';cases hz';obtain⟨pl,l1,l2⟩:=dM hX he hl;obtain⟨pc,c1,c2⟩:=dM hX he hc;obtain⟨_,rfl⟩:=l2.int;obtain⟨_,rfl⟩:=c2.int;have h1:q'=q:=by simpa [bG]using hps (bG .eql q' q) (by simp)
        have h2:(0:Int)<=q:=by simpa [bG]using hps (bG .leq 0 q) (by simp)
        have h3:q<=jo:=by simpa [bG]using hps (bG .leq q jo) (by simp)
        obtain⟨q,rfl⟩:∃w:Int,w=q:=⟨q,rfl⟩;have hr:aL c (List.replicate q.toNat x)=List.replicate q.toNat (c.row x):=by simp [aL]
        refine⟨.c (.os h.length c.size 0 (List.replicate q.toNat x).length),(h.length,.rows true c.size (aL c (List.replicate q.toNat x)))::h',k+1,.own (qj h true c (List.replicate q.toNat x)),H.push (.rows λh=>h),.push _ _ _,hpush _,λK hK=> ?_⟩;unfold gU;simp only;rw [hy];simp only [aC];rw [hd];simp only;rw [hz];refine⟨_,VE hzs hx,?_⟩;rw [l1];simp only [aP];rw [c1];refine⟨hne,hby,h1,h2,by simp only [jo,yN]at h3 ⊢;omega,?_⟩;rw [<-hr,<-hn,ade];have:q.toNat=(List.replicate q.toNat x).length:=by simp
        rw [show(PV.c (.os h.length c.size 0 q.toNat))= .c (.os h.length c.size 0 (List.replicate q.toNat x).length)from by rw [<-this]];exact hK
       .cases hk
      .cases hk
     .cases hk
    .cases hk
   .cases hk
  .cases hk
 .rename_i ty p x;split at hk
  .rename_i pv v hp hv;obtain⟨pp,p1,p2⟩:=dM hX he hp;obtain⟨pv',v1,v2⟩:=dM hX he hv;obtain⟨a,b,c,q1,q2,q3,q4,q5⟩:=VF hX H hn p2 v2 hk hps;refine⟨a,b,c,q1,q2,q3,q4,λK hK=> ?_⟩;have:=q5 K hK;unfold gU;simp only;cases hy:E.ty ty with
   | none=>rw [hy]at this;exact this.elim
   | some y=>
    rw [hy]at this;simp only [aC]at this ⊢;rw [p1];simp only [aP];rw [v1];exact this
  .cases hk
 .rename_i c;split at hk
  .rename_i a b ty t2 h1 h2 h3;split at hk
   .rename_i av bv ha hb;obtain⟨pa,a1,a2⟩:=dM hX he ha;obtain⟨pb,b1,b2⟩:=dM hX he hb;obtain⟨pv,h'',j,q1,q2,q3,q4,q5⟩:=Ue hX H hn a2 b2 hk hps;refine⟨pv,h'',j,q1,q2,q3,q4,λK hK=> ?_⟩;have:=q5 K hK;unfold gU;simp only;rw [h1,h2,h3];simp only;cases hy:E.ty ty with
    | none=>rw [hy]at this;exact this.elim
    | some y=>
     rw [hy]at this;simp only [aC]at this ⊢;split at this
     .rename_i e hd;cases hz:E.ty e with
      | none=>rw [hz]at this;exact this.elim
      | some z=>
       rw [hz]at this;simp only at this;rw [hd];simp only;rw [hz];simp only;rw [a1];simp only [aP];rw [b1];exact this
     .exact this.elim
   .cases hk
  .rename_i a ty h1 h2 h3;split at hk
   .rename_i av ha;obtain⟨pa,a1,a2⟩:=dM hX he ha;obtain⟨pv,h'',j,q1,q2,q3,q4,q5⟩:=VG hX H hn a2 hk hps;refine⟨pv,h'',j,q1,q2,q3,q4,λK hK=> ?_⟩;have:=q5 K hK;unfold gU;simp only;rw [h1,h2,h3];simp only;cases hy:E.ty ty with
    | none=>rw [hy]at this;exact this.elim
    | some y=>
     rw [hy]at this;simp only [aC]at this ⊢;split at this
     .rename_i e hd;cases hz:E.ty e with
      | none=>rw [hz]at this;exact this.elim
      | some z=>
       rw [hz]at this;simp only at this;obtain⟨zd,hzd,this⟩:=this;rw [hd];simp only;rw [hz];simp only;refine⟨zd,hzd,?_⟩;rw [a1];exact this
     .exact this.elim
   .cases hk
  .cases hk
 .cases hk
structure ELe{m:Nat}(a b:ES (std m)):Prop where
 ren:∀(i:Nat) (v:Option Nat),a.ren[i]? =some (some v)->b.ren[i]? =some (some v)
 len:b.ren.length=a.ren.length
 fro:∀x,x∈a.fro->x∈b.fro
 ck:∀x,x∈a.ck->x∈b.ck
 tr:∀(i:Nat) (v:Option Nat),a.ren[i]? =some (some v)->jk (std m) b i=jk (std m) a i
def ELe.refl{m:Nat}(a:ES (std m)):ELe a a:=⟨λ_ _ h=>h,rfl,λ_ h=>h,λ_ h=>h,λ_ _ _=>rfl⟩
def ELe.trans{m:Nat}{a b c:ES (std m)}(h:ELe a b)(k:ELe b c):ELe a c:=
 ⟨λi v hv=>k.ren i v (h.ren i v hv),k.len.trans h.len,λx hx=>k.fro x (h.fro x hx),λx hx=>k.ck x (h.ck x hx),λi v hv=>(k.tr i v (h.ren i v hv)).trans (h.tr i v hv)⟩
def qm{m:Nat}{s s':ES (std m)}{i:Nat}{v:Option Nat}(h:qZ (std m) s i v=some s'):
  s'.ren[i]? =some (some v)/\ELe s s'/\s'.lv=s.lv/\s'.tr=s.tr/\s'.fro=s.fro/\s'.ck=s.ck:=by
 unfold qZ at h;split at h
 .rename_i hi;cases h;have hl:=(List.getElem?_eq_some_iff.1 hi).1;refine⟨by simp [hl],⟨λj w hj=> ?_,by simp,λ_ h=>h,λ_ h=>h,λ_ _ _=>rfl⟩,rfl,rfl,rfl,rfl⟩
  grind
 .rename_i w hi;split at h
  .rename_i e;subst e;cases h;exact⟨hi,.refl _,rfl,rfl,rfl,rfl⟩
  .cases h
 .cases h
def WC(c:Ctx)(w:World)(N:NM)(v:Value)(y:SC):Prop:=∃x,bN c w v x/\RC N x y
def Em(k:Nat)(p:Option (Nat×Nat)):Option (Nat×Nat):=p.map λq=>(q.1,q.2+k)
def jR(p:Option (Nat×Nat)):Em 0 p=p:=by cases p<;>rfl
def RL(k:Nat)(p:Option (Nat×Nat)):(Em k p).map (·.1)=p.map (·.1):=by cases p<;>rfl
def trK{m:Nat}(e:ES (std m))(h:List aK)(i l:Nat):Nat:=match jk (std m) e i,nmh h l with | some p,some q=>(p.1:Int).toNat*q.1 | _,_=>0
def mZ{m:Nat}{e:ES (std m)}{h:List aK}{i l:Nat}(ht:jk (std m) e i=none):trK e h i l=0:=by unfold trK;rw [ht]
structure Ren{m:Nat}(e:ES (std m))(h:List aK)(c:Ctx)(nm:Nat->Nat)(fr:Bool)(c2:Ctx)(N2:NM):Prop where
 kt:∀b,c.K true b->c2.K true b
 kf:fr=false->∀b,c.K false b->c2.K false b
 sub:∀b,c.K true b->c.K false b
 anr:∀b,c2.K true b->c2.K false b
 fro:∀l f,(l,f)∈e.fro->(f=true\/fr=false)->∀b,c.μ l=some b->c2.K f b
 name:∀(i l:Nat),e.ren[i]? =some (some (some l))->nm i<c2.n/\c2.ν (nm i)=Em (trK e h i l) (c.ν l)
 names:∀(i l sz n:Nat),e.ren[i]? =some (some (some l))->nmh h l=some (sz,n)->N2 (nm i)=some (sz,match jk (std m) e i with | some p=>min ((p.1:Int)+(p.2:Int)).toNat n- (p.1:Int).toNat | none=>n)
 nil:∀(i:Nat),e.ren[i]? =some (some none)->nm i<c2.n/\c2.ν (nm i)=none/\∃sz,N2 (nm i)=some (sz,0)
def RN{c:Ctx}{w:World}{h':Heap}(H:bI c w h'){l sz lo n:Nat}{v:Value}{f:Bool}{es:List (List D)}(ho:AE.look h' l=some (.rows f sz es))(hlen:lo+n<=es.length)(hv:bN c w v (.os l sz lo n))
  {K2:Nat->Prop} (hK:∀b,c.K f b->K2 b) (hb:∀b,c.μ l=some b->K2 b):bZ K2 w v (.rows sz ((es.drop lo).take n)):=by
 have hro:=(H.obj l _ ho).2;cases hv with
 | os0 a _ _ hl hm=>rw [List.take_zero];exact .none _ _ _
 | osE a _ _ _ b hl hm=>rw [List.take_zero];exact .none _ _ _
 | os _ _ _ _ cap b oo hl hm hn hroom=>
  simp only [iY,hm]at hro;obtain⟨cells,E,hbk,hrow⟩:=hro;obtain⟨u,hu⟩:=hrow.am4;have hlen':((es.drop lo).take n).length=n:=by simp;omega
  have hg:∀i,i<n->((es.drop lo).take n).getD i []=es.getD (lo+i) []:=by grind
  refine .rows b (oo+lo*sz) cap sz n _ (λi j=>u (lo+i) j) (hb b (jJ hm)) hlen'.symm hn ?_ ?_ ?_
  .intro i j hi hj;rw [hlen']at hi;have h1:=(hu (lo+i) j ah hj).1;rw [pV hbk];simpa only [yL,Nat.add_mul,Nat.add_assoc]using h1
  .intro i hi;rw [hlen']at hi;rw [hg i hi];exact(hrow (lo+i) ah).1
  .intro i j hi hj;rw [hlen']at hi;unfold gd;rw [hg i hi];exact((hu (lo+i) j ah hj).2).mono' hK
def bN.asv{c c2:Ctx}{w:World}{v:Value}{l l' sz lo n:Nat}(h:bN c w v (.os l sz lo n))(hl':l'<c2.n)(hm':c2.ν l'=c.ν l):bN c2 w v (.os l' sz lo n):=by
 have hu:c2.μ l'=c.μ l:=by unfold Ctx.μ;rw [hm']
 cases h with
 | os0 a _ _ hl hm=>exact .os0 a l' sz hl' (hu.trans hm)
 | osE a _ _ _ b hl hm=>exact .osE a l' sz lo b hl' (hu.trans hm)
 | os _ _ _ _ cap b o hl hm hn hroom=>exact .os l' sz lo n cap b o hl' (hm'.trans hm) hn hroom
def bN.ant{c c2:Ctx}{w:World}{v:Value}{l l' sz lo n:Nat}(h:bN c w v (.os l sz lo n))(hl':l'<c2.n)(hm':c2.ν l'=Em (lo*sz) (c.ν l)):bN c2 w v (.os l' sz 0 n):=by
 have hu:c2.μ l'=c.μ l:=by unfold Ctx.μ;rw [hm',RL]
 cases h with
 | os0 a _ _ hl hm=>exact .os0 a l' sz hl' (hu.trans hm)
 | osE a _ _ _ b hl hm=>exact .osE a l' sz 0 b hl' (hu.trans hm)
 | os _ _ _ _ cap b o hl hm hn hroom=>
  rw [hm]at hm';have:=bN.os (c:=c2) (w:=w) l' sz 0 n cap b (o+lo*sz) hl' hm' hn (by simpa [Nat.add_mul,Nat.add_assoc]using hroom);simpa using this
def bN.VH{c c2:Ctx}{w:World}{v:Value}{l l' sz i j:Nat}(h:bN c w v (.ptr l sz i j))(hl':l'<c2.n)(hm':c2.ν l'=c.ν l):bN c2 w v (.ptr l' sz i j):=by
 cases h with | ptr _ _ _ _ b o hl hm=>exact .ptr l' sz i j b o hl' (hm'.trans hm)
def RO{m:Nat}{c:Ctx}{w:World}{h':Heap}{h:List aK}(H:bI c w h')(HR:fE h' h){s:Sh}{y:SC}{g:Bool}{x:LV aD}{ls:List Nat}(hk:fQ (std m) h s y=some (g,x,ls))
  {v:Value} (hv:WC c w (nmh h) v y) {f:Bool} {K2:Nat->Prop} (hf:f=true->g=true) (hK:∀b,c.K f b->K2 b) (hb:∀l∈ls,∀b,c.μ l=some b->K2 b):bZ K2 w v (lvD s x):=by
 have up:∀f',(f=true->f'=true)->∀b,c.K f' b->K2 b:=λf' hff b hb=>hK b (by
  cases f with
  | true=>simp_all
  | false=>cases f' with
   | true=>exact H.sub b hb
   | false=>exact hb)
 obtain⟨x0,hr,hc⟩:=hv;unfold fQ at hk;split at hk
 .rename_i f0 lf;split at hk
  .rename_i e;subst e;cases hk;cases hc with | d hx hff=>
   rename_i f' x1;subst hx;rw [Eh];cases hr with | d _ _ _ hd=>
   cases hs:lf.scalar with
   | true=>exact hd.mg _ (by rw [jc];exact hs)
   | false=>
    refine hd.mono' (up _ (λh=>(hff ?_).resolve_right (by simp [hs])));have:=hf h;cases lf<;>simp_all [Leaf.flag,Leaf.scalar]
  .cases hk
 .cases hc;split at hk
  .cases hk;cases hr;exact .none _ _ _
  .cases hk
 .rename_i f0 co xs;cases hc with | clip hff=>
  split at hk
  .rename_i e;subst e;cases hk;cases hr with | clip _ a n _ _ hd=>
   exact hd.mono' (up _ λh=>hff (hf h))
  .cases hk
 .rename_i l;cases hc with | own hN=>
  split at hk
  .rename_i f0 co xs hl;split at hk
   .rename_i e;subst e;cases hk;rw [dF hl]at hN;cases hN;obtain⟨o',ho',hO⟩:=HR.old l _ hl;cases hO with | rows hff=>
    have:=RN H ho' (by rw [aQ];omega) hr (up _ λh=>hff (hf h)) (hb l (by simp));rw [List.drop_zero,List.take_of_length_le (by grind [aQ])]at this;exact this
   .cases hk
  .cases hk
 .cases hk
def mH{c2:Ctx}{w:World}{N2:NM}{v:Value}{f:Bool}{y:Leaf aD}(h:bZ (c2.K f) w v (mX y)):WC c2 w N2 v (.d f y):=⟨.d f (mX y),.d f v _ h,.d rfl λh=> .inl h⟩
def C9{m:Nat}{s s':ES (std m)}{i:Nat}(h:s.tr.any (·.1==i)=false)(e:s'.tr=s.tr):jk (std m) s' i=none:=by
 unfold jk;rw [e]
 grind [List.find?_eq_none,List.any_eq_true]
def VI{c0 c2:Ctx}{w:World}{nm:Nat->Nat}{vs:List Value}{caps om:List (Nat×Nat)}{i:Nat}(hi:i<caps.length)(hi':i<om.length)(hsz:caps[i].2=om[i].2)
  (h1:bN c0 w (vs.getD i undef) ((om.map λp=>Cell.ptr p.1 p.2 0 0).getD i default)) (n1:nm caps[i].1<c2.n) (n2:c2.ν (nm caps[i].1)=c0.ν om[i].1):
  bN c2 w (vs.getD i undef) (((caps.map λp=>(nm p.1,p.2)).map λp=>Cell.ptr p.1 p.2 0 0).getD i default):=by
 have h1':bN c0 w (vs.getD i undef) (.ptr om[i].1 om[i].2 0 0):=by simpa [List.getD,List.getElem?_eq_getElem hi']using h1
 have h3:=bN.VH h1' n1 n2;rw [<-hsz]at h3;simpa [List.getD,List.getElem?_eq_getElem hi]using h3
def Ky{m:Nat}:∀ {ps:List ((Nat×Nat)×(Nat×Nat))} {s s':ES (std m)},ps.foldlM (λs p=>qZ (std m) s p.1.1 (some p.2.1)) s=some s'->
  (∀p∈ps,s'.ren[p.1.1]? =some (some (some p.2.1)))/\ELe s s'/\s'.lv=s.lv/\s'.tr=s.tr
 | [],s,s',h=>by cases h;exact⟨λ_ h=>(by simp at h),.refl _,rfl,rfl⟩
 | p::ps,s,s',h=>by
  rw [List.foldlM_cons]at h;cases h1:qZ (std m) s p.1.1 (some p.2.1)with
  | none=>simp_all
  | some s1=>
   rw [h1]at h;obtain⟨q1,q2,q3,q4⟩:=Ky (ps:=ps) h;obtain⟨r1,r2,r3,r4,_⟩:=qm h1;refine⟨λx hx=> ?_,r2.trans q2,q3.trans r3,q4.trans r4⟩;cases hx with
   | head=>exact q2.ren _ _ r1
   | tail _ hx=>exact q1 x hx
def ELe.push{m:Nat}(s:ES (std m))(x:LV aD):ELe s (s.push (std m) x):=⟨λ_ _ h=>h,rfl,λ_ h=>h,λ_ h=>h,λ_ _ _=>rfl⟩
def Ug{m:Nat}{h:List aK}{c:Co}{y:SC}{g:Bool}{x:LV aD}{ls:List Nat}(hx:fQ (std m) h (.rows c) y=some (g,x,ls)):∃xs:List c.den,x= .l c xs:=by
 unfold fQ at hx;split at hx
 .rename_i f0 lf;split at hx
  .rename_i e;cases hx;cases lf with
   | rows c' xs=>simp only [ji,Sh.rows.injEq]at e;subst e;exact⟨xs,rfl⟩
   | _=>simp [ji]at e
  .cases hx
 .grind
 .split at hx
  .rename_i e;cases hx;simp only [Sh.rows.injEq]at e;subst e;exact⟨_,rfl⟩
  .cases hx
 .split at hx
  .split at hx
   .rename_i e;cases hx;simp only [Sh.rows.injEq]at e;subst e;exact⟨_,rfl⟩
   .cases hx
  .cases hx
 .cases hx
def RQ{m:Nat}{h:List aK}(nm:Nat->Nat){k:SkC}{y:SC}{s s':ES (std m)}(hk:extC (std m) h k y s=some s'):
  ∃new y2,s'.lv=new.reverse++s.lv/\ELe s s'/\(∀rest,Vm aD nm k (new++rest)=some (y2,rest))/\
   ∀ {c:Ctx} {w:World} {h':Heap} {e:ES (std m)} {fr:Bool} {c2:Ctx} {N2:NM} {v:Value},bI c w h'->fE h' h->ELe s' e->(∀b∈e.ck,b=true)->Ren e h c nm fr c2 N2->(fr=true->k.fresh=true)->
    WC c w (nmh h) v y->WC c2 w N2 v y2:=by
 cases k with
 | int k=>
  simp only [extC]at hk;split at hk
  .rename_i f k' x;split at hk
   .rename_i e;subst e;cases hk;refine⟨[.i x],.d true (.int k x),rfl,.push _ _,λrest=>rfl,λH HR he hck R hfr hv=> ?_⟩;obtain⟨x0,hr,hc⟩:=hv;obtain⟨g,rfl⟩:=RC.int hc;cases hr with | d _ _ _ hd=>exact mH (hd.mg _ rfl)
   .cases hk
  .cases hk
 | bool=>
  simp only [extC]at hk;split at hk
  .rename_i f x;cases hk;refine⟨[.b x],.d true (.bool x),rfl,.push _ _,λrest=>rfl,λH HR he hck R hfr hv=> ?_⟩;obtain⟨x0,hr,hc⟩:=hv;obtain⟨g,rfl⟩:=RC.bool hc;cases hr with | d _ _ _ hd=>exact mH (hd.mg _ rfl)
  .cases hk
 | str=>
  simp only [extC]at hk;split at hk
  .rename_i f x;cases hk;refine⟨[.s x],.d true (.str x),rfl,.push _ _,λrest=>rfl,λH HR he hck R hfr hv=> ?_⟩;obtain⟨x0,hr,hc⟩:=hv;cases hc with | d hx _=>
   subst hx;cases hr with | d _ _ _ hd=>exact mH (y:= .str x) (hd.mg _ rfl)
  .cases hk
 | rows f c=>
  simp only [extC]at hk;split at hk
  .rename_i l lo n;split at hk
   .rename_i g c' xs hl;split at hk
    .rename_i hcond;cases hk;obtain⟨rfl,hfg⟩:=hcond
     refine⟨[.l c ((((xs:List c.den).take ((lo:Int)+(n:Int)).toNat)).drop ((lo:Int)).toNat)],.d f (.rows c ((((xs:List c.den).take ((lo:Int)+(n:Int)).toNat)).drop ((lo:Int)).toNat)),rfl,
      ⟨λ_ _ h=>h,rfl,λx hx=>List.mem_cons_of_mem _ hx,λx hx=>List.mem_append_right _ hx,λ_ _ _=>rfl⟩,λrest=>rfl,λ{c0 w h' e fr c2 N2 v} H HR he hck R hfr hv=> ?_⟩
     obtain⟨x0,hr,hc⟩:=hv;cases hc with | os hN=>
     rename_i sz lo n mm;rw [dF hl]at hN;cases hN;obtain⟨o',ho',hO⟩:=HR.old l _ hl;cases hO with | rows hff=>
     rename_i f';have asw:∀b∈kC (std m) h (.c (.os l (lo:Int) (n:Int))),b=true:=λb hb=>hck b (he.ck b (List.mem_append_left _ hb))
     simp only [kC,hl]at asw;have h3:(lo:Int)+(n:Int)<=(xs:List c.den).length:=by simp_all [bG]
     have uJ:f=true\/fr=false:=by
      cases fr with
      | false=>exact .inr rfl
      | true=>exact .inl (hfr rfl)
     have hKf:∀b,c0.K f b->c2.K f b:=λb hb=>by
      cases f with
      | true=>exact R.kt b hb
      | false=>exact R.kf (uJ.resolve_left (by simp)) b hb
     have hd:=RN H ho' (lo:=lo) (n:=n) (by rw [aQ];omega) hr (K2:=c2.K f) (λb hb=>hKf b (by
      cases f with
      | true=>simp_all
      | false=>cases f' with
       | true=>exact R.sub b hb
       | false=>exact hb)) (λb hb=>R.fro l f (he.fro _ (by simp)) uJ b hb)
     have e1:aL c (((xs:List c.den).take ((lo:Int)+(n:Int)).toNat).drop ((lo:Int)).toNat)=((aL c xs).drop lo).take n:=by grind [Ei,vW]
     rw [<-e1]at hd;exact mH (y:= .rows c _) hd
    .cases hk
   .cases hk
  .split at hk
   .rename_i g x ls hx;split at hk
    .rename_i hfg;cases hk;have hxl:=Ug hx;obtain⟨xs,rfl⟩:=hxl;refine⟨[.l c xs],.d f (.rows c xs),rfl,⟨λ_ _ h=>h,rfl,λx hx=>List.mem_append_right _ hx,λx hx=>hx,λ_ _ _=>rfl⟩,λrest=>rfl,λ{c0 w h' e fr c2 N2 v} H HR he hck R hfr hv=> ?_⟩;have uJ:f=true\/fr=false:=by
      cases fr with
      | false=>exact .inr rfl
      | true=>exact .inl (hfr rfl)
     have hKf:∀b,c0.K f b->c2.K f b:=λb hb=>by
      cases f with
      | true=>exact R.kt b hb
      | false=>exact R.kf (uJ.resolve_left (by simp)) b hb
     exact mH (y:= .rows c xs) (RO H HR hx hv (λh=>by simp_all) hKf (λl hl b hb=>R.fro l f (he.fro _ (List.mem_append_left _ (List.mem_map.2 ⟨l,hl,rfl⟩))) uJ b hb))
    .cases hk
   .cases hk
 | nil=>
  simp only [extC]at hk;split at hk
  .cases hk;refine⟨[],.nil,rfl,.refl _,λrest=>rfl,λH HR he hck R hfr hv=> ?_⟩;obtain⟨x0,hr,hc⟩:=hv;cases hc;cases hr;exact⟨.nil,.nil,.nil⟩
  .cases hk
 | own i=>
  simp only [extC]at hk;split at hk
  .rename_i l;split at hk
   .cases hk
   .rename_i htr;obtain⟨r1,r2,r3,r4,r5,r6⟩:=qm hk;refine⟨[],.own (nm i),by simpa using r3,r2,λrest=>rfl,λH HR he hck R hfr hv=> ?_⟩;obtain⟨x0,hr,hc⟩:=hv;cases hc with | own hN=>
    rename_i sz n;obtain⟨n1,n2⟩:=R.name i l (he.ren _ _ r1);have hn:=R.names i l sz n (he.ren _ _ r1) hN;have ht:jk (std m) s' i=none:=C9 (by cases hq:s.tr.any (·.1==i)with | true=>exact absurd hq htr | false=>rfl) r4;rw [he.tr i _ r1,ht]at hn;rw [mZ ((he.tr i _ r1).trans ht),jR]at n2;exact⟨_,bN.asv hr n1 n2,.own hn⟩
  .obtain⟨r1,r2,r3,r4,r5,r6⟩:=qm hk;refine⟨[],.own (nm i),by simpa using r3,r2,λrest=>rfl,λH HR he hck R hfr hv=> ?_⟩;obtain⟨x0,hr,hc⟩:=hv;cases hc;cases hr;obtain⟨n1,n2,sz,n3⟩:=R.nil i (he.ren _ _ r1);exact⟨.os (nm i) sz 0 0,.os0 none _ sz n1 (am2 n2),.own n3⟩
  .rename_i l lo n;split at hk
   .rename_i f0 c xs hri hl;cases hk;have hil:=(List.getElem?_eq_some_iff.1 hri).1;refine⟨[],.own (nm i),rfl,⟨λj w hj=> ?_,by simp,λ_ h=>h,λx hx=>List.mem_append_right _ hx,λj w hj=> ?_⟩,λrest=>rfl,λ{c0 w h' e fr c2 N2 v} H HR he hck R hfr hv=> ?_⟩
    .grind
    .grind [jk]
    .obtain⟨x0,hr,hc⟩:=hv;cases hc with | os hN=>
     rename_i sz lo n mm;have r1:=he.ren i (some l) (by simp [hil]);have ht:=he.tr i (some l) (by simp [hil]);obtain⟨n1,n2⟩:=R.name i l r1;have hn:=R.names i l sz mm r1 hN;rw [ht]at hn;have hle:(lo:Int)+(n:Int)<=(xs:List c.den).length:=by
      have:=hck (bG .leq ((lo:Int)+(n:Int)) ((xs:List c.den).length:Int)) (he.ck _ (by simp));simpa [bG]using this
     have hmm:=hN;rw [dF hl]at hmm;cases hmm;have hk0:trK e h i l=lo*c.size:=by unfold trK;rw [ht,dF hl];simp [jk]
     rw [hk0]at n2;simp [jk]at hn;have hn':N2 (nm i)=some (c.size,n):=hn.trans (by show some (c.size,min ((lo:Int)+(n:Int)).toNat (List.length xs)-lo)=some (c.size,n);congr 2;omega);exact⟨_,bN.ant hr n1 n2,.own hn'⟩
   .cases hk
  .cases hk
 | pb i sz j=>
  simp only [extC]at hk;split at hk
  .rename_i l sz' j';split at hk
   .rename_i hcond;obtain⟨rfl,rfl,htr⟩:=hcond;obtain⟨r1,r2,r3,r4,r5,r6⟩:=qm hk;refine⟨[],.pb (nm i) sz j,by simpa using r3,r2,λrest=>rfl,λH HR he hck R hfr hv=> ?_⟩;obtain⟨x0,hr,hc⟩:=hv;cases hc;obtain⟨n1,n2⟩:=R.name i l (he.ren _ _ r1);have ht:jk (std m) s' i=none:=C9 (by simpa using htr) r4;rw [mZ ((he.tr i _ r1).trans ht),jR]at n2;exact⟨_,bN.VH hr n1 n2,.pb⟩
   .cases hk
  .cases hk
 | pr i j=>
  simp only [extC]at hk;split at hk
  .rename_i l x j';split at hk
   .rename_i hcond;obtain⟨rfl,htr⟩:=hcond;split at hk
    .rename_i s1 hs1;cases hk;obtain⟨r1,r2,r3,r4,r5,r6⟩:=qm hs1;refine⟨[.i x],.pr (nm i) x j,by simp [ES.push,r3],r2.trans (.push _ _),λrest=>rfl,λH HR he hck R hfr hv=> ?_⟩;obtain⟨x0,hr,hc⟩:=hv;cases hc with | pr hN=>
     rename_i sz i0 mm;have r1':=he.ren i (some l) r1;obtain⟨n1,n2⟩:=R.name i l r1';have ht:jk (std m) s1 i=none:=C9 (by simpa using htr) r4;rw [mZ ((he.tr i _ r1).trans ht),jR]at n2;exact⟨_,bN.VH hr n1 n2,.pr (R.names i l sz mm r1' hN)⟩
    .cases hk
   .cases hk
  .cases hk
 | rp f c j=>
  simp only [extC]at hk;split at hk
  .rename_i g c' xs x j';split at hk
   .rename_i hcond;cases hk;obtain⟨rfl,rfl,hfg⟩:=hcond;refine⟨[.l c xs,.i x],.rp f c xs x j,rfl,(ELe.push _ _).trans (.push _ _),λrest=>rfl,λ{c0 w h' e fr c2 N2 v} H HR he hck R hfr hv=> ?_⟩;obtain⟨x0,hr,hc⟩:=hv;cases hc with | rp hff hi=>
    rename_i f' i0;have uJ:f=true\/fr=false:=by
     cases fr with
     | false=>exact .inr rfl
     | true=>exact .inl (hfr rfl)
    have hKf:∀b,c0.K f' b->c2.K f b:=λb hb=>by
     cases f with
     | true=>have:=hff (by simpa using hfg);rw [this]at hb;exact R.kt b hb
     | false=>
      refine R.kf (uJ.resolve_left (by simp)) b ?_;cases f' with
      | true=>exact R.sub b hb
      | false=>exact hb
    cases hr with | rp _ b off _ _ _ _ u hb h1 h2 h3 h4=>
    exact⟨.rp f c.size (aL c xs) i0 j,.rp f b off _ _ _ _ u (hKf b hb) h1 h2 (λi j hi hj=>(h3 i j hi hj).mono' hKf) h4,.rp (λh=>h) hi⟩
   .cases hk
  .cases hk
 | gp g c=>
  simp only [extC]at hk;split at hk
  .rename_i g' c';split at hk
   .rename_i hcond;cases hk;obtain⟨rfl,rfl⟩:=hcond;refine⟨[],.gp g c,rfl,.refl _,λrest=>rfl,λ{c0 w h' e fr c2 N2 v} H HR he hck R hfr hv=> ?_⟩;obtain⟨x0,hr,hc⟩:=hv;cases hc;have uJ:fr=false:=by grind [SkC.fresh]
    cases hr with | rp _ b off _ _ _ _ u hb h1 h2 h3 h4=>
    exact⟨_,.rp false b off _ _ _ _ u (R.kf uJ b hb) h1 h2 (λi j hi hj=>(h3 i j hi hj).mono' (R.kf uJ)) h4,.gp⟩
   .cases hk
  .cases hk
 | fn g caps=>
  simp only [extC]at hk;split at hk
  .rename_i g' om;split at hk
   .rename_i hcond;obtain⟨rfl,hsz,htr⟩:=hcond;obtain⟨q1,q2,q3,q4⟩:=Ky hk;refine⟨[],.fn g (caps.map λp=>(nm p.1,p.2)),by simpa using q3,q2,λrest=>rfl,λ{c0 w h' e fr c2 N2 v} H HR he hck R hfr hv=> ?_⟩;obtain⟨x0,hr,hc⟩:=hv;cases hc;cases hr with | fn _ vs _ hl hcs=>
    have hlen:caps.length=om.length:=by have:=congrArg List.length hsz;simpa using this
    refine⟨.fn g ((caps.map λp=>(nm p.1,p.2)).map λp=> .ptr p.1 p.2 0 0),.fn g vs _ (by simp_all) (λi hi=> ?_),.fn⟩;simp at hi;have hi':i<om.length:=by omega
    have h1:=hcs i (by simp;exact hi');have hz:(caps.zip om)[i]? =some (caps[i],om[i]):=by simp_all
    have h2:=q1 _ (List.mem_of_getElem? hz);obtain⟨n1,n2⟩:=R.name _ _ (he.ren _ _ h2);have ht:jk (std m) s' caps[i].1=none:=C9 (by simpa using List.all_eq_true.1 htr caps[i] (List.getElem_mem _)) q4;rw [mZ ((he.tr _ _ h2).trans ht),jR]at n2;exact VI hi hi' (by have:=congrArg (λl=>l[i]?) hsz;grind) h1 n1 n2
   .cases hk
  .cases hk
 | np=>
  simp only [extC]at hk;split at hk
  .cases hk;refine⟨[],.np,rfl,.refl _,λrest=>rfl,λH HR he hck R hfr hv=> ?_⟩;obtain⟨x0,hr,hc⟩:=hv;cases hc;cases hr;exact⟨.np,.np,.np⟩
  .cases hk
 | clip f c=>
  simp only [extC]at hk;split at hk
  .rename_i g c' xs;split at hk
   .rename_i hcond;cases hk;obtain⟨rfl,hfg⟩:=hcond;refine⟨[.l c xs],.clip f c xs,rfl,.push _ _,λrest=>rfl,λ{c0 w h' e fr c2 N2 v} H HR he hck R hfr hv=> ?_⟩;obtain⟨x0,hr,hc⟩:=hv;cases hc with | clip hff=>
    rename_i f';have uJ:f=true\/fr=false:=by
     cases fr with
     | false=>exact .inr rfl
     | true=>exact .inl (hfr rfl)
    have hKf:∀b,c0.K f' b->c2.K f b:=λb hb=>by
     cases f with
     | true=>have:=hff (by simpa using hfg);rw [this]at hb;exact R.kt b hb
     | false=>
      refine R.kf (uJ.resolve_left (by simp)) b ?_;cases f' with
      | true=>exact R.sub b hb
      | false=>exact hb
    cases hr with | clip _ a n _ _ hd=>exact⟨.clip f c.size (aL c xs),.clip f a n _ _ (hd.mono' hKf),.clip λh=>h⟩
   .cases hk
  .cases hk
def Kz{m:Nat}{h:List aK}(nm:Nat->Nat):∀ {ks:List SkC} {ys:List SC} {s s':ES (std m)},Ea (std m) h ks ys s=some s'->
  ∃new ys2,s'.lv=new.reverse++s.lv/\ELe s s'/\(∀rest,HV aD nm ks (new++rest)=some (ys2,rest))/\
   ∀ {c:Ctx} {w:World} {h':Heap} {e:ES (std m)} {fr:Bool} {c2:Ctx} {N2:NM} {us:List Value},bI c w h'->fE h' h->ELe s' e->(∀b∈e.ck,b=true)->Ren e h c nm fr c2 N2->(fr=true->ks.all SkC.fresh=true)->
    F2 (WC c w (nmh h)) us ys->F2 (WC c2 w N2) us ys2
 | [],[],s,s',hk=>by
  simp only [Ea,Option.some.injEq]at hk;subst hk;exact⟨[],[],rfl,.refl _,λrest=>rfl,λ_ _ _ _ _ _ h=>by cases h;exact .nil⟩
 | [],_::_,s,s',hk=>by simp [Ea]at hk
 | _::_,[],s,s',hk=>by simp [Ea]at hk
 | k::ks,y::ys,s,s',hk=>by
  simp only [Ea]at hk;split at hk
  .rename_i s1 h1;obtain⟨new1,y2,a1,a2,a3,a4⟩:=RQ nm h1;obtain⟨new2,ys2,b1,b2,b3,b4⟩:=Kz nm hk;refine⟨new1++new2,y2::ys2,by simp_all,a2.trans b2,λrest=> ?_,λH HR he hck R hfr hu=> ?_⟩
   .grind [HV,List.append_assoc]
   .cases hu with | cons u1 u2=>
    exact .cons (a4 H HR (b2.trans he) hck R (λh=>by simp_all) u1) (b4 H HR he hck R (λh=>by simp_all) u2)
  .cases hk
def Gf{c c2:Ctx}{w:World}{N N2:NM}{f f':Bool}(hsub:∀b,c.K true b->c.K false b)(hK:∀b,c.K f b->c2.K f b):∀ {ys:List (Leaf aD)} {us:List Value},(f=true->f'=true\/∀y∈ys,y.scalar=true)->
  F2 (WC c w N) us (ys.map (.d f'))->F2 (WC c2 w N2) us (ys.map (.d f))
 | [],us,_,h=>by cases h;exact .nil
 | y::ys,us,hf,h=>by
  cases h with | cons h1 h2=>
  refine .cons ?_ (Gf hsub hK (λh=>(hf h).imp id λq y hy=>q y (List.mem_cons_of_mem _ hy)) h2);obtain⟨x,hr,hc⟩:=h1;cases hc with | d hx hff=>
  rename_i g0 x0;subst hx;cases hr with | d _ _ _ hd=>
  cases hs:y.scalar with
  | true=>exact mH (hd.mg _ (by rw [jc];exact hs))
  | false=>
   refine mH (hd.mono' λb hb=>hK b ?_);cases f with
   | false=>cases g0 with
    | true=>exact hsub b hb
    | false=>exact hb
   | true=>simp_all
def En{c2:Ctx}{w:World}{N2:NM}{f:Bool}:∀ {ys:List (Leaf aD)} {us:List Value},F2 (bZ (c2.K f) w) us (ys.map mX)->F2 (WC c2 w N2) us (ys.map (.d f))
 | [],us,h=>by cases h;exact .nil
 | y::ys,us,h=>by cases h with | cons h1 h2=>exact .cons (mH h1) (En h2)
def sj{m:Nat}{c:Ctx}{w:World}{h':Heap}{h:List aK}(H:bI c w h')(HR:fE h' h){f:Bool}{K2:Nat->Prop}(hK:∀b,c.K f b->K2 b):
  ∀ {ss:List Sh} {ys:List SC} {us:List Value} {g:Bool} {vs:List (LV aD)} {ls:List Nat},aJ (std m) h ss ys=some (g,vs,ls)->F2 (WC c w (nmh h)) us ys->(f=true->g=true)->(∀l∈ls,∀b,c.μ l=some b->K2 b)->
   F2 (bZ K2 w) us (List.zipWith lvD ss vs)
 | [],[],us,g,vs,ls,hk,hu,hf,hb=>by simp [aJ]at hk;obtain⟨_,rfl,_⟩:=hk;cases hu;exact .nil
 | [],_::_,_,_,_,_,hk,_,_,_=>by simp [aJ]at hk
 | _::_,[],_,_,_,_,hk,_,_,_=>by simp [aJ]at hk
 | s::ss,y::ys,us,g,vs,ls,hk,hu,hf,hb=>by
  cases hu with | cons h1 h2=>
  unfold aJ at hk;split at hk
  .rename_i f1 v1 l1 hv1;split at hk
   .rename_i g2 vs2 ls2 hv2;split at hk<;>cases hk
    refine .cons (RO H HR hv1 h1 (λh=> ?_) hK λl hl=>hb l (List.mem_append_left _ hl)) (sj H HR hK hv2 h2 (λh=> ?_) λl hl=>hb l (List.mem_append_right _ hl))
    all_goals simp_all
   .cases hk
  .cases hk
def KA{m:Nat}{c c2:Ctx}{w:World}{h':Heap}{h:List aK}{N2:NM}(H:bI c w h')(HR:fE h' h){f:Bool}(hK:∀b,c.K f b->c2.K f b){co:Co}{q:SVal}{g:Bool}{x:co.den}{ls:List Nat}
  (hk:toX (std m) h co q=some (g,x,ls)) {us:List Value} (hu:F2 (WC c w (nmh h)) us (cellsS q)) (hf:f=true->g=true) (hb:∀l∈ls,∀b,c.μ l=some b->c2.K f b):F2 (WC c2 w N2) us (cellsS (.sv f co x)):=by
 unfold toX at hk;split at hk
 .rename_i f' c' x';split at hk
  .rename_i e;subst e;cases hk;refine Gf H.sub hK (λh=> ?_) hu
   grind [jQ]
  .cases hk
 .cases hk
 .split at hk
  .rename_i f1 ys ls1 h1;split at hk
   .rename_i t ht;cases hk;rw [dD]at h1;have:=sj H HR hK h1 hu hf hb;rw [zh co t ht,<-jE 0 co]at this;exact En this
   .cases hk
  .cases hk
def oC:SVal->Bool | .tup _=>true | _=>false
theorem RS{m:Nat}{h:List aK}(nm:Nat->Nat){k:SkV}{q:SVal}{s s':ES (std m)}(hk:FN (std m) h k q s=some s'):
  oC q=false/\∃new q2,s'.lv=new.reverse++s.lv/\ELe s s'/\(∀rest,y9 aD nm k (new++rest)=some (q2,rest))/\oC q2=false/\bH (std 0) q2=bH (std 0) q/\
   ∀ {c:Ctx} {w:World} {h':Heap} {e:ES (std m)} {fr:Bool} {c2:Ctx} {N2:NM} {us:List Value},bI c w h'->fE h' h->ELe s' e->(∀b∈e.ck,b=true)->Ren e h c nm fr c2 N2->(fr=true->k.fresh=true)->
    F2 (WC c w (nmh h)) us (cellsS q)->F2 (WC c2 w N2) us (cellsS q2):=by
 cases k with
 | c k=>
  simp only [FN]at hk;split at hk
  .rename_i x;obtain⟨new,y2,a1,a2,a3,a4⟩:=RQ nm hk;refine⟨rfl,new,.c y2,a1,a2,λrest=>by grind [y9],rfl,rfl,λH HR he hck R hfr hu=> ?_⟩;cases hu with | cons h1 h2=>cases h2;exact .cons (a4 H HR he hck R hfr h1) .nil
  .cases hk
 | agg ks=>
  simp only [FN]at hk;split at hk
  .rename_i hst;rw [dD]at hk;obtain⟨new,y2,a1,a2,a3,a4⟩:=Kz nm hk;refine⟨by cases q<;>simp_all [bH,oC],new,.agg y2,a1,a2,λrest=>by grind [y9],rfl,by rw [Ca m]at hst;rw [hst];rfl,λH HR he hck R hfr hu=>a4 H HR he hck R hfr hu⟩
  .cases hk
 | sv f co=>
  simp only [FN]at hk;split at hk
  .rename_i hst;split at hk
   .rename_i g x ls hx;split at hk
    .rename_i hfg;cases hk;refine⟨by cases q<;>simp_all [bH,oC],[.x co x],.sv f co x,rfl,⟨λ_ _ h=>h,rfl,λx hx=>List.mem_append_right _ hx,λx hx=>hx,λ_ _ _=>rfl⟩,λrest=>rfl,rfl,by rw [Ca m]at hst;rw [hst];rfl,λ{c w h' e fr c2 N2 us} H HR he hck R hfr hu=> ?_⟩;by_cases VJ:co.flat=true
     ·
      have h1:F2 (WC {c2 with K:=λg b=>c2.K g b\/c.K g b\/∃l∈ls,c.μ l=some b} w N2) us (cellsS (.sv f co x)):=KA H HR (λb hb=>Or.inr (Or.inl hb)) hx hu (λh=>by simp_all) (λl hl b hb=>Or.inr (Or.inr ⟨l,hl,hb⟩));have hsc:=jQ co VJ x;have hcs:cellsS (.sv f co x)=(fP (std 0) co x 0 co.fields).map (.d f):=rfl;rw [hcs]at h1 ⊢
      clear hu hx hcs hfr hfg
      generalize fP (std 0) co x 0 co.fields=lv at h1 hsc
      induction lv generalizing us with
      | nil=>cases h1;exact .nil
      | cons y lv ih=>
       cases h1 with | cons q1 q2=>
       refine .cons ?_ (ih q2 λy hy=>hsc y (List.mem_cons_of_mem _ hy));obtain⟨x0,hr,hc⟩:=q1;cases hc with | d hx0 _=>
       subst hx0;cases hr with | d _ _ _ hd=>exact mH (hd.mg _ (by grind [jc]))
     .have uJ:f=true\/fr=false:=by grind [SkV.fresh]
      have hKf:∀b,c.K f b->c2.K f b:=λb hb=>by
       cases f with
       | true=>exact R.kt b hb
       | false=>exact R.kf (uJ.resolve_left (by simp)) b hb
      exact KA H HR hKf hx hu (λh=>by simp_all) (λl hl b hb=>R.fro l f (he.fro _ (List.mem_append_left _ (List.mem_map.2 ⟨l,hl,rfl⟩))) uJ b hb)
    .cases hk
   .cases hk
  .cases hk
def WV(c:Ctx)(w:World)(N:NM)(u:Value)(q:SVal):Prop:=∃p,bF c w u p/\PVR N p q
def F2.wc{c:Ctx}{w:World}{N:NM}{us:List Value}{cs:List Cell}{ys:List SC}(h1:F2 (bN c w) us cs)(h2:F2 (RC N) cs ys):F2 (WC c w N) us ys:=by
 induction h1 generalizing ys with
 | nil=>cases h2;exact .nil
 | cons a _ ih=>cases h2 with | cons b h2=>exact .cons ⟨_,a,b⟩ (ih h2)
def F2.anu{c:Ctx}{w:World}{N:NM}{us:List Value}{ys:List SC}(h:F2 (WC c w N) us ys):∃cs,F2 (bN c w) us cs/\F2 (RC N) cs ys:=by
 induction h with
 | nil=>exact⟨[],.nil,.nil⟩
 | cons h1 _ ih=>
  obtain⟨x,a,b⟩:=h1;obtain⟨cs,q1,q2⟩:=ih;exact⟨x::cs,.cons a q1,.cons b q2⟩
def WV.conv{c c2:Ctx}{w:World}{N N2:NM}{u:Value}{q q2:SVal}(h:WV c w N u q)(ht:oC q=false)(ht2:oC q2=false)(hs:bH (std 0) q2=bH (std 0) q)
  (hc:∀us,F2 (WC c w N) us (cellsS q)->F2 (WC c2 w N2) us (cellsS q2)):WV c2 w N2 u q2:=by
 obtain⟨p,hr,hp⟩:=h;cases hp with
 | tup _=>simp [oC]at ht
 | one hp=>
  cases hp with
  | c hx=>
   cases hr with | c _ _ hr=>
   have:=hc [u] (.cons ⟨_,hr,hx⟩ .nil);cases q2 with
   | c y=>cases this with | cons h1 _=>obtain⟨x,a,b⟩:=h1;exact⟨.c x,.c _ _ a,.ofC b⟩
   | agg _=>simp [bH]at hs
   | sv _ _ _=>simp [bH]at hs
   | tup _=>simp [oC]at ht2
  | agg hst hF=>
   cases hr with | agg us _ hr=>
   obtain⟨cs,a,b⟩:=F2.anu (hc us (F2.wc hr hF));exact⟨.agg cs,.agg _ _ a,.one (.agg (by simp_all) b)⟩
def uK{m:Nat}{h:List aK}(nm:Nat->Nat):∀ {ks:List SkV} {qs:List SVal} {s s':ES (std m)},oq (std m) h ks qs s=some s'->
  ∃new qs2,s'.lv=new.reverse++s.lv/\ELe s s'/\(∀rest,ru aD nm ks (new++rest)=some (qs2,rest))/\
   ∀ {c:Ctx} {w:World} {h':Heap} {e:ES (std m)} {fr:Bool} {c2:Ctx} {N2:NM} {us:List Value},bI c w h'->fE h' h->ELe s' e->(∀b∈e.ck,b=true)->Ren e h c nm fr c2 N2->(fr=true->ks.all SkV.fresh=true)->
    F2 (WV c w (nmh h)) us qs->F2 (WV c2 w N2) us qs2
 | [],[],s,s',hk=>by
  simp only [oq,Option.some.injEq]at hk;subst hk;exact⟨[],[],rfl,.refl _,λrest=>rfl,λ_ _ _ _ _ _ h=>by cases h;exact .nil⟩
 | [],_::_,s,s',hk=>by simp [oq]at hk
 | _::_,[],s,s',hk=>by simp [oq]at hk
 | k::ks,y::ys,s,s',hk=>by
  simp only [oq]at hk;split at hk
  .rename_i s1 h1;obtain⟨ht,new1,y2,a1,a2,a3,t2,st2,a4⟩:=RS nm h1;obtain⟨new2,ys2,b1,b2,b3,b4⟩:=uK nm hk;refine⟨new1++new2,y2::ys2,by simp_all,a2.trans b2,λrest=> ?_,λH HR he hck R hfr hu=> ?_⟩
   .grind [ru,List.append_assoc]
   .cases hu with | cons u1 u2=>
    refine .cons (u1.conv ht t2 st2 λus hus=>a4 H HR (b2.trans he) hck R (λh=> ?_) hus) (b4 H HR he hck R (λh=> ?_) u2)
    all_goals simp_all
  .cases hk
structure OF{m:Nat}(e:ES (std m))(h:List aK)(nm:Nat->Nat)(i:Nat)(k:SkO)(old o2:aK):Prop where
 s1:∀(l sz n:Nat),k≠ .gone->e.ren[i]? =some (some (some l))->nmh h l=some (sz,n)->nmh [o2] 0=some (sz,match jk (std m) e i with | some p=>min ((p.1:Int)+(p.2:Int)).toNat n- (p.1:Int).toNat | none=>n)
 s2:k≠ .gone->e.ren[i]? =some (some none)->∃sz,nmh [o2] 0=some (sz,0)
 gone:k= .gone->o2=old
 live:k≠ .gone->∃v,e.ren[i]? =some (some v)
 ng:k≠ .gone->¬Gone [o2] 0
 rel:∀ {c:Ctx} {w:World} {h':Heap} {fr:Bool} {c2:Ctx} {N2:NM},bI c w h'->fE h' h->(∀b∈e.ck,b=true)->Ren e h c nm fr c2 N2->(fr=true->k.fresh=true)->
  ∃o2',OR N2 o2' o2/\iY c2 w (nm i) o2'/\(k= .gone->o2'= .gone)/\(∀l,k≠ .gone->e.ren[i]? =some (some (some l))->∃o',AE.look h' l=some o'/\o'.live)
def bQ.pre{K:Nat->Prop}{w:World}{cells:Array Value}{sz n:Nat}{es:List (List D)}(h:bQ K w cells sz es):bQ K w cells sz (es.take n):=λi hi=>by
 simp at hi;have e:(es.take n).getD i []=es.getD i []:=by grind
 refine⟨by rw [e];exact(h i ah).1,λj hj=> ?_⟩;obtain⟨v,hv,hd⟩:=(h i ah).2 j hj
 grind [gd]
def bQ.anv{K:Nat->Prop}{w:World}{cells:Array Value}{o sz k:Nat}{es:List (List D)}(h:bQ K w (from_ cells o) sz es):bQ K w (from_ cells (o+k*sz)) sz (es.drop k):=λi hi=>by
 rw [List.length_drop]at hi;have e:(es.drop k).getD i []=es.getD (k+i) []:=by grind
 refine⟨by rw [e];exact(h (k+i) ah).1,λj hj=> ?_⟩;obtain⟨v,hv,hd⟩:=(h (k+i) ah).2 j hj;refine⟨v,by simpa only [yL,Nat.add_mul,Nat.add_assoc]using hv,?_⟩;unfold gd;rw [e];exact hd
theorem VK{c:Co}(hf:c.flat=true)(x:c.den):∀d∈c.row x,d.mg=true:=by
 intro d hd;rw [<-jE 0]at hd
 grind [jc,jQ]
def bQ.flat{K K2:Nat->Prop}{w:World}{cells:Array Value}{c:Co}(hf:c.flat=true){xs:List c.den}(h:bQ K w cells c.size (aL c xs)):bQ K2 w cells c.size (aL c xs):=λi hi=>by
 refine⟨(h i hi).1,λj hj=> ?_⟩;obtain⟨v,hv,hd⟩:=(h i hi).2 j hj;refine⟨v,hv,hd.mg _ ?_⟩
 grind [aL,gd,List.getD,mF,default,VK,List.getElem_mem]
def RU{m:Nat}{h:List aK}(nm:Nat->Nat){i:Nat}{k:SkO}{s s':ES (std m)}(hk:Ms (std m) h i k s=some s')(old:aK)(hold:Gone [old] 0):
  ∃new o2,s'.lv=new.reverse++s.lv/\ELe s s'/\(∀rest,Vn aD nm old k (new++rest)=some (o2,rest))/\∀e,ELe s' e->OF e h nm i k old o2:=by
 cases k with
 | gone=>
  have:s'=s:=by simp_all [Ms]
  subst this;obtain⟨c,n,ho⟩:=hold;simp at ho;subst ho;exact⟨[],_,rfl,.refl _,λrest=>rfl,λe he=>⟨λ_ _ _ h=>absurd rfl h,λh=>absurd rfl h,λ_=>rfl,λh=>absurd rfl h,λh=>absurd rfl h,λ_ _ _ _ _=>⟨.gone,.gone,trivial,λ_=>rfl,λ_ h=>absurd rfl h⟩⟩⟩
 | box k=>
  rcases hr:s.ren[i]? with _ | _ | _ | l<;>simp only [Ms,hr,reduceCtorEq]at hk
  ·
   split at hk
   .rename_i v hl;obtain⟨ht,new,q2,a1,a2,a3,t2,st2,a4⟩:=RS nm hk;refine⟨new,.box q2,a1,a2,λrest=>by grind [Vn],λe he=> ?_⟩;have hre:=he.ren i _ (a2.ren i _ hr);refine⟨λl' sz n _ h1 h2=> ?_,λ_ h1=> ?_,λh=>(by cases h),λ_=>⟨_,hre⟩,λ_ ⟨c,n,hg⟩=>by simp at hg,λ{c w h' fr c2 N2} H HR hck R hfr=> ?_⟩
    .grind [nmh]
    .simp_all
    .obtain⟨o',ho',hO⟩:=HR.old l _ hl;cases hO with | box hF=>
     obtain⟨b,vs,E,hm,hb,hrc⟩:=(H.obj l _ ho').2;obtain⟨cs2,q1,q2'⟩:=F2.anu (a4 H HR he hck R (λh=>hfr h) (F2.wc hrc hF));obtain⟨n1,n2⟩:=R.name i l hre;have k0:trK e h i l=0:=by unfold trK;simp [nmh,hl]
     rw [k0,jR]at n2;exact⟨.box cs2,.box q2',⟨b,vs,E,n2.trans hm,hb,q1⟩,λh=>(by cases h),λl' _ h1=>by rw [hre]at h1;cases h1;exact⟨_,ho',trivial⟩⟩
   .cases hk
 | rows f c=>
  rcases hr:s.ren[i]? with _ | _ | _ | l<;>simp only [Ms,hr,reduceCtorEq]at hk
  .cases hk;refine⟨[.l c []],.rows f c [],rfl,.push _ _,λrest=>rfl,λe he=> ?_⟩;have hre:=he.ren i _ (by exact hr);refine⟨λl' sz n _ h1 h2=> ?_,λ_ h1=>⟨c.size,by simp [nmh]⟩,λh=>(by cases h),λ_=>⟨_,hre⟩,λ_ ⟨c,n,hg⟩=>by simp at hg,λ{c0 w h' fr c2 N2} H HR hck R hfr=> ?_⟩
   .simp_all
   .obtain⟨n1,n2,_⟩:=R.nil i hre;refine⟨.rows f c.size (aL c []),.rows λh=>h,?_,λh=>(by cases h),λl' _ h1=>by simp_all⟩;simp only [iY];rw [n2];rfl
  ·
   split at hk
   .rename_i g c' xs hl;split at hk
    .rename_i hcond;obtain⟨rfl,hfg⟩:=hcond;obtain⟨xs2,hx2,hn2,hpre⟩:∃xs2:List c.den,(match jk (std m) s i with | some p=>(std m).sub c xs p.1 ((std m).addN p.1 p.2) | none=>xs)=xs2/\xs2.length=(match jk (std m) s i with | some p=>min ((p.1:Int)+(p.2:Int)).toNat (xs:List c.den).length- (p.1:Int).toNat | none=>(xs:List c.den).length)/\∃q,xs2=((xs:List c.den).take q).drop (match jk (std m) s i with | some p=>(p.1:Int).toNat | none=>0):=by
      cases jk (std m) s i with
      | none=>exact⟨xs,rfl,rfl,(xs:List c.den).length,by simp⟩
      | some p=>exact⟨((xs:List c.den).take ((p.1:Int)+(p.2:Int)).toNat).drop (p.1:Int).toNat,rfl,by simp,_,rfl⟩
     have hs':s'=s.push (std m) (.l c xs2):=by grind
     subst hs';refine⟨[.l c xs2],.rows f c xs2,rfl,.push _ _,λrest=>rfl,λe he=> ?_⟩;have hre:=he.ren i _ (by exact hr);have htr:jk (std m) e i=jk (std m) s i:=he.tr i _ hr;refine⟨λl' sz n _ h1 h2=> ?_,λ_ h1=> ?_,λh=>(by cases h),λ_=>⟨_,hre⟩,λ_ ⟨c,n,hg⟩=>by simp at hg,λ{c0 w h' fr c2 N2} H HR hck R hfr=> ?_⟩
     .grind [dF,nmh,List.getElem?_cons_zero]
     .simp_all
     .obtain⟨o',ho',hO⟩:=HR.old l _ hl;cases hO with | rows hff=>
      rename_i g';have hro:=(H.obj l _ ho').2;obtain⟨n1,n2⟩:=R.name i l hre;refine⟨.rows f c.size (aL c xs2),.rows λh=>h,?_,λh=>(by cases h),λl' _ h1=>by rw [hre]at h1;cases h1;exact⟨_,ho',trivial⟩⟩;obtain⟨q,hq⟩:=hpre;have hk0:trK e h i l=(match jk (std m) s i with | some p=>(p.1:Int).toNat | none=>0)*c.size:=by
       unfold trK;rw [htr,dF hl];cases jk (std m) s i<;>simp
      generalize (match jk (std m) s i with | some p=>(p.1:Int).toNat | none=>0)=kk at hq hk0;have hq':aL c xs2=((aL c xs).take q).drop kk:=by rw [hq];simp [aL,List.map_take]
      rw [hk0]at n2;simp only [iY]at hro ⊢;rw [n2];cases hm:c0.ν l with
      | none=>rw [hm]at hro;have hro:aL c xs=[]:=hro;show aL c xs2=[];rw [hq',hro];simp
      | some p=>
       rw [hm]at hro;obtain⟨cells,E,hb,hrow⟩:=hro;refine⟨cells,E,hb,?_⟩;have hrow2:=bQ.anv (k:=kk) (bQ.pre (n:=q) hrow);rw [<-hq']at hrow2;by_cases VJ:c.flat=true
       .exact bQ.flat VJ hrow2
       .have hfg:f=true->g=true:=λh=>by simp_all
        refine hrow2.mono (λb hb=> ?_) λ_ _=>rfl
        cases f with
        | true=>have:=hff (hfg rfl);rw [this]at hb;exact R.kt b hb
        | false=>
         have uJ:fr=false:=by grind [SkO.fresh]
         refine R.kf uJ b ?_;cases g' with
         | true=>exact R.sub b hb
         | false=>exact hb
    .cases hk
   .cases hk
def qo{m:Nat}{h:List aK}(nm:Nat->Nat)(old:Nat->aK)(hold:∀j,Gone [old j] 0):∀ {ks:List SkO} {i:Nat} {s s':ES (std m)},y8 (std m) h i ks s=some s'->
  ∃new os2,s'.lv=new.reverse++s.lv/\ELe s s'/\(∀rest,uz aD nm old i ks (new++rest)=some (os2,rest))/\os2.length=ks.length/\
   ∀e,ELe s' e->∀(j:Nat) (k:SkO),ks[j]? =some k->∃o2,os2[j]? =some o2/\OF e h nm (i+j) k (old (i+j)) o2
 | [],i,s,s',hk=>by
  simp only [y8,Option.some.injEq]at hk;subst hk;exact⟨[],[],rfl,.refl _,λrest=>rfl,rfl,λe he j k hj=>by simp at hj⟩
 | k::ks,i,s,s',hk=>by
  simp only [y8]at hk;split at hk
  .rename_i s1 h1;obtain⟨new1,o2,a1,a2,a3,a4⟩:=RU nm h1 (old i) (hold i);obtain⟨new2,os2,b1,b2,b3,b4,b5⟩:=qo nm old hold hk;refine⟨new1++new2,o2::os2,by simp_all,a2.trans b2,λrest=> ?_,by simp [b4],λe he j k' hj=> ?_⟩
   .grind [uz,List.append_assoc]
   .cases j with
    | zero=>simp at hj;subst hj;exact⟨o2,rfl,a4 e (b2.trans he)⟩
    | succ j=>grind
  .cases hk
def zi:∀ {r:List (Option (Option Nat))},distinct (bJ r)=true->∀ {i j l:Nat},r[i]? =some (some (some l))->r[j]? =some (some (some l))->i=j
 | [],_,i,j,l,h,_=>by simp at h
 | x::r,hd,i,j,l,hi,hj=>by
  have mem:∀ {r:List (Option (Option Nat))} {i l:Nat},r[i]? =some (some (some l))->l∈bJ r:=by
   intro r
   induction r with
   | nil=>simp_all
   | cons x r ih=>
    intro i l h;cases i with
    | zero=>grind [bJ]
    | succ i=>
     have:=ih (by simpa using h)
     match x with
     | some (some y)=>simp [bJ,this]
     | some none=>simpa [bJ]using this
     | none=>simpa [bJ]using this
  have hr:distinct (bJ r)=true:=by
   match x with
   | some (some y)=>grind [bJ,distinct]
   | some none=>simpa [bJ]using hd
   | none=>simpa [bJ]using hd
  cases i with
  | zero=>grind [bJ,distinct,absurd]
  | succ i=>
   cases j with
   | zero=>grind [bJ,distinct,absurd]
   | succ j=>
    have:=zi hr (i:=i) (j:=j) (l:=l) (by simpa using hi) (by simpa using hj);omega
theorem qp:∀ {r:List (Option (Option Nat))} {i l:Nat},r[i]? =some (some (some l))->l∈bJ r
 | [],i,l,h=>by simp at h
 | x::r,i,l,h=>by
  cases i with
  | zero=>grind [bJ]
  | succ i=>
   have:=qp (r:=r) (i:=i) (l:=l) (by simpa using h)
   match x with
   | some (some y)=>simp [bJ,this]
   | some none=>simpa [bJ]using this
   | none=>simpa [bJ]using this
def vZ:∀ {r:List (Option (Option Nat))} {l:Nat},l∈bJ r->∃i:Nat,r[i]? =some (some (some l))
 | [],l,h=>by simp [bJ]at h
 | x::r,l,h=>by
  have up:l∈bJ r->∃i:Nat,(x::r)[i]? =some (some (some l)):=λh=>let⟨i,hi⟩:=vZ h;⟨i+1,by simpa using hi⟩
  match x with
  | some (some y)=>
   simp only [bJ,List.mem_cons]at h;rcases h with rfl | h
   .exact⟨0,rfl⟩
   .exact up h
  | some none=>grind [bJ]
  | none=>grind [bJ]
def Ce:∀ {os:List SkO} {r:List (Option (Option Nat))},qh os r=true->∀ {i:Nat} {v:Option Nat},r[i]? =some (some v)->os[i]? ≠some .gone
 | [],_,_,i,v,_=>by simp
 | o::os,[],_,i,v,h=>by simp at h
 | o::os,x::r,hg,i,v,h=>by
  have ht:qh os r=true:=by
   cases o<;>cases x<;>simp_all [qh]
  cases i with
  | zero=>grind [qh]
  | succ i=>simpa using Ce ht (i:=i) (v:=v) (by simpa using h)
structure anw{m:Nat}(h:List aK)(e:ES (std m))(os:List SkO):Prop where
 dist:∀ {i j l:Nat},e.ren[i]? =some (some (some l))->e.ren[j]? =some (some (some l))->i=j
 fro:∀l f,(l,f)∈e.fro->(∀i:Nat,e.ren[i]? ≠some (some (some l)))/\∃g c xs,h[l]? =some (.rows g c xs)
 gone:∀ {i:Nat} {v:Option Nat},e.ren[i]? =some (some v)->os[i]? ≠some .gone
def Ic{m:Nat}{h:List aK}{e:ES (std m)}{os:List SkO}(hf:ES.fine (std m) h e os=true):anw h e os:=by
 unfold ES.fine at hf;simp only [Bool.and_eq_true]at hf;obtain⟨⟨h1,h2⟩,h3⟩:=hf;refine⟨zi h1,λl f hl=> ?_,Ce h3⟩;have:=List.all_eq_true.1 h2 _ hl;simp only [Bool.and_eq_true,Bool.not_eq_true']at this;refine⟨λi hi=> ?_,?_⟩
 .grind [qp]
 .have h4:=this.2;unfold Vk at h4;split at h4
  all_goals simp_all
def KX{m:Nat}(e:ES (std m))(ce:Ctx)(fr:Bool)(f:Bool)(b:Nat):Prop:=ce.K (f || fr) b\/∃l g,(l,g)∈e.fro/\ce.μ l=some b/\((f || fr)=true->g=true)
def su(nm:Nat->Nat)(f:Nat->fM):List Nat->Heap->Heap
 | [],h=>h
 | i::r,h=>(nm i,f i)::su nm f r h
def KC{nm:Nat->Nat}{f:Nat->fM}{l:Nat}:∀ {is:List Nat} {h:Heap},(∀i∈is,nm i≠l)->AE.look (su nm f is h) l=AE.look h l
 | [],_,_=>rfl
 | i::r,h,hn=>by simp only [su];rw [aA _ _ (hn i (by simp))];exact KC λj hj=>hn j (List.mem_cons_of_mem _ hj)
def KD{nm:Nat->Nat}{f:Nat->fM}(P:Nat->Prop)(hinj:∀i j,P i->P j->nm i=nm j->i=j):∀ {is:List Nat} {h:Heap},(∀i∈is,P i)->∀i∈is,AE.look (su nm f is h) (nm i)=some (f i)
 | [],_,_,i,hi=>by simp at hi
 | j::r,h,hp,i,hi=>by
  simp only [su];by_cases e:nm j=nm i
  .grind [aH]
  .rw [aA _ _ e];cases hi with
   | head=>exact absurd rfl e
   | tail _ hi=>exact KD P hinj (λj hj=>hp j (List.mem_cons_of_mem _ hj)) i hi
set_option maxHeartbeats 2000000 in
def yg{m:Nat}{w:World}{ce:Ctx}{he':Heap}{he:List aK}(He:bI ce w he')(HRe:fE he' he){e:ES (std m)}(hck:∀b∈e.ck,b=true){ks:List SkO}(jg:anw he e ks)(hrl:e.ren.length=ks.length)
  {nm:Nat->Nat} {old:Nat->aK} {os2:List aK} (hlen:os2.length=ks.length) (hof:∀(j:Nat) (k:SkO),ks[j]? =some k->∃o2,os2[j]? =some o2/\OF e he nm j k (old j) o2)
  {cb:Ctx} {hb':Heap} (Hb:bI cb w hb') (fr:Bool) (hfresh:fr=true->ks.all SkO.fresh=true)
  {ν2:Nat->Option (Nat×Nat)} {n2:Nat} (hn2:cb.n<=n2) (hν:∀l,l<cb.n->ν2 l=cb.ν l) (hlt:∀i,i<ks.length->nm i<n2) (hinj:∀i j,i<ks.length->j<ks.length->nm i=nm j->i=j)
  (hname:∀(i l:Nat),e.ren[i]? =some (some (some l))->ν2 (nm i)=Em (trK e he i l) (ce.ν l)) (hnil:∀(i:Nat),e.ren[i]? =some (some none)->ν2 (nm i)=none)
  {h2:List aK} (hget:∀i,i<ks.length->h2[nm i]? =os2[i]?) (hbR:∀l o,(∀i,i<ks.length->nm i≠l)->h2[l]? =some o->∃o',AE.look hb' l=some o'/\OR (nmh h2) o' o) (hbN:∀l,h2.length<=l->AE.look hb' l=none)
  (sep:∀b,eO cb hb' b->eO ce he' b->False) (asx:∀f b,cb.K f b->eO ce he' b->False) (ahp:∀f b,eO cb hb' b->KX e ce fr f b->False):
  ∃(o':Nat->fM),let c2:Ctx:={K:=λf b=>cb.K f b\/KX e ce fr f b,ν:=ν2,n:=n2};let h2':Heap:=su nm o' (List.range ks.length) hb'
   bI c2 w h2'/\fE h2' h2/\Ren e he ce nm fr c2 (nmh h2)/\(∀b,eO c2 h2' b->eO cb hb' b\/∃(i lq:Nat) (q:fM),e.ren[i]? =some (some (some lq))/\AE.look he' lq=some q/\q.live/\ce.μ lq=some b)/\CLe cb c2/\(∀l,(∀i,i<ks.length->nm i≠l)->AE.look h2' l=AE.look hb' l):=by
 have hμ:∀l,l<cb.n->(ν2 l).map (·.1)=cb.μ l:=λl hl=>by rw [hν l hl];rfl
 have at6:∀(i l:Nat),e.ren[i]? =some (some (some l))->(ν2 (nm i)).map (·.1)=ce.μ l:=λi l hi=>by rw [hname i l hi,RL];rfl
 have atU:∀(i:Nat),e.ren[i]? =some (some none)->(ν2 (nm i)).map (·.1)=none:=λi hi=>by rw [hnil i hi];rfl
 have asy:∀(i:Nat) (o2:aK),i<ks.length->os2[i]? =some o2->nmh h2 (nm i)=nmh [o2] 0:=λi o2 hi ho=>by grind [nmh,List.getElem?_cons_zero]
 have hib:∀(i:Nat) (v:Option (Option Nat)),e.ren[i]? =some v->i<ks.length:=λi v h=>by grind
 have hks:∀i,i<ks.length->∃k,ks[i]? =some k:=λi hi=>⟨ks[i],List.getElem?_eq_getElem hi⟩
 have R:Ren e he ce nm fr {K:=λf b=>cb.K f b\/KX e ce fr f b,ν:=ν2,n:=n2} (nmh h2):={
  kt:=λb hb=> .inr (.inl (by simpa using hb))
  kf:=λhf b hb=> .inr (.inl (by simp_all))
  sub:=He.sub
  anr:=λb hb=>by
   rcases hb with hb | hb | ⟨l,g,h1,h2,h3⟩
   .exact .inl (Hb.sub b hb)
   .refine .inr (.inl ?_);cases fr with
    | true=>simpa using hb
    | false=>exact He.sub b (by simpa using hb)
   .exact .inr (.inr ⟨l,g,h1,h2,λ_=>h3 (by simp)⟩)
  fro:=λl f hl hf b hb=> .inr (.inr ⟨l,f,hl,hb,λh=>by grind⟩)
  name:=λi l hi=>⟨hlt i (hib i _ hi),hname i l hi⟩
  names:=λi l sz n hi hl=>by
   have hi':=hib i _ hi;obtain⟨k,hk⟩:=hks i hi';obtain⟨o2,q1,q2⟩:=hof i k hk;rw [asy i o2 hi' q1];exact q2.s1 l sz n (λe=>jg.gone hi (by rw [hk,e])) hi hl
  nil:=λi hi=>by
   have hi':=hib i _ hi;obtain⟨k,hk⟩:=hks i hi';obtain⟨o2,q1,q2⟩:=hof i k hk;obtain⟨sz,hs⟩:=q2.s2 (λe=>jg.gone hi (by rw [hk,e])) hi;simp_all}
 have hex:∀i,∃o',∀k,ks[i]? =some k->∃o2,os2[i]? =some o2/\OR (nmh h2) o' o2/\iY {K:=λf b=>cb.K f b\/KX e ce fr f b,ν:=ν2,n:=n2} w (nm i) o'/\
   (o'.live->k≠ .gone/\∃v,e.ren[i]? =some (some v)/\∀l,v=some l->∃q,AE.look he' l=some q/\q.live):=by
  intro i;cases hk:ks[i]? with
  | none=>simp_all
  | some k=>
   obtain⟨o2,q1,q2⟩:=hof i k hk;obtain⟨o',r1,r2,r3,r4⟩:=q2.rel He HRe hck R (λh=>List.all_eq_true.1 (hfresh h) k (List.mem_of_getElem? hk));refine⟨o',λk' h=> ?_⟩;cases h;refine⟨o2,q1,r1,r2,λhl=> ?_⟩;have hng:k≠ .gone:=λe=>by rw [r3 e]at hl;exact hl
   obtain⟨v,hv⟩:=q2.live hng
   grind
 obtain⟨o',ahq⟩:=Classical.axiomOfChoice hex;refine⟨o',?_⟩;have KE:∀i,i<ks.length->AE.look (su nm o' (List.range ks.length) hb') (nm i)=some (o' i):=λi hi=>
  KD (λi=>i<ks.length) hinj (λi hi=>List.mem_range.1 hi) i (List.mem_range.2 hi)
 have uL:∀l,(∀i,i<ks.length->nm i≠l)->AE.look (su nm o' (List.range ks.length) hb') l=AE.look hb' l:=λl hl=>KC λi hi=>hl i (List.mem_range.1 hi)
 have cle:CLe cb {K:=λf b=>cb.K f b\/KX e ce fr f b,ν:=ν2,n:=n2}:=⟨λf b h=> .inl h,hn2,hν⟩;have hlow:∀f b,KX e ce fr f b->b<w.heap.size:=by
  rintro f b (h | ⟨l,g,h1,h2,h3⟩)
  .exact He.low _ b h
  .obtain⟨_,g',c,xs,hl⟩:=jg.fro l g h1;obtain⟨q,hq,hO⟩:=HRe.old l _ hl;cases hO with | rows _=>
   exact(He.obj l _ hq).2.lt trivial h2
 have kind:∀l o,AE.look (su nm o' (List.range ks.length) hb') l=some o->o.live->∀b,(ν2 l).map (·.1)=some b->
   (∃i q lq,i<ks.length/\nm i=l/\e.ren[i]? =some (some (some lq))/\AE.look he' lq=some q/\q.live/\ce.μ lq=some b)\/((∀i,i<ks.length->nm i≠l)/\AE.look hb' l=some o/\cb.μ l=some b):=by
  intro l o hl hlv b hb;by_cases hx:∃i,i<ks.length/\nm i=l
  .obtain⟨i,hi,rfl⟩:=hx;rw [KE i hi]at hl;cases hl;obtain⟨k,hk⟩:=hks i hi;obtain⟨o2,q1,q2,q3,q4⟩:=ahq i k hk;obtain⟨hng,v,hv,hq⟩:=q4 hlv;cases v with
   | none=>simp_all
   | some lq=>grind
  .have hx':∀i,i<ks.length->nm i≠l:=λi hi h=>hx ⟨i,hi,h⟩
   rw [uL l hx']at hl;exact .inr ⟨hx',hl,by rw [<-hμ l (Hb.obj l o hl).1];exact hb⟩
 refine⟨?_,?_,R,?_,cle,uL⟩
 .refine⟨λl o hl=> ?_,λl o l' o1 b h1 hl1 h2 hl2 hb1 hb2=> ?_,?_,?_,λb hb=>R.anr b hb⟩
  .by_cases hx:∃i,i<ks.length/\nm i=l
   .grind
   .rw [uL l (λi hi h=>hx ⟨i,hi,h⟩)]at hl;obtain⟨a1,a2⟩:=Hb.obj l o hl;exact⟨Nat.lt_of_lt_of_le a1 hn2,a2.mono cle (λ_ _ _=>rfl) (.refl w) a1 (λ_ _ _=>rfl)⟩
  .rcases kind l o h1 hl1 b hb1 with⟨i,q,lq,hi,rfl,hr,hq,hqv,hm⟩ | ⟨hx,hq,hm⟩
   .rcases kind l' o1 h2 hl2 b hb2 with⟨j,q',lq',hj,rfl,hr',hq',ahr,hm'⟩ | ⟨hx',hq',hm'⟩
    .have:=He.inj lq q lq' q' b hq hqv hq' ahr hm hm';subst this;rw [jg.dist hr hr']
    .exact(sep b ⟨l',o1,hq',hl2,hm'⟩ ⟨lq,q,hq,hqv,hm⟩).elim
   .rcases kind l' o1 h2 hl2 b hb2 with⟨j,q',lq',hj,rfl,hr',hq',ahr,hm'⟩ | ⟨hx',hq',hm'⟩
    .exact(sep b ⟨l,o,hq,hl1,hm⟩ ⟨lq',q',hq',ahr,hm'⟩).elim
    .exact Hb.inj l o l' o1 b hq hl1 hq' hl2 hm hm'
  .rintro f b ⟨l,o,hl,hlv,hb⟩ hk;rcases kind l o hl hlv b hb with⟨i,q,lq,hi,rfl,hr,hq,hqv,hm⟩ | ⟨hx,hq,hm⟩
   .rcases hk with hk | hk | ⟨l2,g,k1,k2,k3⟩
    .exact asx f b hk ⟨lq,q,hq,hqv,hm⟩
    .exact He.own _ b ⟨lq,q,hq,hqv,hm⟩ hk
    .obtain⟨hnn,g',c,xs,hl2⟩:=jg.fro l2 g k1;obtain⟨q',hq',hO⟩:=HRe.old l2 _ hl2;cases hO with | rows _=>
     have:=He.inj lq q l2 _ b hq hqv hq' trivial hm k2;simp_all
   .rcases hk with hk | hk
    .exact Hb.own f b ⟨l,o,hq,hlv,hm⟩ hk
    .exact ahp f b ⟨l,o,hq,hlv,hm⟩ hk
  .rintro f b (hk | hk)
   .exact Hb.low f b hk
   grind
 .refine⟨λl o hl=> ?_,λl hl=> ?_⟩
  .by_cases hx:∃i,i<ks.length/\nm i=l
   .obtain⟨i,hi,rfl⟩:=hx;obtain⟨k,hk⟩:=hks i hi;obtain⟨o2,q1,q2,q3,q4⟩:=ahq i k hk;rw [hget i hi,q1]at hl;cases hl;exact⟨o' i,KE i hi,q2⟩
   .have hx':∀i,i<ks.length->nm i≠l:=λi hi h=>hx ⟨i,hi,h⟩
    obtain⟨q,a1,a2⟩:=hbR l o hx' hl;exact⟨q,by rw [uL l hx'];exact a1,a2⟩
  .have hx':∀i,i<ks.length->nm i≠l:=λi hi h=>by
    obtain⟨k,hk⟩:=hks i hi;obtain⟨o2,q1,_⟩:=ahq i k hk;have:=hget i hi;rw [q1,h]at this;have:=(List.getElem?_eq_some_iff.1 this).1;omega
   rw [uL l hx'];exact hbN l hl
 .rintro b ⟨l,o,hl,hlv,hb⟩;rcases kind l o hl hlv b hb with⟨i,q,lq,hi,rfl,hr,hq,hqv,hm⟩ | ⟨hx,hq,hm⟩
  .exact .inr ⟨i,lq,q,hr,hq,hqv,hm⟩
  .exact .inl ⟨l,o,hq,hlv,hm⟩
def dK{s:Sig}(ct:Ct aD s):Trans:=λargs h' nn K=>∃(m:Nat) (vs:List SVal) (h:List aK),F2 (PVR (nmh h)) args vs/\fE h' h/\h.length=nn/\
 ∃cr,rz (std m) h s ct vs=some cr/\(∀b∈cr.ck,b=true)/\∃v k,cr.k cr.y=some (v,k)/\
  ∀r h'' j,PVR (nmh k) r v->fE h'' k->iJ h' h h'' k cr.touched->k.length=nm nn j->K r h'' j
def kD(C:Calls aD):mO:=λf=>match C f with | []=>none | l=>some λargs h n K=>∃ct∈l,dK ct.2 args h n K
def Mu{m:Nat}(T:(PV->Heap->Nat->Prop)->Prop)(n:Nat)(h':Heap)(h:List aK)(cr:CR (std m)):Prop:=
 ∃v k,cr.k cr.y=some (v,k)/\(cr.pure=true->k=h/\cr.touched=[])/\
  ∀K,(∀pv h'' j,PVR (nmh k) pv v->fE h'' k->iJ h' h h'' k cr.touched->k.length=nm n j->K pv h'' j)->T K
def MI(E:Tab)(G:mO)(op:Op)(t:Slots)(s:St)(K:PV->Heap->Nat->Prop):Prop:=
 match iN op with
 | 1=>gU E op t s.h s.n s.k K
 | _=>tZ E G op {s with t:=t} K
def Mu.anx{m:Nat}{T:(PV->Heap->Nat->Prop)->Prop}{n:Nat}{h':Heap}{h:List aK}{cr:CR (std m)}{v:SVal}{k:List aK}{td:List Nat}(H:Hv2 T n h' h v k td)(h1:cr.k cr.y=some (v,k))(h2:cr.touched=td)(h3:cr.pure=false):Mu T n h' h cr:=by
 obtain⟨pv,h'',j,q1,q2,q3,q4,q5⟩:=H;exact⟨v,k,h1,λh=>(by rw [h3]at h;cases h),λK hK=>q5 K (hK pv h'' j q1 q2 (by rw [h2];exact q3) q4)⟩
def RV{X:XT}{E:Tab}(hX:XOK X E){n:Nat}{N:NM}{t:Slots}{e:Nat->Option SVal}(he:EvR X E n N t e):∀ {xs:List Operand} {vs:List SVal},Kl (std n) X e xs=some vs->
  ∃ps,F2 (PVR N) ps vs/\∀K,K ps->F3 E t xs K
 | [],vs,h=>by simp only [Kl,Option.some.injEq]at h;subst h;exact⟨[],.nil,λK hK=>hK⟩
 | x::r,vs,h=>by
  simp only [Kl]at h;split at h
  .rename_i v hv;split at h
   .rename_i vs' hvs;cases h;obtain⟨pv,p1,p2⟩:=dM hX he hv;obtain⟨ps,q1,q2⟩:=RV hX he hvs;exact⟨pv::ps,.cons p2 q1,λK hK=>by unfold F3;rw [p1];exact q2 _ hK⟩
   .cases h
  .cases h
def zk{m:Nat}{h:List aK}{vs:List SVal}{cr:CR (std m)}:∀ {l:List (Sigma (Ct aD))},ze (std m) h vs l=some cr->∃ct∈l,rz (std m) h ct.1 ct.2 vs=some cr
 | [],hk=>by simp [ze]at hk
 | ⟨s,ct⟩::r,hk=>by
  simp only [ze]at hk;split at hk
  .rename_i x hx;cases hk;exact⟨⟨s,ct⟩,by simp,hx⟩
  .obtain⟨ct',h1,h2⟩:=zk hk;exact⟨ct',List.mem_cons_of_mem _ h1,h2⟩
def VL{m:Nat}{h:List aK}{s:Sig}{ct:Ct aD s}{vs:List SVal}{cr:CR (std m)}(hk:rz (std m) h s ct vs=some cr):cr.pure=true->(∀v k,cr.k cr.y=some (v,k)->k=h)/\cr.touched=[]:=by
 unfold rz at hk;split at hk
 .rename_i e1 he1;split at hk
  .rename_i e he;split at hk
   .split at hk
    .rename_i x hx;simp only [Option.some.injEq]at hk;subst hk;intro hp;simp only [Bool.and_eq_true,List.isEmpty_iff,Bool.or_eq_true]at hp;obtain⟨⟨ho,ho'⟩,hbr⟩:=hp;have asz:e.ren=[]:=by
      obtain⟨_,_,_,l1,_⟩:=uK (m:=m) (λi=>i) he1;obtain⟨_,_,_,l2,_⟩:=qo (m:=m) (λi=>i) (λ_=> .gone .i64 0) (λ_=>⟨.i64,0,rfl⟩) he;have:=l2.len.trans l1.len;simp [es0,ho]at this;exact this
     refine⟨λv k hvk=> ?_,?_⟩
     .simp only [ho']at hvk;split at hvk
      .rename_i vs' r hvs;simp only [uz,List.length_nil]at hvk;simp only [Option.some.injEq,Prod.mk.injEq]at hvk;obtain⟨_,rfl⟩:=hvk;have:∀(h:List aK) (l:List Nat),iD (std m) h l []=h:=λh l=>by cases l<;>rfl
       rw [this];split
       .rfl
       .rename_i hnb;rcases hbr with hb | hb
        .exact absurd (by rw [Bool.and_eq_true];exact hb) hnb
        .rw [hb];rfl
      .cases hvk
     .simp only [asz,bJ,List.nil_append];split
      .rfl
      .rename_i hnb;rcases hbr with hb | hb
       .exact absurd (by rw [Bool.and_eq_true];exact hb) hnb
       .rw [hb];rfl
    .cases hk
   .cases hk
  .cases hk
 .cases hk
def VN{X:XT}{E:Tab}(hX:XOK X E){C:Calls aD}{m:Nat}{s:St}{h:List aK}(H:fE s.h h)(hn:h.length=nm s.n s.k){t:Slots}{e:Nat->Option SVal}(he:EvR X E m (nmh h) t e){op:Op}
  {cr:CR (std m)} (hk:Rx (std m) X C e h op=some cr) (hps:∀b∈cr.ck,b=true) (hsome:∃v k,cr.k cr.y=some (v,k)):Mu (λK=>tZ E (kD C) op {s with t:=t} K) s.n s.h h cr:=by
 unfold Rx at hk;split at hk
 .rename_i c;split at hk
  .rename_i f hf;split at hk
   .rename_i g caps vs hfv hvs;obtain⟨pf,p1,p2⟩:=dM hX he hfv;obtain⟨x,rfl,hc⟩:=p2.cell;cases hc;obtain⟨ps,q1,q2⟩:=RV hX he hvs;obtain⟨⟨sg,ct⟩,hct,hcr⟩:=zk hk;obtain⟨v,k,hvk⟩:=hsome;refine⟨v,k,hvk,λhp=> ?_,λK hK=> ?_⟩
    .obtain⟨a,b⟩:=VL hcr hp;exact⟨a v k hvk,b⟩
    .unfold tZ;simp only;rw [hf];simp only;unfold aev;simp only;rw [p1];refine q2 _ ?_;have htab:kD C g=some λargs h n K=>∃ct∈C g,dK ct.2 args h n K:=by
      unfold kD;split
      .rename_i hnil;rw [hnil]at hct;cases hct
      .rfl
     rw [htab];refine⟨_,hct,m,vs++caps.map λp=> .c (.pb p.1 p.2 0),h,?_,H,hn,cr,hcr,hps,v,k,hvk,λr h'' j a1 a2 a3 a4=>hK r h'' _ a1 a2 a3 (by rw [a4,UL])⟩;refine q1.append ?_
     clear hvs hk hcr hfv p1 p2
     induction caps with
     | nil=>exact .nil
     | cons p caps ih=>exact .cons (.ofC .pb) ih
   .cases hk
  .cases hk
 .cases hk
def AY{X:XT}{E:Tab}(hX:XOK X E){C:Calls aD}{m:Nat}{s:St}{h:List aK}(H:fE s.h h)(hn:h.length=nm s.n s.k){t:Slots}{e:Nat->Option SVal}(he:EvR X E m (nmh h) t e){op:Op}
  {cr:CR (std m)} (hk:TW (std m) X C e h op=some cr) (hps:∀b∈cr.ck,b=true) (hsome:∃v k,cr.k cr.y=some (v,k)):Mu (MI E (kD C) op t s) s.n s.h h cr:=by
 unfold TW at hk;by_cases hcl:iN op=1
 .have hT:MI E (kD C) op t s=gU E op t s.h s.n s.k:=by
   funext K;unfold MI;split
   .rfl
   .rename_i h1;exact absurd hcl h1
  rw [hT]
  clear hT
  split at hk
  case h_2=>rename_i h1;exact absurd hcl h1
  clear hcl
  split at hk
  .rename_i ty p x _;split at hk
   .rename_i pv v hpv hv;split at hk
    .rename_i r hr;have key:∀cr':CR (std m),cr'.ck=r.chk->cr'.k cr'.y=some (r.v,r.h)->cr'.touched=r.touched->cr'.pure=false->cr'=cr->Mu (gU E (.store ty p x) t s.h s.n s.k) s.n s.h h cr:=by
      intro cr' e1 e2 e3 e4 e5;subst e5;have hheap:D9 (std m) X e h (.store ty p x)=some r:=by simp only [D9,hpv,hv];exact hr
      exact .anx (Ib hX H hn he hheap (by rw [<-e1];exact hps)) e2 e3 e4
     split at hk
     .cases hk;exact key _ rfl (by simp only;rw [hr]) rfl rfl rfl
     .cases hk;exact key _ rfl (by simp only;rw [hr]) rfl rfl rfl
     .cases hk;exact key _ rfl (by simp only;rw [hr]) rfl rfl rfl
     .cases hk;exact key _ rfl (by simp only;rw [hr]) rfl rfl rfl
     .cases hk;exact key _ rfl rfl rfl rfl rfl
    .cases hk
   .cases hk
  .split at hk
   .rename_i r hr;have key:∀cr':CR (std m),cr'.ck=r.chk->cr'.k cr'.y=some (r.v,r.h)->cr'.touched=r.touched->cr'.pure=false->cr'=cr->Mu (gU E op t s.h s.n s.k) s.n s.h h cr:=by
     intro cr' e1 e2 e3 e4 e5;subst e5;exact .anx (Ib hX H hn he hr (by rw [<-e1];exact hps)) e2 e3 e4
    split at hk
    .rename_i l hrv;split at hk
     .rename_i f c xs hl;cases hk;refine key _ rfl ?_ rfl rfl rfl;simp only;have:r.h.set l (.rows f c xs)=r.h:=by
       apply List.ext_getElem?;intro i;rw [List.getElem?_set];split
       .rename_i e1;subst e1;rw [hl];split
        .rfl
        .rename_i hh;exact absurd (List.getElem?_eq_some_iff.1 hl).1 hh
       .rfl
      rw [this]
     .cases hk
    .cases hk;exact key _ rfl rfl rfl rfl rfl
   .cases hk
 .have hT:MI E (kD C) op t s=λK=>tZ E (kD C) op {s with t:=t} K:=by
   funext K;unfold MI;split
   .rename_i h1;exact absurd h1 hcl
   .rfl
  have hk:Rx (std m) X C e h op=some cr:=by
   revert hk;split
   .rename_i h1;exact absurd h1 hcl
   .exact id
  obtain⟨a,b,c,d,e⟩:=VN hX H hn he hk hps hsome;rw [hT];exact⟨a,b,c,d,e⟩
section
variable {n:Nat}
def zl(gs:List (GE (std n)))(t':Slots)(N:NM)(i:Nat)(sv:SV (std n)):Prop:=match sv.tag with
 | none=>∃pv,aW t' i=some pv/\PVR N pv sv.v
 | some t=>∃e,gs[t]? =some e/\(e.g=true->∃pv,aW t' i=some pv/\PVR N pv sv.v)/\(e.g=false->aW t' i=some nO)
structure GOK(gs:List (GE (std n)))(t':Slots)(e:GE (std n)):Prop where
 yes:∀d,e.slot=some d->e.g=true->∃f,aW t' d=some (.c (.d f (.bool e.want)))
 no:∀d,e.slot=some d->e.g=false->(∃f,aW t' d=some (.c (.d f (.bool (!e.want)))))\/aW t' d=some nO
 dead:e.dead=true->e.g=false
 par:∀p,e.par=some p->∃q,gs[p]? =some q/\(e.g=true->q.g=true)
structure SR(s':St)(s:RSt (std n)):Prop where
 heap:fE s'.h s.h
 len:s.h.length=nm s'.n s'.k
 m:s'.m=s.m
 val:∀i sv,dL (std n) s.t i=some sv->zl s.gs s'.t (nmh s.h) i sv
 gs:∀(t:Nat) (e:GE (std n)),s.gs[t]? =some e->GOK s.gs s'.t e
def Keep(k:Nat)(h0 h:List aK):Prop:=∀i,i<k->(Gone h0 i->Gone h i)/\∀x,nmh h0 i=some x->Gone h i\/nmh h i=some x
theorem Keep.refl(k:Nat)(h:List aK):Keep k h h:=λ_ _=>⟨id,λ_ h=> .inr h⟩
theorem Keep.trans{k:Nat}{a b c:List aK}(x:Keep k a b)(y:Keep k b c):Keep k a c:=λi hi=>
 ⟨λh=>(y i hi).1 ((x i hi).1 h),λv hv=>((x i hi).2 v hv).elim (λh=> .inl ((y i hi).1 h)) λh=>(y i hi).2 v h⟩
theorem iJ.KF{a' b':Heap}{a b:List aK}{td:List Nat}(x:iJ a' a b' b td)(k:Nat):Keep k a b:=λi _=>⟨x.gone i,λv hv=> .inr (x.same i v hv)⟩
theorem ni{d i:Nat}{sv:SV (std n)}{t:List (Nat×SV (std n))}:dL (std n) ((d,sv)::t) i=if d=i then some sv else dL (std n) t i:=by
 simp only [dL,beq_iff_eq]
theorem zl.mono{gs gs2:List (GE (std n))}{t' t2:Slots}{N M:NM}{i:Nat}{sv:SV (std n)}(h:zl gs t' N i sv)(hg:∀(t:Nat) (e:GE (std n)),gs[t]? =some e->∃e2,gs2[t]? =some e2/\e2.g=e.g)(hl:aW t2 i=aW t' i)(hN:∀l x,N l=some x->M l=some x):zl gs2 t2 M i sv:=by
 unfold zl at h ⊢;cases hs:sv.tag with
 | none=>
  rw [hs]at h;simp only at h ⊢;obtain⟨pv,h1,h2⟩:=h;exact⟨pv,by rw [hl];exact h1,h2.mono hN⟩
 | some t=>
  rw [hs]at h;simp only at h ⊢;obtain⟨e,h1,h2,h3⟩:=h;obtain⟨e2,h4,h5⟩:=hg t e h1;refine⟨e2,h4,λh=> ?_,λh=>by simp_all⟩;obtain⟨pv,q1,q2⟩:=h2 (h5▸h);exact⟨pv,by rw [hl];exact q1,q2.mono hN⟩
theorem lC(d:Nat)(e:GE (std n)):(lW (std n) d e).g=e.g:=by grind [lW]
theorem rC{d:Nat}{e:GE (std n)}{x:Nat}(h:(lW (std n) d e).slot=some x):e.slot=some x/\x≠d:=by grind [lW]
theorem iT(d:Nat)(e:GE (std n)):(lW (std n) d e).want=e.want/\(lW (std n) d e).par=e.par/\(lW (std n) d e).dead=e.dead:=by grind [lW]
theorem SR.put{s':St}{s:RSt (std n)}(S:SR s' s){d:Option Nat}{tag:Option Nat}{v:SVal}{ov:Option PV}
  (hv:match tag with
   | none=>∃pv,ov=some pv/\PVR (nmh s.h) pv v
   | some t=>∃e,s.gs[t]? =some e/\(e.g=true->∃pv,ov=some pv/\PVR (nmh s.h) pv v)/\(e.g=false->ov=some nO)):SR (s'.put d ov) (s.put (std n) d tag v):=by
 cases d with
 | none=>exact S
 | some d=>
  have hg:∀(t:Nat) (e:GE (std n)),s.gs[t]? =some e->∃e2,(s.gs.map (lW (std n) d))[t]? =some e2/\e2.g=e.g:=λt e h=>⟨lW (std n) d e,by simp [h],lC d e⟩
  refine⟨S.heap,S.len,S.m,λi sv hi=> ?_,λt e he=> ?_⟩
  .simp only [RSt.put]at hi;rw [ni]at hi;split at hi
   .rename_i e;subst e;cases hi;unfold zl;cases tag with
    | none=>
     obtain⟨pv,h1,h2⟩:=hv;exact⟨pv,by grind [St.put,gV],h2⟩
    | some t=>
     obtain⟨e,h1,h2,h3⟩:=hv;obtain⟨e2,h4,h5⟩:=hg t e h1;refine⟨e2,h4,λh=> ?_,λh=> ?_⟩
     .obtain⟨pv,q1,q2⟩:=h2 (h5▸h);exact⟨pv,by grind [St.put,gV],q2⟩
     grind [St.put,gV]
   .rename_i e;exact(S.val i sv hi).mono hg (by grind [St.put,gV]) (λ_ _ h=>h)
  .simp only [RSt.put,List.getElem?_map,Option.map_eq_some_iff]at he;obtain⟨e0,h0,rfl⟩:=he;have G:=S.gs t e0 h0;have hl:∀x,x≠d->aW (St.put s' (some d) ov).t x=aW s'.t x:=λx hx=>by grind [St.put,gV]
   refine⟨λx hx hgt=> ?_,λx hx hgf=> ?_,λhd=> ?_,λp hp=> ?_⟩
   .obtain⟨a,b⟩:=rC hx;rw [hl x b,(iT d e0).1];exact G.yes x a (by grind [lC])
   .obtain⟨a,b⟩:=rC hx;rw [hl x b,(iT d e0).1];exact G.no x a (by grind [lC])
   .rw [lC];exact G.dead (by grind [iT])
   .obtain⟨q,h1,h2⟩:=G.par p (by grind [iT])
    grind [lW,RSt.put,lC]
theorem rD{d i:Nat}:∀ {t:List (Nat×SV (std n))} {sv:SV (std n)},dL (std n) (t.filter λp=> !(p.1==d)) i=some sv->i≠d/\dL (std n) t i=some sv
 | [],_,h=>by cases h
 | (j,x)::r,sv,h=>by
  by_cases c:j=d
  .subst c;rw [List.filter_cons_of_neg (by simp)]at h;obtain⟨h1,h2⟩:=rD h
   grind [ni]
  .rw [List.filter_cons_of_pos (by simpa using c),ni]at h;rw [ni];split at h
   .simp_all
   .rename_i e;rw [if_neg e];exact rD h
theorem SR.del{s':St}{s:RSt (std n)}(S:SR s' s){d:Option Nat}:SR (s'.put d none) (s.del (std n) d):=by
 cases d with
 | none=>exact S
 | some d=>
  have hg:∀(t:Nat) (e:GE (std n)),s.gs[t]? =some e->∃e2,(s.gs.map (lW (std n) d))[t]? =some e2/\e2.g=e.g:=λt e h=>⟨lW (std n) d e,by simp [h],lC d e⟩
  refine⟨S.heap,S.len,S.m,λi sv hi=> ?_,λt e he=> ?_⟩
  .simp only [RSt.del]at hi;obtain⟨e,hi⟩:=rD hi;exact(S.val i sv hi).mono hg (by grind [St.put,gV]) (λ_ _ h=>h)
  .simp only [RSt.del,List.getElem?_map,Option.map_eq_some_iff]at he;obtain⟨e0,h0,rfl⟩:=he;have G:=S.gs t e0 h0;have hl:∀x,x≠d->aW (St.put s' (some d) none).t x=aW s'.t x:=λx hx=>by grind [St.put,gV]
   refine⟨λx hx hgt=> ?_,λx hx hgf=> ?_,λhd=> ?_,λp hp=> ?_⟩
   .obtain⟨a,b⟩:=rC hx;rw [hl x b,(iT d e0).1];exact G.yes x a (by grind [lC])
   .obtain⟨a,b⟩:=rC hx;rw [hl x b,(iT d e0).1];exact G.no x a (by grind [lC])
   .rw [lC];exact G.dead (by grind [iT])
   .obtain⟨q,h1,h2⟩:=G.par p (by grind [iT])
    grind [lW,RSt.del,lC]
theorem anz{s:RSt (std n)}{d:Option Nat}:(s.del (std n) d).h=s.h/\(s.del (std n) d).m=s.m:=by cases d<;>exact⟨rfl,rfl⟩
theorem SR.yh{s':St}{s:RSt (std n)}(S:SR s' s){h'':Heap}{k:List aK}{j:Nat}(hs:Same s.h k)(hR:fE h'' k)(hl:k.length=nm s'.n j):SR {s' with h:=h'',k:=j} {s with h:=k}:=
 ⟨hR,hl,S.m,λi sv hi=>(S.val i sv hi).mono (λ_ e h=>⟨e,h,rfl⟩) rfl hs,S.gs⟩
theorem Eo:∀ {gs:List (GE (std n))} {d:Nat} {w:Bool} {i t:Nat},iq (std n) gs d w i=some t->∃e,i<=t/\gs[t-i]? =some e/\e.slot=some d/\e.want=w
 | [],_,_,_,_,h=>by simp [iq]at h
 | e::r,d,w,i,t,h=>by
  simp only [iq]at h;split at h
  .simp_all
  .obtain⟨e',h1,h2,h3⟩:=Eo h
   grind
theorem zm{gs:List (GE (std n))}{d:Nat}{w:Bool}{t:Nat}(h:iq (std n) gs d w 0=some t):∃e,gs[t]? =some e/\e.slot=some d/\e.want=w:=by
 obtain⟨e,_,h2,h3⟩:=Eo h;simp_all
theorem oD{gs:List (GE (std n))}{t':Slots}(hg:∀(t:Nat) (e:GE (std n)),gs[t]? =some e->GOK gs t' e):∀ {f:Nat} {o:Option Nat},(∀t,o=some t->∃e,gs[t]? =some e/\e.g=true)->∀t∈Mv (std n) gs f o,∃e,gs[t]? =some e/\e.g=true
 | 0,_,_,t,ht=>by simp [Mv]at ht
 | _+1,none,_,t,ht=>by simp [Mv]at ht
 | f+1,some x,h,t,ht=>by
  simp only [Mv,List.mem_cons]at ht;rcases ht with rfl | ht
  .exact h t rfl
  .obtain⟨e,h1,h2⟩:=h x rfl;rw [h1]at ht;refine oD hg (o:=e.par) (λp hp=> ?_) t ht;obtain⟨q,q1,q2⟩:=(hg x e h1).par p hp;simp_all
theorem qw{X:XT}{E:Tab}{gs:List (GE (std n))}{t' tt:Slots}{N:NM}{lk:Nat->Option (SV (std n))}(htt:∀d,(lk d).isSome->aW tt d=aW t' d)(hv:∀i sv,lk i=some sv->zl gs t' N i sv){al:List Nat}(hal:∀t∈al,∃e,gs[t]? =some e/\e.g=true):
  EvR X E n N tt (gN (std n) lk al):=by
 intro i v hi;unfold gN at hi;split at hi
 .rename_i v' hl;cases hi;rw [htt i (by rw [hl];rfl)];exact hv i _ hl
 .rename_i t v' hl;split at hi
  .rename_i hc;cases hi;obtain⟨e,h1,h2⟩:=hal t (by simpa using hc);obtain⟨e',h3,h4,_⟩:=hv i _ hl;simp_all
  .cases hi
 .cases hi
theorem gy{ρ:Type}{Q:ρ->Prop}:∀ {ps:List Bool} {mm:(ρ->Prop)->Prop},gP (std n) ps mm Q->(∀b∈ps,b=true)/\mm Q
 | [],mm,h=>⟨λ_ h=>by simp at h,h⟩
 | b::ps,mm,h=>by
  obtain⟨hb,h⟩:b=true/\gP (std n) ps mm Q:=h;obtain⟨h1,h2⟩:=gy (ps:=ps) h;simp_all
theorem zn{g:Bool}{ps:List Bool}(h:∀b∈under (std n) g ps,b=true)(hg:g=true):∀b∈ps,b=true:=λb hb=>by
 have:=h (!g || b) (List.mem_map.2 ⟨b,hb,rfl⟩);simp_all
theorem Da{ρ:Type}(op:Op)(v:SVal)(K:SVal->(ρ->Prop)->Prop):Ry (std n) op v K=K v:=by
 unfold Ry;split
 .split<;>rfl
 .rfl
theorem AZ{ρ:Type}{cr:CR (std n)}{K:SVal->List aK->(ρ->Prop)->Prop}{Q:ρ->Prop}(h:rX (std n) cr K Q):∃v k,cr.k cr.y=some (v,k)/\K v k Q:=by
 obtain⟨ck,ts,y,k,td,p⟩:=cr;unfold rX at h;cases ts with
 | nil=>
  simp only at h ⊢;cases hk:k y with
  | none=>simp_all
  | some x=>rw [hk]at h;grind
 | cons a b=>
  simp only at h ⊢;cases hk:k y with
  | none=>simp_all
  | some x=>rw [hk]at h;grind
theorem wm{X:XT}{E:Tab}(hX:XOK X E){h':Heap}{h:List aK}(H:fE h' h){gs:List (GE (std n))}{t' tt:Slots}(hg:∀(t:Nat) (e:GE (std n)),gs[t]? =some e->GOK gs t' e)
  {lk:Nat->Option (SV (std n))} (htt:∀d,(lk d).isSome->aW tt d=aW t' d) (hv:∀i sv,lk i=some sv->zl gs t' (nmh h) i sv) {cur:Option Nat} (hcur:∀t,cur=some t->∃e,gs[t]? =some e/\e.g=true) {op:Op} {v:SVal} {ps:List Bool}
  (hk:uD (std n) X lk gs h cur op=some (ps,v)) (hps:∀b∈ps,b=true):Gv (gM E op tt h') (nmh h) v:=by
 have hal:=oD hg hcur (f:=gs.length+1);have he:EvR X E n (nmh h) tt (gN (std n) lk (fC (std n) gs cur)):=qw htt hv hal;unfold uD at hk;split at hk
 .rename_i c a b;simp only at hk;split at hk
  .rename_i fq q hc;obtain⟨pc,c1,c2⟩:=dM hX he hc;obtain⟨g,rfl⟩:=c2.bool;have halt:∀w,q=w->∀t∈(match c with | .tmp d=>(match iq (std n) gs d w 0 with | some t=>fC (std n) gs (some t)++fC (std n) gs cur | none=>fC (std n) gs cur) | _=>fC (std n) gs cur),∃e,gs[t]? =some e/\e.g=true:=by
    intro w hw t ht;split at ht
    .rename_i d;split at ht
     .rename_i t0 hf;obtain⟨e,e1,e2,e3⟩:=zm hf;rcases List.mem_append.1 ht with ht | ht
      .refine oD hg (λx hx=> ?_) t ht;cases hx;refine⟨e,e1,?_⟩;cases hgg:e.g with
       | true=>rfl
       | false=>
        have hls:(lk d).isSome:=by
         have hc':gN (std n) lk (fC (std n) gs cur) d=some (.c (.d fq (.bool q))):=hc
         grind [gN]
        have hd:aW t' d=some (.c (.d g (.bool q))):=by rw [<-htt d hls];exact c1
        rcases(hg t0 e e1).no d e2 hgg with⟨f,hh⟩ | hh
        all_goals grind [Option.some.injEq,PV.c.injEq,Cell.d.injEq,D.bool.injEq,nO]
      .exact hal t ht
     .exact hal t ht
    .exact hal t ht
   have hea:q=true->∀ {v},evX (std n) X (gN (std n) lk (match c with | .tmp d=>(match iq (std n) gs d true 0 with | some t=>fC (std n) gs (some t)++fC (std n) gs cur | none=>fC (std n) gs cur) | _=>fC (std n) gs cur)) a=some v->∃pv,ev E tt a=some pv/\PVR (nmh h) pv v:=
    λhq v hva=>dM hX (qw htt hv (halt true hq)) hva
   have heb:q=false->∀ {v},evX (std n) X (gN (std n) lk (match c with | .tmp d=>(match iq (std n) gs d false 0 with | some t=>fC (std n) gs (some t)++fC (std n) gs cur | none=>fC (std n) gs cur) | _=>fC (std n) gs cur)) b=some v->∃pv,ev E tt b=some pv/\PVR (nmh h) pv v:=
    λhq v hva=>dM hX (qw htt hv (halt false hq)) hva
   have fin:∀pv,PVR (nmh h) pv v->(q=true->ev E tt a=some pv)->(q=false->ev E tt b=some pv)->Gv (gM E (.pick c a b) tt h') (nmh h) v:=by
    intro pv h1 h2 h3;refine⟨pv,h1,λK hK=> ?_⟩;unfold gM;simp only;rw [c1];exact⟨λhq=>iI (h2 hq) _ hK,λhq=>iI (h3 hq) _ hK⟩
   split at hk
   .rename_i y hx hy;cases hk;have hq:q=false:=by simp_all
    grind
   .rename_i x hx hy;cases hk;have hq:q=true:=by simp_all
    grind
   .rename_i x y hx hy _ _;unfold Kg at hk;split at hk
    .rename_i z hz;cases hk;cases hq:q with
     | true=>
      obtain⟨pv,p1,p2⟩:=hea hq ‹_›;have:=Kt (N:=nmh h) (px:=pv) (py:=pv) (q:=q) (λ_=>p2) (λh=>by simp_all) hz
      grind
     | false=>
      obtain⟨pv,p1,p2⟩:=heb hq ‹_›;have:=Kt (N:=nmh h) (px:=pv) (py:=pv) (q:=q) (λh=>by simp_all) (λ_=>p2) hz;rw [hq]at this;exact fin pv this (λh=>by rw [hq]at h;cases h) λ_=>p1
    .cases hk
   .cases hk
  .cases hk
 .exact VA hX H he hk hps
inductive GM (s':St) (s:RSt (std n)) (tt:Slots) (d:Nat) (want:Bool):GR (std n)->Prop
 | skip:(∀T F:Prop,F->kV (aW tt d) want T F)->GM s' s tt d want .skip
 | run {gs:List (GE (std n))} {t:Nat} {g:Bool} {e:GE (std n)}:SR s' {s with gs:=gs}->gs[t]? =some e->e.g=g->(∀i sv,dL (std n) s.t i=some sv->zl gs s'.t (nmh s.h) i sv)->
  (g=true->∀T F:Prop,T->kV (aW tt d) want T F)->(g=false->∀T F:Prop,F->kV (aW tt d) want T F)->GM s' s tt d want (.run gs t g)
theorem Ep{s':St}{s:RSt (std n)}(S:SR s' s){lk:Nat->Option (SV (std n))}(hlk:∀i sv,lk i=some sv->dL (std n) s.t i=some sv){tt:Slots}{d:Nat}{want:Bool}(htt:(lk d).isSome->aW tt d=aW s'.t d){r:GR (std n)}(hr:Eb (std n) lk s.gs d want=r)(hb:r≠ .bad):
    GM s' s tt d want r:=by
  unfold Eb at hr;split at hr
  · exact absurd hr.symm hb
  · rename_i tg v hd;have hL:=htt (by rw [hd];rfl);have hval:=S.val d _ (hlk d _ hd);split at hr
    · rename_i t hf;obtain⟨e,e1,e2,e3⟩:=zm hf;rw [e1]at hr;simp only at hr;have G:=S.gs t e e1;have hT:e.g=true->∀T F:Prop,T->kV (aW tt d) want T F:=λhg T F hT=>by
        obtain⟨f,hl⟩:=G.yes d e2 hg;rw [hL,hl,e3];exact fU (λ_=>hT) (λh=>absurd rfl h)
      have hF:e.g=false->∀T F:Prop,F->kV (aW tt d) want T F:=λhg T F hF=>by
        rcases G.no d e2 hg with⟨f,hl⟩ | hl
        · rw [hL,hl,e3];exact fU (λh=>by cases want<;>simp at h) (λ_=>hF)
        · rw [hL,hl];exact hF
      split at hr
      · rename_i anA;subst hr;exact .skip (hF (G.dead anA))
      · subst hr;exact .run S e1 rfl S.val hT hF
    · split at hr
      · rename_i f b;obtain⟨b,rfl⟩:∃b':Bool,b'=b:=⟨b,rfl⟩;have hg0:(if want then b else !b)=(b==want):=by cases want<;>cases b<;>rfl
        simp only at hr;have ext:∀(e:GE (std n)) (gs:List (GE (std n))),gs=s.gs++ [e]->GOK gs s'.t e->SR s' {s with gs:=gs}/\(∀i sv,dL (std n) s.t i=some sv->zl gs s'.t (nmh s.h) i sv)/\gs[s.gs.length]? =some e:=by
          intro e gs hgs hG;subst hgs;have hmono:∀(t:Nat) (x:GE (std n)),s.gs[t]? =some x->(s.gs++ [e])[t]? =some x:=λt x hx=>by rw [List.getElem?_append_left (List.getElem?_eq_some_iff.1 hx).1];exact hx
          have qx:∀i sv,dL (std n) s.t i=some sv->zl (s.gs++ [e]) s'.t (nmh s.h) i sv:=λi sv hi=>(S.val i sv hi).mono (λt x hx=>⟨x,hmono t x hx,rfl⟩) rfl (λ_ _ h=>h)
          refine⟨⟨S.heap,S.len,S.m,qx,λt x hx=> ?_⟩,qx,by simp⟩;by_cases hlt:t<s.gs.length
          · simp only at hx;rw [List.getElem?_append_left hlt]at hx;have G:=S.gs t x hx;exact⟨G.yes,G.no,G.dead,λp hp=>let⟨q,q1,q2⟩:=G.par p hp;⟨q,hmono p q q1,q2⟩⟩
          · simp only at hx;rw [List.getElem?_append_right ah]at hx;have:t-s.gs.length=0:=by
              have:=(List.getElem?_eq_some_iff.1 hx).1;simp at this;omega
            rw [this]at hx;simp at hx;subst hx;exact hG
        split at hr
        · subst hr;obtain⟨pv,p1,p2⟩:=hval;obtain⟨g,rfl⟩:=p2.bool;have hG:GOK (s.gs++ [⟨some d,want,none,if want then b else !b,false⟩]) s'.t ⟨some d,want,none,if want then b else !b,false⟩:=by
            refine⟨λx hx hgt=> ?_,λx hx hgf=> ?_,λh=>(by cases h),λp hp=>(by cases hp)⟩
            · cases hx;have hgt:(if want then b else !b)=true:=hgt;rw [hg0]at hgt
              exact ⟨g, by rw [p1]; have : b = want := by simpa using hgt
                           rw [this]⟩
            · cases hx;have hgf:(if want then b else !b)=false:=hgf;rw [hg0]at hgf;refine .inl ⟨g,?_⟩;rw [p1];have:b= !want:=by cases b<;>cases want<;>simp_all
              rw [this]
          obtain⟨q1,q2,q3⟩:=ext ⟨some d,want,none,if want then b else !b,false⟩ _ rfl hG;refine .run q1 q3 rfl q2 (λhg T F hT=> ?_) (λhg T F hF=> ?_)
          · rw [hL,p1];refine fU (λ_=>hT) (λh=> ?_);have hg:(if want then b else !b)=true:=hg;rw [hg0]at hg;exact absurd (by simpa using hg) h
          · rw [hL,p1];refine fU (λh=> ?_) (λ_=>hF);have hg:(if want then b else !b)=false:=hg;rw [hg0,h]at hg;simp at hg
        · rename_i t';split at hr
          · rename_i e0 he0;subst hr;obtain⟨e0',h3,h4,h5⟩:=hval;rw [he0]at h3;cases h3;have hboth:e0.g=true->∃g,aW s'.t d=some (.c (.d g (.bool b))):=λhg=>by
              obtain⟨pv,p1,p2⟩:=h4 hg;obtain⟨g,rfl⟩:=p2.bool;exact⟨g,p1⟩
            have hT:(e0.g&& (if want then b else !b))=true->∃g,aW s'.t d=some (.c (.d g (.bool want))):=λh=>by
              simp only [Bool.and_eq_true]at h;obtain⟨g,hh⟩:=hboth h.1;have:=h.2;rw [hg0]at this
              exact ⟨g, by rw [hh]; have : b = want := by simpa using this
                           rw [this]⟩
            have hF:(e0.g&& (if want then b else !b))=false->(∃g,aW s'.t d=some (.c (.d g (.bool (!want)))))\/aW s'.t d=some nO:=λh=>by
              cases hg:e0.g with
              | false=>exact .inr (h5 hg)
              | true=>
                rw [hg]at h;simp only [Bool.true_and]at h;rw [hg0]at h;obtain⟨g,hh⟩:=hboth hg;refine .inl ⟨g,?_⟩;rw [hh];have:b= !want:=by cases b<;>cases want<;>simp_all
                rw [this]
            have hG:GOK (s.gs++ [⟨some d,want,some t',e0.g&& (if want then b else !b),false⟩]) s'.t ⟨some d,want,some t',e0.g&& (if want then b else !b),false⟩:=by
              refine⟨λx hx hgt=> ?_,λx hx hgf=> ?_,λh=>(by cases h),λp hp=> ?_⟩
              · cases hx;exact hT hgt
              · cases hx;exact hF hgf
              · cases hp;refine⟨e0,by rw [List.getElem?_append_left (List.getElem?_eq_some_iff.1 he0).1];exact he0,λh=> ?_⟩;have h:(e0.g&& (if want then b else !b))=true:=h;simp only [Bool.and_eq_true]at h;exact h.1
            obtain⟨q1,q2,q3⟩:=ext ⟨some d,want,some t',e0.g&& (if want then b else !b),false⟩ _ rfl hG;refine .run q1 q3 rfl q2 (λhg T F hTT=> ?_) (λhg T F hFF=> ?_)
            · obtain⟨g,hh⟩:=hT hg;rw [hL,hh];exact fU (λ_=>hTT) (λh=>absurd rfl h)
            · rcases hF hg with⟨g,hh⟩ | hh
              · rw [hL,hh];exact fU (λh=>by cases want<;>simp at h) (λ_=>hFF)
              · rw [hL,hh];exact hFF
          · exact absurd hr.symm hb
      · split at hr
        · subst hr;obtain⟨pv,p1,p2⟩:=hval;have:pv=nO:=by
            cases p2 with
            | one h=>cases h with
              | agg hs _=>simp [bH]at hs
            | tup h=>cases h;rfl
          subst this;exact .skip λT F hF=>by rw [hL,p1];exact hF
        · exact absurd hr.symm hb
      · exact absurd hr.symm hb
end
end Go.TX
namespace Go.TX
open Go Go.AE
section
variable {n:Nat}
theorem SR.kill{s':St}{s:RSt (std n)}(S:SR s' s){t:Nat}{e:GE (std n)}(he:s.gs[t]? =some e)(hg:e.g=false):SR s' {s with gs:=za (std n) s.gs t}:=by
 have hk:za (std n) s.gs t=s.gs.set t {e with dead:=true}:=by unfold za;rw [he]
 have hl:=(List.getElem?_eq_some_iff.1 he).1;have hmono:∀(i:Nat) (x:GE (std n)),s.gs[i]? =some x->∃x2,(s.gs.set t {e with dead:=true})[i]? =some x2/\x2.g=x.g:=λi x hx=>by
  by_cases h:t=i
  .subst h;rw [he]at hx;cases hx;exact⟨_,List.getElem?_set_self hl,rfl⟩
  .exact⟨x,by rw [List.getElem?_set_ne h];exact hx,rfl⟩
 rw [hk];refine⟨S.heap,S.len,S.m,λi sv hi=>(S.val i sv hi).mono hmono rfl (λ_ _ h=>h),λi x hx=> ?_⟩;have par:∀ {x:GE (std n)},(∀p,x.par=some p->∃q,s.gs[p]? =some q/\(x.g=true->q.g=true))->∀p,x.par=some p->∃q,(s.gs.set t {e with dead:=true})[p]? =some q/\(x.g=true->q.g=true):=λh p hp=>by
  obtain⟨q,q1,q2⟩:=h p hp;obtain⟨q',r1,r2⟩:=hmono p q q1;exact⟨q',r1,λh=>by rw [r2];exact q2 h⟩
 by_cases h:t=i
 .subst h;simp only [List.getElem?_set_self hl,Option.some.injEq]at hx;subst hx;have G:=S.gs t e he;exact⟨G.yes,G.no,λ_=>hg,par G.par⟩
 .simp only [List.getElem?_set_ne h]at hx;have G:=S.gs i x hx;exact⟨G.yes,G.no,G.dead,par G.par⟩
theorem Er{E:Tab}{G:mO}{o:Oper}{s:St}{K:St->Prop}(h:iN o.op≠0)(hd:dOK s.m o.dst)(hm:MI E G o.op s.t s λv h k=>K (St.put {s with h:=h,k:=k} o.dst (some v))):UQ E G o s K:=by
 refine⟨hd,?_⟩;unfold MI at hm;split
 .rename_i h0;exact absurd h0 h
 .rename_i h1;rw [h1]at hm;exact hm
 .rename_i h0 h1;split at hm
  .rename_i h2;exact absurd h2 h1
  .exact hm
theorem Gg{E:Tab}{G:mO}{o:Oper}{s:St}{K:St->Prop}(h:iN o.op=0)(hd:dOK s.m o.dst)(hm:gM E o.op s.t s.h λv=>K (s.put o.dst (some v))):UQ E G o s K:=by
 refine⟨hd,?_⟩;rw [h];exact hm
theorem VO{m:Nat}{d:Option Nat}(h:Rw m d=true):dOK m d:=by
 cases d with
 | none=>trivial
 | some d=>unfold Rw at h;exact(by simpa using h:d<m)
theorem aeC{s:RSt (std n)}{d tag:Option Nat}{v:SVal}:(s.put (std n) d tag v).h=s.h/\(s.put (std n) d tag v).m=s.m:=by cases d<;>exact⟨rfl,rfl⟩
theorem VP{N:NM}:PVR N nO (.tup []):= .tup .nil
theorem Gh{X:XT}{E:Tab}(hX:XOK X E){C:Calls aD}{ops:List Oper}{ρ:Type}{K:RSt (std n)->(ρ->Prop)->Prop}{r:ρ->Prop}{h0:List aK}{m0:Nat}:∀ {rest:List Oper} {s':St} {s:RSt (std n)},SR s' s->(∀k,Keep k h0 s.h)->s.m=m0->fH (std n) X C ops rest K s r->
  xU E (kD C) ops rest (λs1'=>∃s1,SR s1' s1/\(∀k,Keep k h0 s1.h)/\s1.m=m0/\K s1 r) s'
 | [],s',s,S,hK0,hm0,hk=>⟨s,S,hK0,hm0,hk⟩
 | o::rest,s',s,S,hK0,hm0,hk=>by
  generalize hM:fH (std n) X C ops (o::rest) K s=M at hk;unfold fH at hM;split at hM
  .rename_i hdst;have hd:dOK s'.m o.dst:=by rw [S.m];exact VO hdst
   have go:∀ {s2':St} {s2:RSt (std n)} {tag:Option Nat} {v:SVal},SR s2' (s2.put (std n) o.dst tag v)->(∀k,Keep k s.h s2.h)->s2.m=s.m->fH (std n) X C ops rest K (s2.put (std n) o.dst tag v) r->
     xU E (kD C) ops rest (λs1'=>∃s1,SR s1' s1/\(∀k,Keep k h0 s1.h)/\s1.m=m0/\K s1 r) s2':=by
    intro s2' s2 tag v S2 hkeep hm2 hk2;have e1:=aeC (n:=n) (s:=s2) (d:=o.dst) (tag:=tag) (v:=v);exact Gh hX (rest:=rest) S2 (λk=>by rw [e1.1];exact(hK0 k).trans (hkeep k)) (by rw [e1.2,hm2,hm0]) hk2
   have hev:∀ {gs:List (GE (std n))},SR s' {s with gs:=gs}->∀ {al:List Nat},(∀t∈al,∃e,gs[t]? =some e/\e.g=true)->EvR X E n (nmh s.h) s'.t (gN (std n) (dL (std n) s.t) al):=λS _ hal=>qw (λ_ _=>rfl) S.val hal
   unfold xU Az;split at hM
   .rename_i hguard;rw [hguard];simp only;split at hM
    .rename_i hcl;have hcl:iN o.op=0:=by simpa using hcl
     split at hM
     .rename_i ps v hv;subst hM;obtain⟨hps,hk⟩:=gy hk;rw [Da]at hk;obtain⟨pv,p1,p2⟩:=wm hX S.heap S.gs (tt:=s'.t) (λ_ _=>rfl) S.val (cur:=none) (λt h=>by cases h) hv hps;refine Gg hcl hd (p2 _ (go (S.put (tag:=none) ⟨pv,rfl,p1⟩) (λ_=> .refl _ _) rfl hk))
     ·(subst hM;exact hk.elim)
    .rename_i hcl;have hcl:iN o.op≠0:=by simpa using hcl
     split at hM
     .rename_i cr hcr;subst hM;obtain⟨hps,hk⟩:=gy hk;obtain⟨v,k,hvk,hk⟩:=AZ hk;obtain⟨v',k',e1,_,e3⟩:=AY hX S.heap S.len (hev S (al:=[]) (λt h=>by simp at h)) hcr hps ⟨v,k,hvk⟩;rw [hvk]at e1;cases e1;refine Er hcl hd (e3 _ λpv h'' j a1 a2 a3 a4=> ?_);have S2:=S.yh a3.same a2 a4;exact go (s2:={s with h:=k}) (S2.put (tag:=none) ⟨pv,rfl,a1⟩) a3.KF rfl hk
     ·(subst hM;exact hk.elim)
   .rename_i j want hguard;rw [hguard];simp only;refine⟨hd,?_⟩;split at hM
    .rename_i d hgs;rw [hgs];simp only [BQ];have hgm:=λhb=>Ep S (lk:=dL (std n) s.t) (λ_ _ h=>h) (tt:=s'.t) (d:=d) (want:=want) (λ_=>rfl) rfl hb
     split at hM
     .rename_i hr;rw [hr]at hgm;subst hM;cases hgm (by simp)with | skip h=>
      refine h _ _ (go (s2:=s) (S.put (tag:=none) ⟨nO,rfl,VP⟩) (λ_=> .refl _ _) rfl hk)
     .rename_i gs t g hr;rw [hr]at hgm;cases hgm (by simp)with | run S1 hget hg qx hT hF=>
      rename_i e;subst hg;have hcur:e.g=true->∀t0,some t=some t0->∃e,gs[t0]? =some e/\e.g=true:=λh t0 ht=>by cases ht;exact⟨e,hget,h⟩
      split at hM
      .rename_i hcl;have hcl:iN o.op=0:=by simpa using hcl
       split at hM
       .rename_i ps v hv;subst hM;obtain⟨hps,hk⟩:=gy hk;cases hg:e.g with
        | true=>
         obtain⟨pv,p1,p2⟩:=wm hX S1.heap S1.gs (tt:=s'.t) (λ_ _=>rfl) qx (hcur hg) hv (zn hps hg);refine hT hg _ _ (Gg hcl hd (p2 _ (go (s2:={s with gs:=gs}) (S1.put (tag:=some t) ⟨e,hget,λ_=>⟨pv,rfl,p1⟩,λh=>by rw [hg]at h;cases h⟩) (λ_=> .refl _ _) rfl hk)))
        | false=>
         exact hF hg _ _ (go (s2:={s with gs:=gs}) (S1.put (tag:=some t) ⟨e,hget,λh=>(by rw [hg]at h;cases h),λ_=>rfl⟩) (λ_=> .refl _ _) rfl hk)
       ·(subst hM;exact hk.elim)
      .rename_i hcl;have hcl:iN o.op≠0:=by simpa using hcl
       split at hM
       .rename_i cr hcr;split at hM
        .rename_i hpure;subst hM;obtain⟨hps,hk⟩:=gy hk;obtain⟨v,k,hvk,hk⟩:=AZ hk;cases hg:e.g with
         | true=>
          obtain⟨v',k',e1,e2,e3⟩:=AY hX S1.heap S1.len (hev S1 (oD S1.gs (hcur hg) (f:=gs.length+1))) hcr (zn hps hg) ⟨v,k,hvk⟩;rw [hvk]at e1;cases e1;obtain⟨rfl,htd⟩:=e2 hpure;refine hT hg _ _ (Er hcl hd (e3 _ λpv h'' j a1 a2 a3 a4=> ?_));have S2:=S1.yh (Same.refl _) a2 a4;exact go (s2:={s with gs:=gs}) (S2.put (tag:=some t) ⟨e,hget,λ_=>⟨pv,rfl,a1⟩,λh=>by rw [hg]at h;cases h⟩) (λ_=> .refl _ _) rfl hk
         | false=>
          exact hF hg _ _ (go (s2:={s with gs:=gs}) (S1.put (tag:=some t) ⟨e,hget,λh=>(by rw [hg]at h;cases h),λ_=>rfl⟩) (λ_=> .refl _ _) rfl hk)
        .subst hM;obtain⟨hkT,hkF⟩:(e.g=true->gP (std n) cr.ck (rX (std n) cr λv h=>fH (std n) X C ops rest K (RSt.put (std n) {s with h:=h,gs:=gs} o.dst none v)) r)/\(e.g=false->fH (std n) X C ops rest K (RSt.put (std n) {s with gs:=za (std n) gs t} o.dst none (.tup [])) r):=hk;cases hg:e.g with
         | true=>
          obtain⟨hps,hk⟩:=gy (hkT hg);obtain⟨v,k,hvk,hk⟩:=AZ hk;obtain⟨v',k',e1,e2,e3⟩:=AY hX S1.heap S1.len (hev S1 (oD S1.gs (hcur hg) (f:=gs.length+1))) hcr hps ⟨v,k,hvk⟩;rw [hvk]at e1;cases e1;refine hT hg _ _ (Er hcl hd (e3 _ λpv h'' j a1 a2 a3 a4=> ?_));have S2:=S1.yh a3.same a2 a4;exact go (s2:={s with h:=k,gs:=gs}) (S2.put (tag:=none) ⟨pv,rfl,a1⟩) a3.KF rfl hk
         | false=>
          have hk:=hkF hg;have S2:=S1.kill hget hg;exact hF hg _ _ (go (s2:={s with gs:=za (std n) gs t}) (S2.put (tag:=none) ⟨nO,rfl,VP⟩) (λ_=> .refl _ _) rfl hk)
       ·(subst hM;exact hk.elim)
     ·(subst hM;exact hk.elim)
    ·(subst hM;exact hk.elim)
  ·(subst hM;exact hk.elim)
end
end Go.TX
namespace Go.TX
open Go Go.AE
variable [aB]
section
variable {n:Nat}
theorem VQ{t:Slots}{r:Nat}:∀ {rs:List Nat},r∈rs->aW (cut t rs) r=aW t r
 | [],h=>by simp at h
 | x::rs,h=>by
  simp only [cut,aW];split
  .rename_i e;rw [e]
  .rename_i e;cases h with
   | head=>exact absurd rfl e
   | tail _ h=>exact VQ h
theorem ahs{h:List aK}{x:Cell}{y:SC}(hr:RC (nmh h) x y){s:Sh}{f:Bool}{v:LV aD}(hk:fQ (std n) h s y=some (f,v,[])):∃g,(f=true->g=true)/\ZC x g (lvD s v):=by
 unfold fQ at hk;split at hk
 .rename_i f0 lf;split at hk
  .rename_i e;subst e;cases hk;cases hr with | d hx hf=>
   rename_i g0 x0;subst hx;rw [Eh];refine⟨g0 || (mX lf).mg,λh=> ?_,.d _ _⟩;rw [jc];cases lf with
   | rows c xs=>grind [Leaf.flag,Leaf.scalar]
   | _=>simp [Leaf.scalar]
  .cases hk
 .cases hr;split at hk
  .cases hk;exact⟨true,λ_=>rfl,.nil _⟩
  .cases hk
 .rename_i f0 c xs;cases hr with | clip hf=>
  split at hk
  .rename_i e;subst e;cases hk;exact⟨_,hf,.clip _ _ _⟩
  .cases hk
 .split at hk
  all_goals simp_all
 .cases hk
theorem KH{h:List aK}:∀ {ss:List Sh} {ys:List SC} {xs:List Cell} (_:F2 (RC (nmh h)) xs ys) {f:Bool} {vs:List (LV aD)},aJ (std n) h ss ys=some (f,vs,[])->∃g,(f=true->g=true)/\ZCs xs g (List.zipWith lvD ss vs)
 | [],[],xs,hF,f,vs,hk=>by simp [aJ]at hk;obtain⟨rfl,rfl⟩:=hk;cases hF;exact⟨true,λ_=>rfl,.nil⟩
 | [],_::_,_,_,_,_,hk=>by simp [aJ]at hk
 | _::_,[],_,_,_,_,hk=>by simp [aJ]at hk
 | s::ss,y::ys,xs,hF,f,vs,hk=>by
  cases hF with | cons h1 h2=>
  unfold aJ at hk;split at hk
  .rename_i f1 v1 l1 hv1;split at hk
   .rename_i g2 vs2 ls2 hv2;split at hk
    .simp only [Option.some.injEq,Prod.mk.injEq,List.append_eq_nil_iff]at hk;obtain⟨rfl,rfl,rfl,rfl⟩:=hk;obtain⟨ga,a1,a2⟩:=ahs h1 hv1;obtain⟨gb,b1,b2⟩:=KH h2 hv2;exact⟨ga&&gb,λh=>by simp_all,.cons a2 b2⟩
    .cases hk
   .cases hk
  .cases hk
theorem Gi{N:NM}:∀ {ys:List (Leaf aD)} {xs:List Cell} {f:Bool},F2 (RC N) xs (ys.map (.d f))->∃g,(f=true\/(∀y∈ys,y.scalar=true)->g=true)/\ZCs xs g (ys.map mX)
 | [],_,_,h=>by cases h;exact⟨true,λ_=>rfl,.nil⟩
 | y::ys,_,f,.cons h1 h2=>by
  obtain⟨g,q1,q2⟩:=Gi h2;cases h1 with | d hx hf=>
  rename_i g0 x0;subst hx;refine⟨(g0 || (mX y).mg)&&g,λh=> ?_,.cons (.d _ _) q2⟩
  grind [jc,List.mem_cons_of_mem]
theorem anB{h:List aK}{p:PV}{q:SVal}(hp:PVR (nmh h) p q){c:Co}{f:Bool}{x:c.den}(hk:toX (std n) h c q=some (f,x,[])):∃g,(f=true->g=true)/\ZCs (aO p) g (c.row x):=by
 unfold toX at hk;split at hk
 .rename_i f' c' x';split at hk
  .rename_i e;subst e;cases hk;have hF:=hp.cells;have hx:cellsS (.sv f' c' x')=(fP (std 0) c' x' 0 c'.fields).map (.d f'):=rfl;rw [hx]at hF;obtain⟨g,q1,q2⟩:=Gi hF;rw [jE]at q2
   grind [jQ]
  .cases hk
 .cases hk
 .split at hk
  .rename_i f1 ys ls1 h1;split at hk
   .rename_i t ht;simp only [Option.some.injEq,Prod.mk.injEq]at hk;obtain⟨rfl,rfl,rfl⟩:=hk;rw [dD]at h1;obtain⟨g,q1,q2⟩:=KH hp.cells h1
    grind [zh]
   .cases hk
  .cases hk
theorem RX{X:XT}{E:Tab}(hX:XOK X E){t:Slots}{e:Nat->Option SVal}{c:Co}{h:List aK}(he:EvR X E n (nmh h) t e):∀ {parts:List (Nat×Operand)} {f:Bool} {xs:List c.den} {k:List aK},qY (std n) X e c h parts=some (f,xs,k,[])->
  ∃g,(f=true->g=true)/\xs.length=parts.length/\ZPs E t c.size parts g (aL c xs)
 | [],f,xs,k,hk=>by
  simp only [qY,Option.some.injEq,Prod.mk.injEq]at hk;obtain⟨rfl,rfl,_⟩:=hk;exact⟨true,λ_=>rfl,rfl,.nil⟩
 | (i,x)::r,f,xs,k,hk=>by
  simp only [qY]at hk;split at hk
  .rename_i v hv;split at hk
   .rename_i f1 y l1 hy;split at hk
    .rename_i g1 ys k1 l2 hys;simp only [Option.some.injEq,Prod.mk.injEq,List.append_eq_nil_iff]at hk;obtain⟨rfl,rfl,_,rfl,rfl⟩:=hk;obtain⟨pv,p1,p2⟩:=dM hX he hv;obtain⟨ga,a1,a2⟩:=anB p2 hy;obtain⟨gb,b1,b2,b3⟩:=RX hX he (h:=h) hys;have hl:(aO pv).length=c.size:=by
      have:∀ {cs:List Cell} {g:Bool} {ds:List D},ZCs cs g ds->cs.length=ds.length:=by
       intro cs g ds hz
       induction hz with
       | nil=>rfl
       | cons _ _ ih=>simp [ih]
      rw [this a2,mF]
     exact⟨ga&&gb,λh=>by simp_all,by simp [b2],.cons p1 hl a2 b3⟩
    .cases hk
   .cases hk
  .cases hk
theorem asA{X:XT}{E:Tab}(hX:XOK X E){t:Slots}{e:Nat->Option SVal}{h:List aK}(he:EvR X E n (nmh h) t e){op:Op}{ps:List Bool}{v:SVal}(hk:zX (std n) X e h op=some (ps,v)):Gv (zA E op t) (nmh h) v:=by
 unfold zX at hk;split at hk
 .rename_i ty len parts;rw [hX.ty]at hk;split at hk
  .rename_i y hy;split at hk
   .rename_i el hd;split at hk
    .rename_i z c hz hco;split at hk
     .rename_i hcond;simp only [Bool.and_eq_true,Bool.not_eq_true',beq_iff_eq,beq_eq_false_iff_ne,ne_eq]at hcond;obtain⟨⟨⟨hsz,hne⟩,hrange⟩,hbig⟩:=hcond;have hbig:=Nat.le_of_ble_eq_true hbig;obtain⟨z',hz',hzs⟩:=gH hX hsz;rw [hz]at hz';cases hz';split at hk
      .rename_i f xs k hps;cases hk;obtain⟨g,q1,q2,q3⟩:=RX hX he hps;have hlen:xs.length=len:=by
        have:=congrArg List.length hrange
        grind
       refine⟨.c (.clip g c.size (aL c xs)),.ofC (.clip q1),λK hK=> ?_⟩
       grind [zA,aC,aL,aQ]
      .cases hk
     .cases hk
    .cases hk
   .cases hk
  .cases hk
 .cases hk
theorem KJ{E:Tab}{N:NM}{h' h'':Heap}{ty:TypeId}{pv:PV}{q:SVal}(hp:PVR N pv q)(hl:∀l∈uF (std n) q,AE.look h'' l=AE.look h' l)(K:PV->Prop):kN E h'' ty pv K=kN E h' ty pv K:=by
 have key:∀l sz i j,pv= .c (.ptr l sz i j)->AE.look h'' l=AE.look h' l:=by
  intro l sz i j e;subst e;cases hp with | one hp=>cases hp with | c hc=>
  cases hc with
  | pb=>simp_all [uF]
  | pr _=>simp_all [uF]
 grind [kN,aC]
theorem stable{X:XT}{E:Tab}(hX:XOK X E){N:NM}{h' h'':Heap}{t:Slots}{e:Nat->Option SVal}(he:EvR X E n N t e){op:Op}(hl:∀l∈gW (std n) X e op,AE.look h'' l=AE.look h' l)(hev:isLoad op=true->∃ty x q,op= .load ty x/\evX (std n) X e x=some q)(K:PV->Prop):
  gM E op t h'' K=gM E op t h' K:=by
 cases hL:isLoad op with
 | false=>rw [xX hL]
 | true=>
  obtain⟨ty,x,q,rfl,hq⟩:=hev hL;obtain⟨pv,p1,p2⟩:=dM hX he hq;simp only [gW,hq]at hl;unfold gM;simp only;rw [p1];simp only [aP];exact KJ p2 hl K
def HI(E:Tab)(ops:List Oper)(h':Heap)(h:List aK)(hs':List Held)(hs:List (Nat×List Nat)):Prop:=∀p∈hs,(∀l∈p.2,l<h.length)/\∃o t v,oh hs' p.1=some (o,t,v)/\
 ∀h'',(∀l∈p.2,AE.look h'' l=AE.look h' l)->iH E ops o t h'' (λv'=>v'=v)
theorem HI.turn{E:Tab}{ops:List Oper}{h' h'':Heap}{h k:List aK}{hs':List Held}{hs:List (Nat×List Nat)}(H:HI E ops h' h hs' hs){td:List Nat}(x:iJ h' h h'' k td):HI E ops h'' k hs' (mW hs td):=by
 intro p hp;simp only [mW,List.mem_filter]at hp;obtain⟨hp,hn⟩:=hp;obtain⟨h1,o,t,v,h2,h3⟩:=H p hp;refine⟨λl hl=>Nat.lt_of_lt_of_le (h1 l hl) x.len,o,t,v,h2,λh3' hh=>h3 h3' λl hl=> ?_⟩;have:=List.all_eq_true.1 hn l hl;rw [hh l hl,(x.keep l (h1 l hl) (by simpa using this)).2]
theorem zo(hs:List (Nat×List Nat)):mW hs []=hs:=by grind [mW,List.filter_eq_self]
theorem Db{E:Tab}{ops:List Oper}{h' h'':Heap}{h k:List aK}{hs':List Held}{hs:List (Nat×List Nat)}(H:HI E ops h' h hs' hs){td:List Nat}(x:iJ h' h h'' k td):∀ {cs:List Nat},cs.all (HY hs td)=true->Mc E ops h'' hs' cs
 | [],_=>trivial
 | j::r,hc=>by
  simp only [List.all_cons,Bool.and_eq_true]at hc;refine⟨?_,Db H x hc.2⟩;have hj:=hc.1;simp only [HY,List.any_eq_true,Bool.and_eq_true,beq_iff_eq]at hj;obtain⟨p,hp,hpj,hall⟩:=hj;obtain⟨h1,o,t,v,h2,h3⟩:=H p hp;rw [<-hpj,h2];refine h3 h'' λl hl=>(x.keep l (h1 l hl) ?_).2
  simp_all
theorem HI.push{E:Tab}{ops:List Oper}{h':Heap}{h:List aK}{hs':List Held}{hs:List (Nat×List Nat)}(H:HI E ops h' h hs' hs){i:Nat}(hi:¬(hs.any λp=>p.1==i)=true){ns:List Nat}{o:Oper}{t:Slots}{v:Option PV}
  (hns:∀l∈ns,l<h.length) (hst:∀h'',(∀l∈ns,AE.look h'' l=AE.look h' l)->iH E ops o t h'' (λv'=>v'=v)):HI E ops h' h ((i,o,t,v)::hs') ((i,ns)::hs):=by
 intro p hp;cases hp with
 | head=>exact⟨hns,o,t,v,by simp [oh],hst⟩
 | tail _ hp=>
  obtain⟨h1,o',t',v',h2,h3⟩:=H p hp;have hne:i≠p.1:=λe=>hi (by rw [List.any_eq_true];exact⟨p,hp,by simp [e]⟩)
  grind [J9]
theorem Gj{E:Tab}{X:XT}{N:NM}{t:Slots}{e:Nat->Option SVal}(he:EvR X E n N t e){k:Int}:∀ {l:List (Int×Nat)} {b:Bool},C8 (std n) e k l=some b->∀K:Bool->Prop,K b->DL t k l K
 | [],b,h,K,hb=>by cases h;exact hb
 | (k',r)::rest,b,h,K,hb=>by
  unfold C8 at h;split at h
  .rename_i f b1 hr;split at h
   .rename_i q hq;cases h;obtain⟨pv,h1,h2⟩:=he r _ hr;obtain⟨g,rfl⟩:=h2.bool;refine⟨g,b1,h1,?_⟩;have hb:K (bif decide (k=k')then b1 else q):=hb;by_cases c:k=k'
    .simp_all
    .rw [if_neg c];rw [decide_eq_false c]at hb;exact Gj he hq K hb
   .cases h
  .cases h
theorem MK{X:XT}{ops:List Oper}{e:Nat->Option SVal}{h:List aK}{op:Op}(hp:DR op=true):Mw (std n) X ops e h op=match zX (std n) X e h op with | some r=>some (some r) | none=>none:=by
 cases op
 case makeMap=>cases hp
 case insert=>cases hp
 case move=>cases hp
 case lookup a b q d=>cases q<;>first | rfl | cases hp
 all_goals grind [Mw,zX]
theorem map_ok{X:XT}{E:Tab}(hX:XOK X E){ops:List Oper}{t:Slots}{e:Nat->Option SVal}{h:List aK}(he:EvR X E n (nmh h) t e){op:Op}{r:Option (List Bool×SVal)}(hk:Mw (std n) X ops e h op=some r):
  match r with | none=>∀K:Option PV->Prop,K none->zM E ops op t K | some (_,v)=>∃pv,PVR (nmh h) pv v/\∀K:Option PV->Prop,K (some pv)->zM E ops op t K:=by
 by_cases hp:DR op=true
 .rw [MK hp]at hk;split at hk
  .rename_i q hq;cases hk;obtain⟨ps,v⟩:=q;obtain⟨pv,p1,p2⟩:=asA hX he hq
   grind [yT]
  .cases hk
 .cases op
  case makeMap=>cases hk;exact λK h=>h
  case insert a b c v=>
   cases v with
   | tmp r=>
    simp only [Mw]at hk;cases hq:e r with
    | some q=>
     rw [hq]at hk;cases hk;obtain⟨pv,p1,_⟩:=he _ _ hq;exact λK h=>⟨⟨pv,p1⟩,h⟩
    | none=>grind
   | _=>cases hk
  case move x=>
   simp only [Mw]at hk;split at hk
   .rename_i hs;cases hk;exact λK h=>⟨hs,h⟩
   .cases hk
  case lookup a b q d=>
   cases q with
   | tmp q=>
    simp only [Mw]at hk;split at hk
    .rename_i f m hq;split at hk
     .rename_i bb hb;cases hk;obtain⟨pv,p1,p2⟩:=he _ _ hq;obtain⟨g,rfl⟩:=p2.int;exact⟨_,.ofC (.d rfl λ_=> .inl rfl),λK hK=>⟨g,m,p1,Gj he hb _ hK⟩⟩
     .cases hk
    .cases hk
   | _=>exact absurd rfl hp
  all_goals exact absurd rfl hp
theorem yj{X:XT}{gs:List (GE (std n))}{lk:Nat->Option (SV (std n))}{h:List aK}{cur:Option Nat}{op:Op}{ps:List Bool}{v:SVal}(hk:uD (std n) X lk gs h cur op=some (ps,v))(hl:isLoad op=true):
  (∃ty x q,op= .load ty x/\evX (std n) X (gN (std n) lk (fC (std n) gs cur)) x=some q)/\∀l∈gW (std n) X (gN (std n) lk (fC (std n) gs cur)) op,l<h.length:=by
 cases op<;>simp only [isLoad,Bool.false_eq_true]at hl
 rename_i ty x;simp only [uD,Rt]at hk;obtain⟨q,hq,hk⟩:=eD hk;refine⟨⟨ty,x,q,rfl,hq⟩,λl hl=> ?_⟩;simp only [gW,hq]at hl;unfold Kh at hk;split at hk
 .cases hk
 .unfold uF at hl;split at hl
  all_goals grind
end
end Go.TX
namespace Go.TX
open Go Go.AE
variable [aB]
section
variable {n:Nat}
theorem A8(gs:List (GE (std n))):fC (std n) gs none=[]:=by unfold fC;rw [Mv];simp
theorem Es{E:Tab}{ops:List Oper}{o:Oper}(hg:o.guard=none)(t:Slots)(h:Heap)(K:Option PV->Prop):iH E ops o t h K=gM E o.op t h λv=>K (some v):=by unfold iH;rw [hg]
theorem rE{E:Tab}{ops:List Oper}{o:Oper}{j d:Nat}{w:Bool}(hg:o.guard=some (j,w))(hd:gslot ops j=some d)(t:Slots)(h:Heap)(K:Option PV->Prop):
 iH E ops o t h K=kV (aW t d) w (gM E o.op t h λv=>K (some v)) (K (some nO)):=by unfold iH;rw [hg];simp only;rw [hd];rfl
theorem Ie{X:XT}{E:Tab}(hX:XOK X E){C:Calls aD}{ops:List Oper}{ρ:Type}{K:RSt (std n)->(ρ->Prop)->Prop}{r:ρ->Prop}{h0:List aK}{m0:Nat}:∀ {rest:List fO} {hs:List (Nat×List Nat)} {hs':List Held} {s':St} {s:RSt (std n)},SR s' s->(∀k,Keep k h0 s.h)->s.m=m0->
    HI E ops s'.h s.h hs' hs->iO (std n) X C ops rest hs K s r->
    fG E (kD C) ops rest hs' (λs1'=>∃s1,SR s1' s1/\(∀k,Keep k h0 s1.h)/\s1.m=m0/\K s1 r) s'
  | [],hs,hs',s',s,S,hK0,hm0,HH,hk=>⟨s,S,hK0,hm0,hk⟩
  | (i,rs,cs)::rest,hs,hs',s',s,S,hK0,hm0,HH,hk=>by
    generalize hM:iO (std n) X C ops ((i,rs,cs)::rest) hs K s=M at hk;unfold iO at hM;unfold fG;split at hM
    · (subst hM;exact hk.elim)
    · rename_i o ho;rw [ho];simp only [aex];split at hM
      · rename_i hdst;have hd:dOK s'.m o.dst:=by rw [S.m];exact VO hdst
        refine⟨hd,?_⟩;simp only at hM;have hlk:∀i sv,(if rs.contains i then dL (std n) s.t i else none)=some sv->dL (std n) s.t i=some sv:=λi sv h=>by
          split at h
          · exact h
          · cases h
        have VR:∀d,(if rs.contains d then dL (std n) s.t d else none).isSome->aW (cut s'.t rs) d=aW s'.t d:=λd h=>by
          split at h
          · rename_i hc;exact VQ (by simpa using hc)
          · cases h
        have hev:∀ {gs:List (GE (std n))},SR s' {s with gs:=gs}->∀ {al:List Nat},(∀t∈al,∃e,gs[t]? =some e/\e.g=true)->EvR X E n (nmh s.h) (cut s'.t rs) (gN (std n) (λi=>if rs.contains i then dL (std n) s.t i else none) al):=
          λS1 _ hal=>qw (t':=s'.t) VR (λi sv h=>S1.val i sv (hlk i sv h)) hal
        have go:∀ {s2':St} {s2:RSt (std n)} {tag:Option Nat} {v:SVal} {hs2:List (Nat×List Nat)} {aht:List Held},SR s2' (s2.put (std n) o.dst tag v)->(∀k,Keep k s.h s2.h)->s2.m=s.m->HI E ops s2'.h s2.h aht hs2->iO (std n) X C ops rest hs2 K (s2.put (std n) o.dst tag v) r->
            fG E (kD C) ops rest aht (λs1'=>∃s1,SR s1' s1/\(∀k,Keep k h0 s1.h)/\s1.m=m0/\K s1 r) s2':=by
          intro s2' s2 tag v hs2 aht S2 hkeep hm2 HI2 hk2;have e1:=aeC (n:=n) (s:=s2) (d:=o.dst) (tag:=tag) (v:=v);exact Ie hX (rest:=rest) S2 (λk=>by rw [e1.1];exact(hK0 k).trans (hkeep k)) (by rw [e1.2,hm2,hm0]) (by rw [e1.1];exact HI2) hk2
        have Ig:∀(d:Option Nat) (v:Option PV),(s'.put d v).h=s'.h:=λd v=>by cases d<;>rfl
        split at hM
        ·
          rename_i hkind;split at hM
          · (subst hM;exact hk.elim)
          rename_i hnew;split at hM
          · rename_i hguard;rw [hkind];split at hM
            · rename_i ps v hv;subst hM;obtain⟨hps,hk⟩:=gy hk;rw [Da]at hk;have qx:∀i sv,(if rs.contains i then dL (std n) s.t i else none)=some sv->zl s.gs s'.t (nmh s.h) i sv:=λi sv h=>S.val i sv (hlk i sv h)
              obtain⟨pv,p1,p2⟩:=wm hX S.heap S.gs VR qx (cur:=none) (λt h=>by cases h) hv hps;simp only;rw [Es hguard];have hE0:=hev S (al:=fC (std n) s.gs none) (λt h=>by rw [A8]at h;simp at h);rw [A8]at hE0;have hln:=λhL=>yj hv hL
              rw [A8]at hln;have hst:∀h'',(∀l∈gW (std n) X (gN (std n) (λi=>if rs.contains i then dL (std n) s.t i else none) []) o.op,AE.look h'' l=AE.look s'.h l)->iH E ops o (cut s'.t rs) h'' (λv'=>v'=some pv):=λh'' hh=>by
                rw [Es hguard,stable hX hE0 hh (λhL=>(hln hL).1)];exact p2 _ rfl
              have hns:∀l∈gW (std n) X (gN (std n) (λi=>if rs.contains i then dL (std n) s.t i else none) []) o.op,l<s.h.length:=λl hl=>by
                cases hL:isLoad o.op with
                | true=>exact(hln hL).2 l hl
                | false => unfold gW at hl; split at hl
                           · rename_i hop;rw [hop]at hL;simp [isLoad]at hL
                           · simp at hl
              exact p2 _ (go (s2:=s) (S.put (tag:=none) ⟨pv,rfl,p1⟩) (λ_=> .refl _ _) rfl (by rw [Ig];exact HH.push hnew hns hst) hk)
            · (subst hM;exact hk.elim)
          · rename_i j want hguard;rw [hkind];split at hM
            · rename_i d hgs;have hgm:=λhb=>Ep S (lk:=λi=>if rs.contains i then dL (std n) s.t i else none) hlk (tt:=cut s'.t rs) (d:=d) (want:=want) (VR d) rfl hb
              simp only;rw [rE hguard hgs];split at hM
              · rename_i hr;rw [hr]at hgm;subst hM;cases hgm (by simp)with | skip h=>
                refine h _ _ (go (s2:=s) (S.put (tag:=none) ⟨nO,rfl,VP⟩) (λ_=> .refl _ _) rfl (by rw [Ig];exact HH.push hnew (λl hl=>by simp at hl) (λh'' _=>by rw [rE hguard hgs];exact h _ _ rfl)) hk)
              · rename_i gs t g hr;rw [hr]at hgm;cases hgm (by simp)with | run S1 hget hg qx hT hF=>
                rename_i e;subst hg;split at hM
                · rename_i ps v hv;subst hM;obtain⟨hps,hk⟩:=gy hk;have hns:∀l∈gW (std n) X (gN (std n) (λi=>if rs.contains i then dL (std n) s.t i else none) (fC (std n) gs (some t))) o.op,l<s.h.length:=λl hl=>by
                    cases hL:isLoad o.op with
                    | true=>exact(yj hv hL).2 l hl
                    | false => unfold gW at hl; split at hl
                               · rename_i hop;rw [hop]at hL;simp [isLoad]at hL
                               · simp at hl
                  cases hg:e.g with
                  | true=>
                    have hcur:∀t0,some t=some t0->∃e,gs[t0]? =some e/\e.g=true:=λt0 ht=>by cases ht;exact⟨e,hget,hg⟩
                    obtain⟨pv,p1,p2⟩:=wm hX S1.heap S1.gs VR (λi sv h=>qx i sv (hlk i sv h)) hcur hv (zn hps hg);have hE0:EvR X E n (nmh s.h) (cut s'.t rs) (gN (std n) (λi=>if rs.contains i then dL (std n) s.t i else none) (fC (std n) gs (some t))):=hev S1 (oD S1.gs hcur (f:=gs.length+1));refine hT hg _ _ (p2 _ (go (s2:={s with gs:=gs}) (S1.put (tag:=some t) ⟨e,hget,λ_=>⟨pv,rfl,p1⟩,λh=>by rw [hg]at h;cases h⟩) (λ_=> .refl _ _) rfl (by
                      rw [Ig];refine HH.push hnew hns (λh'' hh=> ?_);rw [rE hguard hgs,stable hX hE0 hh (λhL=>(yj hv hL).1)];exact hT hg _ _ (p2 _ rfl)) hk))
                  | false=>
                    exact hF hg _ _ (go (s2:={s with gs:=gs}) (S1.put (tag:=some t) ⟨e,hget,λh=>(by rw [hg]at h;cases h),λ_=>rfl⟩) (λ_=> .refl _ _) rfl (by
                      rw [Ig];refine HH.push hnew hns (λh'' hh=> ?_);rw [rE hguard hgs];exact hF hg _ _ rfl) hk)
                · (subst hM;exact hk.elim)
              · (subst hM;exact hk.elim)
            · (subst hM;exact hk.elim)
        · rename_i hkind;rw [hkind];split at hM
          · rename_i ps v hv;subst hM;obtain⟨hps,hk⟩:=gy hk;obtain⟨pv,p1,p2⟩:=map_ok hX (ops:=ops) (hev S (al:=[]) (λt h=>by simp at h)) hv;simp only;exact p2 _ (go (s2:=s) (S.put (tag:=none) ⟨pv,rfl,p1⟩) (λ_=> .refl _ _) rfl (by rw [Ig];exact HH) hk)
          · rename_i hv;subst hM;have p2:=map_ok hX (ops:=ops) (hev S (al:=[]) (λt h=>by simp at h)) hv;simp only;refine p2 _ ?_;have e1:=anz (n:=n) (s:=s) (d:=o.dst);exact Ie hX (rest:=rest) S.del (λk=>by rw [e1.1];exact hK0 k) (by rw [e1.2,hm0]) (by rw [e1.1,Ig];exact HH) hk
          · (subst hM;exact hk.elim)
        · rename_i hkind;rw [hkind];split at hM
          · rename_i hr hv;subst hM;obtain⟨hps,hk⟩:=gy hk;have he0:EvR X E n (nmh s.h) [] (λ_=>none):=λi v h=>by cases h
            obtain⟨pv,h'',j,q1,q2,q3,q4,q5⟩:=Ib hX S.heap S.len he0 hv hps;simp only;have S2:=S.yh q3.same q2 q4;have htd:hr.touched=[]:=by
              unfold kindOf at hkind;split at hkind
              · rename_i ty hop;rw [hop]at hv;simp only [D9]at hv;split at hv
                · split at hv
                  · split at hv<;>(cases hv;rfl)
                  · cases hv;rfl
                  · cases hv
                · cases hv
              all_goals first | cases hkind | (split at hkind<;>cases hkind)
            have HI2:=HH.turn q3;rw [htd,zo]at HI2;exact q5 _ (go (s2:={s with h:=hr.h}) (S2.put (tag:=none) ⟨pv,rfl,q1⟩) q3.KF rfl (by cases o.dst<;>exact HI2) hk)
          · (subst hM;exact hk.elim)
        · rename_i hk0 hk1 hk2;split at hM
          · rename_i hguard;split at hM
            · rename_i cr hcr;split at hM
              · rename_i hcs;subst hM;obtain⟨hps,hk⟩:=gy hk;obtain⟨v,k,hvk,hk⟩:=AZ hk;obtain⟨v',k',e1,_,e3⟩:=AY hX S.heap S.len (hev S (al:=[]) (λt h=>by simp at h)) hcr hps ⟨v,k,hvk⟩;rw [hvk]at e1;cases e1;split
                · rename_i h;exact absurd h hk0
                · rename_i h;exact absurd h hk1
                · rename_i h;exact absurd h hk2
                · rw [hguard];refine e3 _ λpv h'' j a1 a2 a3 a4=>⟨Db HH a3 hcs,?_⟩
                  have S2:=S.yh a3.same a2 a4;exact go (s2:={s with h:=k}) (S2.put (tag:=none) ⟨pv,rfl,a1⟩) a3.KF rfl (by cases o.dst<;>exact HH.turn a3) hk
              · (subst hM;exact hk.elim)
            · (subst hM;exact hk.elim)
          · rename_i j want hguard;split at hM
            · rename_i d hgs;have hgm:=λhb=>Ep S (lk:=λi=>if rs.contains i then dL (std n) s.t i else none) hlk (tt:=cut s'.t rs) (d:=d) (want:=want) (VR d) rfl hb
              have goal:kV (aW (cut s'.t rs) d) want
                  (TJ E (kD C) o (cut s'.t rs) s' λv h k=>Mc E ops h hs' cs/\fG E (kD C) ops rest hs' (λs1'=>∃s1,SR s1' s1/\(∀k,Keep k h0 s1.h)/\s1.m=m0/\K s1 r) (St.put {s' with h:=h,k:=k} o.dst (some v)))
                  (fG E (kD C) ops rest hs' (λs1'=>∃s1,SR s1' s1/\(∀k,Keep k h0 s1.h)/\s1.m=m0/\K s1 r) (s'.put o.dst (some nO))):=by
                split at hM
                · rename_i hr;rw [hr]at hgm;subst hM;cases hgm (by simp)with | skip h=>
                  exact h _ _ (go (s2:=s) (S.put (tag:=none) ⟨nO,rfl,VP⟩) (λ_=> .refl _ _) rfl (by rw [Ig];exact HH) hk)
                · rename_i gs t g hr;rw [hr]at hgm;cases hgm (by simp)with | run S1 hget hg qx hT hF=>
                  rename_i e;subst hg;have hcur:e.g=true->∀t0,some t=some t0->∃e,gs[t0]? =some e/\e.g=true:=λh t0 ht=>by cases ht;exact⟨e,hget,h⟩
                  split at hM
                  · rename_i cr hcr;split at hM
                    · rename_i hcs;split at hM
                      · rename_i hpure;subst hM;obtain⟨hps,hk⟩:=gy hk;obtain⟨v,k,hvk,hk⟩:=AZ hk;cases hg:e.g with
                        | true=>
                          obtain⟨v',k',e1,e2,e3⟩:=AY hX S1.heap S1.len (hev S1 (oD S1.gs (hcur hg) (f:=gs.length+1))) hcr (zn hps hg) ⟨v,k,hvk⟩;rw [hvk]at e1;cases e1;obtain⟨rfl,htd⟩:=e2 hpure;refine hT hg _ _ (e3 _ λpv h'' j a1 a2 a3 a4=>⟨Db HH a3 hcs,?_⟩);have S2:=S1.yh (Same.refl _) a2 a4;have HI2:=HH.turn a3;rw [htd,zo]at HI2;exact go (s2:={s with gs:=gs}) (S2.put (tag:=some t) ⟨e,hget,λ_=>⟨pv,rfl,a1⟩,λh=>by rw [hg]at h;cases h⟩) (λ_=> .refl _ _) rfl (by cases o.dst<;>exact HI2) hk
                        | false=>
                          exact hF hg _ _ (go (s2:={s with gs:=gs}) (S1.put (tag:=some t) ⟨e,hget,λh=>(by rw [hg]at h;cases h),λ_=>rfl⟩) (λ_=> .refl _ _) rfl (by rw [Ig];exact HH) hk)
                      · subst hM;obtain⟨hkT,hkF⟩:(e.g=true->gP (std n) cr.ck (rX (std n) cr λv h=>iO (std n) X C ops rest (mW hs cr.touched) K (RSt.put (std n) {s with h:=h,gs:=gs} o.dst none v)) r)/\(e.g=false->iO (std n) X C ops rest hs K (RSt.put (std n) {s with gs:=za (std n) gs t} o.dst none (.tup [])) r):=hk;cases hg:e.g with
                        | true=>
                          obtain⟨hps,hk⟩:=gy (hkT hg);obtain⟨v,k,hvk,hk⟩:=AZ hk;obtain⟨v',k',e1,e2,e3⟩:=AY hX S1.heap S1.len (hev S1 (oD S1.gs (hcur hg) (f:=gs.length+1))) hcr hps ⟨v,k,hvk⟩;rw [hvk]at e1;cases e1;refine hT hg _ _ (e3 _ λpv h'' j a1 a2 a3 a4=>⟨Db HH a3 hcs,?_⟩);have S2:=S1.yh a3.same a2 a4;exact go (s2:={s with h:=k,gs:=gs}) (S2.put (tag:=none) ⟨pv,rfl,a1⟩) a3.KF rfl (by cases o.dst<;>exact HH.turn a3) hk
                        | false=>
                          have hk:=hkF hg;have S2:=S1.kill hget hg;exact hF hg _ _ (go (s2:={s with gs:=za (std n) gs t}) (S2.put (tag:=none) ⟨nO,rfl,VP⟩) (λ_=> .refl _ _) rfl (by rw [Ig];exact HH) hk)
                    · (subst hM;exact hk.elim)
                  · (subst hM;exact hk.elim)
                · (subst hM;exact hk.elim)
              split
              · rename_i h;exact absurd h hk0
              · rename_i h;exact absurd h hk1
              · rename_i h;exact absurd h hk2
              · rw [hguard];simp only;rw [hgs];exact goal
            · (subst hM;exact hk.elim)
      · (subst hM;exact hk.elim)
end
end Go.TX
namespace Go.TX
open Go Go.AE
variable [aB]
section
variable {n:Nat}
theorem Gm{s:RSt (std n)}:∀ {l:List (Nat×SkV)} {e0 e:ES (std n)},uG (std n) s.t s.h l e0=some e->
  ∃vs,F2 (λi v=>dL (std n) s.t i=some ⟨none,v⟩) (l.map (·.1)) vs/\oq (std n) s.h (l.map (·.2)) vs e0=some e
 | [],e0,e,h=>by simp only [uG,Option.some.injEq]at h;subst h;exact⟨[],.nil,rfl⟩
 | p::l,e0,e,h=>by
  simp only [uG]at h;split at h
  .rename_i v hl;split at h
   .rename_i e1 h1;obtain⟨vs,q1,q2⟩:=Gm (l:=l) h;exact⟨v::vs,.cons hl q1,by grind [oq]⟩
   .cases h
  .cases h
theorem Ih{k:Nat}{os:List SkO}{i:Nat}(hi:i<k)(hik:i<os.length):(es0 (std n) k os).ren[i]? =some (if q9 os[i]? then none else some (some i)):=by
 have hb:Nat.blt i k=true:=by simpa using hi
 grind [es0,List.getElem?_range,q9]
theorem Ii(k:Nat)(os:List SkO):(es0 (std n) k os).ren.length=os.length:=by simp [es0]
theorem Ij{c:Ctx}{w:World}{N:NM}{us:List Value}{vs:List SVal}(h:F2 (WV c w N) us vs):∃pvs,F2 (bF c w) us pvs/\F2 (PVR N) pvs vs:=by
 induction h with
 | nil=>exact⟨[],.nil,.nil⟩
 | cons h1 _ ih=>
  obtain⟨p,a,b⟩:=h1;obtain⟨pvs,q1,q2⟩:=ih;exact⟨p::pvs,.cons a q1,.cons b q2⟩
theorem Eu{N:NM}:∀ {ids:List Nat} {vs:List SVal} {pvs:List PV},F2 (PVR N) pvs vs->∀i sv,dL (std n) (ids.zip (vs.map λv=>(⟨none,v⟩:SV (std n)))) i=some sv->sv.tag=none/\∃pv,aW (ids.zip (pvs.map some)) i=some pv/\PVR N pv sv.v
 | [],vs,pvs,_,i,sv,h=>by simp [dL]at h
 | j::ids,[],pvs,hF,i,sv,h=>by simp [dL]at h
 | j::ids,v::vs,pvs,hF,i,sv,h=>by
  cases hF with | cons h1 h2=>
  simp only [List.map_cons,List.zip_cons_cons,ni]at h ⊢;simp only [aW];split at h
  .grind
  .rename_i e;rw [if_neg e];exact Eu h2 i sv h
theorem Ew{c:Ctx}{w:World}{a:Act}:∀ {ids:List Nat} {us:List Value} {pvs:List PV},F2 (bF c w) us pvs->F2 (λi u=>a.tmps[i]? =some u) ids us->∀i v,aW (ids.zip (pvs.map some)) i=some v->∃u,a.tmps[i]? =some u/\bF c w u v
 | [],us,pvs,_,_,i,v,h=>by simp [aW]at h
 | j::ids,us,pvs,hF,hI,i,v,h=>by
  cases hI with | cons h3 h4=>
  cases hF with | cons h1 h2=>
  simp only [List.map_cons,List.zip_cons_cons,aW]at h;split at h
  .simp_all
  .exact Ew h2 h4 i v h
theorem Ey{E:Tab}{s':St}{s:RSt (std n)}(S:SR s' s){c:Ctx}{w:World}{a:Act}(A:jC E s' c w a):∀ {ids:List Nat} {vs:List SVal},F2 (λi v=>dL (std n) s.t i=some ⟨none,v⟩) ids vs->∃us,F2 (λi u=>a.tmps[i]? =some u) ids us/\F2 (WV c w (nmh s.h)) us vs
 | [],_,h=>by cases h;exact⟨[],.nil,.nil⟩
 | i::ids,_,.cons h1 h2=>by
  obtain⟨us,q1,q2⟩:=Ey S A h2;obtain⟨pv,p1,p2⟩:=S.val i _ h1;obtain⟨u,hu,hr⟩:=A.abs.slot i pv p1;exact⟨u::us,.cons hu q1,.cons ⟨pv,hr,p2⟩ q2⟩
def νX(e:ES (std n))(h:List aK)(c:Ctx)(i:Nat):Option (Nat×Nat):=match e.ren[i]? with | some (some (some l))=>Em (trK e h i l) (c.ν l) | some (some none)=>none | _=>c.ν i
theorem KL(w:World)(K:Bool->Nat->Prop)(ν:Nat->Option (Nat×Nat))(k:Nat)(hlow:∀f b,K f b->b<w.heap.size)(hsub:∀b,K true b->K false b):bI {K:=K,ν:=ν,n:=k} w []:=
 ⟨λl o h=>by simp [AE.look]at h,λl o l' o' b h=>by simp [AE.look]at h,λf b ⟨l,o,hl,_⟩=>by simp [AE.look]at hl,hlow,hsub⟩
theorem Ik{E:Tab}{k:Nat}{sk:jY}{s:RSt (std n)}{ck:List Bool}{x:iE sk.tys}(hx:Ec (std n) k sk s=some (ck,x))(hck:∀b∈ck,b=true){s':St}(S:SR s' s){c:Ctx}{w:World}{a:Act}(A:jC E s' c w a)
  {c0:Ctx} {w0:World} {h0:Heap} (hc0:c0.n=k) (g:Grow c0 w0 h0 c w s'.h) {m:Nat} (hm:s.m=m):
  ∃c2 s2',Grow c0 w0 h0 c2 w s2'.h/\jC E s2' c2 w a/\SR s2' (rY (std n) sk m x)/\Keep k s.h (rY (std n) sk m x).h/\(rY (std n) sk m x).m=m:=by
 unfold Ec at hx;split at hx
 .cases hx
 rename_i hkl;have hkl:k<=sk.objs.length:=by simp_all
 split at hx
 .rename_i e1 he1;split at hx
  .rename_i e he;split at hx
   .rename_i jg;split at hx
    .rename_i x' hx';cases hx;have jg:=Ic jg;obtain⟨vs,v1,v2⟩:=Gm he1;obtain⟨us,u1,u2⟩:=Ey S A v1;obtain⟨new1,vs2,a1,a2,a3,a4⟩:=uK (λi=>i) v2;obtain⟨new2,os2,b1,b2,b3,b4,b5⟩:=qo (λi=>i) (λ_=>(.gone .i64 0:aK)) (λ_=>⟨.i64,0,rfl⟩) he;have hlv:e.lv.reverse=new1++new2:=by grind [es0]
     have hun:=unpack_pack hx';rw [hlv]at hun;have hrl:e.ren.length=sk.objs.length:=by rw [b2.len,a2.len,Ii]
     have hof:∀(j:Nat) (kk:SkO),sk.objs[j]? =some kk->∃o2,os2[j]? =some o2/\OF e s.h (λi=>i) j kk (.gone .i64 0) o2:=λj kk hj=>by
      obtain⟨o2,q1,q2⟩:=b5 e (.refl _) j kk hj;simp_all
     have BP:rY (std n) sk m x={t:=(sk.slots.map (·.1)).zip (vs2.map λv=>(⟨none,v⟩:SV (std n))),gs:=[],h:=os2,m:=m}:=by
      unfold rY;rw [hun,a3];simp only;have:=b3 [];simp_all
     have H:=A.abs.heap
     obtain⟨o',m1,m2,m3,m4,m5,_⟩:=yg (ks:=sk.objs) (nm:=λi=>i) (old:=λ_=>(.gone .i64 0:aK)) H S.heap hck jg hrl b4 hof (cb:={K:=λ_ _=>False,ν:=νX e s.h c,n:=k}) (hb':=[])
      (KL w _ _ _ (λ_ _ h=>h.elim) (λ_ h=>h)) false (λh=>by cases h) (ν2:=νX e s.h c) (n2:=sk.objs.length) hkl (λ_ _=>rfl) (λi hi=>hi) (λi j _ _ h=>h)
      (λi l hi=>by grind [νX]) (λi hi=>by grind [νX]) (h2:=os2) (λi _=>rfl)
      (λl o hl ho=>by grind) (λ_ _=>rfl)
      (λb ⟨l,o,hl,_⟩ _=>by simp [AE.look]at hl) (λf b h _=>h) (λf b ⟨l,o,hl,_⟩ _=>by simp [AE.look]at hl)
     have hmu:∀l,l<k->νX e s.h c l=c.ν l:=λl hl=>by
      have h0:=Ih (n:=n) hl (Nat.lt_of_lt_of_le hl hkl) (os:=sk.objs);unfold νX;by_cases hg:q9 sk.objs[l]? =true
      .have hgo:sk.objs[l]? =some .gone:=by grind [q9]
       cases hr:e.ren[l]? with
       | none=>rfl
       | some q=>
        cases q with
        | none=>rfl
        | some v=>exact absurd hgo (jg.gone hr)
      .rw [if_neg hg]at h0;have:=b2.ren l _ (a2.ren l _ h0);rw [this];have ht:jk (std n) e l=none:=by rw [b2.tr l _ (a2.ren l _ h0),a2.tr l _ h0];rfl
       show Em (trK e s.h l l) (c.ν l)=c.ν l;rw [mZ ht,jR]
     have hgr:Grow c0 w0 h0 {K:=λf b=>False\/KX e c false f b,ν:=νX e s.h c,n:=sk.objs.length} w (su (λi=>i) o' (List.range sk.objs.length) []):=by
      refine⟨⟨λf b hb=> .inr (.inl (by simpa using g.le.K f b hb)),by simp_all,λl hl=> ?_⟩,g.size,g.stays,g.kept,λf b hb=> ?_,λb hb=> ?_,g.os,g.tape,g.output⟩
      .show νX e s.h c l=c0.ν l;rw [hmu l ah];exact g.le.ν l hl
      .rcases hb with hb | hb | ⟨l,f',q1,q2,q3⟩
       .exact hb.elim
       .exact g.wH f b (by simpa using hb)
       .obtain⟨_,g',cc,xs,hl⟩:=jg.fro l f' q1;obtain⟨o2,ho2,hO⟩:=S.heap.old l _ hl;cases hO with | rows _=>
        exact .inr ((g.oZ b ⟨l,_,ho2,trivial,q2⟩).elim .inr .inl)
      .rcases m4 b hb with⟨l,o,hl,_⟩ | ⟨i,lq,q,_,q1,q2,q3⟩
       .simp [AE.look]at hl
       .exact g.oZ b ⟨lq,q,q1,q2,q3⟩
     obtain⟨pvs,p1,p2⟩:=Ij (a4 H S.heap (b2) hck m3 (λh=>by cases h) u2);refine⟨_,{t:=(sk.slots.map (·.1)).zip (pvs.map some),h:=su (λi=>i) o' (List.range sk.objs.length) [],n:=sk.objs.length,k:=0,m:=m},hgr,⟨⟨λi v hv=>Ew p1 u1 i v hv,m1,?_⟩,rfl,A.defers,by rw [A.size,S.m,hm]⟩,?_,?_,by rw [BP]⟩
     .intro gg d hd;obtain⟨q1,u,q2,q3⟩:=A.abs.glob gg d hd;exact⟨.inr (.inl (by simpa using q1)),u,q2,q3.mono' λb hb=> .inr (.inl (by simpa using hb))⟩
     .rw [BP];refine⟨m2,by simp [nm,b4],rfl,λi sv hi=> ?_,λt e he=>by simp at he⟩
      grind [Eu,zl]
     .rw [BP];intro i hi;have hik:i<sk.objs.length:=Nat.lt_of_lt_of_le hi hkl;have hsk:sk.objs[i]? =some sk.objs[i]:=List.getElem?_eq_getElem hik;obtain⟨o2,q1,q2⟩:=hof i _ hsk;have h0:=Ih (n:=n) hi hik;by_cases hg:sk.objs[i]= .gone
      .have:Gone os2 i:=⟨.i64,0,by rw [q1,q2.gone hg]⟩;simp_all
      .have hig:q9 sk.objs[i]? =false:=by grind [q9,absurd,Option.some.inj]
       rw [hig]at h0;have h0:(es0 (std n) k sk.objs).ren[i]? =some (some (some i)):=by simpa using h0
       have hre:=b2.ren i _ (a2.ren i _ h0);have htr:jk (std n) e i=none:=by rw [b2.tr i _ (a2.ren i _ h0),a2.tr i _ h0];rfl
       refine⟨λ⟨cc,nn,hgo⟩=> ?_,λx hx=> .inr ?_⟩
       .obtain⟨oo,r1,r2,r3,r4⟩:=q2.rel H S.heap hck m3 (λh=>by cases h);obtain⟨o3,h3,h4⟩:=r4 i hg hre;obtain⟨o4,h5,h6⟩:=S.heap.old i _ hgo;rw [h3]at h5;cases h5;cases h6;exact h4.elim
       .have:=q2.s1 i x.1 x.2 hg hre (by rw [hx])
        grind [nmh]
    .cases hx
   .cases hx
  .cases hx
 .cases hx
end
end Go.TX
namespace Go.TX
open Go Go.AE
variable [aB]
section
variable {n:Nat}
def LX(E:Tab)(c0:Ctx)(w0:World)(h0:Heap)(k:Nat)(H0:List aK)(m0:Nat){ρ:Type}(K:Exit->RSt (std n)->(ρ->Prop)->Prop)(r:ρ->Prop):Exit->Act->World->Prop
 | .outgrown,_,_=>False
 | .panic _,_,_=>False
 | .goto _,_,_=>False
 | e,a,w=>∃c s' s,Grow c0 w0 h0 c w s'.h/\jC E s' c w a/\SR s' s/\Keep k H0 s.h/\s.m=m0/\K e s r
theorem ML{E:Tab}{c0:Ctx}{w0:World}{h0:Heap}{k:Nat}{H0:List aK}{m0:Nat}(hc0:c0.n=k){code:Code}{a:Act}{w:World}{sk:jY}{pl:Bool}{s:RSt (std n)}(hs:s.m=m0){ρ:Type}{K:Exit->RSt (std n)->(ρ->Prop)->Prop}{r:ρ->Prop}
  {W: {σ:Type}->(Exit->RSt (std n)->(σ->Prop)->Prop)->(σ->Prop)->Prop} (hW:∀ {σ:Type} {K':Exit->RSt (std n)->(σ->Prop)->Prop} {r':σ->Prop},W K' r'->code.wp E.P (LX E c0 w0 h0 k H0 m0 K' r') a w)
  (h:Mx (std n) k sk pl s K W r):code.wp E.P (LX E c0 w0 h0 k H0 m0 K r) a w:=by
 have step:∀ {t:iE sk.tys} {s1:RSt (std n)} {ck:List Bool},Ec (std n) k sk s1=some (ck,t)->(∀b∈ck,b=true)->K .normal (rY (std n) sk s.m t) r->∀ {c s' a w},Grow c0 w0 h0 c w s'.h->jC E s' c w a->SR s' s1->Keep k H0 s1.h->s1.m=m0->LX E c0 w0 h0 k H0 m0 K r .normal a w:=by
  intro t s1 ck h1 h2 h3 c s' a w g A S hK hm;obtain⟨c2,s2',g2,A2,S2,K2,hm2⟩:=Ik h1 h2 S A hc0 g hm;rw [hs]at h3;exact⟨c2,s2',_,g2,A2,S2,hK.trans K2,hm2,h3⟩
 unfold Mx at h;split at h
 .refine wp_mono (hW h) ?_;intro e a' w' he;cases e with
  | outgrown=>exact he.elim
  | panic _=>exact he
  | goto _=>exact he
  | normal=>
   obtain⟨c,s',s1,a1,a2,a3,a4,a5,a6⟩:=he;simp only at a6;rcases hx:Ec (std n) k sk s1 with _ | ⟨ck,t'⟩
   .rw [hx]at a6;exact a6.elim
   .rw [hx]at a6;obtain⟨q1,q2⟩:=gy a6;exact step hx q1 q2 a1 a2 a3 a4 a5
  | ret=>obtain⟨c,s',s1,a1,a2,a3,a4,a5,a6⟩:=he;exact a6.elim
  | exit i=>obtain⟨c,s',s1,a1,a2,a3,a4,a5,a6⟩:=he;exact a6.elim
 .refine wp_mono (hW h) ?_;intro e a' w' he;cases e with
  | outgrown=>exact he.elim
  | panic _=>exact he
  | goto _=>exact he
  | normal=>
   obtain⟨c,s',s1,a1,a2,a3,a4,a5,a6⟩:=he;simp only at a6;rcases hx:Ec (std n) k sk s1 with _ | ⟨ck,t'⟩
   .rw [hx]at a6;exact a6.elim
   .rw [hx]at a6;obtain⟨q1,q2⟩:=gy a6;exact step hx q1 q2 a1 a2 a3 a4 a5
  | ret=>obtain⟨c,s',s1,a1,a2,a3,a4,a5,a6⟩:=he;exact⟨c,s',s1,a1,a2,a3,a4,a5,a6⟩
  | exit i=>obtain⟨c,s',s1,a1,a2,a3,a4,a5,a6⟩:=he;exact⟨c,s',s1,a1,a2,a3,a4,a5,a6⟩
section
variable {X:XT} {E:Tab} (hE:aF E) (hX:XOK X E) {C:Calls aD} (hG:o9 E (kD C)) (hm:E.P.follows .mixedOrders=true) {ord:Nat->List fO} {chk:Nat->Array Oper->Nat->Bool} (KM:∀id ops m,chk id ops m=true->Static E ord id ops m)
 {c0:Ctx} {w0:World} {h0:Heap} {k:Nat} {H0:List aK} {m0:Nat} (hc0:c0.n=k)
include hE hX hG hm KM
theorem ahu{id:Nat}{ops:Array Oper}{draw:Bool}{s:RSt (std n)}{ρ:Type}{K:Exit->RSt (std n)->(ρ->Prop)->Prop}{r:ρ->Prop}
  (h:(if draw then(if chk id ops s.m then iO (std n) X C ops.toList (ord id) [] (λs=>K .normal s) s else(std n).fail)else fH (std n) X C ops.toList ops.toList (λs=>K .normal s) s:(std n).M ρ) r)
  {s':St} {c:Ctx} {w:World} {a:Act} (A:jC E s' c w a) (g:Grow c0 w0 h0 c w s'.h) (S:SR s' s) (hK:Keep k H0 s.h) (hs:s.m=m0):(Code.region id ops draw).wp E.P (LX E c0 w0 h0 k H0 m0 K r) a w:=by
 have fin:∀ {e:Exit} {a:Act} {w:World},wN E c0 w0 h0 (λe s1'=>e= .normal/\∃s1,SR s1' s1/\(∀k,Keep k s.h s1.h)/\s1.m=m0/\K .normal s1 r) e a w->LX E c0 w0 h0 k H0 m0 K r e a w:=by
  intro e a w he;cases e with
  | outgrown=>exact he.elim
  | panic _=>exact he
  | goto _=>exact he
  | normal=>obtain⟨c,s1',a1,a2,_,s1,a3,a4,a5,a6⟩:=he;exact⟨c,s1',s1,a1,a2,a3,hK.trans (a4 k),a5,a6⟩
  | ret=>obtain⟨c,s1',a1,a2,q,_⟩:=he;cases q
  | exit i=>obtain⟨c,s1',a1,a2,q,_⟩:=he;cases q
 split at h
 .rename_i hd;subst hd;split at h
  .rename_i hc;have hst:=KM _ _ _ hc;have hr:=Ie hX (h0:=s.h) (m0:=m0) (hs':=[]) S (λ_=> .refl _ _) hs (λp hp=>by simp at hp) h;refine wp_mono (ahd hE hG hm ord id ops (λe s1'=>e= .normal/\∃s1,SR s1' s1/\(∀k,Keep k s.h s1.h)/\s1.m=m0/\K .normal s1 r) s' c0 w0 h0 c w a A g ⟨by rw [S.m];exact hst,?_⟩) λe a w=>fin
   simpa using hr
  .exact h.elim
 .rename_i hd;have:draw=false:=by simpa using hd
  subst this;have hr:=Gh hX (h0:=s.h) (m0:=m0) S (λ_=> .refl _ _) hs h;refine wp_mono (wp_region_list (yR hE hG (Q:=λe s1'=>e= .normal/\∃s1,SR s1' s1/\(∀k,Keep k s.h s1.h)/\s1.m=m0/\K .normal s1 r) ops ops.toList A g ?_)) λe a w=>fin
  simpa using hr
end
end
end Go.TX
namespace Go.TX
open Go Go.AE
variable [aB]
section
variable {n:Nat}
variable {X:XT} {E:Tab} (hE:aF E) (hX:XOK X E) {C:Calls aD} (hG:o9 E (kD C)) (hm:E.P.follows .mixedOrders=true) {ord:Nat->List fO} {chk:Nat->Array Oper->Nat->Bool} (KM:∀id ops m,chk id ops m=true->Static E ord id ops m)
 {c0:Ctx} {w0:World} {h0:Heap} {k:Nat} {H0:List aK} {m0:Nat} (hc0:c0.n=k)
include hE hX hG hm KM hc0
theorem oF:∀(code:Code) {ρ:Type} {an:Ann} {s:RSt (std n)} {K:Exit->RSt (std n)->(ρ->Prop)->Prop} {r:ρ->Prop},bL (std n) X C ord chk k an code s K r->∀ {s':St} {c:Ctx} {w:World} {a:Act},jC E s' c w a->Grow c0 w0 h0 c w s'.h->SR s' s->Keep k H0 s.h->s.m=m0->
  code.wp E.P (LX E c0 w0 h0 k H0 m0 K r) a w
 | .skip,ρ,an,s,K,r,h,s',c,w,a,A,g,S,hK,hs=>by
  have h:K .normal s r:=by cases an<;>exact h
  exact wp_skip ⟨c,s',s,g,A,S,hK,hs,h⟩
 | .region id ops draw,ρ,an,s,K,r,h,s',c,w,a,A,g,S,hK,hs=>by
  have base:∀ {σ:Type} {K':Exit->RSt (std n)->(σ->Prop)->Prop} {r':σ->Prop},(if draw then(if chk id ops s.m then iO (std n) X C ops.toList (ord id) [] (λs=>K' .normal s) s else(std n).fail)else fH (std n) X C ops.toList ops.toList (λs=>K' .normal s) s:(std n).M σ) r'->
    (Code.region id ops draw).wp E.P (LX E c0 w0 h0 k H0 m0 K' r') a w:=λh=>ahu hE hX hG hm KM h A g S hK hs
  generalize hM:bL (std n) X C ord chk k an (.region id ops draw) s K=M at h;simp only [bL]at hM;split at hM
  .subst hM;exact ML hc0 hs base h
  .subst hM;exact base h
 | .seq x y,ρ,an,s,K,r,h,s',c,w,a,A,g,S,hK,hs=>by
  have main:∀(a1 a2:Ann) (K1:Exit->RSt (std n)->(ρ->Prop)->Prop),(∀s',K1 .normal s'=bL (std n) X C ord chk k a2 y s' K)->(∀s',K1 .ret s'=K .ret s')->(∀i s',K1 (.exit i) s'=K (.exit i) s')->bL (std n) X C ord chk k a1 x s K1 r->
    (Code.seq x y).wp E.P (LX E c0 w0 h0 k H0 m0 K r) a w:=by
   intro a1 a2 K1 e1 e2 e3 h;refine wp_seq (wp_mono (oF x h A g S hK hs) ?_);intro e a' w' he;cases e with
   | outgrown=>exact he.elim
   | panic _=>exact he
   | goto _=>exact he
   | normal=>obtain⟨c,s',s1,b1,b2,b3,b4,b5,b6⟩:=he;rw [e1]at b6;exact oF y b6 b2 b1 b3 b4 b5
   | ret=>obtain⟨c,s',s1,b1,b2,b3,b4,b5,b6⟩:=he;rw [e2]at b6;exact⟨c,s',s1,b1,b2,b3,b4,b5,b6⟩
   | exit i=>obtain⟨c,s',s1,b1,b2,b3,b4,b5,b6⟩:=he;rw [e3]at b6;exact⟨c,s',s1,b1,b2,b3,b4,b5,b6⟩
  cases an with
  | seq a1 a2=>rw [bL]at h;refine main a1 a2 _ ?_ ?_ ?_ h<;>intros<;>rfl
  | u=>rw [bL]at h;refine main .u .u _ ?_ ?_ ?_ h<;>intros<;>rfl
  | _=>simp [bL]at h
 | .cond cd x y,ρ,an,s,K,r,h,s',c,w,a,A,g,S,hK,hs=>by
  have he:EvR X E n (nmh s.h) s'.t (gN (std n) (dL (std n) s.t) []):=qw (λ_ _=>rfl) S.val (λt h=>by simp at h);generalize hM:bL (std n) X C ord chk k an (.cond cd x y) s K=M at h;simp only [bL]at hM;split at hM
  .rename_i f b hb;obtain⟨pv,p1,p2⟩:=dM hX he hb;obtain⟨gf,rfl⟩:=p2.bool;have hbv:=j4 (JF A.abs p1);have main:∀(a1 a2:Ann) {σ:Type} {K':Exit->RSt (std n)->(σ->Prop)->Prop} {r':σ->Prop},((b=true->bL (std n) X C ord chk k a1 x s K' r')/\(b=false->bL (std n) X C ord chk k a2 y s K' r'))->(Code.cond cd x y).wp E.P (LX E c0 w0 h0 k H0 m0 K' r') a w:=by
    intro a1 a2 σ K' r' h;refine wp_cond hbv ?_;obtain⟨b,rfl⟩:∃b':Bool,b'=b:=⟨b,rfl⟩;cases b with
    | true=>exact oF x (h.1 rfl) A g S hK hs
    | false=>exact oF y (h.2 rfl) A g S hK hs
   split at hM
   .subst hM;exact main _ _ h
   .subst hM;exact main _ _ h
   .rename_i sk a1 a2;subst hM;exact ML hc0 hs (λ{σ K' r'} h=>main a1 a2 h) h
   .subst hM;exact h.elim
  .subst hM;exact h.elim
 | .block id b,ρ,an,s,K,r,h,s',c,w,a,A,g,S,hK,hs=>by
  have main:∀(a1:Ann) {σ:Type} {K':Exit->RSt (std n)->(σ->Prop)->Prop} {r':σ->Prop} (K1:Exit->RSt (std n)->(σ->Prop)->Prop),(∀s',K1 .normal s'=K' .normal s')->(∀s',K1 .ret s'=K' .ret s')->(∀i s',K1 (.exit i) s'=if i==id then K' .normal s' else K' (.exit i) s')->
    bL (std n) X C ord chk k a1 b s K1 r'->(Code.block id b).wp E.P (LX E c0 w0 h0 k H0 m0 K' r') a w:=by
   intro a1 σ K' r' K1 e1 e2 e3 h;refine wp_block (wp_mono (oF b h A g S hK hs) ?_);intro e a' w' he;cases e with
   | outgrown=>exact he.elim
   | panic _=>exact he
   | goto _=>exact he
   | normal=>obtain⟨c,s',s1,b1,b2,b3,b4,b5,b6⟩:=he;rw [e1]at b6;exact⟨c,s',s1,b1,b2,b3,b4,b5,b6⟩
   | ret=>obtain⟨c,s',s1,b1,b2,b3,b4,b5,b6⟩:=he;rw [e2]at b6;exact⟨c,s',s1,b1,b2,b3,b4,b5,b6⟩
   | exit i=>
    obtain⟨c,s',s1,b1,b2,b3,b4,b5,b6⟩:=he;rw [e3]at b6;simp only [Exit.inBlock];simp only [beq_iff_eq]at b6;split
    .rename_i e;rw [if_pos e]at b6;exact⟨c,s',s1,b1,b2,b3,b4,b5,b6⟩
    .rename_i e;rw [if_neg e]at b6;exact⟨c,s',s1,b1,b2,b3,b4,b5,b6⟩
  generalize hM:bL (std n) X C ord chk k an (.block id b) s K=M at h;simp only [bL]at hM;split at hM
  .subst hM;refine main _ _ ?_ ?_ ?_ h<;>intros<;>rfl
  .subst hM;refine main _ _ ?_ ?_ ?_ h<;>intros<;>rfl
  .rename_i sk a1;subst hM;exact ML hc0 hs (λ{σ K' r'} h=>by refine main a1 _ ?_ ?_ ?_ h<;>intros<;>rfl) h
  .subst hM;exact h.elim
 | .loop b,ρ,an,s,K,r,h,s',c,w,a,A,g,S,hK,hs=>by
  cases an with
  | loop sk a1=>
   rw [bL]at h;rcases hx0:Ec (std n) k sk s with _ | ⟨ck,x0⟩
   .rw [hx0]at h;exact h.elim
   .rw [hx0]at h;obtain⟨hck,h⟩:=gy h;obtain⟨I,μ,hI0,h⟩:=h;obtain⟨c1,s1',g1,A1,S1,K1,hm1⟩:=Ik hx0 hck S A hc0 g hs;rw [hs]at h;refine wp_loop_ghost (λN a' w'=>∃c s' x,Grow c0 w0 h0 c w' s'.h/\jC E s' c w' a'/\SR s' (rY (std n) sk m0 x)/\Keep k H0 (rY (std n) sk m0 x).h/\(rY (std n) sk m0 x).m=m0/\I x/\μ x=N) (μ x0) ⟨c1,s1',x0,g1,A1,S1,hK.trans K1,hm1,hI0,rfl⟩ ?_;rintro N a' w' ⟨c2,s2',x,g2,A2,S2,K2,hm2,hi,rfl⟩;have hq:=h x hi;refine wp_mono (oF b hq A2 g2 S2 K2 hm2) ?_;intro e a3 w3 he;cases e with
    | outgrown=>exact he.elim
    | panic _=>exact he
    | goto _=>exact he
    | normal=>
     obtain⟨c4,s4',s4,b1,b2,b3,b4,b5,b6⟩:=he;simp only at b6;rcases hx4:Ec (std n) k sk s4 with _ | ⟨ck4,t4⟩
     .rw [hx4]at b6;exact b6.elim
     .rw [hx4]at b6;obtain⟨asB,b6⟩:=gy b6;obtain⟨c5,s5',g5,A5,S5,K5,hm5⟩:=Ik hx4 asB b3 b2 hc0 b1 b5;exact⟨μ t4,b6.2,c5,s5',_,g5,A5,S5,b4.trans K5,hm5,b6.1,rfl⟩
    | ret=>obtain⟨c4,s4',s4,b1,b2,b3,b4,b5,b6⟩:=he;exact⟨c4,s4',s4,b1,b2,b3,b4,b5,b6⟩
    | exit i=>obtain⟨c4,s4',s4,b1,b2,b3,b4,b5,b6⟩:=he;exact⟨c4,s4',s4,b1,b2,b3,b4,b5,b6⟩
  | _=>simp [bL]at h
 | .exit i,ρ,an,s,K,r,h,s',c,w,a,A,g,S,hK,hs=>by
  have h:K (.exit i) s r:=by cases an<;>exact h
  exact wp_exit ⟨c,s',s,g,A,S,hK,hs,h⟩
 | .ret,ρ,an,s,K,r,h,s',c,w,a,A,g,S,hK,hs=>by
  have h:K .ret s r:=by cases an<;>exact h
  exact wp_ret ⟨c,s',s,g,A,S,hK,hs,h⟩
 | .rangeFunc ..,ρ,an,s,K,r,h,_,_,_,_,_,_,_,_,_=>by cases an<;>simp [bL]at h
 | .scope _,ρ,an,s,K,r,h,_,_,_,_,_,_,_,_,_=>by cases an<;>simp [bL]at h
 | .label _,ρ,an,s,K,r,h,_,_,_,_,_,_,_,_,_=>by cases an<;>simp [bL]at h
 | .goto _,ρ,an,s,K,r,h,_,_,_,_,_,_,_,_,_=>by cases an<;>simp [bL]at h
 | .refuse _,ρ,an,s,K,r,h,_,_,_,_,_,_,_,_,_=>by cases an<;>simp [bL]at h
end
end Go.TX
namespace Go.TX
open Go Go.AE
variable [aB]
section
variable {n:Nat}
theorem iF:∀(r:List (Option (Option Nat))) (m k:Nat),(newNames r m k).length=k
 | _,_,0=>by simp [newNames]
 | [],m,k+1=>by simp [newNames,iF [] (m+1) k]
 | some (some l)::r,m,k+1=>by simp [newNames,iF r m k]
 | some none::r,m,k+1=>by simp [newNames,iF r (m+1) k]
 | none::r,m,k+1=>by simp [newNames,iF r (m+1) k]
structure VT(r:List (Option (Option Nat)))(h:List aK)(os:List aK)(nms:List Nat)(kT:List aK):Prop where
 len:h.length<=kT.length
 at_:∀(i:Nat),i<os.length->∃l,nms[i]? =some l/\kT[l]? =os[i]? /\(r[i]? =some (some (some l))\/(h.length<=l/\∀q:Nat,r[i]? ≠some (some (some q))))
 old:∀l,l<h.length->(∀i:Nat,i<os.length->r[i]? ≠some (some (some l)))->kT[l]? =h[l]?
 inj:∀(i j l:Nat),nms[i]? =some l->nms[j]? =some l->i=j
 new:∀l,h.length<=l->l<kT.length->∃i:Nat,i<os.length/\nms[i]? =some l
theorem MN:∀(os:List aK) (r:List (Option (Option Nat))) (h:List aK),(∀i l:Nat,r[i]? =some (some (some l))->i<os.length->l<h.length)->(∀i j l:Nat,r[i]? =some (some (some l))->r[j]? =some (some (some l))->i=j)->
  VT r h os (newNames r h.length os.length) (iD (std n) h (newNames r h.length os.length) os)
 | [],r,h,h1,h2=>by
  refine⟨?_,λi hi=>by simp at hi,λl _ _=> ?_,λi j l hi=>by simp [newNames]at hi,λl a b=> ?_⟩<;>simp only [List.length_nil,newNames,iD]at* <;>first | exact Nat.le_refl _ | rfl | omega
 | o::os,r,h,h1,h2=>by
  have fresh:∀r',(∀(i:Nat),r'[i]? =r[i+1]?)->(∀q:Nat,r[0]? ≠some (some (some q)))->newNames r h.length (os.length+1)=h.length::newNames r' (h.length+1) os.length->VT r h (o::os) (newNames r h.length (os.length+1)) (iD (std n) h (newNames r h.length (os.length+1)) (o::os)):=by
   intro r' hr h0 e;rw [e];have hl:(h++ [o]).length=h.length+1:=by simp
   have P:=MN os r' (h++ [o]) (λi l hi hi2=>by grind) (λi j l hi hj=>by grind);rw [hl]at P;have hput:iD (std n) h (h.length::newNames r' (h.length+1) os.length) (o::os)=iD (std n) (h++ [o]) (newNames r' (h.length+1) os.length) os:=by
    simp [iD]
   rw [hput];have hcur:(iD (std n) (h++ [o]) (newNames r' (h.length+1) os.length) os)[h.length]? =some o:=by
    rw [P.old h.length (by simp) (λi hi hh=>by grind)];simp
   refine⟨by grind,λi hi=> ?_,λl hl2 hn=> ?_,λi j l hi hj=> ?_,λl ha hb=> ?_⟩
   .cases i with
    | zero=>simp_all
    | succ i=>
     obtain⟨l,q1,q2,q3⟩:=P.at_ i (by simpa using hi)
     grind
   .rw [P.old l (by simp;omega) (λi hi hh=>hn (i+1) (by simp;omega) (by simp_all))]
    grind
   .have ne:∀(j:Nat),(newNames r' (h.length+1) os.length)[j]? =some h.length->False:=by
     intro j hj;have hj2:j<os.length:=by grind [List.getElem?_eq_some_iff,iF]
     obtain⟨l,q1,q2,q3⟩:=P.at_ j hj2
     grind
    cases i with
    | zero=>grind
    | succ i=>
     cases j with
     | zero=>simp_all
     | succ j=>rw [P.inj i j l (by simpa using hi) (by simpa using hj)]
   .by_cases e:l=h.length
    .subst e;exact⟨0,by simp,rfl⟩
    .obtain⟨i,q1,q2⟩:=P.new l (by simp;omega) hb;exact⟨i+1,by simp;omega,by simpa using q2⟩
  match r,h1,h2,fresh with
  | [],h1,h2,fresh=>exact fresh [] (λi=>by simp) (λq=>by simp) rfl
  | none::r',h1,h2,fresh=>exact fresh r' (λi=>by simp) (λq=>by simp) rfl
  | some none::r',h1,h2,fresh=>exact fresh r' (λi=>by simp) (λq=>by simp) rfl
  | some (some l0)::r',h1,h2,_=>
   have hl0:l0<h.length:=h1 0 l0 rfl (by simp);have e:newNames (some (some l0)::r') h.length (os.length+1)=l0::newNames r' h.length os.length:=rfl;show VT _ _ _ (newNames (some (some l0)::r') h.length (os.length+1)) (iD (std n) h (newNames (some (some l0)::r') h.length (os.length+1)) (o::os));rw [e];have hl:(h.set l0 o).length=h.length:=by simp
   have P:=MN os r' (h.set l0 o) (λi l hi hi2=>by rw [hl];exact h1 (i+1) l (by simpa using hi) (by simp;omega)) (λi j l hi hj=>by have:=h2 (i+1) (j+1) l (by simpa using hi) (by simpa using hj);omega);rw [hl]at P;have hput:iD (std n) h (l0::newNames r' h.length os.length) (o::os)=iD (std n) (h.set l0 o) (newNames r' h.length os.length) os:=by
    have:Nat.blt l0 h.length=true:=by simpa using hl0
    simp [iD,hl0]
   rw [hput];have hcur:(iD (std n) (h.set l0 o) (newNames r' h.length os.length) os)[l0]? =some o:=by
    rw [P.old l0 (by simpa using hl0) (λi hi hh=>by have:=h2 0 (i+1) l0 rfl (by simpa using hh);omega)];simp_all
   refine⟨by have:=P.len;omega,λi hi=> ?_,λl hl2 hn=> ?_,λi j l hi hj=> ?_,λl ha hb=> ?_⟩
   .cases i with
    | zero=>exact⟨l0,rfl,by rw [hcur];rfl,.inl rfl⟩
    | succ i=>
     obtain⟨l,q1,q2,q3⟩:=P.at_ i (by simpa using hi);refine⟨l,by simpa using q1,by rw [q2];simp,?_⟩;simp only [List.getElem?_cons_succ];rcases q3 with q3 | ⟨q3,q4⟩
     .exact .inl q3
     .exact .inr ⟨by rw [hl]at q3;exact q3,q4⟩
   .rw [P.old l ah (λi hi hh=>hn (i+1) (by simp;omega) (by simpa using hh))];have:l0≠l:=λe=>hn 0 (by simp) (by rw [e];rfl)
    exact List.getElem?_set_ne this
   .have ne:∀(j:Nat),(newNames r' h.length os.length)[j]? =some l0->False:=by
     intro j hj;have hj2:j<os.length:=by grind [List.getElem?_eq_some_iff,iF]
     obtain⟨l,q1,q2,q3⟩:=P.at_ j hj2;rw [hj]at q1;cases q1;rcases q3 with q3 | ⟨q3,q4⟩
     .have:=h2 0 (j+1) l0 rfl (by simpa using q3);omega
     omega
    cases i with
    | zero=>grind
    | succ i=>
     cases j with
     | zero=>grind
     | succ j=>rw [P.inj i j l (by simpa using hi) (by simpa using hj)]
   .obtain⟨i,q1,q2⟩:=P.new l (by rw [hl];exact ha) hb;exact⟨i+1,by simp;omega,by simpa using q2⟩
theorem Uh{nm:Nat->Nat}{k:SkV}{r r':List (LV aD)}{v:SVal}(h:y9 aD nm k r=some (v,r')):oC v=false:=by
 cases k with
 | c k=>simp only [y9]at h;split at h<;>cases h;rfl
 | agg ks=>simp only [y9]at h;split at h<;>cases h;rfl
 | sv f c=>
  unfold y9 at h;split at h<;>first | (cases h;rfl) | simp_all | cases h
theorem Ez{nm:Nat->Nat}:∀ {ks:List SkV} {r r':List (LV aD)} {vs:List SVal},ru aD nm ks r=some (vs,r')->∀v∈vs,oC v=false
 | [],r,r',vs,h=>by grind [ru,Option.some.injEq,Prod.mk.injEq]
 | k::ks,r,r',vs,h=>by
  simp only [ru]at h;split at h
  .rename_i x r1 hx;split at h
   .rename_i xs r2 hxs;cases h;intro v hv;cases hv with
    | head=>exact Uh hx
    | tail _ hv=>exact Ez hxs v hv
   .cases h
  .cases h
theorem zq:∀ {ls:List Nat} {h:List aK} {l:Nat} {g:Bool} {c:Co} {xs:List c.den},l∈ls->h[l]? =some (.rows g c xs)->Gone (bB (std n) h ls) l
 | [],_,_,_,_,_,hm,_=>by simp at hm
 | a::ls,h,l,g,c,xs,hm,hl=>by
  rw [gJ];have stays:∀(ls:List Nat) (h:List aK),Gone h l->Gone (bB (std n) h ls) l:=by
   intro ls
   induction ls with
   | nil=>intro h hg;exact hg
   | cons b ls ih=>
    intro h ⟨cc,nn,hg⟩;rw [gJ];refine ih _ ⟨cc,nn,?_⟩
    grind [fJ,vX]
  by_cases e:a=l
  .subst e;refine stays ls _ ⟨c,(xs.length:Int),?_⟩
   grind [fJ,List.getElem?_set_self,List.getElem?_eq_some_iff]
  .refine zq (g:=g) (c:=c) (xs:=xs) ?_ (by rw [vX e];exact hl)
   grind
theorem Gn{h:List aK}:∀ {ks:List SkO} {j:Nat} {s s':ES (std n)},y8 (std n) h j ks s=some s'->∀ {i:Nat} {k:SkO},ks[i]? =some k->k≠ .gone->∀ {l:Nat} (_:s'.ren[j+i]? =some (some (some l))),∃o,h[l]? =some o/\¬Gone [o] 0
 | [],_,_,_,_,i,k,hk,_,_,_=>by simp at hk
 | q::ks,j,s,s',hx,i,k,hk,hg,l,h5=>by
  simp only [y8]at hx;split at hx
  .rename_i s1 h1;cases i with
   | succ i=>
    have:=Gn hx (i:=i) (k:=k) (by simpa using hk) hg (l:=l) (by grind);exact this
   | zero=>
    simp at hk;subst hk;rw [Nat.add_zero]at h5;have e1:ELe s s':=by
     obtain⟨_,_,_,a2,_⟩:=RU (m:=n) (λi=>i) h1 (.gone .i64 0) ⟨.i64,0,rfl⟩;obtain⟨_,_,_,b2,_⟩:=qo (m:=n) (λi=>i) (λ_=> .gone .i64 0) (λ_=>⟨.i64,0,rfl⟩) hx;exact a2.trans b2
    cases q with
    | gone=>exact absurd rfl hg
    | box kk=>
     rcases hr:s.ren[j]? with _ | _ | _ | l0<;>simp only [Ms,hr,reduceCtorEq]at h1
     have:=e1.ren j _ hr;rw [h5]at this;cases this;split at h1
     .rename_i v hv;exact⟨_,hv,λ⟨c,m,hgo⟩=>by simp at hgo⟩
     .cases h1
    | rows f c=>
     rcases hr:s.ren[j]? with _ | _ | _ | l0<;>simp only [Ms,hr,reduceCtorEq]at h1
     .have:=e1.ren j _ hr;simp_all
     .have:=e1.ren j _ hr;rw [h5]at this;cases this;split at h1
      .rename_i g c' xs hv;exact⟨_,hv,λ⟨c,m,hgo⟩=>by simp at hgo⟩
      .cases h1
  .cases hx
end
end Go.TX
