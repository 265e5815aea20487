/- Part 2 of a proof: what the last part needs. No condition. -/
import Derived.Test.YtdhbaclieillgaaGreatDoorZa
set_option maxHeartbeats 1000000
set_option linter.all false
set_option linter.unusedSectionVars false
set_option linter.unusedVariables false
set_option linter.unusedSimpArgs false
namespace Go.TX
open Go Go.AE List
variable [aB]
inductive SkC where
 | int (k:IntKind) | bool | str | rows (f:Bool) (c:Co) | nil | own (l:Nat) | pb (l sz j:Nat) | pr (l j:Nat) | rp (f:Bool) (c:Co) (j:Nat) | gp (g:Nat) (c:Co)
 | fn (g:FuncId) (caps:List (Nat×Nat)) | np | clip (f:Bool) (c:Co)
 deriving DecidableEq,Inhabited,Repr
inductive SkV where
 | c (x:SkC) | agg (cs:List SkC) | sv (f:Bool) (c:Co)
 deriving DecidableEq,Inhabited,Repr
inductive SkO where
 | box (v:SkV) | rows (f:Bool) (c:Co) | gone
 deriving DecidableEq,Inhabited,Repr
structure eO where
 slots:List (Nat×SkV)
 objs:List SkO
 deriving DecidableEq,Inhabited
abbrev SkC.tys : SkC -> List LTy
 | .int _=> [.i] | .bool=> [.b] | .str=> [.s] | .rows _ c=> [.l c] | .pr _ _=> [.i] | .rp _ c _=> [.l c,.i] | .clip _ c=> [.l c] | _=> []
abbrev SkC.Ec : List SkC -> List LTy
 | []=> []
 | x::r=>x.tys++SkC.Ec r
abbrev SkV.tys : SkV -> List LTy
 | .c x=>x.tys | .agg cs=>SkC.Ec cs | .sv _ q=> [.x q]
abbrev SkV.Ec : List SkV -> List LTy
 | []=> []
 | x::r=>x.tys++SkV.Ec r
abbrev SkO.tys : SkO -> List LTy
 | .box v=>v.tys | .rows _ c=> [.l c] | .gone=> []
abbrev SkO.Ec : List SkO -> List LTy
 | []=> []
 | x::r=>x.tys++SkO.Ec r
abbrev eO.tys(k : eO) : List LTy := SkV.Ec (k.slots.map (·.2)) ++ SkO.Ec k.objs
structure Sig where
 args:List SkV
 objs:List SkO
 res:List SkV
 dV:List SkO
 deriving DecidableEq,Inhabited
abbrev Sig.inp(s : Sig) : List LTy := SkV.Ec s.args ++ SkO.Ec s.objs
abbrev Sig.out(s : Sig) : List LTy := SkV.Ec s.res ++ SkO.Ec s.dV
def SkC.fresh:SkC->Bool | .rows f _=>f | .clip f _=>f | .rp f _ _=>f | .gp _ _=>false | _=>true
def SkV.fresh:SkV->Bool | .c x=>x.fresh | .agg cs=>cs.all SkC.fresh | .sv f q=>f || q.flat
def SkO.fresh:SkO->Bool | .box v=>v.fresh | .rows f _=>f | .gone=>true
def Sig.fresh(s:Sig):Bool:=s.res.all SkV.fresh&&s.dV.all SkO.fresh
structure Ct(A:Car)(s:Sig) where
 pre:Tup A s.inp->A.B
 fn:Tup A s.inp->Tup A s.out
abbrev Calls(A:Car):=FuncId->List (Sigma (Ct A))
inductive Ann where
 | u | seq (a b:Ann) | cond (a b:Ann) | block (a:Ann) | loop (k:eO) (a:Ann) | cut (k:eO) (a:Ann)
 deriving Inhabited
section
variable (A:Alg)
structure ES where
 ren:List (Option (Option Nat))
 fro:List (Nat×Bool)
 tr:List (Nat×A.I×A.I)
 ck:List A.B
 lv:List (LV A.aA)
def ES.push(s:ES A)(x:LV A.aA):ES A:={s with lv:=x::s.lv}
def tq(s:ES A)(i:Nat)(v:Option Nat):Option (ES A):=
 match s.ren[i]? with
 | some none=>some {s with ren:=s.ren.set i (some v)}
 | some (some w)=>if w=v then some s else none
 | none=>none
def extC(h:List (dZ A.aA))(k:SkC)(v:TC A.aA)(s:ES A):Option (ES A):=
 match k with
 | .int k=>match v with | .d _ (.int k' x)=>if k=k' then some (s.push A (.i x))else none | _=>none
 | .bool=>match v with | .d _ (.bool x)=>some (s.push A (.b x)) | _=>none
 | .str=>match v with | .d _ (.str x)=>some (s.push A (.s x)) | _=>none
 | .rows f c=>match v with
  | .os l e n=>match h[l]? with
   | some (.rows g a d)=>if c=a/\(!f || g)then some {(s.push A (.l a (A.sub a d e (A.addN e n))))with fro:=(l,f)::s.fro,ck:=lY A h (.c v)++s.ck}else none
   | _=>none
  | v=>match fQ A h (.rows c) v with
   | some (g,x,ls)=>if !f || g then some {(s.push A x)with fro:=ls.map (λl=>(l,f))++s.fro}else none
   | none=>none
 | .nil=>match v with | .nil=>some s | _=>none
 | .own i=>match v with
  | .own l=>if s.tr.any (·.1==i)then none else tq A s i (some l)
  | .nil=>tq A s i none
  | .os l e n=>match s.ren[i]?,h[l]? with
   | some none,some (.rows _ c d)=>some {s with ren:=s.ren.set i (some (some l)),tr:=(i,e,n)::s.tr,ck:=[A.cmp .leq (A.lit 0) e,A.cmp .leq (A.lit 0) n,A.cmp .leq (A.addN e n) (A.len c d)]++s.ck}
   | _,_=>none
  | _=>none
 | .pb i r j=>match v with | .pb l q m=>if r=q/\j=m/\ !(s.tr.any (·.1==i))then tq A s i (some l)else none | _=>none
 | .pr i j=>match v with | .pr l x m=>if j=m/\ !(s.tr.any (·.1==i))then(match tq A s i (some l)with | some s=>some (s.push A (.i x)) | none=>none)else none | _=>none
 | .rp f c j=>match v with | .rp g a d x m=>if c=a/\j=m/\(!f || g)then some ((s.push A (.l a d)).push A (.i x))else none | _=>none
 | .gp g c=>match v with | .gp o a=>if g=o/\c=a then some s else none | _=>none
 | .fn g b=>match v with
  | .fn o qK=>if g=o/\b.map (·.2)=qK.map (·.2)/\b.all (λp=> !(s.tr.any (·.1==p.1)))then
    (b.zip qK).foldlM (λs p=>tq A s p.1.1 (some p.2.1)) s else none
  | _=>none
 | .np=>match v with | .np=>some s | _=>none
 | .clip f c=>match v with | .clip g a d=>if c=a/\(!f || g)then some (s.push A (.l a d))else none | _=>none
def F4(h:List (dZ A.aA)):List SkC->List (TC A.aA)->ES A->Option (ES A)
 | [],[],s=>some s
 | k::r,v::vs,s=>match extC A h k v s with | some s=>F4 h r vs s | none=>none
 | _,_,_=>none
def Js(h:List (dZ A.aA))(k:SkV)(v:TV A.aA)(s:ES A):Option (ES A):=
 match k with
 | .c k=>match v with | .c x=>extC A h k x s | _=>none
 | .agg a=>if bJ A v then F4 A h a (bZ A v) s else none
 | .sv f c=>if bJ A v then match toX A h c v with
  | some (g,x,ls)=>if !f || g then some {(s.push A (.x c x))with fro:=ls.map (λl=>(l,f))++s.fro}else none
  | none=>none
  else none
def qL(h:List (dZ A.aA)):List SkV->List (TV A.aA)->ES A->Option (ES A)
 | [],[],s=>some s
 | k::r,v::vs,s=>match Js A h k v s with | some s=>qL h r vs s | none=>none
 | _,_,_=>none
def j6(s:ES A)(i:Nat):Option (A.I×A.I):=match s.tr.find? (·.1==i)with | some x=>some x.2 | none=>none
def Q9(h:List (dZ A.aA))(i:Nat)(k:SkO)(s:ES A):Option (ES A):=
 match k,s.ren[i]? with
 | .gone,_=>some s
 | .box k,some (some (some l))=>match h[l]? with | some (.box v)=>Js A h k v s | _=>none
 | .rows f c,some (some (some l))=>match h[l]? with
  | some (.rows g c' xs)=>if c=c'/\(!f || g || c.flat)then some (s.push A (.l c' (match j6 A s i with | some p=>A.sub c' xs p.1 (A.addN p.1 p.2) | none=>xs)))else none
  | _=>none
 | .rows _ c,some (some none)=>some (s.push A (.l c (A.FX c)))
 | _,_=>none
def AX(h:List (dZ A.aA)):Nat->List SkO->ES A->Option (ES A)
 | _,[],s=>some s
 | i,k::r,s=>match Q9 A h i k s with | some s=>AX h (i+1) r s | none=>none
def bM:List (Option (Option Nat))->List Nat
 | []=> []
 | some (some l)::r=>l::bM r
 | _::r=>bM r
def distinct:List Nat->Bool
 | []=>true
 | x::r=> !r.contains x&&distinct r
def tu:Option SkO->Bool | some .gone=>true | _=>false
def rY:List SkO->List (Option (Option Nat))->Bool
 | .gone::os,some _::_=>false
 | _::os,_::r=>rY os r
 | _,_=>true
def abN(h:List (dZ A.aA))(l:Nat):Bool:=match h[l]? with | some (.rows ..)=>true | _=>false
def ES.fine(h:List (dZ A.aA))(s:ES A)(a:List SkO):Bool:=distinct (bM s.ren)&& (s.fro.all λp=> !(bM s.ren).contains p.1&&abN A h p.1)&&rY a s.ren
def es0(k:Nat)(os:List SkO):ES A:={ren:=(range os.length).map λi=>if Nat.blt i k&& !tu os[i]? then some (some i)else none,fro:=[],tr:=[],ck:=[],lv:=[]}
end
section
variable (A:Car)
def abO(nm:Nat->Nat):SkC->List (LV A)->Option (TC A×List (LV A))
 | .int k,.i x::r=>some (.d true (.int k x),r)
 | .bool,.b x::r=>some (.d true (.bool x),r)
 | .str,.s x::r=>some (.d true (.str x),r)
 | .rows f _,.l c x::r=>some (.d f (.rows c x),r)
 | .nil,r=>some (.nil,r)
 | .own i,r=>some (.own (nm i),r)
 | .pb i sz j,r=>some (.pb (nm i) sz j,r)
 | .pr i j,.i x::r=>some (.pr (nm i) x j,r)
 | .rp f _ j,.l c x:: .i y::r=>some (.rp f c x y j,r)
 | .gp g c,r=>some (.gp g c,r)
 | .fn g caps,r=>some (.fn g (caps.map λp=>(nm p.1,p.2)),r)
 | .np,r=>some (.np,r)
 | .clip f _,.l c x::r=>some (.clip f c x,r)
 | _,_=>none
def LD(nm:Nat->Nat):List SkC->List (LV A)->Option (List (TC A)×List (LV A))
 | [],r=>some ([],r)
 | k::ks,r=>match abO A nm k r with
  | some (x,r)=>match LD nm ks r with | some (xs,r)=>some (x::xs,r) | none=>none
  | none=>none
def AY(nm:Nat->Nat):SkV->List (LV A)->Option (TV A×List (LV A))
 | .c k,r=>match abO A nm k r with | some (x,r)=>some (.c x,r) | none=>none
 | .agg ks,r=>match LD A nm ks r with | some (xs,r)=>some (.agg xs,r) | none=>none
 | .sv f _,.x c x::r=>some (.sv f c x,r)
 | _,_=>none
def tC(nm:Nat->Nat):List SkV->List (LV A)->Option (List (TV A)×List (LV A))
 | [],r=>some ([],r)
 | k::ks,r=>match AY A nm k r with
  | some (x,r)=>match tC nm ks r with | some (xs,r)=>some (x::xs,r) | none=>none
  | none=>none
def abP(nm:Nat->Nat)(a:dZ A):SkO->List (LV A)->Option (dZ A×List (LV A))
 | .box k,r=>match AY A nm k r with | some (v,r)=>some (.box v,r) | none=>none
 | .rows f _,.l c x::r=>some (.rows f c x,r)
 | .gone,r=>some (a,r)
 | _,_=>none
def wF(nm:Nat->Nat)(old:Nat->dZ A):Nat->List SkO->List (LV A)->Option (List (dZ A)×List (LV A))
 | _,[],r=>some ([],r)
 | i,k::ks,r=>match abP A nm (old i) k r with
  | some (x,r)=>match wF nm old (i+1) ks r with | some (xs,r)=>some (x::xs,r) | none=>none
  | none=>none
end
section
variable (A:Alg)
structure SV where
 tag:Option Nat
 v:TV A.aA
structure GE where
 slot:Option Nat
 want:Bool
 par:Option Nat
 g:A.B
 dead:Bool
structure RSt where
 t:List (Nat×SV A)
 gs:List (GE A)
 h:List (dZ A.aA)
 m:Nat
 deriving Inhabited
def dN:List (Nat×SV A)->Nat->Option (SV A)
 | [],_=>none
 | (i,v)::r,j=>if i==j then some v else dN r j
def ou(d:Nat)(e:GE A):GE A:=match e.slot with | some x=>if x==d then {e with slot:=none}else e | none=>e
def RSt.put(s:RSt A)(d:Option Nat)(tag:Option Nat)(v:TV A.aA):RSt A:=
 match d with | none=>s | some d=> {s with t:=(d,⟨tag,v⟩)::s.t,gs:=s.gs.map (ou A d)}
def RSt.del(s:RSt A)(d:Option Nat):RSt A:=
 match d with | none=>s | some d=> {s with t:=s.t.filter λp=> !(p.1==d),gs:=s.gs.map (ou A d)}
def Zd(m:Nat):Option Nat->Bool | none=>true | some d=>Nat.blt d m
def Ra(a:List (GE A)):Nat->Option Nat->List Nat
 | 0,_=> []
 | _,none=> []
 | f+1,some t=>t::(match a[t]? with | some e=>Ra a f e.par | none=> [])
def eU(gs:List (GE A))(t:Option Nat):List Nat:=Ra A gs (gs.length+1) t
def dF:List (GE A)->Nat->Bool->Nat->Option Nat
 | [],_,_,_=>none
 | e::r,d,w,i=>if(e.slot==some d)&& (e.want==w)then some i else dF r d w (i+1)
def gY(lk:Nat->Option (SV A))(al:List Nat)(i:Nat):Option (TV A.aA):=
 match lk i with
 | some ⟨none,v⟩=>some v
 | some ⟨some t,v⟩=>if al.contains t then some v else none
 | none=>none
inductive GR where
 | bad | skip | run (gs:List (GE A)) (t:Nat) (g:A.B)
def F6(g:Nat->Option (SV A))(gs:List (GE A))(d:Nat)(a:Bool):GR A:=
 match g d with
 | none=> .bad
 | some ⟨tg,v⟩=>match dF A gs d a 0 with
  | some t=>match gs[t]? with | some e=>if e.dead then .skip else .run gs t e.g | none=> .bad
  | none=>match v with
   | .c (.d _ (.bool b))=>
    let c:=if a then b else A.zS b
    match tg with
    | none=> .run (gs++ [⟨some d,a,none,c,false⟩]) gs.length c
    | some f=>match gs[f]? with
     | some e=> .run (gs++ [⟨some d,a,some f,A.OC e.g c,false⟩]) gs.length (A.OC e.g c)
     | none=> .bad
   | .tup []=>match tg with | none=> .skip | some _=> .bad
   | _=> .bad
def AZ(gs:List (GE A))(t:Nat):List (GE A):=match gs[t]? with | some e=>gs.set t {e with dead:=true} | none=>gs
def wG(X:XT)(f:Nat->Option (SV A))(gs:List (GE A))(h:List (dZ A.aA))(g:Option Nat)(i:Op):PR A:=
 let al:=eU A gs g
 match i with
 | .pick c a b=>match evX A X (gY A f al) c with
  | some (.c (.d _ (.bool q)))=>
   let e (w:Bool):List Nat:=match c with
    | .tmp d=>(match dF A gs d w 0 with | some t=>eU A gs (some t)++al | none=>al)
    | _=>al
   match evX A X (gY A f (e true)) a,evX A X (gY A f (e false)) b with
   | some (.tup []),some y=>some ([A.zS q],y)
   | some x,some (.tup [])=>some ([q],x)
   | some x,some y=>OD A (Q7 A q x y)
   | _,_=>none
  | _=>none
 | i=>Zb A X (gY A f al) h i
def OJ(X:XT)(e:Nat->Option (TV A.aA)):List Operand->Option (List (TV A.aA))
 | []=>some []
 | x::r=>match evX A X e x with | some v=>(match OJ X e r with | some a=>some (v::a) | none=>none) | none=>none
def newNames:List (Option (Option Nat))->Nat->Nat->List Nat
 | _,_,0=> []
 | [],n,k+1=>n::newNames [] (n+1) k
 | some (some l)::r,n,k+1=>l::newNames r n k
 | _::r,n,k+1=>n::newNames r (n+1) k
def wH(h:List (dZ A.aA))(l:Nat):dZ A.aA:=
 match h[l]? with | some (.rows _ c xs)=> .gone c (A.len c xs) | some (.gone c n)=> .gone c n | _=> .gone .i64 (A.lit 0)
def iP(h:List (dZ A.aA)):List Nat->List (dZ A.aA)->List (dZ A.aA)
 | l::ls,o::os=>iP (if Nat.blt l h.length then h.set l o else h++ [o]) ls os
 | _,_=>h
def aqP:List (TV A.aA)->TV A.aA | [v]=>v | vs=> .tup vs
structure CR where
 ck:List A.B
 ts:List LTy
 y:Tup A.aA ts
 k:Tup A.aA ts->Option (TV A.aA×List (dZ A.aA))
 touched:List Nat
 pure:Bool
def tF(h:List (dZ A.aA))(s:Sig)(d:Ct A.aA s)(args:List (TV A.aA)):Option (CR A):=
  match qL A h s.args args (es0 A 0 s.objs)with
  | some e=>match AX A h 0 s.objs e with
    | some e=>if ES.fine A h e s.objs&&e.tr.isEmpty then match pack A.aA s.inp e.lv.reverse with
      | some x=>
        let b:=s.fresh&&e.fro.all λp=> !p.2
        some { ck := e.ck ++ [d.pre x], ts := s.out, y := d.fn x, touched := bM e.ren ++ (if b then [] else e.fro.map (·.1)), pure := s.objs.isEmpty && s.dV.isEmpty && (b || e.fro.isEmpty)
               k:=λy=>
                 let c:=if b then h else bA A h (e.fro.map (·.1))
                 let a:=newNames e.ren c.length s.dV.length
                 let nm:=λi=>a.getD i 0
                 match tC A.aA nm s.res (unpack A.aA s.out y)with
                 | some (vs,r)=>match wF A.aA nm (λi=>wH A c (nm i)) 0 s.dV r with
                   | some (os,_)=>some (aqP A vs,iP A c a os)
                   | none=>none
                 | none=>none}
      | none=>none
      else none
    | none=>none
  | none=>none
def A8(h:List (dZ A.aA))(a:List (TV A.aA)):List (Sigma (Ct A.aA))->Option (CR A)
 | []=>none
 | ⟨s,ct⟩::r=>match tF A h s ct a with | some x=>some x | none=>A8 h a r
def Ze(X:XT)(C:Calls A.aA)(e:Nat->Option (TV A.aA))(h:List (dZ A.aA))(a:Op):Option (CR A):=
 match a with
 | .call c=>match c.callee with
  | .value f=>match evX A X e f,OJ A X e c.args.toList with
   | some (.c (.fn g caps)),some vs=>A8 A h (vs++caps.map λp=> .c (.pb p.1 p.2 0)) (C g)
   | _,_=>none
  | _=>none
 | _=>none
def aaP(X:XT)(C:Calls A.aA)(e:Nat->Option (TV A.aA))(h:List (dZ A.aA))(a:Op):Option (CR A):=
 match jq a with
 | 1=>match a with
  | .store ty p x=>match evX A X e p,evX A X e x with
   | some pv,some v=>match wE A X h ty pv v with
    | some r=>match v with
     | .c (.d f (.int q n))=>some {ck:=r.chk,ts:=[.i],y:=(n,()),k:=λy=>(match wE A X h ty pv (.c (.d f (.int q y.1)))with | some r=>some (r.v,r.h) | none=>none),touched:=r.touched,pure:=false}
     | .c (.d f (.bool n))=>some {ck:=r.chk,ts:=[.b],y:=(n,()),k:=λy=>(match wE A X h ty pv (.c (.d f (.bool y.1)))with | some r=>some (r.v,r.h) | none=>none),touched:=r.touched,pure:=false}
     | .c (.d f (.rows c n))=>some {ck:=r.chk,ts:=[.l c],y:=(n,()),k:=λy=>(match wE A X h ty pv (.c (.d f (.rows c y.1)))with | some r=>some (r.v,r.h) | none=>none),touched:=r.touched,pure:=false}
     | .sv f c n=>some {ck:=r.chk,ts:=[.x c],y:=(n,()),k:=λy=>(match wE A X h ty pv (.sv f c y.1)with | some r=>some (r.v,r.h) | none=>none),touched:=r.touched,pure:=false}
     | _=>some {ck:=r.chk,ts:=[],y:=(),k:=λ_=>some (r.v,r.h),touched:=r.touched,pure:=false}
    | none=>none
   | _,_=>none
  | _=>match F3 A X e h a with
   | some r=>match r.v with
    | .c (.own l)=>match r.h[l]? with
     | some (.rows f c xs)=>some {ck:=r.chk,ts:=[.l c],y:=(xs,()),k:=λy=>some (r.v,r.h.set l (.rows f c y.1)),touched:=r.touched,pure:=false}
     | _=>none
    | _=>some {ck:=r.chk,ts:=[],y:=(),k:=λ_=>some (r.v,r.h),touched:=r.touched,pure:=false}
   | none=>none
 | _=>Ze A X C e h a
def Zf{ρ:Type}(a:Op)(v:TV A.aA)(K:TV A.aA->A.M ρ):A.M ρ:=
 match a with
 | .assign _=>match v with
  | .c (.d f (.int k x))=>A.vE [.i] (x,()) λy=>K (.c (.d f (.int k y.1)))
  | .c (.d f (.bool x))=>A.vE [.b] (x,()) λy=>K (.c (.d f (.bool y.1)))
  | .c (.d f (.rows c x))=>A.vE [.l c] (x,()) λy=>K (.c (.d f (.rows c y.1)))
  | v=>K v
 | _=>K v
def ig{ρ:Type}:List A.B->A.M ρ->A.M ρ
 | [],m=>m
 | b::r,m=>A.chk b (ig r m)
def under(g:A.B)(a:List A.B):List A.B:=a.map λp=>A.orB (A.zS g) p
def uK{ρ:Type}(r:CR A)(K:TV A.aA->List (dZ A.aA)->A.M ρ):A.M ρ:=
 match r.ts,r.y,r.k with
 | [],y,k=>(match k y with | some (v,h)=>K v h | none=>A.fail)
 | ts,y,k=>A.vE ts y λy=>match k y with | some (v,h)=>K v h | none=>A.fail
def fF{ρ:Type}(X:XT)(C:Calls A.aA)(ops:List Oper):List Oper->(RSt A->A.M ρ)->RSt A->A.M ρ
 | [],K,s=>K s
 | o::r,K,s=>if Zd s.m o.dst then match o.guard with
  | none=>if jq o.op==0 then match wG A X (dN A s.t) s.gs s.h none o.op with
    | some (ps,v)=>ig A ps (Zf A o.op v λv=>fF X C ops r K (s.put A o.dst none v))
    | none=>A.fail
   else match aaP A X C (gY A (dN A s.t) []) s.h o.op with
    | some a=>ig A a.ck (uK A a λv h=>fF X C ops r K (RSt.put A {s with h:=h} o.dst none v))
    | none=>A.fail
  | some (j,want)=>match gslot ops j with
   | some d=>match F6 A (dN A s.t) s.gs d want with
    | .skip=>fF X C ops r K (s.put A o.dst none (.tup []))
    | .run gs t g=>if jq o.op==0 then match wG A X (dN A s.t) gs s.h (some t) o.op with
      | some (ps,v)=>ig A (under A g ps) (fF X C ops r K (RSt.put A {s with gs:=gs} o.dst (some t) v))
      | none=>A.fail
     else match aaP A X C (gY A (dN A s.t) (eU A gs (some t))) s.h o.op with
      | some a=>if a.pure then ig A (under A g a.ck) (uK A a λv _=>fF X C ops r K (RSt.put A {s with gs:=gs} o.dst (some t) v))
       else A.cond g (ig A a.ck (uK A a λv h=>fF X C ops r K (RSt.put A {s with h:=h,gs:=gs} o.dst none v)))
        (fF X C ops r K (RSt.put A {s with gs:=AZ A gs t} o.dst none (.tup [])))
      | none=>A.fail
    | .bad=>A.fail
   | none=>A.fail
  else A.fail
def wI:TV A.aA->List Nat
 | .c (.pb l _ _)=> [l] | .c (.pr l _ _)=> [l] | _=> []
def iC(X:XT)(e:Nat->Option (TV A.aA)):Op->List Nat
 | .load _ x=>match evX A X e x with | some v=>wI A v | none=> []
 | _=> []
def LG(b:List (Nat×List Nat))(a:List Nat)(j:Nat):Bool:=b.any λp=>(p.1==j)&&p.2.all λl=> !a.contains l
def pG(b:List (Nat×List Nat))(a:List Nat):List (Nat×List Nat):=b.filter λp=>p.2.all λl=> !a.contains l
def zX(X:XT)(e:Nat->Option (TV A.aA))(h:List (dZ A.aA))(d:Op):PR A:=
 match d with
 | .buildSlice ty len a=>match X.ty ty with
  | some y=>match y.desc with
   | .slice b=>match X.ty b,X.co b with
    | some z,some c=>if lW X b c&& !(z.size==0)&& (a.toList.map (·.1)==range len)&&Nat.ble (len*z.size) 16777216 then
      match sZ A X e c h a.toList with
      | some (f,xs,_,[])=>some ([],.c (.clip f c (A.lst c xs)))
      | _=>none
     else none
    | _,_=>none
   | _=>none
  | none=>none
 | _=>none
def EF(e:Nat->Option (TV A.aA))(k:A.I):List (Int×Nat)->Option A.B
 | []=>some (A.bl false)
 | (k',r)::rest=>match e r with
  | some (.c (.d _ (.bool b)))=>(match EF e k rest with | some q=>some (A.Lx (A.cmp .eql k (A.lit k')) b q) | none=>none)
  | _=>none
def Rb(X:XT)(a:List Oper)(e:Nat->Option (TV A.aA))(h:List (dZ A.aA))(c:Op):Option (Option (List A.B×TV A.aA)):=
 match c with
 | .makeMap .. =>some none
 | .insert _ _ _ v=>(match v with | .tmp r=>(match e r with | some _=>some none | none=>none) | _=>none)
 | .move x=>if nK x then some none else none
 | .lookup _ _ (.tmp q) _=>(match e q with
  | some (.c (.d _ (.int .i64 n)))=>(match EF A e n (nu a)with | some b=>some (some ([],.c (.d true (.bool b)))) | none=>none)
  | _=>none)
 | c=>(match zX A X e h c with | some r=>some (some r) | none=>none)
def jr{ρ:Type}(X:XT)(C:Calls A.aA)(ops:List Oper):List fM->List (Nat×List Nat)->(RSt A->A.M ρ)->RSt A->A.M ρ
 | [],_,K,s=>K s
 | (i,rs,cs)::r,hs,K,s=>match ops[i]? with
  | none=>A.fail
  | some o=>if Zd s.m o.dst then
   let lk:=λi=>if rs.contains i then dN A s.t i else none
   match kindOf o.op with
   | 0=>if hs.any λp=>p.1==i then A.fail else match o.guard with
    | none=>match wG A X lk s.gs s.h none o.op with
     | some (ps,v)=>ig A ps (Zf A o.op v λv=>jr X C ops r ((i,iC A X (gY A lk []) o.op)::hs) K (s.put A o.dst none v))
     | none=>A.fail
    | some (j,want)=>match gslot ops j with
     | some d=>match F6 A lk s.gs d want with
      | .skip=>jr X C ops r ((i,[])::hs) K (s.put A o.dst none (.tup []))
      | .run gs t g=>match wG A X lk gs s.h (some t) o.op with
       | some (ps,v)=>ig A (under A g ps) (jr X C ops r ((i,iC A X (gY A lk (eU A gs (some t))) o.op)::hs) K (RSt.put A {s with gs:=gs} o.dst (some t) v))
       | none=>A.fail
      | .bad=>A.fail
     | none=>A.fail
   | 1=>match Rb A X ops (gY A lk []) s.h o.op with
    | some (some (ps,v))=>ig A ps (jr X C ops r hs K (s.put A o.dst none v))
    | some none=>jr X C ops r hs K (s.del A o.dst)
    | none=>A.fail
   | 2=>match F3 A X (λ_=>none) s.h o.op with
    | some b=>ig A b.chk (jr X C ops r hs K (RSt.put A {s with h:=b.h} o.dst none b.v))
    | none=>A.fail
   | _=>match o.guard with
    | none=>match aaP A X C (gY A lk []) s.h o.op with
     | some a=>
      if cs.all (LG hs a.touched)then ig A a.ck (uK A a λv h=>jr X C ops r (pG hs a.touched) K (RSt.put A {s with h:=h} o.dst none v))else A.fail
     | none=>A.fail
    | some (j,want)=>match gslot ops j with
     | some d=>match F6 A lk s.gs d want with
      | .skip=>jr X C ops r hs K (s.put A o.dst none (.tup []))
      | .run gs t g=>match aaP A X C (gY A lk (eU A gs (some t))) s.h o.op with
       | some a=>if cs.all (LG hs a.touched)then
         if a.pure then ig A (under A g a.ck) (uK A a λv _=>jr X C ops r hs K (RSt.put A {s with gs:=gs} o.dst (some t) v))
         else A.cond g (ig A a.ck (uK A a λv h=>jr X C ops r (pG hs a.touched) K (RSt.put A {s with h:=h,gs:=gs} o.dst none v)))
          (jr X C ops r hs K (RSt.put A {s with gs:=AZ A gs t} o.dst none (.tup [])))
        else A.fail
       | none=>A.fail
      | .bad=>A.fail
     | none=>A.fail
   else A.fail
def wJ(t:List (Nat×SV A))(h:List (dZ A.aA)):List (Nat×SkV)->ES A->Option (ES A)
 | [],e=>some e
 | p::r,e=>match dN A t p.1 with
  | some ⟨none,v⟩=>(match Js A h p.2 v e with | some e=>wJ t h r e | none=>none)
  | _=>none
def F7(k:Nat)(a:eO)(s:RSt A):Option (List A.B×Tup A.aA a.tys):=
 if !Nat.ble k a.objs.length then none else match wJ A s.t s.h a.slots (es0 A k a.objs)with
 | some e=>match AX A s.h 0 a.objs e with
  | some e=>if ES.fine A s.h e a.objs then(match pack A.aA a.tys e.lv.reverse with | some x=>some (e.ck,x) | none=>none)else none
  | none=>none
 | none=>none
def uL(a:eO)(m:Nat)(x:Tup A.aA a.tys):RSt A:=
 match tC A.aA (λi=>i) (a.slots.map (·.2)) (unpack A.aA a.tys x)with
 | some (vs,r)=>match wF A.aA (λi=>i) (λ_=> .gone .i64 (A.lit 0)) 0 a.objs r with
  | some (os,_)=> {t:=(a.slots.map (·.1)).zip (vs.map λv=>⟨none,v⟩),gs:=[],h:=os,m:=m}
  | none=>default
 | none=>default
def plain:Code->Bool
 | .skip=>true | .region .. =>true | .seq a b=>plain a&&plain b | .cond _ x y=>plain x&&plain y
 | _=>false
def Rc{ρ:Type}(k:Nat)(a:eO)(c:Bool)(s:RSt A)(K:Exit->RSt A->A.M ρ)(W: {σ:Type}->(Exit->RSt A->A.M σ)->A.M σ):A.M ρ:=
 if c then A.bind a.tys (W λe b=>match e with
  | .normal=>(match F7 A k a b with | some (ck,t)=>ig A ck (A.ret a.tys t) | none=>A.fail)
  | _=>A.fail) λt=>K .normal (uL A a s.m t)
 else A.wD a.tys (W λe b=>match e with
  | .normal=>(match F7 A k a b with | some (ck,t)=>ig A ck (A.inl a.tys t) | none=>A.fail)
  | e=>A.inr a.tys (K e b)) λt=>K .normal (uL A a s.m t)
def bN(X:XT)(C:Calls A.aA)(d:Nat->List fM)(chk:Nat->Array Oper->Nat->Bool)(k:Nat): {ρ:Type}->Ann->Code->RSt A->(Exit->RSt A->A.M ρ)->A.M ρ
 | _,_,.skip,s,K=>K .normal s
 | _,an,.region id ops draw,s,K=>
  let W: {σ:Type}->(Exit->RSt A->A.M σ)->A.M σ:=λK=>
   if draw then(if chk id ops s.m then jr A X C ops.toList (d id) [] (λs=>K .normal s) s else A.fail)
   else fF A X C ops.toList ops.toList (λs=>K .normal s) s
  match an with
  | .cut sk .u=>Rc A k sk true s K W
  | _=>W K
 | _,an,.seq x y,s,K=>match an with
  | .seq a b=>bN X C d chk k a x s λe f=>match e with | .normal=>bN X C d chk k b y f K | e=>K e f
  | .u=>bN X C d chk k .u x s λe f=>match e with | .normal=>bN X C d chk k .u y f K | e=>K e f
  | _=>A.fail
 | _,an,.cond c x y,s,K=>match evX A X (gY A (dN A s.t) []) c with
  | some (.c (.d _ (.bool b)))=>match an with
   | .cond h j=>A.cond b (bN X C d chk k h x s K) (bN X C d chk k j y s K)
   | .u=>A.cond b (bN X C d chk k .u x s K) (bN X C d chk k .u y s K)
   | .cut sk (.cond h j)=>Rc A k sk (plain x&&plain y) s K λg=>A.cond b (bN X C d chk k h x s g) (bN X C d chk k j y s g)
   | _=>A.fail
  | _=>A.fail
 | _,an,.block id b,s,K=>match an with
  | .block a=>bN X C d chk k a b s λe f=>match e with | .exit i=>if i==id then K .normal f else K (.exit i) f | e=>K e f
  | .u=>bN X C d chk k .u b s λe f=>match e with | .exit i=>if i==id then K .normal f else K (.exit i) f | e=>K e f
  | .cut sk (.block a)=>Rc A k sk false s K λg=>bN X C d chk k a b s λe f=>match e with | .exit i=>if i==id then g .normal f else g (.exit i) f | e=>g e f
  | _=>A.fail
 | _,.loop sk a,.loop b,s,K=>match F7 A k sk s with
  | some (ck,x0)=>ig A ck (A.iter sk.tys (λx=>bN X C d chk k a b (uL A sk s.m x) λe f=>match e with
    | .normal=>(match F7 A k sk f with | some (ck,t)=>ig A ck (A.inl sk.tys t) | none=>A.fail)
    | e=>A.inr sk.tys (K e f)) x0)
  | none=>A.fail
 | _,_,.exit id,s,K=>K (.exit id) s
 | _,_,.ret,s,K=>K .ret s
 | _,_,_,_,_=>A.fail
def Rf(X:XT)(s:RSt A):List ResultVar->Option (List (TV A.aA))
 | []=>some []
 | .tmp t::r=>match dN A s.t t with
  | some ⟨none,v⟩=>(match Rf X s r with | some a=>some (v::a) | none=>none)
  | _=>none
 | .cell t ty::r=>match dN A s.t t with
  | some ⟨none,p⟩=>match OE A X s.h ty p with
   | some ([],v)=>(match Rf X s r with | some a=>some (v::a) | none=>none)
   | _=>none
  | _=>none
def aaQ(X:XT)(a:Sig)(b:Func)(s:RSt A):A.M (Tup A.aA a.out):=
 match Rf A X s b.results.toList with
  | some c=>match qL A s.h a.res c (es0 A a.objs.length a.dV)with
   | some e=>match AX A s.h 0 a.dV e with
    | some e=>if ES.fine A s.h e a.dV then(match pack A.aA a.out e.lv.reverse with | some y=>ig A e.ck (A.ret a.out y) | none=>A.fail)else A.fail
    | none=>A.fail
   | none=>A.fail
  | none=>A.fail
def rZ(X:XT)(C:Calls A.aA)(ord:Nat->List fM)(chk:Nat->Array Oper->Nat->Bool)(an:Ann)(a:Sig)(c:Func)(b:Code)(x:Tup A.aA a.inp):A.M (Tup A.aA a.out):=
 if !Nat.ble a.objs.length a.dV.length then A.fail else match tC A.aA (λi=>i) a.args (unpack A.aA a.inp x)with
 | some (vs,r)=>match wF A.aA (λi=>i) (λ_=> .gone .i64 (A.lit 0)) 0 a.objs r with
  | some (os,_)=>
   bN A X C ord chk a.objs.length an b {t:=(range vs.length).zip (vs.map λv=>⟨none,v⟩),gs:=[],h:=os,m:=vs.length+(c.ntmps-vs.length)} λe s=>
    match e with
    | .ret | .normal=>aaQ A X a c s
    | _=>A.fail
  | none=>A.fail
 | none=>A.fail
end
end Go.TX
namespace Go.TX
open Go Go.AE List
abbrev aF:Car:={I:=Int,B:=Bool,S:=ByteArray,L:=λc=>List c.den,X:=Co.den}
def aiy(b:Blk):List (LV aF):=[.i b.pc,.i b.len,.l .iop b.ops,.i b.fin,.i b.x,.i b.y,.i b.k]
def ajV(m:aG):List (LV aF):=[.l .i64 m.regs,.i m.pc,.l .i64 m.mem,.i m.save,.b m.bG,.b m.waits,.i m.halt,.l .i64 m.ins,.l .i64 m.outs,.i m.count]
def Co.zV:(c:Co)->c.den->List (LV aF)
 | .i64,n=> [.i n] | .u8,n=> [.i n] | .bool,b=> [.b b] | .str,s=> [.s s]
 | .ins,i=> [.i i.op,.i i.d,.i i.a,.i i.k]
 | .form,f=> [.b f.d,.b f.a,.i f.most,.l .str f.words]
 | .mono,m=> [.i m.bH,.l .i64 m.atoms]
 | .poly,p=> [.l .mono p]
 | .atom,a=> [.i a.kind,.i a.k,.l .mono a.x,.l .mono a.y]
 | .tab,t=> [.l .atom t]
 | .iop,o=> [.i o.kind,.i o.x,.i o.y,.i o.k,.i o.at_]
 | .blk,b=>aiy b
 | .ay,m=>ajV m
 | .ev,e=> [.i e.kind,.i e.at_,.l .mono e.x,.l .mono e.y,.l .poly e.regs]
 | .sym,s=> [.l .ev s.events,.l .poly s.regs,.i s.fin,.l .mono s.x,.l .mono s.y,.i s.k]
 | .cac,c=> .l .i64 c.words::aiy c.blk
 | .cer,c=>aiy c.base++aiy c.made
 | .ask,a=> [.b a.own,.l .u8 a.bytes]
 | .eng,e=>ajV e.ay++ [.l .cac e.cache,.l .cer e.aX]
 | .ints,t=> [.l .i64 t]
abbrev iQ:=Tup aF
def Co.mk:(c:Co)->iQ c.rX->c.den
 | .i64,t=>t.1 | .u8,t=>t.1 | .bool,t=>t.1 | .str,t=>t.1
 | .ins,t=>⟨t.1,t.2.1,t.2.2.1,t.2.2.2.1⟩
 | .form,t=>⟨t.1,t.2.1,t.2.2.1,t.2.2.2.1⟩
 | .mono,t=>⟨t.1,t.2.1⟩
 | .poly,t=>t.1
 | .atom,t=>⟨t.1,t.2.1,t.2.2.1,t.2.2.2.1⟩
 | .tab,t=>t.1
 | .iop,t=>⟨t.1,t.2.1,t.2.2.1,t.2.2.2.1,t.2.2.2.2.1⟩
 | .blk,t=>⟨t.1,t.2.1,t.2.2.1,t.2.2.2.1,t.2.2.2.2.1,t.2.2.2.2.2.1,t.2.2.2.2.2.2.1⟩
 | .ay,t=>⟨t.1,t.2.1,t.2.2.1,t.2.2.2.1,t.2.2.2.2.1,t.2.2.2.2.2.1,t.2.2.2.2.2.2.1,t.2.2.2.2.2.2.2.1,t.2.2.2.2.2.2.2.2.1,t.2.2.2.2.2.2.2.2.2.1⟩
 | .ev,t=>⟨t.1,t.2.1,t.2.2.1,t.2.2.2.1,t.2.2.2.2.1⟩
 | .sym,t=>⟨t.1,t.2.1,t.2.2.1,t.2.2.2.1,t.2.2.2.2.1,t.2.2.2.2.2.1⟩
 | .cac,t=>⟨t.1,⟨t.2.1,t.2.2.1,t.2.2.2.1,t.2.2.2.2.1,t.2.2.2.2.2.1,t.2.2.2.2.2.2.1,t.2.2.2.2.2.2.2.1⟩⟩
 | .cer,t=>⟨⟨t.1,t.2.1,t.2.2.1,t.2.2.2.1,t.2.2.2.2.1,t.2.2.2.2.2.1,t.2.2.2.2.2.2.1⟩,
  ⟨t.2.2.2.2.2.2.2.1,t.2.2.2.2.2.2.2.2.1,t.2.2.2.2.2.2.2.2.2.1,t.2.2.2.2.2.2.2.2.2.2.1,t.2.2.2.2.2.2.2.2.2.2.2.1,t.2.2.2.2.2.2.2.2.2.2.2.2.1,t.2.2.2.2.2.2.2.2.2.2.2.2.2.1⟩⟩
 | .ask,t=>⟨t.1,t.2.1⟩
 | .eng,t=>⟨⟨t.1,t.2.1,t.2.2.1,t.2.2.2.1,t.2.2.2.2.1,t.2.2.2.2.2.1,t.2.2.2.2.2.2.1,t.2.2.2.2.2.2.2.1,t.2.2.2.2.2.2.2.2.1,t.2.2.2.2.2.2.2.2.2.1⟩,t.2.2.2.2.2.2.2.2.2.2.1,t.2.2.2.2.2.2.2.2.2.2.2.1⟩
 | .ints,t=>t.1
def bytesOf(l:List UInt8):ByteArray:=⟨l.toArray⟩
def wK:List Form:=[
 ⟨false,false,3,[bytesOf [115,116,111,112],bytesOf [114,101,116,117,114,110],bytesOf [108,101,116],bytesOf [107,101,101,112]]⟩,
 ⟨true,false,255,[bytesOf [115,101,116]]⟩,⟨true,true,0,[bytesOf [109,111,118,101]]⟩,⟨true,true,3,[bytesOf [97,100,100]]⟩,⟨true,true,3,[bytesOf [115,117,98]]⟩,
 ⟨true,true,3,[bytesOf [109,117,108]]⟩,⟨true,true,3,[bytesOf [97,110,100]]⟩,⟨true,true,3,[bytesOf [120,111,114]]⟩,⟨true,true,15,[bytesOf [115,104,105,102,116]]⟩,
 ⟨true,true,255,[bytesOf [108,111,97,100]]⟩,⟨true,true,255,[bytesOf [115,116,111,114,101]]⟩,⟨true,true,255,[bytesOf [115,97,109,101]]⟩,⟨true,true,255,[bytesOf [108,101,115,115]]⟩,
 ⟨false,true,0,[bytesOf [103,111]]⟩,⟨true,false,0,[bytesOf [111,117,116]]⟩,⟨true,false,0,[bytesOf [105,110]]⟩]
def Zg:(c:Co)->List c.den
 | .form=>wK
 | _=> []
def Ed{α ρ:Type}(k:α->(ρ->Prop)->Prop)(Q:ρ->Prop):α ⊕ ρ->Prop
 | .inl x=>k x Q
 | .inr r=>Q r
def itW{α ρ:Type}:Nat->(α->(α ⊕ ρ->Prop)->Prop)->α->(ρ->Prop)->Prop
 | 0,_,_,_=>False
 | n+1,f,x,Q=>f x (Ed (itW n f) Q)
def Zh{α ρ:Type}(f:α->(α ⊕ ρ->Prop)->Prop)(x:α)(Q:ρ->Prop):Prop:=
 ∃(I:α->Prop) (μ:α->Nat),I x/\∀y,I y->f y (Ed (λz _=>I z/\μ z<μ y) Q)
def iD(a:BinOp)(k:IntKind)(x y:Int):Int:=
 match a with
 | .add=>k.wrap (x+y) | .sub=>k.wrap (x-y) | .mul=>k.wrap (x*y) | .quo=>k.wrap (x.tdiv y) | .rem=>x.tmod y
 | .and=>ku .and k x y | .or=>ku .or k x y | .xor=>ku .xor k x y
 | .shl=>k.wrap (x*2^ (min y.toNat k.bits)) | .shr=>x.fdiv (2^ (min y.toNat k.bits))
 | _=>0
def bI(a:BinOp)(x y:Int):Bool:=
 match a with
 | .eql=>decide (x=y) | .neq=> !decide (x=y) | .lss=>decide (x<y) | .leq=>decide (x<=y) | .gtr=>decide (y<x) | .geq=>decide (y<=x)
 | _=>false
def abQ(x y:Ins):Bool:=decide (x=y)
def abR(x y:IOp):Bool:=decide (x=y)
def aqQ:(c:Co)->c.den->c.den->Bool
 | .ins,x,y=>abQ x y | .iop,x,y=>abR x y | _,_,_=>false
def cu(c:Co)(j:Nat)(x:c.den):Int:=match (c.zV x)[j]? with | some (.i n)=>n | _=>0
def LH(c:Co)(j:Nat)(x:c.den):Bool:=match (c.zV x)[j]? with | some (.b n)=>n | _=>false
def auc(c:Co)(j:Nat)(x:c.den):ByteArray:=match (c.zV x)[j]? with | some (.s n)=>n | _=>default
def jy(c:Co)(j:Nat)(a:Co)(x:c.den):List a.den:=match (c.zV x)[j]? with | some (.l q xs)=>if e:q=a then e▸xs else [] | _=> []
abbrev std(N : Nat) : Alg where
 aA:=aF
 M:=fun ρ=>(ρ->Prop)->Prop
 lit:=λn=>(n:Int)
 bl:=λb=>(b:Bool)
 st:=λs=>(s:ByteArray)
 arith:=iD
 cmp:=bI
 addN:=λ(x y:Int)=>x+y
 OB:=λ(x y:Int)=>x-y
 neg:=λk (x:Int)=>k.wrap (0-x)
 conv:=λk (x:Int)=>k.wrap x
 QV:=λ(m n:Int)=>if n<m then n else m
 kC:=λ(m n:Int)=>if m<n then n else m
 zS:=λ(b:Bool)=> !b
 OC:=λ(a b:Bool)=>a&&b
 orB:=λ(a b:Bool)=>a || b
 eqB:=λ(a b:Bool)=>a==b
 eqS:=λ(a b:ByteArray)=>a.toList==b.toList
 QW:=λ(d:List Int)=>strOfNums d
 QX:=λ(b:Bool) (x y:Int)=>bif b then x else y
 Lx:=λ(b:Bool) (x y:Bool)=>bif b then x else y
 QY:=λ(b:Bool) c (x y:List c.den)=>(bif b then x else y:List c.den)
 aaO:=λ(b:Bool) _ x y=>bif b then x else y
 len:=λc (d:List c.den)=>(d.length:Int)
 FX:=λc=>([]:List c.den)
 get:=λc (d:List c.den) (i:Int)=>d.getD i.toNat default
 set:=λc (d:List c.den) (i:Int) x=>d.set i.toNat x
 app:=λc (d h:List c.den)=>d++h
 sub:=λc (d:List c.den) (g e:Int)=>(d.take e.toNat).drop g.toNat
 rep:=λc (n:Int) x=>replicate n.toNat x
 lst:=λc (d:List c.den)=>d
 glob:=λ_ c=>Zg c
 fI:=cu
 fB:=LH
 fS:=auc
 fL:=jy
 mkX:=Co.mk
 eqX:=aqQ
 ret:=λ_ t Q=>Q t
 fail:=λ_=>False
 vE:=λ_ t k=>k t
 chk:=λ(b:Bool) m Q=>b=true/\m Q
 cond:=λ(b:Bool) x y Q=>(b=true->x Q)/\(b=false->y Q)
 bind:=λ_ m k Q=>m λt=>k t Q
 wD:=λ_ m k Q=>m (Ed k Q)
 inl:=λ_ t Q=>Q (.inl t)
 inr:=λ_ m Q=>m λr=>Q (.inr r)
 iter:=λ_ f x Q=>Zh f x Q
abbrev Co.size(c:Co):Nat:=c.fields.length
def aqR(n:Int):List D:=[.int .i64 n]
def F8(a:List Int):D:= .rows 1 (a.map aqR)
def ajW(m:aj):List D:=[.int .i64 m.bH,F8 m.atoms]
def F9(p:List aj):D:= .rows 2 (p.map ajW)
def abS(p:List aj):List D:=[F9 p]
def ajX(a:Atom):List D:=[.int .i64 a.kind,.int .i64 a.k,F9 a.x,F9 a.y]
def aqS(o:IOp):List D:=[.int .i64 o.kind,.int .i64 o.x,.int .i64 o.y,.int .i64 o.k,.int .i64 o.at_]
def aqT(s:ByteArray):List D:=[.str s]
def u8R(n:Int):List D:=[.int .u8 n]
def aiz(b:Blk):List D:=[.int .i64 b.pc,.int .i64 b.len,.rows 5 (b.ops.map aqS),.int .i64 b.fin,.int .i64 b.x,.int .i64 b.y,.int .i64 b.k]
def ajY(m:aG):List D:=[F8 m.regs,.int .i64 m.pc,F8 m.mem,.int .i64 m.save,.bool m.bG,.bool m.waits,.int .i64 m.halt,F8 m.ins,F8 m.outs,.int .i64 m.count]
def evR(e:Ev):List D:=[.int .i64 e.kind,.int .i64 e.at_,F9 e.x,F9 e.y,.rows 1 (e.regs.map abS)]
def aqU(c:Cac):List D:=F8 c.words::aiz c.blk
def aqV(c:Cer):List D:=aiz c.base++aiz c.made
def Co.row:(c:Co)->c.den->List D
 | .i64,n=>aqR n | .u8,n=>u8R n | .bool,b=> [.bool b] | .str,s=>aqT s
 | .ins,i=> [.int .i64 i.op,.int .i64 i.d,.int .i64 i.a,.int .i64 i.k]
 | .form,f=> [.bool f.d,.bool f.a,.int .i64 f.most,.rows 1 (f.words.map aqT)]
 | .mono,m=>ajW m | .poly,p=>abS p | .atom,a=>ajX a | .tab,t=> [.rows 4 (t.map ajX)] | .iop,o=>aqS o
 | .blk,b=>aiz b | .ay,m=>ajY m | .ev,e=>evR e
 | .sym,s=> [.rows 5 (s.events.map evR),.rows 1 (s.regs.map abS),.int .i64 s.fin,F9 s.x,F9 s.y,.int .i64 s.k]
 | .cac,c=>aqU c | .cer,c=>aqV c | .ask,a=> [.bool a.own,.rows 1 (a.bytes.map u8R)]
 | .eng,e=>ajY e.ay++ [.rows 8 (e.cache.map aqU),.rows 14 (e.aX.map aqV)]
 | .ints,t=> [F8 t]
def aO(c:Co)(a:List c.den):List (List D):=a.map c.row
def pI:Leaf aF->D
 | .int k x=> .int k x | .bool b=> .bool b | .str s=> .str s | .rows c a=> .rows c.size (aO c a)
def lvD:Sh->LV aF->D
 | .int k,.i n=> .int k n
 | _,.i n=> .int .i64 n
 | _,.b b=> .bool b
 | _,.s s=> .str s
 | _,.l c xs=> .rows c.size (aO c xs)
 | _,.x _ _=> .bool false
def abT(c:Co)(x:c.den):c.row x=zipWith lvD c.fields (c.zV x):=by cases c<;>rfl
theorem tH(c:Co)(x:c.den):(c.row x).length=c.size:=by cases c<;>rfl
def abU(c:Co)(x:c.den):(c.zV x).length=c.size:=by cases c<;>rfl
def nA(N:Nat)(c:Co)(x:c.den):(gq (std N) c x 0 c.fields).map pI=c.row x:=by cases c<;>rfl
def Cz(N:Nat)(c:Co)(x:c.den):(gq (std N) c x 0 c.fields).map jZ=c.fields:=by cases c<;>rfl
def Kv(N:Nat)(c:Co)(x:c.den):(gq (std N) c x 0 c.fields).map Leaf.lv=c.zV x:=by cases c<;>rfl
def aaR{t:LTy}{v:LV aF}{a:LT aF t}(h:alg aF t v=some a):aqO aF t a=v:=by
 cases t<;>cases v<;>simp only [alg,reduceCtorEq]at h<;>(try (cases h;rfl))
 all_goals
  split at h
  .rename_i e;subst e;cases h;rfl
  .cases h
def unpack_pack:∀ {c:List LTy} {d:List (LV aF)} {t:iQ c},pack aF c d=some t->unpack aF c t=d
 | [],[],_,_=>rfl
 | [],_::_,_,h=>by simp [pack]at h
 | _::_,[],_,h=>by simp [pack]at h
 | t::r,v::d,x,h=>by
  unfold pack at h;split at h
  .rename_i a ha;split at h
   .rename_i b hb;cases h;simp only [unpack];rw [aaR ha,unpack_pack hb]
   .cases h
  .cases h
def Zi(c:Co)(t:iQ c.rX):c.zV (c.mk t)=unpack aF c.rX t:=by cases c<;>rfl
variable{x:Cell}{p:PV}{f:Bool}{k:IntKind}
abbrev SC:=TC aF
abbrev SVal:=TV aF
abbrev aN:=dZ aF
abbrev NM:=Nat->Option (Nat×Nat)
def Leaf.scalar:Leaf aF->Bool | .rows _ _=>false | _=>true
inductive RC (N:NM):Cell->SC->Prop
 | d {f g:Bool} {x:D} {y:Leaf aF}:x=pI y->(g=true->f=true\/y.scalar=true)->RC N (.d f x) (.d g y)
 | nil:RC N .nil .nil
 | clip {f g:Bool} {c:Co} {xs:List c.den}:(g=true->f=true)->RC N (.clip f c.size (aO c xs)) (.clip g c xs)
 | own {l sz n:Nat}:N l=some (sz,n)->RC N (.os l sz 0 n) (.own l)
 | os {l sz lo n m:Nat}:N l=some (sz,m)->RC N (.os l sz lo n) (.os l (lo:Int) (n:Int))
 | pb {l sz j:Nat}:RC N (.ptr l sz 0 j) (.pb l sz j)
 | pr {l sz i j m:Nat}:N l=some (sz,m)->RC N (.ptr l sz i j) (.pr l (i:Int) j)
 | rp {f g:Bool} {c:Co} {xs:List c.den} {i j:Nat}:(g=true->f=true)->i<xs.length->RC N (.rp f c.size (aO c xs) i j) (.rp g c xs (i:Int) j)
 | gp {g:Nat} {c:Co}:RC N (.rp false 1 [[.rows c.size (aO c (Zg c))]] 0 0) (.gp g c)
 | fn {g:FuncId} {caps:List (Nat×Nat)}:RC N (.fn g (caps.map λp=> .ptr p.1 p.2 0 0)) (.fn g caps)
 | np:RC N .np .np
def cellsS(v:SVal):List SC:=bZ (std 0) v
def Rh(n:Nat)(c:Co)(x:c.den):∀(l:List Sh) (j:Nat),gq (std n) c x j l=gq (std 0) c x j l
 | [],_=>rfl
 | s::r,j=>by simp_all
def OL(n:Nat)(f:Bool)(c:Co)(x:c.den):ru (std n) f c x=ru (std 0) f c x:=congrArg (List.map (TC.d f)) (Rh n c x _ _)
def dH(n:Nat)(v:SVal):bZ (std n) v=cellsS v:=by
 cases v with
 | sv f c x=>exact OL n f c x
 | _=>rfl
inductive PV0 (N:NM):PV->SVal->Prop
 | c {x:Cell} {y:SC}:RC N x y->PV0 N (.c x) (.c y)
 | agg {cs:List Cell} {v:SVal}:bJ (std 0) v=true->F2 (RC N) cs (cellsS v)->PV0 N (.agg cs) v
inductive PVR (N:NM):PV->SVal->Prop
 | one {p:PV} {v:SVal}:PV0 N p v->PVR N p v
 | tup {ps:List PV} {vs:List SVal}:F2 (PV0 N) ps vs->PVR N (.tup ps) (.tup vs)
def nmh(h:List aN):NM:=λl=>match h[l]? with
 | some (.rows _ c a)=>some (c.size,(a:List c.den).length)
 | some (.gone c n)=>some (c.size,(n:Int).toNat)
 | _=>none
inductive OR (N:NM):fK->aN->Prop
 | box {cs:List Cell} {v:SVal}:F2 (RC N) cs (cellsS v)->OR N (.box cs) (.box v)
 | rows {f g:Bool} {c:Co} {xs:List c.den}:(g=true->f=true)->OR N (.rows f c.size (aO c xs)) (.rows g c xs)
 | gone {c:Co} {n:Int}:OR N .gone (.gone c n)
structure fT(h':Heap)(h:List aN):Prop where
 old:∀l o,h[l]? =some o->∃o',AE.look h' l=some o'/\OR (nmh h) o' o
 new:∀l,h.length<=l->AE.look h' l=none
def RC.mono{N M:NM}(a:∀l x,N l=some x->M l=some x){y:SC}(h:RC N x y):RC M x y:=by
 cases h with
 | d c b=>exact .d c b
 | nil=>exact .nil
 | clip h=>exact .clip h
 | own h=>exact .own (a _ _ h)
 | os h=>exact .os (a _ _ h)
 | pb=>exact .pb
 | pr h=>exact .pr (a _ _ h)
 | rp h e=>exact .rp h e
 | gp=>exact .gp
 | fn=>exact .fn
 | np=>exact .np
def PV0.mono{N M:NM}(a:∀l x,N l=some x->M l=some x){x:PV}{y:SVal}(h:PV0 N x y):PV0 M x y:=by
 cases h with
 | c h=>exact .c (h.mono a)
 | agg d b=>exact .agg d (b.mono λ_ _ h=>h.mono a)
def PVR.mono{N M:NM}(a:∀l x,N l=some x->M l=some x){x:PV}{y:SVal}(h:PVR N x y):PVR M x y:=by
 cases h with
 | one h=>exact .one (h.mono a)
 | tup h=>exact .tup (h.mono λ_ _ h=>h.mono a)
def OR.mono{N M:NM}(a:∀l x,N l=some x->M l=some x){x:fK}{y:aN}(h:OR N x y):OR M x y:=by
 cases h with
 | box h=>exact .box (h.mono λ_ _ h=>h.mono a)
 | rows h=>exact .rows h
 | gone=>exact .gone
def PVR.cell{N:NM}{y:SC}(h:PVR N p (.c y)):∃x,p= .c x/\RC N x y:=by
 cases h with | one h=>cases h with
  | c h=>exact⟨_,rfl,h⟩
  | agg h _=>simp [bJ]at h
def PVR.ofC{N:NM}{y:SC}(h:RC N x y):PVR N (.c x) (.c y):= .one (.c h)
theorem RC.int{N:NM}{n:Int}(h:RC N x (.d f (.int k n))):∃g,x= .d g (.int k n):=by
 cases h with | d a b=>exact⟨_,by rw [a];rfl⟩
theorem RC.bool{N:NM}{b:Bool}(h:RC N x (.d f (.bool b))):∃g,x= .d g (.bool b):=by
 cases h with | d a c=>exact⟨_,by rw [a];rfl⟩
theorem PVR.int{N:NM}{n:Int}(h:PVR N p (.c (.d f (.int k n)))):∃g,p= .c (.d g (.int k n)):=by
 obtain⟨x,rfl,hc⟩:=h.cell;grind [RC.int]
theorem PVR.bool{N:NM}{b:Bool}(h:PVR N p (.c (.d f (.bool b)))):∃g,p= .c (.d g (.bool b)):=by
 obtain⟨x,rfl,hc⟩:=h.cell;grind [RC.bool]
def PVR.ci{N:NM}(k:IntKind)(n:Int)(f:Bool):PVR N (ci k n) (.c (.d f (.int k n))):= .ofC (.d rfl λ_=> .inl rfl)
def PVR.cb{N:NM}(b f:Bool):PVR N (AE.cb b) (.c (.d f (.bool b))):= .ofC (.d rfl λ_=> .inl rfl)
def PVR.cells{N:NM}{v:SVal}(h:PVR N p v):F2 (RC N) (aR p) (cellsS v):=by
 cases h with
 | one h=>cases h with
  | c h=>exact .cons h .nil
  | agg _ h=>exact h
 | tup h=>exact .nil
def PVR.len{N:NM}{v:SVal}(h:PVR N p v):(aR p).length=(cellsS v).length:=h.cells.length
def F2.ajZ{N:NM}{f g:Bool}(b:g=true->f=true):∀(a:List (Leaf aF)),F2 (RC N) ((a.map pI).map (.d f)) (a.map (.d g))
 | []=> .nil
 | _::a=> .cons (.d rfl λh=> .inl (b h)) (F2.ajZ b a)
def aaS{N:NM}(n:Nat){f g:Bool}(a:g=true->f=true)(c:Co)(x:c.den):F2 (RC N) ((c.row x).map (.d f)) (ru (std n) g c x):=by
 unfold ru;rw [<-nA n c x];exact F2.ajZ a _
structure XOK(X:XT)(E:Tab):Prop where
 ty:X.ty=E.ty
 glob:∀g c,X.glob g=some c->E.glob g=some (.rows c.size (aO c (Zg c)))
 ieq:∀t c,X.ieq t=some c->(c= .ins/\E.ieq t=some 4)\/(c= .iop/\E.ieq t=some 5)
def Gv(T:(PV->Prop)->Prop)(N:NM)(v:SVal):Prop:=∃pv,PVR N pv v/\∀K,K pv->T K
def EvR(X:XT)(E:Tab)(n:Nat)(N:NM)(t:Slots)(e:Nat->Option SVal):Prop:=∀i v,e i=some v->∃pv,aY t i=some pv/\PVR N pv v
def dO{X:XT}{E:Tab}(hX:XOK X E){n:Nat}{N:NM}{t:Slots}{e:Nat->Option SVal}(a:EvR X E n N t e){x:Operand}{v:SVal}(h:evX (std n) X e x=some v):
  ∃pv,ev E t x=some pv/\PVR N pv v:=by
 cases x with
 | tmp i=>exact a i v h
 | const c=>
  simp only [evX]at h;split at h<;>cases h
  .exact⟨_,rfl,.ci _ _ _⟩
  .exact⟨_,rfl,.cb _ _⟩
  .exact⟨_,rfl,.ofC (.d rfl λ_=> .inl rfl)⟩
  .exact⟨_,rfl,.ofC .nil⟩
  .exact⟨_,rfl,.ofC .np⟩
 | global g=>
  simp only [evX]at h;split at h
  .rename_i c hc;cases h;refine⟨_,by simp only [ev,hX.glob g c hc,Option.map_some],.ofC .gp⟩
  .cases h
 | func f=>cases h;exact⟨_,rfl,.ofC (RC.fn (caps:=[]))⟩
theorem je{o:Option PV}{pv:PV}(h:o=some pv)(K:PV->Prop):K pv->aT o K:=by rw [h];exact id
end Go.TX
namespace Go.TX
open Go Go.AE List
variable{n:Nat}{N:NM}{c:List Bool}{y:TY}{v:SVal}{X:XT}{E:Tab}{p:PV}{s:TypeId}
def Ri{d:mO}(h:d.agg=true):∃a,d= .struct a:=by cases d<;>simp [mO.agg]at h;exact⟨_,rfl⟩
def DV(n:Nat)(w:SVal):bJ (std n) w=bJ (std 0) w:=by cases w<;>rfl
def abV{f g:Bool}(u:g=true->f=true){c:Co}{x:c.den}{j:Nat}
  (h:lD (std n) y j (.sv g c x) (ru (std n) g c x)=some v):Gv (vM f y (c.row x) j) N v:=by
 have b:=aaS (N:=N) n u c x;have C:(ru (std n) g c x).length=(c.row x).length:=by have:=b.length;simp_all
 unfold lD at h;split at h
 .rename_i hagg;obtain⟨B,t⟩:=Ri hagg;have l:∀v,F2 (RC N) ((((c.row x).drop j).take y.size).map (.d f)) (cellsS v)->bJ (std 0) v=true->j+y.size<=(c.row x).length->Gv (vM f y (c.row x) j) N v:=by
   intro v p s z;refine⟨_,.one (.agg s p),λK hk=> ?_⟩
   grind [vM]
  split at h
  .rename_i h0;simp only [Bool.and_eq_true,beq_iff_eq]at h0;obtain⟨⟨rfl,A⟩,_⟩:=h0;cases h;refine l _ ?_ rfl ah;have:((c.row x).drop 0).take y.size=c.row x:=by simp_all
   rw [this];have:=b;rw [OL]at this;exact this
  .split at h
   .rename_i p;cases h;have p:=Nat.le_of_ble_eq_true p;refine l _ ?_ rfl ah;rw [map_take,map_drop];exact(b.drop j).take y.size
   .cases h
 .rename_i hagg;split at h
  .rename_i q hq;obtain⟨a,o,i⟩:=b.get hq;rw [getElem?_map]at o;cases hd:(c.row x)[j]? with
   | none=>simp_all
   | some d=>
   rw [hd]at o;simp at o;subst o;split at h
   .rename_i k hk;split at h
    .rename_i f' k' m;split at h
     .rename_i e;subst e;cases h;obtain⟨w,r⟩:=RC.int i;cases r;exact⟨_,.ci k m _,λK hK=>by grind [vM]⟩
     .cases h
    .cases h
   .rename_i hni;cases h;refine⟨_,.ofC i,λK hK=> ?_⟩
    grind [List.getElem?_eq_some_iff,vM,mO.agg,absurd,bool]
  .cases h
def Zj{f g:Bool}(d:g=true->f=true){c:Co}{a:List c.den}{i j:Nat}(b:i<a.length)
  (h:lD (std n) y j (.sv g c (a.getD i default)) (ru (std n) g c (a.getD i default))=some v):Gv (abn f (aO c a) i j y) N v:=by
 obtain⟨pv,e,l⟩:=abV (N:=N) d h;refine⟨pv,e,λK hK=>⟨by simpa [aO]using b,λrow k=> ?_⟩⟩
 grind [aO,getElem?_eq_getElem,Option.some.injEq,default,getD]
def aiA{cs:List Cell}{w v:SVal}{j:Nat}(hc:F2 (RC N) cs (cellsS w))(h:lD (std n) y j w (bZ (std n) w)=some v):Gv (Le cs j y) N v:=by
 have i:(bZ (std n) w).length=cs.length:=by rw [dH];exact hc.length.symm
 unfold lD at h;split at h
 .rename_i hagg;split at h
  .rename_i h0;simp only [Bool.and_eq_true,beq_iff_eq]at h0;obtain⟨⟨rfl,g⟩,f⟩:=h0;cases h;refine⟨.agg ((cs.drop 0).take y.size),.one (.agg ah ?_),λK hK=> ?_⟩
   all_goals grind [take_of_length_le,Le]
  .split at h
   .rename_i c;cases h;have c:=Nat.le_of_ble_eq_true c;refine⟨.agg ((cs.drop j).take y.size),.one (.agg rfl ?_),λK hK=>by grind [Le]⟩;have:=(hc.drop j).take y.size;rw [<-dH n]at this;exact this
   .cases h
 .rename_i hagg;split at h
  .rename_i q hq;rw [dH]at hq;obtain⟨a,d,b⟩:=hc.get hq;have e:v= .c q:=by
    split at h
    .split at h
     all_goals simp_all
    .cases h;rfl
   subst e;exact⟨_,.ofC b,λK hK=>by unfold Le;rw [if_neg hagg,d];exact hK⟩
  .cases h
def OM(hX:XOK X E){o:Heap}{h:List aN}(H:fT o h){ty:TypeId}{q v:SVal}{G:List Bool}(r:PVR (nmh h) p q)
  (hk:OE (std n) X h ty q=some (G,v)) (B:∀b∈G,b=true):Gv (mP E o ty p) (nmh h) v:=by
 unfold OE at hk;rw [hX.ty]at hk;cases hy:E.ty ty with
 | none=>simp_all
 | some y=>
 rw [hy]at hk;simp only at hk;have a:∀ {T:(PV->Prop)->Prop},Gv T (nmh h) v->(∀K,T K->mP E o ty p K)->Gv (mP E o ty p) (nmh h) v:=λ⟨pv,N,F⟩ f=>⟨pv,N,λK hK=>f K (F K hK)⟩
 split at hk
 .rename_i l D j;obtain⟨x,rfl,hc⟩:=r.cell;cases hc;split at hk
  .rename_i w hw;split at hk
   .obtain⟨M,d,z⟩:=H.old l _ hw;cases z with | box J=>
    unfold OD at hk;split at hk
    .rename_i u hu;cases hk;refine a (aiA J hu) λK k=> ?_
     unfold mP;rw [hy];simp only [aD];rw [d];exact⟨rfl,k⟩
    .cases hk
   .cases hk
  .cases hk
 .rename_i l i j;obtain⟨x,rfl,hc⟩:=r.cell;cases hc with | pr O=>
  rename_i D i m;split at hk
  .rename_i f c t hw;obtain⟨M,d,z⟩:=H.old l _ hw;cases z with | rows A=>
   split at hk
   .rename_i u hu;cases hk;have F:=B ((std n).cmp .lss (i:Int) ((std n).len c t)) (by simp);have s:i< (t:List c.den).length:=by grind [bI]
    have L:D=c.size:=by grind [nmh,Option.some.injEq,Prod.mk.injEq]
    refine a (Zj (n:=n) A s (by simpa [std]using hu)) λK k=> ?_
    unfold mP;rw [hy];simp only [aD];rw [d];exact⟨L,k⟩
   .cases hk
  .cases hk
 .rename_i f c t i j;obtain⟨x,rfl,hc⟩:=r.cell;cases hc with | rp A s=>
  unfold OD at hk;split at hk
  .rename_i u hu;cases hk;refine a (Zj (n:=n) A s (by simpa [std]using hu)) λK k=> ?_
   unfold mP;rw [hy];exact k
  .cases hk
 .rename_i g c;obtain⟨x,rfl,hc⟩:=r.cell;cases hc;split at hk
  .rename_i e he;cases hk;refine⟨_,.ofC (.d (f:=false) rfl (λh=>by cases h)),λK hK=> ?_⟩;unfold mP;rw [hy];simp only [aD];refine⟨by simp,λrow C=> ?_⟩;simp at C;subst C;unfold vM;rw [he];exact⟨by simp,λx I=>by simp at I;subst I;exact hK⟩
  .cases hk
 .cases hk
def Rj{q v:SVal}(a:PVR N p q)(hk:alm (std n) q=some (c,v)):Gv (Qt p) N v:=by
 unfold alm at hk;split at hk
 .cases hk;obtain⟨x,rfl,hc⟩:=a.cell;cases hc;exact⟨_,.ofC .pb,λK hK=>hK⟩
 .cases hk;obtain⟨x,rfl,hc⟩:=a.cell;cases hc with | pr h=>exact⟨_,.ofC (.pr h),λK hK=>hK⟩
 .cases hk;obtain⟨x,rfl,hc⟩:=a.cell;cases hc with | rp h b=>exact⟨_,.ofC (.rp h b),λK hK=>hK⟩
 .cases hk
def aqW{b:UnOp}{q v:SVal}(a:PVR N p q)(hk:unX (std n) b q=some (c,v)):Gv (unA b p) N v:=by
 unfold unX at hk;split at hk
 .cases hk;obtain⟨g,rfl⟩:=a.bool;exact⟨_,.cb _ _,λK hK=>hK⟩
 .cases hk;obtain⟨g,rfl⟩:=a.int;exact⟨_,.ci _ _ _,λK hK=>hK⟩
 .cases hk
def Kw:∀a:List Int,NT (aO .u8 a)=some a
 | []=>rfl
 | x::r=>by
  have b:=Kw r;show(match ak6 (Co.row .u8 x),NT (aO .u8 r)with | some n,some l=>some (n::l) | _,_=>none)=_;rw [b];rfl
def aiB(hX:XOK X E){s d:TypeId}{q v:SVal}{h:List Bool}(b:PVR N p q)(hk:abL (std n) X s d q=some (h,v)):Gv (E5 E s d p) N v:=by
 unfold abL at hk;rw [hX.ty]at hk;split at hk
 .rename_i y1 y2 h1 h2;split at hk
  .rename_i k f k' m hd;cases hk;obtain⟨g,rfl⟩:=b.int;refine⟨_,.ci _ _ _,λK hK=> ?_⟩
   grind [E5,aD]
  .rename_i f xs hd;split at hk
   .rename_i e hs;split at hk
    .rename_i t ht;split at hk
     .rename_i hte;cases hk;obtain⟨x,rfl,hc⟩:=b.cell;have a:∃g,x= .d g (.rows Co.u8.size (aO .u8 xs)):=by cases hc with | d c _=>exact⟨_,by rw [c];rfl⟩
      obtain⟨g,rfl⟩:=a;refine⟨.c (.d true (.str (strOfNums xs))),.ofC (.d rfl λ_=> .inl rfl),λK hK=> ?_⟩;unfold E5;rw [h2];simp only [aD];rw [hd];simp only;rw [h1];simp only;rw [hs];simp only;rw [ht];simp only;refine⟨hte,?_⟩;rw [Kw];exact hK
     .cases hk
    .cases hk
   .cases hk
  .cases hk
 .cases hk
def LJ(hX:XOK X E){i:Nat}{q v:SVal}{d:List Bool}(b:PVR N p q)(hk:zT (std n) X s q i=some (d,v)):Gv (jC E s p i) N v:=by
 unfold zT at hk;rw [hX.ty]at hk;split at hk
 .rename_i y hy;split at hk
  .rename_i fs hd;split at hk
   .rename_i off ft hf;split at hk
    .rename_i z hz;split at hk
     .cases hk
     .rename_i a;have a:z.size≠0:=by simpa using a
      have fin:∀K,(match p with | .c (.ptr l sz i j)=>K (.c (.ptr l sz i (j+off))) | .c (.rp r sz es i j)=>K (.c (.rp r sz es i (j+off))) | _=>False)->jC E s p i K:=by grind [jC,aD]
      split at hk
      .cases hk;obtain⟨x,rfl,hc⟩:=b.cell;cases hc;exact⟨_,.ofC .pb,λK hK=>fin K hK⟩
      .cases hk;obtain⟨x,rfl,hc⟩:=b.cell;cases hc with | pr h=>exact⟨_,.ofC (.pr h),λK hK=>fin K hK⟩
      .cases hk;obtain⟨x,rfl,hc⟩:=b.cell;cases hc with | rp h c=>exact⟨_,.ofC (.rp h c),λK hK=>fin K hK⟩
      .cases hk
    .cases hk
   .cases hk
  .cases hk
 .cases hk
def PVR.struct(h:PVR N p v)(a:bJ (std 0) v=true):∃cs,p= .agg cs/\F2 (RC N) cs (cellsS v):=by
 cases h with
 | one h=>cases h with
  | c _=>simp [bJ]at a
  | agg _ h=>exact⟨_,rfl,h⟩
 | tup _=>simp [bJ]at a
def abW(hX:XOK X E){i:Nat}{q v:SVal}{g:List Bool}(h:PVR N p q)(hk:QZ (std n) X s q i=some (g,v)):Gv (vO E s p i) N v:=by
 unfold QZ at hk;rw [hX.ty]at hk;split at hk
 .rename_i y hy;split at hk
  .rename_i fs hd;split at hk
   .rename_i off ft hf;split at hk
    .rename_i z hz;split at hk
     .rename_i hc;simp only [Bool.and_eq_true]at hc;obtain⟨e,b⟩:=hc;have b:=Nat.le_of_ble_eq_true b;obtain⟨cs,rfl,c⟩:=h.struct ah;have j:(bZ (std n) q).length=cs.length:=by rw [dH];exact c.length.symm
      have fin:∀K,(if z.desc.agg then K (.agg ((cs.drop off).take z.size))else DC cs[off]? λx=>K (.c x))->vO E s (.agg cs) i K:=by grind [vO,aD]
      split at hk
      .rename_i hagg;cases hk;refine⟨.agg ((cs.drop off).take z.size),.one (.agg rfl ?_),λK hK=>fin K (by simp_all)⟩;have:=(c.drop off).take z.size;rw [<-dH n]at this;exact this
      .rename_i hagg;split at hk
       .rename_i x hx;cases hk;rw [dH]at hx;obtain⟨a,f,d⟩:=c.get hx;exact⟨_,.ofC d,λK hK=>fin K (by rw [if_neg hagg,f];exact hK)⟩
       .cases hk
     .cases hk
    .cases hk
   .cases hk
  .cases hk
 .cases hk
end Go.TX
namespace Go.TX
open Go Go.AE List
variable{N:NM}{n:Nat}{h:List aN}{c:Co}{p:PV}{X:XT}{E:Tab}
def aaT{a:BinOp}{k:IntKind}{x y:Int}{v:SVal}{d:List Bool}
    (hk:(match a with
       | .quo | .rem=>some ([(std n).cmp .neq y ((std n).lit 0)],.c (.d true (.int k ((std n).arith a k x y))))
       | .shl | .shr=>some ([(std n).cmp .leq ((std n).lit 0) y],.c (.d true (.int k ((std n).arith a k x y))))
       | a=>if LA a then okI (std n) k ((std n).arith a k x y)else if abK a then okB (std n) ((std n).cmp a x y)else none:PR (std n))=some (d,v))
    (c:∀b∈d,b=true):Gv (Ca a k x y) N v:=by
  cases a<;>simp only [LA,abK,okI,okB,if_true,Bool.false_eq_true,if_false,Option.some.injEq,Prod.mk.injEq,reduceCtorEq]at hk<;>
    first
    | exact hk.elim
    | (obtain⟨rfl,rfl⟩:=hk;exact⟨_,.ci _ _ _,λK hK=>hK⟩)
    | (obtain⟨rfl,rfl⟩:=hk;exact⟨_,.cb _ _,λK hK=>hK⟩)
    | (obtain ⟨rfl, rfl⟩ := hk
       have h:=c _ (mem_singleton.2 rfl);refine⟨_,.ci _ _ _,λK hK=>⟨?_,hK⟩⟩;simpa [bI]using h)
def F2.LK:∀ {cs:List Cell} {k:List SC},F2 (RC N) cs k->∀(i:List Int),(∃j:List Bool,k=zipWith (λf n=>TC.d f (.int .i64 n)) j i/\j.length=i.length)->iM cs=some i
 | [],_,h,i,⟨j,e,hl⟩=>by
  cases h;cases i with
  | nil=>rfl
  | cons a b=>simp_all
 | _::_,_,.cons h1 h2,i,⟨j,e,hl⟩=>by
  cases i with
  | nil=>simp_all
  | cons a b=>cases j with
   | nil=>simp at hl
   | cons c d=>
    simp only [zipWith_cons_cons,List.cons.injEq]at e;obtain⟨rfl,rfl⟩:=e;obtain⟨g,rfl⟩:=RC.int h1;have:=F2.LK h2 b ⟨d,rfl,by simpa using hl⟩;simp [iM,Qu,this]
def uM:∀ {i:List Sh} {j:List SC} {f:Bool} {d:List (LV aF)} {m:List Nat},(∀s∈i,s=Sh.i)->aM (std n) h i j=some (f,d,m)->
  ∃a:List Int,d=a.map LV.i/\∃b:List Bool,j=zipWith (λf n=>TC.d f (.int .i64 n)) b a/\b.length=a.length
 | [],[],f,d,m,_,hk=>by simp_all [aM]
 | [],_::_,_,_,_,_,hk=>by simp [aM]at hk
 | _::_,[],_,_,_,_,hk=>by simp [aM]at hk
 | s::i,y::j,f,d,m,hs,hk=>by
  unfold aM at hk;split at hk
  .rename_i f1 y1 l1 h1;split at hk
   .rename_i g ys1 ls1 h2;split at hk<;>cases hk
    obtain⟨a,rfl,b,rfl,o⟩:=uM (λs l=>hs s (mem_cons_of_mem _ l)) h2;have:=hs s (by simp);subst this;unfold fQ at h1;split at h1
    .rename_i f0 lf;split at h1
     .rename_i e;cases lf with
      | int k x=>simp [jZ,Sh.i]at e;subst e;cases h1;exact⟨x::a,rfl,f0::b,rfl,by simp [o]⟩
      | bool x=>simp [jZ,Sh.i]at e
      | str x=>simp [jZ,Sh.i]at e
      | rows c x=>simp [jZ,Sh.i]at e
     .cases h1
    .simp_all
    .simp_all
    .split at h1
     all_goals simp_all
    .cases h1
   .cases hk
  .cases hk
theorem OO(x:Ins):Co.zV .ins x=[x.op,x.d,x.a,x.k].map LV.i:=rfl
theorem OQ(x:IOp):Co.zV .iop x=[x.kind,x.x,x.y,x.k,x.at_].map LV.i:=rfl
def aaU{a b:List Int}(h:a.map (LV.i (A:=aF))=b.map LV.i):a=b:=by
 induction a generalizing b with
 | nil=>cases b<;>simp_all
 | cons x a c=>cases b with
  | nil=>simp at h
  | cons y b=>grind
theorem A9(hc:∀s∈c.fields,s=Sh.i){q:SVal}{f:Bool}{x:c.den}{A:List Nat}(o:PVR N p q)(hk:toX (std n) [] c q=some (f,x,A))(l:List Int)(d:c.zV x=l.map LV.i):
  iM (aR p)=some l:=by
 unfold toX at hk;split at hk
 .rename_i f' c' x';split at hk
  .rename_i e;subst e;cases hk;have h:=o.cells;have w:cellsS (.sv f' c' x')=(gq (std 0) c' x' 0 c'.fields).map (.d f'):=rfl;rw [w]at h;refine F2.LK h l ?_;have g:=Kv 0 c' x';have j:=Cz 0 c' x';rw [d]at g
   revert g j
   generalize gq (std 0) c' x' 0 c'.fields=lv;intro g j;have u:∀y∈lv,jZ y=Sh.i:=λy i=>hc _ (by grind)
   clear j d o h w hc
   induction lv generalizing l with
   | nil=>simp_all
   | cons y lv z=>cases l with
    | nil=>simp at g
    | cons a b=>
     simp only [map_cons,List.cons.injEq]at g;obtain⟨m,e,r⟩:=z b g.2 (λy i=>u y (mem_cons_of_mem _ i));have i:=u y (by simp);cases y with
     | int k x=>simp [jZ,Sh.i]at i;subst i;simp [Leaf.lv]at g;exact⟨f'::m,by simp [e,g.1],by simp [r]⟩
     | bool x=>grind [jZ]
     | str x=>grind [jZ]
     | rows c x=>grind [jZ]
  .cases hk
 .cases hk
 .split at hk
  .rename_i f1 ys ls1 g;split at hk
   .rename_i t ht;cases hk;obtain⟨v,rfl,m,i,r⟩:=uM hc g;rw [dH]at i;have j:c.zV (c.mk t)=v.map LV.i:=by rw [Zi,unpack_pack ht]
    rw [show(std n).mkX c t=c.mk t from rfl]at d;rw [j]at d;have:=aaU d;subst this;exact F2.LK o.cells v ⟨m,i,r⟩
   .cases hk
  .cases hk
def Ga{q:SVal}(d:PVR N p q){a:List Int}(h:iM (aR p)=some a)(e:2<=a.length):∃cs,p= .agg cs/\iM cs=some a:=by
 cases p with
 | c x=>grind [aR,iM]
 | agg cs=>exact⟨cs,rfl,h⟩
 | tup b=>grind [aR,iM]
def aqX{x y:Ins}:([x.op,x.d,x.a,x.k]==[y.op,y.d,y.a,y.k])=abQ x y:=by
 unfold abQ;rw [Bool.eq_iff_iff];cases x;cases y;simp
def aqY{x y:IOp}:([x.kind,x.x,x.y,x.k,x.at_]==[y.kind,y.x,y.y,y.k,y.at_])=abR x y:=by
 unfold abR;rw [Bool.eq_iff_iff];cases x;cases y;simp
theorem aU(c:Co)(xs:List c.den):(aO c xs).length=xs.length:=by simp [aO]
def alo(hX:XOK X E){C:BinOp}{ty:TypeId}{p B:PV}{a b v:SVal}{M:List Bool}(q:PVR N p a)(i:PVR N B b)
  (hk:ali (std n) X C ty a b=some (M,v)) (j:∀b∈M,b=true):Gv (Cc E C ty p B) N v:=by
 unfold ali at hk;split at hk
 .rename_i f k x f' k' y;obtain⟨g,rfl⟩:=q.int;obtain⟨I,rfl⟩:=i.int;split at hk
  .rename_i e;obtain⟨pv,S,J⟩:=aaT (N:=N) hk j;exact⟨pv,S,λK hK=>⟨e,J K hK⟩⟩
  .cases hk
 .rename_i f x f' y;obtain⟨g,rfl⟩:=q.bool;obtain⟨I,rfl⟩:=i.bool;rw [hX.ty]at hk;split at hk
  .rename_i z hz;split at hk
   .rename_i hd;split at hk
    .cases hk;exact⟨_,.cb _ _,λK hK=>by unfold Cc;simp only;rw [hz];exact⟨hd,hK⟩⟩
    .cases hk;exact⟨_,.cb _ _,λK hK=>by unfold Cc;simp only;rw [hz];exact⟨hd,hK⟩⟩
    .cases hk
   .cases hk
  .cases hk
 .rename_i f x f' y;have u:∀ {p:PV} {f:Bool} {s:ByteArray},PVR N p (.c (.d f (.str s)))->∃g,p= .c (.d g (.str s)):=λh=>by
   obtain⟨x,rfl,hc⟩:=h.cell;cases hc with | d F _=>exact⟨_,by rw [F];rfl⟩
  obtain⟨g,rfl⟩:=u q;obtain⟨I,rfl⟩:=u i;rw [hX.ty]at hk;split at hk
  .rename_i z hz;split at hk
   .rename_i hd;split at hk
    .cases hk;exact⟨_,.cb _ _,λK hK=>by unfold Cc;simp only;rw [hz];exact⟨hd,hK⟩⟩
    .cases hk;exact⟨_,.cb _ _,λK hK=>by unfold Cc;simp only;rw [hz];exact⟨hd,hK⟩⟩
    .cases hk
   .cases hk
  .cases hk
 .rename_i l P m;obtain⟨x,rfl,D⟩:=q.cell;obtain⟨O,rfl,t⟩:=i.cell;rw [hX.ty]at hk;split at hk
  .rename_i z hz;split at hk
   .rename_i el hd;cases D with
    | @os l Z P L V hN=>
    cases t;have ne:(!decide ((L:Int)=0))=true->L≠0:=λh e=>by simp_all
    split at hk
    .cases hk;exact⟨_,.cb _ _,λK hK=>⟨ne (j _ (mem_singleton.2 rfl)),by rw [hz];exact⟨⟨el,hd⟩,hK⟩⟩⟩
    .cases hk;exact⟨_,.cb _ _,λK hK=>⟨ne (j _ (mem_singleton.2 rfl)),by rw [hz];exact⟨⟨el,hd⟩,hK⟩⟩⟩
    .cases hk
   .cases hk
  .cases hk
 .rename_i f c r;obtain⟨x,rfl,D⟩:=q.cell;obtain⟨O,rfl,t⟩:=i.cell;rw [hX.ty]at hk;split at hk
  .rename_i z hz;split at hk
   .rename_i el hd;cases D with
    | d F _=>
    cases t;subst F;have ne:(!decide ((r.length:Int)=0))=true->aO c r≠ []:=λh e=>by grind [aU,Bool.not_eq_true',decide_eq_false_iff_not]
    split at hk
    .cases hk;exact⟨_,.cb _ _,λK hK=>⟨ne (j _ (mem_singleton.2 rfl)),by rw [hz];exact⟨⟨el,hd⟩,hK⟩⟩⟩
    .cases hk;exact⟨_,.cb _ _,λK hK=>⟨ne (j _ (mem_singleton.2 rfl)),by rw [hz];exact⟨⟨el,hd⟩,hK⟩⟩⟩
    .cases hk
   .cases hk
  .cases hk
 .split at hk
  .rename_i c hc;split at hk
   .rename_i f1 x l1 f2 y l2 hx hy;have o:∀(m:Nat) (r w:List Int),E.ieq ty=some m->r.length=m->w.length=m->2<=m->iM (aR p)=some r->iM (aR B)=some w->(r==w)=(std n).eqX c x y->Gv (Cc E C ty p B) N v:=by
     intro m r w A R Q J H G W;obtain⟨cs,rfl,T⟩:=Ga q H ah;obtain⟨Y,rfl,U⟩:=Ga i G ah;split at hk
     .cases hk;exact⟨_,.cb _ _,λK hK=>by grind [Cc,vN]⟩
     .cases hk;exact⟨_,.cb _ _,λK hK=>by grind [Cc,vN]⟩
     .cases hk
    rcases hX.ieq ty c hc with⟨rfl,A⟩ | ⟨rfl,A⟩
    .exact o 4 _ _ A rfl rfl ah (A9 (by decide) q hx _ (OO x)) (A9 (by decide) i hy _ (OO y)) aqX
    .exact o 5 _ _ A rfl rfl ah (A9 (by decide) q hx _ (OQ x)) (A9 (by decide) i hy _ (OQ y)) aqY
   .cases hk
  .cases hk
def gL(hX:XOK X E){e:TypeId}(h:lW X e c=true):∃z,E.ty e=some z/\z.size=c.size:=by
 unfold lW at h;rw [hX.ty]at h
 grind
theorem dI{l:Nat}{f:Bool}{xs:List c.den}(a:h[l]? =some (.rows f c xs)):nmh h l=some (c.size,xs.length):=by simp only [nmh,a]
def aiC{v:SVal}(a:PVR (nmh h) p v):PVR (nmh h) p (alj (std n) h v):=by
 unfold alj;split
 .rename_i l;split
  .rename_i f c xs hl;obtain⟨x,rfl,d⟩:=a.cell;cases d with
   | @own l g m b=>
    have e:=dI hl;rw [b]at e;cases e;exact .ofC (.os b)
  .exact a
 .exact a
def LM(hX:XOK X E){t:TypeId}{p H:PV}{a b v:SVal}{G:List Bool}(D:PVR (nmh h) p a)(F:PVR (nmh h) H b)
  (hk:zU (std n) X h t a b=some (G,v)) (M:∀b∈G,b=true):Gv (kL E t p H) (nmh h) v:=by
 unfold zU at hk;rw [hX.ty]at hk;split at hk
 .rename_i y hy;split at hk
  .rename_i e f k i hd;obtain⟨i,rfl⟩:∃I:Int,I=i:=⟨i,rfl⟩;obtain⟨g,rfl⟩:=F.int
   have fin:∀z,E.ty e=some z->∀K,(match p with
     | .c (.d f (.rows r es))=>(es≠ []->r=z.size)/\0<=i/\i<es.length/\K (.c (.rp f r es i.toNat 0))
     | .c (.clip f r es)=>(es≠ []->r=z.size)/\0<=i/\i<es.length/\K (.c (.rp f r es i.toNat 0))
     | .c (.os l r A n)=>r=z.size/\0<=i/\i<n/\K (.c (.ptr l r (A+i.toNat) 0))
     | _=>False)->kL E t p (.c (.d g (.int k i))) K:=by
    intro z s K hK;unfold kL;rw [hy];simp only [aD];rw [hd];simp only;rw [s];exact hK
   split at hk
   .rename_i f0 c u;split at hk
    .rename_i hs;cases hk;obtain⟨z,s,o⟩:=gL hX hs;obtain⟨x,rfl,hc⟩:=D.cell;cases hc with | d L J=>
     subst L;have w:(0:Int)<=i:=by simp_all [bI]
     have B:i< (u:List c.den).length:=by simp_all [bI]
     refine⟨_,.ofC (x:= .rp _ c.size (aO c u) i.toNat 0) (by
      grind [RC.rp,nmh,Leaf.scalar,Int.toNat_of_nonneg]),λK hK=>fin z s K ⟨λ_=>o.symm,w,by rw [aU];omega,hK⟩⟩
    .cases hk
   .rename_i f0 c u;split at hk
    .rename_i hs;cases hk;obtain⟨z,s,o⟩:=gL hX hs;obtain⟨x,rfl,hc⟩:=D.cell;cases hc with | clip J=>
     have w:(0:Int)<=i:=by simp_all [bI]
     have B:i< (u:List c.den).length:=by simp_all [bI]
     refine⟨_,.ofC (x:= .rp _ c.size (aO c u) i.toNat 0) (by
      grind [RC.rp,nmh,Int.toNat_of_nonneg]),λK hK=>fin z s K ⟨λ_=>o.symm,w,by rw [aU];omega,hK⟩⟩
    .cases hk
   .rename_i l;split at hk
    .rename_i f1 c u hl;split at hk
     .rename_i hs;cases hk;obtain⟨z,s,o⟩:=gL hX hs;obtain⟨x,rfl,hc⟩:=D.cell;cases hc with | own C=>
      have q:=C;rw [dI hl]at q;cases q;have w:(0:Int)<=i:=by simp_all [bI]
      have B:i< (u:List c.den).length:=by simp_all [bI]
      refine⟨_,.ofC (x:= .ptr l c.size (0+i.toNat) 0) (by
       grind [RC.pr,nmh,Int.toNat_of_nonneg]),λK hK=>fin z s K ⟨o.symm,w,B,hK⟩⟩
     .cases hk
    .cases hk
   .rename_i l A n;split at hk
    .rename_i f1 c u hl;split at hk
     .rename_i hs;cases hk;obtain⟨z,s,o⟩:=gL hX hs;obtain⟨x,rfl,hc⟩:=D.cell;cases hc with | os C=>
      rename_i r A n m;have q:=C;rw [dI hl]at q;cases q;have w:(0:Int)<=i:=by simp_all [bI]
      have B:i< (n:Int):=by simp_all [bI]
      refine⟨_,.ofC (x:= .ptr l c.size (A+i.toNat) 0) (by
       have:=RC.pr (N:=nmh h) (i:=A+i.toNat) (j:=0) C
       grind),λK hK=>fin z s K ⟨o.symm,w,B,hK⟩⟩
     .cases hk
    .cases hk
   .cases hk
  .cases hk
 .cases hk
def alp{q v:SVal}{g:List Bool}(a:PVR (nmh h) p q)(hk:alk (std n) h q=some (g,v)):Gv (NU p) (nmh h) v:=by
 unfold alk at hk;split at hk
 .cases hk;obtain⟨x,rfl,hc⟩:=a.cell;cases hc with | d e _=>subst e;exact⟨_,.ci _ _ _,λK hK=>by grind [NU,pI,aU]⟩
 .cases hk;obtain⟨x,rfl,hc⟩:=a.cell;cases hc with | clip _=>exact⟨_,.ci _ _ _,λK hK=>by grind [NU,aU]⟩
 .obtain⟨x,rfl,hc⟩:=a.cell;cases hc with | own b=>
  split at hk
  .rename_i f c xs hl;cases hk;rw [dI hl]at b;cases b;exact⟨_,.ci _ _ _,λK hK=>hK⟩
  .cases hk
 .cases hk;obtain⟨x,rfl,hc⟩:=a.cell;cases hc;exact⟨_,.ci _ _ _,λK hK=>hK⟩
 .cases hk;obtain⟨x,rfl,hc⟩:=a.cell;cases hc;exact⟨_,.ci _ _ _,λK hK=>hK⟩
 .cases hk
end Go.TX
namespace Go.TX
open Go Go.AE List
variable{X:XT}{E:Tab}{n:Nat}{N:NM}{t:Slots}{e:Nat->Option SVal}{h:List aN}{ty:TypeId}{v:SVal}
def tJ(hX:XOK X E)(b:EvR X E n N t e){o:Option Operand}{d m:Int}(hk:LB (std n) X e o d=some m){K:Int->Prop}(h:K m):Aw E t o d K:=by
 cases o with
 | none=>simp only [LB,Option.some.injEq]at hk;subst hk;exact h
 | some x=>
  simp only [LB]at hk;split at hk
  .rename_i f k m' hx;cases hk;obtain⟨pv,c,a⟩:=dO hX b hx;obtain⟨g,rfl⟩:=a.int;unfold Aw;simp only;rw [c];exact h
  .cases hk
theorem yh(c:Co)(xs:List c.den)(l r:Nat):((aO c xs).take r).drop l=aO c ((xs.take r).drop l):=by simp [aO,map_take,map_drop]
def abX(hX:XOK X E)(D:EvR X E n (nmh h) t e){p:PV}{q v:SVal}{lo A C:Option Operand}{R:List Bool}(L:PVR (nmh h) p q)
    (hk:Q0 (std n) X e h ty q lo A C=some (R,v)) (a:∀b∈R,b=true):Gv (vP E t ty p lo A C) (nmh h) v:=by
  unfold Q0 at hk;rw [hX.ty]at hk;split at hk
  · rename_i y T;split at hk
    · rename_i V hd;split at hk
      · rename_i l Z;obtain⟨l,rfl⟩:∃i:Int,i=l:=⟨l,rfl⟩
        have fin:∀z,E.ty V=some z->∀K,(match p with
          | .c (.d f (.rows B es))=>(es≠ []->B=z.size)/\(Aw E t A es.length λh=>0<=l/\l<=h/\h<=es.length/\
              (match C with
               | none=>K (.c (.d f (.rows B ((es.take h.toNat).drop l.toNat))))
               | some _=>Aw E t C 0 λm=>A.isSome=true/\m=h/\K (.c (.clip f B ((es.take h.toNat).drop l.toNat)))))
          | .c (.os b B lo0 n)=>B=z.size/\C=none/\(Aw E t A n λh=>0<=l/\l<=h/\h<=n/\K (.c (.os b B (lo0+l.toNat) (h.toNat-l.toNat))))
          | .c .nil=>C=none/\(Aw E t A 0 λh=>l=0/\h=0/\K (.c .nil))
          | _=>False)->vP E t ty p lo A C K:=by
          intro z k K hK;unfold vP;rw [T];simp only [aD];rw [hd];simp only;rw [k];exact tJ hX D Z hK
        split at hk
        · rename_i f0 c xs;split at hk
          · rename_i I;obtain⟨z,k,g⟩:=gL hX I;obtain⟨x,rfl,hc⟩:=L.cell;cases hc with | d W S=>
            subst W;split at hk
            · rename_i r u;obtain⟨r,rfl⟩:∃i:Int,i=r:=⟨r,rfl⟩;split at hk
              · rename_i hm;cases hk;have F:(0:Int)<=l:=by simpa [bI]using a (bI .leq 0 l) (by simp)
                have s:l<=r:=by simpa [bI]using a (bI .leq l r) (by simp)
                have o:r<=(xs:List c.den).length:=by simpa [bI]using a (bI .leq r ((xs:List c.den).length:Int)) (by simp)
                refine⟨_,.ofC (.d (y:= .rows c ((xs.take r.toNat).drop l.toNat)) rfl S),λK hK=>fin z k K ⟨λ_=>g.symm,?_⟩⟩;rw [aU];refine tJ hX D u ⟨F,s,o,?_⟩;simp only [yh];exact hK
              · rename_i mo hm;split at hk
                · rename_i m P;obtain⟨m,rfl⟩:∃i:Int,i=m:=⟨m,rfl⟩;split at hk
                  · rename_i G;cases hk;have F:(0:Int)<=l:=by simpa [bI]using a (bI .leq 0 l) (by simp)
                    have s:l<=r:=by simpa [bI]using a (bI .leq l r) (by simp)
                    have o:r<=(xs:List c.den).length:=by simpa [bI]using a (bI .leq r ((xs:List c.den).length:Int)) (by simp)
                    have U:m=r:=by simpa [bI]using a (bI .eql m r) (by simp)
                    refine⟨_,.ofC (.clip (c:=c) (xs:=((xs.take r.toNat).drop l.toNat)) (λh=>(S h).resolve_right (by simp [Leaf.scalar]))),λK hK=>fin z k K ⟨λ_=>g.symm,?_⟩⟩;rw [aU];refine tJ hX D u ⟨F,s,o,?_⟩;simp only [yh];exact tJ hX D P ⟨G,U,hK⟩
                  · cases hk
                · cases hk
            · cases hk
          · cases hk
        · rename_i w;split at hk
          · rename_i Y c xs M;split at hk
            · rename_i I;obtain⟨z,k,g⟩:=gL hX I;obtain⟨x,rfl,hc⟩:=L.cell;cases hc with | own J=>
              have j:=J;rw [dI M]at j;cases j;split at hk
              · rename_i r u;cases hk;obtain⟨r,rfl⟩:∃i:Int,i=r:=⟨r,rfl⟩;have F:(0:Int)<=l:=by simpa [bI]using a (bI .leq 0 l) (by simp)
                have s:l<=r:=by simpa [bI]using a (bI .leq l r) (by simp)
                have o:r<=(xs:List c.den).length:=by simpa [bI]using a (bI .leq r ((xs:List c.den).length:Int)) (by simp)
                refine⟨_,.ofC (x:= .os w c.size (0+l.toNat) (r.toNat-l.toNat)) (by
                  have:=RC.os (N:=nmh h) (lo:=0+l.toNat) (n:=r.toNat-l.toNat) J;rw [show((0+l.toNat:Nat):Int)=l by omega,show((r.toNat-l.toNat:Nat):Int)=r-l by omega]at this;exact this),λK hK=>fin z k K ⟨g.symm,rfl,?_⟩⟩
                exact tJ hX D u ⟨F,s,o,hK⟩
              · cases hk
            · cases hk
          · cases hk
        · rename_i w H O;split at hk
          · rename_i Y c xs M;split at hk
            · rename_i I;obtain⟨z,k,g⟩:=gL hX I;obtain⟨x,rfl,hc⟩:=L.cell;cases hc with | os J=>
              rename_i B H O m;have j:=J;rw [dI M]at j;cases j;split at hk
              · rename_i r u;cases hk;obtain⟨r,rfl⟩:∃i:Int,i=r:=⟨r,rfl⟩;have F:(0:Int)<=l:=by simpa [bI]using a (bI .leq 0 l) (by simp)
                have s:l<=r:=by simpa [bI]using a (bI .leq l r) (by simp)
                have o:r<=(O:Int):=by simpa [bI]using a (bI .leq r (O:Int)) (by simp)
                refine⟨_,.ofC (x:= .os w c.size (H+l.toNat) (r.toNat-l.toNat)) (by
                  have:=RC.os (N:=nmh h) (lo:=H+l.toNat) (n:=r.toNat-l.toNat) J;rw [show((H+l.toNat:Nat):Int)=(H:Int)+l by omega,show((r.toNat-l.toNat:Nat):Int)=r-l by omega]at this;exact this),λK hK=>fin z k K ⟨g.symm,rfl,?_⟩⟩
                exact tJ hX D u ⟨F,s,o,hK⟩
              · cases hk
            · cases hk
          · cases hk
        · split at hk
          · rename_i r u;split at hk
            · rename_i Q;cases hk;obtain⟨r,rfl⟩:∃i:Int,i=r:=⟨r,rfl⟩;obtain⟨x,rfl,hc⟩:=L.cell;cases hc;have s:l=0:=by simpa [bI]using a (bI .eql l 0) (by simp)
              have o:r=0:=by simpa [bI]using a (bI .eql r 0) (by simp)
              obtain⟨z,k⟩:=Option.isSome_iff_exists.1 Q;exact⟨_,.ofC .nil,λK hK=>fin z k K ⟨rfl,tJ hX D u ⟨s,o,hK⟩⟩⟩
            · cases hk
          · cases hk
        · cases hk
      · cases hk
    · cases hk
  · cases hk
def abY{x:Cell}{y:SC}(h:Za (std n) x=some y):RC N x y:=by
 unfold Za at h;split at h<;>first | (cases h;exact .d rfl λ_=> .inl rfl) | (cases h;exact .nil) | (cases h;exact .np) | cases h
def CB:∀ {b:List Cell} {a:List SC},kN (std n) b=some a->F2 (RC N) b a
 | [],a,h=>by simp [kN]at h;subst h;exact .nil
 | x::b,a,h=>by
  simp only [kN]at h;split at h
  .rename_i y ys' h1 h2;cases h;exact .cons (abY h1) (CB h2)
  .cases h
def Zk(hX:XOK X E)(m:EvR X E n N t e)(g:List (Nat×TypeId)):
  ∀(d:List (Nat×Operand)) {c:List Cell} {cs out:List SC},F2 (RC N) c cs->OG (std n) X e g d cs=some out->∃b,F2 (RC N) b out/\∀K,K b->uG E t (qE E g) d c K
 | [],c,cs,out,hc,hk=>by simp only [OG,Option.some.injEq]at hk;subst hk;exact⟨_,hc,λK hK=>hK⟩
 | (i,x)::rest,c,cs,out,hc,hk=>by
  simp only [OG]at hk;rw [hX.ty]at hk;split at hk
  .rename_i off ft hf;split at hk
   .rename_i z v hz hv;split at hk
    .rename_i hcond;simp only [Bool.and_eq_true,beq_iff_eq,Bool.not_eq_true',beq_eq_false_iff_ne,ne_eq]at hcond;obtain⟨⟨u,p⟩,k⟩:=hcond;have k:=Nat.le_of_ble_eq_true k;obtain⟨pv,s,o⟩:=dO hX m hv;have a:=o.cells;have l:(aR pv).length=(bZ (std n) v).length:=by rw [dH];exact a.length
     have r:c.length=cs.length:=hc.length;rw [dH]at hk;have f:F2 (RC N) (splice c (aR pv) off) (cs.take off++cellsS v++cs.drop (off+(cellsS v).length)):=by
      unfold splice;rw [show(aR pv).length=(cellsS v).length from a.length];exact((hc.take off).append a).append (hc.drop _)
     obtain⟨b,q,hK⟩:=Zk hX m g rest f hk;refine⟨b,q,λK j=> ?_⟩;unfold uG;have h:qE E g i=some (off,z.size):=by grind [qE]
     rw [h];simp only;rw [s];exact⟨ah,p,ah,hK K j⟩
    .cases hk
   .cases hk
  .cases hk
def abZ(hX:XOK X E)(f:EvR X E n N t e){a:List (Nat×Operand)}{h:List Bool}
  (hk:Q6 (std n) X e ty a=some (h,v)):Gv (Ce E t ty a) N v:=by
 unfold Q6 at hk;split at hk
 .rename_i y hy;rw [hX.ty]at hy;split at hk
  .rename_i fs hd;split at hk
   .rename_i hall;split at hk
    .rename_i z hz;split at hk
     .rename_i cs hcs;cases hk;obtain⟨d,g,hK⟩:=Zk hX f fs a (CB hz) hcs;refine⟨_,.one (.agg rfl g),λK c=> ?_⟩;unfold Ce;rw [hy];simp only [aD];rw [hd];refine⟨λi b=> ?_,hK _ c⟩;have:=all_eq_true.1 hall i b;rw [hX.ty]at this;exact this
     .cases hk
    .cases hk
   .cases hk
  .cases hk
 .cases hk
def Zl(hX:XOK X E)(a:EvR X E n N t e):
  ∀(b:List Operand) {cs:List (Nat×Nat)},OH (std n) X e b=some cs->∀K,K (cs.map λp=>Cell.ptr p.1 p.2 0 0)->uH E t b K
 | [],cs,hk,K,hK=>by simp only [OH,Option.some.injEq]at hk;subst hk;exact hK
 | x::r,cs,hk,K,hK=>by
  simp only [OH]at hk;split at hk
  .rename_i l sz hx;split at hk
   .rename_i ys hys;cases hk;obtain⟨pv,f,d⟩:=dO hX a hx;obtain⟨c,rfl,hc⟩:=d.cell;cases hc;unfold uH;rw [f];exact Zl hX a r hys _ hK
   .cases hk
  .cases hk
def OT{q:Bool}{x y z:SVal}{px py:PV}(i:q=true->PVR N px x)(o:q=false->PVR N py y)(hk:Q7 (std n) q x y=some z):PVR N (bif q then px else py) z:=by
 unfold Q7 at hk;split at hk
 .rename_i a b;split at hk
  .rename_i c hc;cases hk;unfold abM at hc;split at hc
   .rename_i f k m g k' m';split at hc
    .rename_i e;subst e;cases hc;cases q with
     | true=>obtain⟨g,rfl⟩:=(i rfl).int;exact .ofC (.d rfl λ_=> .inr rfl)
     | false=>obtain⟨g,rfl⟩:=(o rfl).int;exact .ofC (.d rfl λ_=> .inr rfl)
    .cases hc
   .cases hc;cases q with
    | true=>obtain⟨g,rfl⟩:=(i rfl).bool;exact .ofC (.d rfl λ_=> .inr rfl)
    | false=>obtain⟨g,rfl⟩:=(o rfl).bool;exact .ofC (.d rfl λ_=> .inr rfl)
   .rename_i f c xs g c' ys;split at hc
    .rename_i e;subst e;cases hc;cases q with
     | true=>
      obtain⟨u,rfl,h⟩:=(i rfl).cell;cases h with | d l j=>exact .ofC (.d l λh=> .inl ((j (by simp_all)).resolve_right (by simp [Leaf.scalar])))
     | false=>
      obtain⟨u,rfl,h⟩:=(o rfl).cell;cases h with | d l j=>exact .ofC (.d l λh=> .inl ((j (by simp_all)).resolve_right (by simp [Leaf.scalar])))
    .cases hc
   .cases hc
  .cases hk
 .cases hk
def OU(hX:XOK X E){u:Heap}(b:EvR X E n (nmh h) t e){c:Call}{z:List Bool}
  (hk:FY (std n) X e h c=some (z,v)):Gv (gX E (.call c) t u) (nmh h) v:=by
 unfold FY at hk;split at hk
 .rename_i hb;split at hk
  .rename_i x ty hx hty;split at hk
   .rename_i y q hy hq;rw [hX.ty]at hy;split at hk
    .rename_i el hd;obtain⟨pv,d,a⟩:=dO hX b hq;obtain⟨j,s,B⟩:=alp a hk;refine⟨j,s,λK hK=> ?_⟩;show uI E t c K
     grind [uI,aD,je]
    .cases hk
   .cases hk
  .cases hk
 .rename_i hb;split at hk
  .rename_i x ty hx hty;split at hk
   .rename_i y hy hq;rw [hX.ty]at hy;split at hk
    .rename_i el hd;cases hk;obtain⟨pv,d,a⟩:=dO hX b hq;obtain⟨A,rfl,hc⟩:=a.cell;cases hc;refine⟨_,.ci _ _ _,λK hK=> ?_⟩;show uI E t c K;unfold uI;rw [hb];simp only;rw [hx,hty];simp only;rw [hy];simp only [aD];rw [hd];exact⟨trivial,je d _ hK⟩
    .cases hk
   .cases hk
  .cases hk
 .rename_i hb;split at hk
  .rename_i x y hx;split at hk
   .rename_i f k m g k' m' d a;cases hk;obtain⟨r,o,p⟩:=dO hX b d;obtain⟨w,i,l⟩:=dO hX b a;obtain⟨_,rfl⟩:=p.int;obtain⟨_,rfl⟩:=l.int;refine⟨_,.ci _ _ _,λK hK=> ?_⟩;show uI E t c K;unfold uI;rw [hb];simp only;rw [hx];simp only;rw [o];simp only [aT];rw [i];exact hK
   .cases hk
  .cases hk
 .rename_i hb;split at hk
  .rename_i x y hx;split at hk
   .rename_i f k m g k' m' d a;cases hk;obtain⟨r,o,p⟩:=dO hX b d;obtain⟨w,i,l⟩:=dO hX b a;obtain⟨_,rfl⟩:=p.int;obtain⟨_,rfl⟩:=l.int;refine⟨_,.ci _ _ _,λK hK=> ?_⟩;show uI E t c K;unfold uI;rw [hb];simp only;rw [hx];simp only;rw [o];simp only [aT];rw [i];exact hK
   .cases hk
  .cases hk
 .cases hk
def eD{v:Option SVal}{K:SVal->PR (std n)}{r:List Bool×SVal}(h:AV (std n) v K=some r):∃u,v=some u/\K u=some r:=by
 cases v with
 | none=>cases h
 | some u=>exact⟨u,rfl,h⟩
theorem ab0(hX:XOK X E){p:Heap}(H:fT p h)(f:EvR X E n (nmh h) t e){q:Op}{F:List Bool}
  (hk:Zb (std n) X e h q=some (F,v)) (m:∀b∈F,b=true):Gv (gX E q t p) (nmh h) v:=by
 have j:∀ {x:Operand} {pv:PV} {T:PV->(PV->Prop)->Prop},ev E t x=some pv->Gv (T pv) (nmh h) v->(∀K,gX E q t p K=aT (ev E t x) λa=>T a K)->Gv (gX E q t p) (nmh h) v:=
  λd ⟨k,c,A⟩ z=>⟨k,c,λK hK=>by rw [z];exact je d _ (A K hK)⟩
 have s:∀ {x y:Operand} {C D:PV} {T:PV->PV->(PV->Prop)->Prop},ev E t x=some C->ev E t y=some D->Gv (T C D) (nmh h) v->(∀K,gX E q t p K=aT (ev E t x) λa=>aT (ev E t y) λb=>T a b K)->Gv (gX E q t p) (nmh h) v:=
  λd l ⟨k,c,A⟩ z=>⟨k,c,λK hK=>by rw [z];exact je d _ (je l _ (A K hK))⟩
 unfold Zb at hk;split at hk
 .obtain⟨u,hu,hk⟩:=eD hk;cases hk;obtain⟨pv,d,c⟩:=dO hX f hu;exact⟨pv,c,λK hK=>je d _ hK⟩
 .obtain⟨u,hu,hk⟩:=eD hk;cases hk;obtain⟨pv,d,c⟩:=dO hX f hu;exact⟨pv,c,λK hK=>je d _ hK⟩
 .obtain⟨u,hu,hk⟩:=eD hk;obtain⟨pv,d,c⟩:=dO hX f hu;exact j d (OM hX H c hk m) λK=>rfl
 .obtain⟨u,hu,hk⟩:=eD hk;obtain⟨pv,d,c⟩:=dO hX f hu;exact j (T:=Qt) d (Rj c hk) λK=>rfl
 .obtain⟨u,hu,hk⟩:=eD hk;obtain⟨w,r,hk⟩:=eD hk;obtain⟨pv,d,c⟩:=dO hX f hu;obtain⟨k,l,o⟩:=dO hX f r;exact s d l (alo hX (aiC c) o hk m) λK=>rfl
 .obtain⟨u,hu,hk⟩:=eD hk;obtain⟨pv,d,c⟩:=dO hX f hu;exact j d (aqW c hk) λK=>rfl
 .obtain⟨u,hu,hk⟩:=eD hk;obtain⟨pv,d,c⟩:=dO hX f hu;exact j d (aiB hX c hk) λK=>rfl
 .obtain⟨u,hu,hk⟩:=eD hk;obtain⟨pv,d,c⟩:=dO hX f hu;exact j (T:=λa K=>jC E _ a _ K) d (LJ hX c hk) λK=>rfl
 .obtain⟨u,hu,hk⟩:=eD hk;obtain⟨pv,d,c⟩:=dO hX f hu;exact j (T:=λa K=>vO E _ a _ K) d (abW hX c hk) λK=>rfl
 .obtain⟨u,hu,hk⟩:=eD hk;obtain⟨w,r,hk⟩:=eD hk;obtain⟨pv,d,c⟩:=dO hX f hu;obtain⟨k,l,o⟩:=dO hX f r;exact s d l (LM hX c o hk m) λK=>rfl
 .obtain⟨u,hu,hk⟩:=eD hk;obtain⟨pv,d,c⟩:=dO hX f hu;exact j (T:=λa K=>vP E t _ a _ _ _ K) d (abX hX f c hk m) λK=>rfl
 .obtain⟨u,hu,hk⟩:=eD hk;obtain⟨pv,d,c⟩:=dO hX f hu;rename_i x i;split at hk
  .rename_i vs;unfold OD at hk;split at hk
   .rename_i w r;cases hk;cases c with
    | one c=>cases c with
     | agg I _=>simp [bJ]at I
    | tup G=>
     obtain⟨a,J,B⟩:=G.get r;exact⟨a,.one B,λK hK=>je d _ (by unfold rM;simp only;rw [J];exact hK)⟩
   .cases hk
  .cases hk
 .exact abZ hX f hk
 .rename_i fn first caps
  split at hk
  .rename_i g;split at hk
   .rename_i hf;split at hk
    .rename_i cs hcs;cases hk;refine⟨_,.ofC .fn,λK hK=> ?_⟩;exact⟨Array.ext' (by simpa using hf),Zl hX f _ hcs _ hK⟩
    .cases hk
   .cases hk
  .cases hk
 .exact OU hX f hk
 .cases hk
end Go.TX
namespace Go.TX
open Go Go.AE List
variable{h':Heap}{h:List aN}{l:Nat}{o:aN}{o':fK}{f:Bool}{n:Nat}
def Gone(h:List aN)(l:Nat):Prop:=∃c n,h[l]? =some (.gone c n)
def Same(h k:List aN):Prop:=∀l x,nmh h l=some x->nmh k l=some x
def Same.refl(h:List aN):Same h h:=λ_ _ h=>h
def Same.trans{a b c:List aN}(h:Same a b)(k:Same b c):Same a c:=λl x d=>k l x (h l x d)
def fT.set(H:fT h' h)(i:l<h.length)(d:Same h (h.set l o))(g:OR (nmh (h.set l o)) o' o):fT ((l,o')::h') (h.set l o) where
 old:=λk x a=>by
  by_cases e:l=k
  .grind [getElem?_set_self,aK]
  .rw [getElem?_set_ne e]at a;obtain⟨c,f,b⟩:=H.old k x a;exact⟨c,by grind [aC],b.mono d⟩
 new:=λk hk=>by
  rw [length_set]at hk;rw [aC _ _ ah];exact H.new k hk
def CF(h:List aN)(o:aN):Same h (h++ [o]):=λl x a=>by grind [Nat.lt_or_ge,nmh,getElem?_eq_none,getElem?_append_left]
def fT.push(H:fT h' h)(f:OR (nmh (h++ [o])) o' o):fT ((h.length,o')::h') (h++ [o]) where
 old:=λk x a=>by
  by_cases e:h.length=k
  .grind [aK]
  .have hk:k<h.length:=by grind
   rw [getElem?_append_left hk]at a;obtain⟨c,d,b⟩:=H.old k x a;exact⟨c,by grind [aC],b.mono (CF h o)⟩
 new:=λk hk=>by
  simp at hk;rw [aC _ _ ah];exact H.new k ah
theorem Rk{l k:Nat}(e:l≠k):nmh (h.set l o) k=nmh h k:=by simp only [nmh,getElem?_set_ne e]
theorem nC{o o':aN}(a:h[l]? =some o)(b:nmh [o] 0=nmh [o'] 0):nmh (h.set l o')=nmh h:=by grind [List.getElem?_eq_some_iff,nmh,getElem?_set_self,Rk]
def fG(h:List aN)(l:Nat):List aN:=match h[l]? with | some (.rows _ c a)=>h.set l (.gone c ((a:List c.den).length:Int)) | _=>h
def gN(n:Nat)(h:List aN)(l:Nat)(r:List Nat):bA (std n) h (l::r)=bA (std n) (fG h l) r:=by
 rw [bA];unfold fG;split
 all_goals simp_all
def pJ(n:Nat):∀(a b:List Nat) (h:List aN),bA (std n) h (a++b)=bA (std n) (bA (std n) h a) b
 | [],_,_=>rfl
 | l::r,b,h=>by simp only [cons_append,gN];exact pJ n r b _
def Ky(h:List aN)(l:Nat):nmh (fG h l)=nmh h:=by grind [fG,nC,nmh]
def wL(n:Nat):∀(a:List Nat) (h:List aN),nmh (bA (std n) h a)=nmh h
 | [],_=>rfl
 | l::r,h=>by rw [gN,wL n r,Ky]
theorem yj{l k:Nat}(e:l≠k):(fG h l)[k]? =h[k]? :=by grind [fG,getElem?_set_ne]
def lF(n:Nat):∀(a:List Nat) (h:List aN) {k:Nat},k∉a->(bA (std n) h a)[k]? =h[k]?
 | [],_,_,_=>rfl
 | l::r,h,k,hk=>by
  rw [gN,lF n r _ (λh=>hk (mem_cons_of_mem _ h)),yj (λe=>hk (by simp [e]))]
theorem yu(h:List aN)(l:Nat):(fG h l).length=h.length:=by grind [fG]
def qM(n:Nat):∀(a:List Nat) (h:List aN),(bA (std n) h a).length=h.length
 | [],_=>rfl
 | l::r,h=>by rw [gN,qM n r,yu]
theorem fT.fG(H:fT h' h){c:Co}{xs:List c.den}(a:h[l]? =some (.rows f c xs)):fT ((l,.gone)::h') (TX.fG h l):=by
 have e:TX.fG h l=h.set l (.gone c (xs.length:Int)):=by unfold TX.fG;rw [a]
 rw [e];exact H.set (List.getElem?_eq_some_iff.1 a).1 (λk x b=>by rw [nC a (by simp [nmh])];exact b) .gone
structure jf(h':Heap)(h:List aN)(h'':Heap)(k:List aN)(td:List Nat):Prop where
 same:Same h k
 len:h.length<=k.length
 gone:∀l,Gone h l->Gone k l
 keep:∀l,l<h.length->l∉td->k[l]? =h[l]? /\AE.look h'' l=AE.look h' l
def jf.refl(h':Heap)(h:List aN)(a:List Nat):jf h' h h' h a:=⟨.refl h,Nat.le_refl _,λ_ h=>h,λ_ _ _=>⟨rfl,rfl⟩⟩
def jf.trans{d f c':Heap}{a b c:List aN}{s t:List Nat}(x:jf d a f b s)(y:jf f b c' c t):jf d a c' c (s++t) where
 same:=x.same.trans y.same
 len:=Nat.le_trans x.len y.len
 gone:=λl h=>y.gone l (x.gone l h)
 keep:=λl e hn=>by
  obtain⟨j,g⟩:=x.keep l e (λh=>hn (mem_append_left _ h));obtain⟨k,i⟩:=y.keep l (Nat.lt_of_lt_of_le e x.len) (λh=>hn (mem_append_right _ h));simp_all
def jf.mono{c d:Heap}{a b:List aN}{s t:List Nat}(x:jf c a d b s)(h:∀l,l∈s->l∈t):jf c a d b t:=⟨x.same,x.len,x.gone,λl e hn=>x.keep l e (λf=>hn (h l f))⟩
theorem jf.fG(l:Nat):jf h' h ((l,o')::h') (TX.fG h l) [l] where
 same:=λk x a=>by rw [Ky];exact a
 len:=by grind [yu]
 gone:=λk ⟨c,m,hk⟩=>by
  unfold TX.fG;split
  .rename_i f co xs hl;by_cases e:l=k
   .simp_all
   .exact⟨c,m,by simp_all⟩
  omega
 keep:=λk _ hn=>by grind [yj,aC]
def jf.push(o:aN)(o':fK)(b:List Nat):jf h' h ((h.length,o')::h') (h++ [o]) b where
 same:=CF h o
 len:=by simp
 gone:=λk ⟨c,m,hk⟩=>⟨c,m,by grind⟩
 keep:=λl a _=>⟨getElem?_append_left a,aC _ _ ah⟩
def jf.set(a:Same h (h.set l o))(b:¬Gone h l):jf h' h ((l,o')::h') (h.set l o) [l] where
 same:=a
 len:=by simp
 gone:=λk ⟨c,m,hk⟩=>by
  by_cases e:l=k
  .simp_all
  .exact⟨c,m,by simp_all⟩
 keep:=λk _ hn=>by grind [getElem?_set_ne,aC]
theorem jO(y:Leaf aF):(pI y).oG=y.scalar:=by cases y<;>rfl
def Gb(y:Leaf aF):lvD (jZ y) y.lv=pI y:=by cases y<;>rfl
def OV{a:Heap}{done:List Nat}(H:fT a (bA (std n) h done)){x:Cell}{y:SC}(m:RC (nmh h) x y){s:Sh}{v:LV aF}{k:List Nat}
  (hk:fQ (std n) h s y=some (f,v,k)) (hd:∀l∈k,l∉done):
  ∃g b,(f=true->g=true)/\fT b (bA (std n) h (done++k))/\jf a (bA (std n) h done) b (bA (std n) h (done++k)) k/\∀K,K g (lvD s v) b->DF a x K:=by
 unfold fQ at hk;split at hk
 .rename_i f0 lf;split at hk
  .rename_i e;cases hk;cases m with | d u o=>
   rename_i p z;subst u;refine⟨p || (pI lf).oG,a,λh=> ?_,by simp_all,by rw [append_nil];exact .refl _ _ _,λK hK=> ?_⟩
   .rw [jO];cases lf with
    | rows c i=>grind [Leaf.flag,Leaf.scalar]
    | _=>simp [Leaf.scalar]
   .subst e;rw [Gb]at hK;exact hK
  .cases hk
 .cases m;split at hk
  .rename_i c;cases hk;exact⟨true,a,λ_=>rfl,by simp_all,by rw [append_nil];exact .refl _ _ _,λK hK=>⟨c.size,hK⟩⟩
  .cases hk
 .rename_i f0 c i;cases m with | clip o=>
  split at hk
  .rename_i e;subst e;cases hk;exact⟨_,a,o,by simp_all,by rw [append_nil];exact .refl _ _ _,λK hK=>hK⟩
  .cases hk
 .rename_i l;cases m with | own r=>
  split at hk
  .rename_i f0 c i hl;split at hk
   .rename_i e;subst e;cases hk;rw [dI hl]at r;cases r;have j:(bA (std n) h done)[l]? =some (.rows f c i):=by rw [lF n _ _ (hd l (by simp))];exact hl
    obtain⟨w,q,t⟩:=H.old l _ j;cases t with | rows o=>
    rename_i p;refine⟨p,(l,.gone)::a,o,by rw [pJ,gN];exact H.fG j,by rw [pJ,gN];exact jf.fG l,λK hK=> ?_⟩;unfold DF;simp only;rw [q];refine⟨rfl,by rw [aU];omega,?_⟩;have:((aO c i).drop 0).take i.length=aO c i:=by grind [take_of_length_le,aU]
    rw [this];exact hK
   .cases hk
  .cases hk
 .cases hk
def rz:∀ {o:List Sh} {p:List SC} {j:List Cell} {c:Heap} {done:List Nat} (_:fT c (bA (std n) h done)) (_:F2 (RC (nmh h)) j p) {f:Bool} {i:List (LV aF)} {b:List Nat},
  aM (std n) h o p=some (f,i,b)->(∀l∈b,l∉done)->
  ∃g a,(f=true->g=true)/\fT a (bA (std n) h (done++b))/\jf c (bA (std n) h done) a (bA (std n) h (done++b)) b/\∀K,K g (zipWith lvD o i) a->qX c j K
 | [],[],j,c,done,H,hF,f,i,b,hk,hd=>by
  simp [aM]at hk;obtain⟨rfl,rfl,rfl⟩:=hk;cases hF;exact⟨true,c,λ_=>rfl,by simp_all,by rw [append_nil];exact .refl _ _ _,λK hK=>hK⟩
 | [],_::_,_,_,_,_,_,_,_,_,hk,_=>by simp [aM]at hk
 | _::_,[],_,_,_,_,_,_,_,_,hk,_=>by simp [aM]at hk
 | s::o,y::p,j,c,done,H,hF,f,i,b,hk,hd=>by
  cases hF with | cons A w=>
  unfold aM at hk;split at hk
  .rename_i f1 v1 l1 hv1;split at hk
   .rename_i g2 vs2 ls2 hv2;split at hk
    .rename_i aud;cases hk;have aud:∀l∈ls2,l∉l1:=λl t u=>by simp_all
     obtain⟨B,D,C,m,k,r⟩:=OV H A hv1 (λl t=>hd l (mem_append_left _ t));obtain⟨x,v,z,d,e,q⟩:=rz (done:=done++l1) m w hv2 (λl t hm=>by simp_all);rw [append_assoc]at d e;refine⟨B&&x,v,λh=>by simp_all,d,k.trans e,λK hK=> ?_⟩;exact r _ (q _ hK)
    .cases hk
   .cases hk
  .cases hk
theorem Ba(c:Co)(t:iQ c.rX){a:List (LV aF)}(h:pack aF c.rX a=some t):zipWith lvD c.fields a=c.row (c.mk t):=by
 rw [abT,Zi,unpack_pack h]
def zk{N:NM}:∀ {b:List (Leaf aF)} {c:List Cell} {f:Bool},F2 (RC N) c (b.map (.d f))->∀(a:Heap),∃g,(f=true\/(∀y∈b,y.scalar=true)->g=true)/\∀K,K g (b.map pI) a->qX a c K
 | [],_,_,h,a=>by cases h;exact⟨true,λ_=>rfl,λK hK=>hK⟩
 | y::b,_,f,.cons h1 h2,a=>by
  obtain⟨g,k,e⟩:=zk h2 a;cases h1 with | d i m=>
  rename_i j l;subst i;refine⟨(j || (pI y).oG)&&g,λh=> ?_,λK hK=>e _ hK⟩
  grind [jO,mem_cons_of_mem]
theorem lG(c:Co)(h:c.flat=true)(x:c.den):∀y∈gq (std 0) c x 0 c.fields,y.scalar=true:=by
 intro y d;have b:=Cz 0 c x;have a:jZ y∈c.fields:=by grind
 have e:=all_eq_true.1 h _ a;cases y<;>simp_all [jZ,Leaf.scalar]
theorem ab1{i:Heap}(H:fT i h){p:PV}{q:SVal}(y:PVR (nmh h) p q){c:Co}{x:c.den}{l:List Nat}(hk:toX (std n) h c q=some (f,x,l)):
  ∃g a,(f=true->g=true)/\fT a (bA (std n) h l)/\jf i h a (bA (std n) h l) l/\(aR p).length=c.size/\∀K,K g (c.row x) a->qX i (aR p) K:=by
 unfold toX at hk;split at hk
 .rename_i f' c' x';split at hk
  .rename_i e;subst e;cases hk;have b:=y.cells;have A:cellsS (.sv f' c' x')=(gq (std 0) c' x' 0 c'.fields).map (.d f'):=rfl;have j:(aR p).length=c'.size:=by
    rw [b.length,A,length_map];have:=congrArg List.length (Cz 0 c' x');simpa using this
   rw [A]at b;obtain⟨g,m,d⟩:=zk b i;refine⟨g,i,λh=>m ?_,H,.refl _ _ _,j,λK hK=>d K (by rw [nA];exact hK)⟩
   grind [lG]
  .cases hk
 .cases hk
 .split at hk
  .rename_i f1 ys ls1 k;split at hk
   .rename_i t ht;cases hk;have b:=y.cells;rw [dH]at k;obtain⟨g,a,m,d,r,v⟩:=rz (done:=[]) H b k (λ_ _=>by simp);rw [nil_append]at d r;refine⟨g,a,m,d,r,?_,λK hK=>v K (by grind [Ba])⟩;have B:=congrArg List.length (unpack_pack ht);have u:(cellsS q).length=c.fields.length:=by
     clear d r v b ht B m
     revert k
     generalize cellsS q=o;generalize c.fields=w;intro k
     induction w generalizing o f ys l with
     | nil=>grind [aM]
     | cons s w C=>cases o with
      | nil=>simp [aM]at k
      | cons z o=>grind [aM]
    rw [b.length,u]
   .cases hk
  .cases hk
end Go.TX
namespace Go.TX
open Go Go.AE List
variable{n:Nat}{c:Co}{f:Bool}{h':Heap}{h:List aN}
def Hv{m:Nat}(T:(PV->Heap->Nat->Prop)->Prop)(n:Nat)(h':Heap)(h:List aN)(r:HR (std m)):Prop:=
 ∃pv a b,PVR (nmh r.h) pv r.v/\fT a r.h/\jf h' h a r.h r.touched/\r.h.length=nm n b/\∀K,K pv a b->T K
def ab2:∀ {l:List Cell},zdB l=true->∃a,ZD l a
 | [],_=>⟨[],.nil⟩
 | x::r,h=>by
  simp only [zdB,all_cons,Bool.and_eq_true]at h;obtain⟨a,hd⟩:=ab2 (l:=r) h.2;have b:=h.1;cases x with
  | d f y=>exact⟨y::a,.d f y hd⟩
  | nil=>exact⟨.rows 0 []::a,.nl 0 hd⟩
  | _=>simp at b
theorem Gc{α:Type}(l:List α)(lo n:Nat):(l.drop lo).take n=(l.take (lo+n)).drop lo:=by
 rw [drop_take];congr 1;omega
def DW:∀ {zc:List Cell} {b:List SC} {a:List Sh} {f:Bool} {c:List (LV aF)} {h:List Nat},kN (std n) zc=some b->aM (std n) [] a b=some (f,c,h)->ZD zc (zipWith lvD a c)
 | [],b,a,f,c,h,h1,h2=>by
  simp [kN]at h1;subst h1;cases a with
  | nil=>simp [aM]at h2;obtain⟨_,rfl,_⟩:=h2;exact .nil
  | cons s a=>simp [aM]at h2
 | x::zc,b,a,f,c,h,h1,h2=>by
  simp only [kN]at h1;split at h1
  .rename_i y ys hy hys;cases h1;cases a with
   | nil=>simp [aM]at h2
   | cons s a=>
    simp only [aM]at h2;split at h2
    .rename_i f1 v1 l1 hv;split at h2
     .rename_i g vs' ls' hvs;split at h2<;>cases h2
      have d:=DW hys hvs;simp only [zipWith_cons_cons];unfold Za at hy;split at hy
      .cases hy;simp only [fQ]at hv;split at hv
       .rename_i e;cases hv;subst e;exact .d _ _ d
       .cases hv
      .cases hy;simp only [fQ]at hv;split at hv
       .rename_i e;cases hv;subst e;exact .d _ _ d
       .cases hv
      .cases hy;simp only [fQ]at hv;split at hv
       .rename_i e;cases hv;subst e;exact .d _ _ d
       .cases hv
      .cases hy;simp only [fQ]at hv;split at hv
       .cases hv;exact .nl _ d
       .cases hv
      .cases hy;simp [fQ]at hv
      .cases hy
     .cases h2
    .cases h2
  .cases h1
def ab3{zc:List Cell}{b:List SC}{x:c.den}{e:List Nat}(d:kN (std n) zc=some b)(a:toX (std n) [] c (.agg b)=some (f,x,e)):ZD zc (c.row x):=by
 simp only [toX]at a;split at a
 .rename_i f1 ys l1 hl;split at a
  .rename_i t ht;cases a;have:=DW d (by simpa [bZ]using hl);rw [Ba c t ht]at this;exact this
  .cases a
 .cases a
def aiD(H:fT h' h){p:PV}{v:SVal}{y:List c.den}(r:PVR (nmh h) p v){u:Option c.den}{t:List D}(B:∀x,u=some x->t=c.row x)(hk:aln (std n) h c u v=some (f,y))
  (a:∀b∈lY (std n) h v,b=true):∃g z,(f=true->g=true)/\(aO c y≠ []->z=c.size)/\∀K,K g z (aO c y)->QA h' t p K:=by
 unfold aln at hk;split at hk
 .rename_i fq kq q;cases hxx:u with
  | none=>rw [hxx]at hk;cases hk
  | some x=>
   rw [hxx]at hk;cases hk;obtain⟨L,rfl⟩:=r.int;have e:=B x hxx;have I:(0:Int)<=q:=by simpa [bI]using a (bI .leq 0 q) (by simp [lY])
   have E:q<=kC:=by simpa [bI]using a (bI .leq q kC) (by simp [lY])
   obtain⟨q,rfl⟩:∃w:Int,w=q:=⟨q,rfl⟩;refine⟨true,t.length,λ_=>rfl,λ_=>by rw [e,tH],λK hK=> ?_⟩;unfold QA;simp only;refine⟨I,by simp only [kC,Ay]at E ⊢;omega,?_⟩;have C:aO c (replicate q.toNat x)=replicate q.toNat t:=by rw [e];simp [aO]
   rw [<-C];exact hK
 .cases hk;obtain⟨x,rfl,hc⟩:=r.cell;cases hc;exact⟨true,0,λ_=>rfl,λh=>absurd rfl h,λK hK=>hK⟩
 .rename_i f0 c' i;split at hk
  .rename_i e;subst e;cases hk;obtain⟨x,rfl,hc⟩:=r.cell;cases hc with | d G j=>
   subst G;exact⟨_,c'.size,λh=>(j h).resolve_right (by simp [Leaf.scalar]),λ_=>rfl,λK hK=>hK⟩
  .cases hk
 .rename_i f0 c' i;split at hk
  .rename_i e;subst e;cases hk;obtain⟨x,rfl,hc⟩:=r.cell;cases hc with | clip j=>
   exact⟨_,c'.size,j,λ_=>rfl,λK hK=>hK⟩
  .cases hk
 .rename_i l;split at hk
  .rename_i f0 c' i hl;split at hk
   .rename_i e;subst e;cases hk;obtain⟨x,rfl,hc⟩:=r.cell;cases hc with | own s=>
    rw [dI hl]at s;cases s;obtain⟨F,k,A⟩:=H.old l _ hl;cases A with | rows j=>
    refine⟨_,c'.size,j,λ_=>rfl,λK hK=> ?_⟩;unfold QA;simp only;rw [k];refine⟨rfl,by rw [aU];omega,?_⟩;rw [drop_zero,take_of_length_le (by rw [aU];exact Nat.le_refl _)];exact hK
   .cases hk
  .cases hk
 .rename_i l o m;split at hk
  .rename_i f0 c' i hl;split at hk
   .rename_i e;subst e;cases hk;obtain⟨x,rfl,hc⟩:=r.cell;cases hc with | os s=>
    rename_i z o m q;rw [dI hl]at s;cases s;obtain⟨F,k,A⟩:=H.old l _ hl;cases A with | rows j=>
    simp only [lY,hl]at a;have J:(o:Int)+(m:Int)<=(i:List c'.den).length:=by
     have:=a (bI .leq ((o:Int)+(m:Int)) ((i:List c'.den).length:Int)) (by simp);simpa [bI]using this
    refine⟨_,c'.size,j,λ_=>rfl,λK hK=> ?_⟩;unfold QA;simp only;rw [k];refine⟨rfl,by rw [aU];omega,?_⟩;have e:aO c' (((i:List c'.den).take ((o:Int)+(m:Int)).toNat).drop ((o:Int)).toNat)=((aO c' i).drop o).take m:=by
     rw [Gc,<-yh]
     congr 2<;>omega
    rw [<-e];exact hK
   .cases hk
  .cases hk
 .cases hk
def Kz(c:Co)(b a:List c.den):aO c (b++a)=aO c b++aO c a:=by simp [aO]
def PVR.own{l sz n:Nat}(a:nmh h l=some (sz,n)):PVR (nmh h) (.c (.os l sz 0 n)) (.c (.own l)):= .ofC (.own a)
def su(h:List aN)(f:Bool)(c:Co)(a:List c.den):nmh (h++ [.rows f c a]) h.length=some (c.size,a.length):=by
 simp [nmh]
def Gd{l:Nat}{b:List c.den}(d:h[l]? =some (.rows f c b)):¬Gone h l:=λ⟨_,_,a⟩=>by rw [d]at a;cases a
def aaV{X:XT}{E:Tab}(hX:XOK X E){m:Nat}(H:fT h' h){n k:Nat}(hn:h.length=nm n k){ty t2:TypeId}{pa T:PV}{a b:SVal}(ha:PVR (nmh h) pa a)(I:PVR (nmh h) T b)
  {r:HR (std m)} (hk:LC (std m) X h ty t2 a b=some r) (t:∀b∈r.chk,b=true):
  Hv (λK=>aD (E.ty ty) λy=>match y.desc with
   | .slice e=>aD (E.ty e) λz=>(aD (E.ty t2) λy2=>rR y2.desc T)/\Az h' n k z pa T K
   | _=>False) n h' h r:=by
 unfold LC at hk;rw [hX.ty]at hk;split at hk
 .rename_i y hy;split at hk
  .rename_i e hd;split at hk
   .rename_i z c hz hco;split at hk
    .rename_i hcond;simp only [Bool.and_eq_true,Bool.not_eq_true',beq_eq_false_iff_ne,ne_eq]at hcond;obtain⟨⟨⟨⟨a2,a4⟩,Q⟩,s⟩,G⟩:=hcond;have Q:=Nat.le_of_ble_eq_true Q;obtain⟨U,G,a3⟩:∃U,ZD z.zero U/\∀x,Zc (std m) z c=some x->U=c.row x:=by
      cases N:Zc (std m) z c with
      | none=>obtain⟨U,G⟩:=ab2 G;exact⟨U,G,λx h=>by cases h⟩
      | some x=>
       unfold Zc at N;split at N
       .rename_i zs w;split at N
        .rename_i fz x' lz hx;cases N;exact⟨_,ab3 w hx,λy h=>by cases h;rfl⟩
        .cases N
       .cases N
     obtain⟨z',Y,w⟩:=gL hX a2;rw [hz]at Y;cases Y;have a5:aD (E.ty t2) λy2=>rR y2.desc T:=by
      unfold FZ at s;rw [hX.ty]at s;split at s
      .rename_i y2 hy2;rw [hy2];simp only [aD];split at s
       .cases s
       .rename_i e2 x hne2 C;obtain⟨x',rfl,hc⟩:=I.cell;unfold rR;cases hc with
        | d hx V=>
         rename_i f g x0 y0;subst hx;cases y0 with
         | int k q=>exact absurd rfl (hne2 _ _ _)
         | _=>rw [C];trivial
        | _=>rw [C];trivial
       .rename_i kk fq kq q C;obtain⟨g0,rfl⟩:=I.int;unfold rR;rw [C];trivial
       .cases s
      .cases s
     split at hk
     .rename_i f2 ds R;obtain⟨⟨f0,a9⟩,R,C⟩:=Option.map_eq_some_iff.1 R;simp only [Prod.mk.injEq]at C;obtain⟨a7,M⟩:=C;have M:=M.symm;subst M
      have D:(∀b'∈lY (std m) h b,b'=true)->∀(v:SVal) (S:List aN) (td:List Nat),(∀(g L:_),(f2=true->g=true)->(aO c ds≠ []->L=c.size)->∃pv F j,PVR (nmh S) pv v/\fT F S/\jf h' h F S td/\S.length=nm n j/\
        ∀K:PV->Heap->Nat->Prop,K pv F j->vV h' n k z pa g (aO c ds) K)->r.h=S->r.v=v->r.touched=td->Hv (λK=>aD (E.ty ty) λy=>match y.desc with
         | .slice e=>aD (E.ty e) λz=>(aD (E.ty t2) λy2=>rR y2.desc T)/\Az h' n k z pa T K
         | _=>False) n h' h r:=by
       intro a1 v S td hm e1 e2 e3;obtain⟨g,L,J,W,hK⟩:=aiD H I a3 R a1;obtain⟨pv,F,j,q1,q2,q3,q4,q5⟩:=hm (g || Fq (aO c ds)) L (λh=>by
        rw [<-a7]at h;rcases Bool.or_eq_true _ _▸h with h | h
        .simp [J h]
        .have:Fq (aO c ds)=true:=by
          unfold Fq aO;simp only [all_map,all_eq_true,Function.comp_apply];intro x _ d hd;rw [<-nA 0]at hd;obtain⟨y,hy,rfl⟩:=mem_map.1 hd;rw [jO];exact lG c h x y hy
         simp [this]) W
       subst e1;subst e2;subst e3;refine⟨pv,F,j,q1,q2,q3,q4,λK a6=> ?_⟩;rw [hy];simp only [aD];rw [hd];simp only;rw [hz];exact⟨a5,U,G,a4,Q,hK _ ⟨λh=>(W h).trans w.symm,q5 K a6⟩⟩
      split at hk
      .cases hk;obtain⟨x,rfl,hc⟩:=ha.cell;cases hc;refine D (λb I=>t b (by simp [I])) _ _ _ (λg L J W=> ?_) rfl rfl rfl;have p:(ds.length:Int)<=kC:=by simpa [bI]using t (bI .leq (ds.length:Int) kC) (by simp)
       refine⟨_,(h.length,.rows g c.size (aO c ds))::h',k+1,.own (su h f2 c ds),H.push (.rows J),.push _ _ _,by simp [nm]at hn ⊢;omega,λK hK=> ?_⟩;refine⟨by rw [aU];simp [kC,Ay]at p ⊢;omega,?_⟩;rw [<-hn,w,aU];exact hK
      .rename_i l;split at hk
       .rename_i f1 c1 i hl;split at hk
        .rename_i q;subst q;cases hk;obtain⟨x,rfl,hc⟩:=ha.cell;cases hc with | own hN=>
         rw [dI hl]at hN;cases hN;obtain⟨o',P,hO⟩:=H.old l _ hl;cases hO with | rows V=>
         rename_i O;refine D (λb I=>t b (by simp [I])) _ _ _ (λg L J W=> ?_) rfl rfl rfl;have p:((i:List c1.den).length:Int)+(ds.length:Int)<=kC:=by simpa [bI]using t (bI .leq ((i.length:Int)+(ds.length:Int)) kC) (by simp)
         have hG:=H.fG hl;have eG:fG h l=h.set l (.gone c1 (i.length:Int)):=by unfold fG;rw [hl]
         have B:(fG h l).length=h.length:=yu h l;have Z:=hG.push (o:= .rows (f1&&f2) c1 (i++ds)) (o':= .rows (O&&g) c1.size (aO c1 (i++ds))) (.rows (λh=>by simp at h;simp [V h.1,J h.2]));rw [B]at Z;have hE:=(jf.fG (h':=h') (h:=h) l (o':= .gone)).trans (jf.push (h':=(l,.gone)::h') (h:=fG h l) (.rows (f1&&f2) c1 (i++ds)) (.rows (O&&g) c1.size (aO c1 (i++ds))) []);rw [B]at hE;refine⟨.c (.os h.length c1.size 0 (i++ds).length),_,k+1,?_,by rw [<-eG];exact Z,by rw [<-eG];exact hE,by simp [nm]at hn ⊢;omega,λK hK=> ?_⟩
         .have:=su (fG h l) (f1&&f2) c1 (i++ds);rw [B]at this;rw [<-eG];exact .own this
         .unfold vV;simp only;rw [P];simp only [qD];refine⟨by rw [aU,Nat.zero_add];exact Nat.le_refl _,by trivial,w.symm,by rw [aU];simp [kC,Ay]at p ⊢;omega,?_⟩;rw [drop_zero,take_of_length_le (by rw [aU];exact Nat.le_refl _),<-hn,w,aU,<-Kz,<-length_append];exact hK
        .cases hk
       .cases hk
      .rename_i l lo u;split at hk
       .rename_i f1 c1 i hl;split at hk
        .rename_i q;subst q;cases hk;obtain⟨x,rfl,hc⟩:=ha.cell;cases hc with | os hN=>
         rename_i L lo u mm;rw [dI hl]at hN;cases hN;obtain⟨o',P,hO⟩:=H.old l _ hl;cases hO with | rows V=>
         rename_i O;refine D (λb I=>t b (by simp [I])) _ _ _ (λg L J W=> ?_) rfl rfl rfl;have b0:(lo:Int)=0:=by simpa [bI]using t (bI .eql (lo:Int) 0) (by simp)
         have N:(u:Int)<=(i:List c1.den).length:=by simpa [bI]using t (bI .leq (u:Int) (i.length:Int)) (by simp)
         have p:(u:Int)+(ds.length:Int)<=kC:=by simpa [bI]using t (bI .leq ((u:Int)+(ds.length:Int)) kC) (by simp)
         have hG:=H.fG hl;have eG:fG h l=h.set l (.gone c1 (i.length:Int)):=by unfold fG;rw [hl]
         have B:(fG h l).length=h.length:=yu h l;have es:(((i:List c1.den).take ((u:Int)).toNat).drop ((0:Int)).toNat)=i.take u:=by simp
         have Z:=hG.push (o:= .rows (f1&&f2) c1 (i.take u++ds)) (o':= .rows (O&&g) c1.size (aO c1 (i.take u++ds))) (.rows (λh=>by simp at h;simp [V h.1,J h.2]));rw [B]at Z;have hE:=(jf.fG (h':=h') (h:=h) l (o':= .gone)).trans (jf.push (h':=(l,.gone)::h') (h:=fG h l) (.rows (f1&&f2) c1 (i.take u++ds)) (.rows (O&&g) c1.size (aO c1 (i.take u++ds))) []);rw [B]at hE;have A:(h.set l (.gone c1 (i.length:Int))++ [dZ.rows (f1&&f2) c1 ((((i:List c1.den).take ((u:Int)).toNat).drop ((0:Int)).toNat)++ds)])=fG h l++ [.rows (f1&&f2) c1 (i.take u++ds)]:=by rw [es,eG]
         refine⟨.c (.os h.length c1.size 0 (i.take u++ds).length),_,k+1,?_,by show fT _ (h.set l (.gone c1 (i.length:Int))++ [dZ.rows (f1&&f2) c1 ((((i:List c1.den).take ((u:Int)).toNat).drop ((0:Int)).toNat)++ds)]);rw [A];exact Z,
          by show jf _ _ _ (h.set l (.gone c1 (i.length:Int))++ [dZ.rows (f1&&f2) c1 ((((i:List c1.den).take ((u:Int)).toNat).drop ((0:Int)).toNat)++ds)]) _;rw [A];exact hE,by simp [nm]at hn ⊢;omega,λK hK=> ?_⟩
         .have:=su (fG h l) (f1&&f2) c1 (i.take u++ds);rw [B]at this;show PVR (nmh (h.set l (.gone c1 (i.length:Int))++ [dZ.rows (f1&&f2) c1 ((((i:List c1.den).take ((u:Int)).toNat).drop ((0:Int)).toNat)++ds)])) _ _;rw [A];exact .own this
         .unfold vV;simp only;rw [P];simp only [qD];refine⟨by rw [aU];omega,by trivial,w.symm,by rw [aU];simp [kC,Ay]at p ⊢;omega,?_⟩;have a8:lo=0:=by omega
          subst a8;have e1:((aO c1 i).drop 0).take u++aO c1 ds=aO c1 (i.take u++ds):=by simp [aO,map_take]
          have e2:u+ds.length=(i.take u++ds).length:=by simp;omega
          rw [<-hn,w,aU,e1,e2];exact hK
        .cases hk
       .cases hk
      .rename_i f1 c1 i;split at hk
       .rename_i q;subst q;cases hk;obtain⟨x,rfl,hc⟩:=ha.cell;cases hc with | clip V=>
        rename_i O;refine D (λb I=>t b (by simp [I])) _ _ _ (λg L J W=> ?_) rfl rfl rfl;have a0:(decide ((0:Int)< (ds.length:Int)) || decide (((i:List c1.den).length:Int)=0))=true:=by
         have:=t ((bI .lss 0 (ds.length:Int)) || (bI .eql (i.length:Int) 0)) (by simp);simpa [bI]using this
        have p:((i:List c1.den).length:Int)+(ds.length:Int)<=kC:=by simpa [bI]using t (bI .leq ((i.length:Int)+(ds.length:Int)) kC) (by simp)
        refine⟨.c (.os h.length c1.size 0 (i++ds).length),(h.length,.rows (O&&g) c1.size (aO c1 (i++ds)))::h',k+1,.own (su h (f1&&f2) c1 (i++ds)),H.push (.rows (λh=>by simp at h;simp [V h.1,J h.2])),.push _ _ _,by simp [nm]at hn ⊢;omega,λK hK=> ?_⟩;refine⟨λ_=>w.symm,λhe=> ?_,by rw [aU,aU];simp [kC,Ay]at p ⊢;omega,?_⟩
        .simp only [Bool.or_eq_true,decide_eq_true_eq]at a0;rcases a0 with h1 | h1
         .have:ds=[]:=by simpa [aO]using he
          subst this;simp at h1
         .have:i=[]:=length_eq_zero_iff.1 ah;subst this;rfl
        .rw [<-hn,w,aU,aU,<-Kz,<-length_append];exact hK
       .cases hk
      .cases hk
     .cases hk
    .cases hk
   .cases hk
  .cases hk
 .cases hk
end Go.TX
namespace Go.TX
open Go Go.AE List
variable{X:XT}{E:Tab}{m:Nat}{h:List aN}{h':Heap}{ty:TypeId}
def Hv2(T:(PV->Heap->Nat->Prop)->Prop)(n:Nat)(h':Heap)(h:List aN)(v:SVal)(k:List aN)(b:List Nat):Prop:=
 ∃pv a j,PVR (nmh k) pv v/\fT a k/\jf h' h a k b/\k.length=nm n j/\∀K,K pv a j->T K
theorem rU{k:IntKind}:∀ {a:List (List D)} {l:List Int},mX k a=some l->l.map (ic k)=a
 | [],l,h=>by grind [mX]
 | e::r,l,h=>by
  unfold mX at h;split at h
  .rename_i hh;cases hh
  .rename_i k' n r' hh;cases hh;split at h
   .rename_i e;subst e;split at h
    .rename_i l' hl;cases h;simp [ic,rU hl]
    .cases h
   .cases h
  .cases h
theorem Oh(d:mO)(a:List (List D)):ir d a=a:=by
 unfold ir
 grind [rU]
def OW(hX:XOK X E){n:Nat}{t:Slots}{e:Nat->Option SVal}{c:Co}:∀ {a:List (Nat×Operand)} {h':Heap} {h:List aN} (_:fT h' h) (_:EvR X E n (nmh h) t e) {f:Bool} {d:List c.den} {k:List aN} {l:List Nat},
  sZ (std n) X e c h a=some (f,d,k,l)->
  ∃g b,(f=true->g=true)/\fT b k/\jf h' h b k l/\nmh k=nmh h/\k.length=h.length/\d.length=a.length/\∀K,K g (aO c d) b->vU E t c.size h' a K
 | [],h',h,H,he,f,d,k,l,hk=>by
  simp only [sZ,Option.some.injEq,Prod.mk.injEq]at hk;obtain⟨rfl,rfl,rfl,rfl⟩:=hk;exact⟨true,h',λ_=>rfl,H,.refl _ _ _,rfl,rfl,rfl,λK hK=>hK⟩
 | (i,x)::r,h',h,H,he,f,d,k,l,hk=>by
  simp only [sZ]at hk;split at hk
  .rename_i v hv;split at hk
   .rename_i f1 y l1 hy;split at hk
    .rename_i g1 ys k1 l2 hys;cases hk;obtain⟨pv,m,z⟩:=dO hX he hv;obtain⟨I,J,L,o,D,q,G⟩:=ab1 H z hy;have j:nmh (bA (std n) h l1)=nmh h:=wL n l1 h;obtain⟨A,w,M,p,F,C,u,B,s⟩:=OW hX o (by rw [j];exact he) hys;refine⟨I&&A,w,λh=>by simp_all,p,D.trans F,C.trans j,by rw [u,qM],by simp [B],λK hK=> ?_⟩;unfold vU;rw [m];exact⟨q,G _ (s _ hK)⟩
    .cases hk
   .cases hk
  .cases hk
def Rl(c:Co)(a:c.den){j n:Nat}{b:List (LV aF)}(i:j+n<=c.fields.length)(f:b.length=n){t:iQ c.rX}(g:pack aF c.rX ((c.zV a).take j++b++(c.zV a).drop (j+b.length))=some t):
  c.row (c.mk t)=iq (c.row a) (zipWith lvD ((c.fields.drop j).take n) b) j:=by
 have e:=Ba c t g;have k:(c.zV a).length=c.fields.length:=abU c a;have h:c.fields=c.fields.take j++(c.fields.drop j).take n++c.fields.drop (j+n):=by
  rw [append_assoc,<-drop_drop,take_append_drop,take_append_drop]
 have d:(zipWith lvD ((c.fields.drop j).take n) b).length=n:=by simp;omega
 unfold iq;rw [<-e,abT c a,d,take_zipWith,drop_zipWith]
 conv=>lhs;rw [h]
 rw [zipWith_append (by simp;omega),zipWith_append (by simp;omega),f]
def Gf:∀ {b:List Sh} {c:List SC} {f:Bool} {a:List (LV aF)} {d:List Nat},aM (std m) h b c=some (f,a,d)->a.length=b.length
 | [],[],_,_,_,hk=>by simp [aM]at hk;obtain⟨_,rfl,_⟩:=hk;rfl
 | [],_::_,_,_,_,hk=>by simp [aM]at hk
 | _::_,[],_,_,_,hk=>by simp [aM]at hk
 | s::b,y::c,f,a,d,hk=>by
  unfold aM at hk;split at hk
  .split at hk
   .rename_i hv2;split at hk
    .cases hk;simp [Gf hv2]
    .cases hk
   .cases hk
  .cases hk
def CG(h:Heap)(p v:PV)(K:Heap->Prop):Prop:=
 match p with
 | .c (.ptr l sz i j)=>qD (AE.look h l) λo=>match o with
  | .box cs=>i=0/\j+(aR v).length<=cs.length/\K ((l,.box (splice cs (aR v) j))::h)
  | .rows f a b=>sz=a/\i<b.length/\qX h (aR v) λg c d=>AE.look d l=some (.rows f a b)/\j+c.length<=sz/\
   ∀row,b[i]? =some row->K ((l,.rows (f&&g) sz (b.set i (if j=0/\c.length=sz then c else iq row c j)))::d)
  | .gone=>False
 | _=>False
def ab4(hX:XOK X E)(H:fT h' h){n k:Nat}(hn:h.length=nm n k){Z pv:PV}{p v:SVal}(hp:PVR (nmh h) Z p)(hv:PVR (nmh h) pv v)
  {r:HR (std m)} (hk:wE (std m) X h ty p v=some r) (a5:∀b∈r.chk,b=true):
  Hv2 (λK=>aD (E.ty ty) λy=>Ci h' y Z pv λa=>K (.tup []) a k) n h' h r.v r.h r.touched:=by
 have aaW:∀N,PVR N (.tup []) (.tup []):=λN=> .tup .nil
 unfold wE at hk;rw [hX.ty]at hk;have a6:∃y,E.ty ty=some y:=by grind
 obtain⟨y,hy⟩:=a6;rw [hy]at hk;simp only at hk;split at hk
 .cases hk
 .rename_i hc0;simp only [Bool.or_eq_true,beq_iff_eq,Bool.not_eq_true',beq_eq_false_iff_ne,ne_eq,not_or,Decidable.not_not]at hc0;obtain⟨a8,R⟩:=hc0;have e:=hv.cells;have S:(aR pv).length=(cellsS v).length:=e.length;rw [dH]at R;have pre:∀ {td:List Nat} {M:List aN} {a:Heap} {vv:SVal},PVR (nmh M) (.tup []) vv->fT a M->jf h' h a M td->M.length=h.length->(∀K:PV->Heap->Nat->Prop,K (.tup []) a k->CG h' Z pv λs=>K (.tup []) s k)->Hv2 (λK=>aD (E.ty ty) λy=>Ci h' y Z pv λa=>K (.tup []) a k) n h' h vv M td:=by
   intro td M a vv a0 a1 a2 a3 a4;refine⟨.tup [],a,k,a0,a1,a2,by rw [a3,hn],λK hK=> ?_⟩;rw [hy];simp only [aD];exact⟨by rw [S,R],by simpa using a8,a4 K hK⟩
  split at hk
  .rename_i l sz j;split at hk
   .rename_i w hw;obtain⟨x,rfl,hc⟩:=hp.cell;cases hc;obtain⟨o',C,hO⟩:=H.old l _ hw;cases hO with | box hF=>
    rename_i cs;have avD:cs.length=(cellsS w).length:=hF.length;have L:l<h.length:=(List.getElem?_eq_some_iff.1 hw).1;have b2:¬Gone h l:=λ⟨_,_,h2⟩=>by simp_all
    have aue:∀W,F2 (RC (nmh h)) (splice cs (aR pv) j) (cellsS W)->j+(aR pv).length<=cs.length->Hv2 (λK=>aD (E.ty ty) λy=>Ci h' y (.c (.ptr l sz 0 j)) pv λa=>K (.tup []) a k) n h' h (.tup []) (h.set l (.box W)) [l]:=by
     intro W a9 b0;have O:nmh (h.set l (.box W))=nmh h:=nC hw (by simp [nmh]);refine pre (aaW _) (H.set L (λk x B=>by rw [O];exact B) (.box (by rw [O];exact a9))) (.set (λk x B=>by rw [O];exact B) b2) (by simp) (λK hK=> ?_);unfold CG;simp only;rw [C];exact⟨by trivial,b0,hK⟩
    split at hk
    .rename_i hcond;cases hk;simp_all [dH,Bool.and_eq_true,beq_iff_eq,splice,aR,take_zero,drop_of_length_le]
    .split at hk
     .rename_i hcond;cases hk;simp only [dH,Bool.and_eq_true,beq_iff_eq]at hcond;obtain⟨s,h2⟩:=hcond;have s:=Nat.le_of_ble_eq_true s;rw [show bZ (std m) w=cellsS w from dH m w,show bZ (std m) v=cellsS v from dH m v];refine aue (.agg _) ?_ ah;show F2 _ _ ((cellsS w).take j++cellsS v++(cellsS w).drop (j+(cellsS v).length));unfold splice;rw [S];exact((hF.take j).append e).append (hF.drop _)
     .cases hk
   .cases hk
  .rename_i l i j;split at hk
   .rename_i f c u hw;obtain⟨x,rfl,hc⟩:=hp.cell;cases hc with | pr hN=>
    rename_i sz i mm;rw [dI hw]at hN;cases hN;obtain⟨o',C,hO⟩:=H.old l _ hw;cases hO with | rows hf=>
    rename_i f';have L:l<h.length:=(List.getElem?_eq_some_iff.1 hw).1
    have A:∀(o:List Nat) (g J:Bool) (s:Heap) (z:c.den) (P:List D),l∉o->(g=true->J=true)->fT s (bA (std m) h o)->jf h' h s (bA (std m) h o) o->(i:Int)< (u:List c.den).length->j+P.length<=c.size->
      (∀K,K J P s->qX h' (aR pv) K)->(∀row,(aO c u)[i]? =some row->(if j=0/\P.length=c.size then P else iq row P j)=c.row z)->
      Hv2 (λK=>aD (E.ty ty) λy=>Ci h' y (.c (.ptr l c.size i j)) pv λa=>K (.tup []) a k) n h' h (.tup []) ((bA (std m) h o).set l (.rows (f&&g) c (u.set i z))) (l::o):=by
     intro o g J s z P d hg R1 R2 hi a7 aqZ G;have I:(bA (std m) h o)[l]? =some (.rows f c u):=by rw [lF m o h d];exact hw
     have O:nmh ((bA (std m) h o).set l (.rows (f&&g) c (u.set i z)))=nmh (bA (std m) h o):=nC I (by simp [nmh]);have auf:l< (bA (std m) h o).length:=by grind
     have b3:aO c (u.set i z)=(aO c u).set i (c.row z):=by simp [aO,map_set]
     refine pre (aaW _) (R1.set (o':= .rows (f'&&J) c.size (aO c (u.set i z))) auf (λk x B=>by rw [O];exact B) (.rows (λh=>by simp_all)))
      ((R2.trans (.set (λk x B=>by rw [O];exact B) (Gd I))).mono (λq hq=>by grind)) (by rw [length_set,qM]) (λK hK=> ?_)
     unfold CG;simp only;rw [C];refine⟨by trivial,by rw [aU];omega,aqZ _ ⟨?_,a7,λrow V=> ?_⟩⟩
     .rw [(R2.keep l L d).2];exact C
     simp_all
    split at hk
    .rename_i hcond;simp only [Bool.and_eq_true,beq_iff_eq]at hcond;obtain⟨rfl,b4⟩:=hcond;split at hk
     .rename_i g x o B;split at hk
      .cases hk
      .rename_i d;cases hk;have d:l∉o:=by simpa using d
       obtain⟨J,s,q1,Y,U,q4,q5⟩:=ab1 H hv B;have hi:(i:Int)< (u:List c.den).length:=by simp_all [bI]
       exact A o g J s x (c.row x) d q1 Y U hi (by rw [tH];omega) q5 (λrow V=>by grind [tH])
     .cases hk
    .rename_i hcond;split at hk
     .rename_i g ys o hyl;split at hk
      .cases hk
      .rename_i d;simp only [Bool.or_eq_true,Bool.not_eq_true',not_or]at d;obtain⟨d,F⟩:=d;have d:l∉o:=by simpa using d
       have F:j+y.size<=c.fields.length:=Nat.le_of_ble_eq_true (by simpa using F);split at hk
       .rename_i z hz;cases hk;unfold OI at hz;split at hz
        .rename_i t ht;cases hz;rw [Kv]at ht;rw [dH]at hyl;have b1:ys.length=y.size:=by rw [Gf hyl,length_take,length_drop];omega
         have H0:fT h' (bA (std m) h []):=H;obtain⟨J,s,q1,Y,U,q4⟩:=rz (done:=[]) H0 e hyl (λ_ _=>by simp);rw [nil_append]at Y U;have hi:(i:Int)< (u:List c.den).length:=by simpa [bI]using a5 (bI .lss (i:Int) ((u:List c.den).length:Int)) (by simp)
         have T:(zipWith lvD ((c.fields.drop j).take y.size) ys).length=y.size:=by simp;omega
         refine A o g J s _ (zipWith lvD ((c.fields.drop j).take y.size) ys) d q1 Y U hi (by rw [T];exact F) q4 (λrow V=> ?_);show _=c.row (c.mk t);rw [Rl c _ F b1 ht];have Q:i< (u:List c.den).length:=by omega
         have G:row=c.row ((u:List c.den).getD ((i:Int)).toNat default):=by
          simp only [aO,getElem?_map,getElem?_eq_getElem Q,Option.map_some,Option.some.injEq]at V;subst V;simp [getD,getElem?_eq_getElem Q]
         subst G;split
         .rename_i hh;rw [T]at hh;exact absurd (by simp only [Bool.and_eq_true,beq_iff_eq];exact hh) hcond
         .rfl
        .cases hz
       .cases hk
     .cases hk
   .cases hk
  .cases hk
def ab5(hX:XOK X E)(H:fT h' h){n k:Nat}(hn:h.length=nm n k){pv:PV}{v:SVal}(I:PVR (nmh h) pv v)
  {r:HR (std m)} (hk:Q8 (std m) X h ty v=some r) (V:∀b∈r.chk,b=true):
  Hv2 (λK=>aD (E.ty ty) λy=>match y.desc with
   | .slice e=>aD (E.ty e) λz=>∃A,ZD z.zero A/\vW h' A z pv λd=>K (.tup []) d k
   | _=>False) n h' h r.v r.h r.touched:=by
 unfold Q8 at hk;rw [hX.ty]at hk;split at hk
 .rename_i y hy;split at hk
  .rename_i e hd;split at hk
   .rename_i z c hz hco;split at hk
    .rename_i zs hzs;split at hk
     .rename_i fx x lx j;split at hk
      .rename_i hcond;simp only [Bool.and_eq_true,Bool.not_eq_true',beq_eq_false_iff_ne,ne_eq]at hcond;obtain⟨F,s⟩:=hcond;obtain⟨z',w,aiE⟩:=gL hX F;rw [hz]at w;cases w;have M:=ab3 hzs j;have aaW:∀N,PVR N (.tup []) (.tup []):=λN=> .tup .nil
       have pre:∀ {D:List Nat} {p:List aN} {d:Heap} {B:SVal},PVR (nmh p) (.tup []) B->fT d p->jf h' h d p D->p.length=h.length->(∀K:PV->Heap->Nat->Prop,K (.tup []) d k->vW h' (c.row x) z pv λU=>K (.tup []) U k)->
         Hv2 (λK=>aD (E.ty ty) λy=>match y.desc with
          | .slice e=>aD (E.ty e) λz=>∃A,ZD z.zero A/\vW h' A z pv λd=>K (.tup []) d k
          | _=>False) n h' h B p D:=by
        intro D p d B Q R S P O;refine⟨.tup [],d,k,Q,R,S,by rw [P,hn],λK hK=> ?_⟩;rw [hy];simp only [aD];rw [hd];simp only;rw [hz];exact⟨_,M,O K hK⟩
       split at hk
       .cases hk;obtain⟨J,rfl,hc⟩:=I.cell;cases hc;exact pre (aaW _) H (.refl _ _ _) rfl (λK hK=>hK)
       .rename_i l;split at hk
        .rename_i f c1 a hl;split at hk
         .rename_i q;subst q;cases hk;obtain⟨J,rfl,hc⟩:=I.cell;cases hc with | own u=>
          rw [dI hl]at u;cases u;obtain⟨o',o,C⟩:=H.old l _ hl;cases C with | rows G=>
          have t:nmh (h.set l (.rows f c1 (replicate ((a:List c1.den).length:Int).toNat x)))=nmh h:=nC hl (by simp [nmh]);refine pre (aaW _) (H.set (o':= .rows _ c1.size (aO c1 (replicate ((a:List c1.den).length:Int).toNat x))) (List.getElem?_eq_some_iff.1 hl).1 (λk x j=>by rw [t];exact j) (.rows G)) (.set (λk x j=>by rw [t];exact j) (Gd hl)) (by simp) (λK hK=> ?_);unfold vW;simp only;rw [o];refine⟨by trivial,aiE.symm,by simpa using s,by rw [aU];omega,?_⟩;simp_all [aO,replicate,take_zero,drop_of_length_le,aU]
         .cases hk
        .cases hk
       .rename_i l g i;split at hk
        .rename_i f c1 a hl;split at hk
         .rename_i q;subst q;cases hk;obtain⟨J,rfl,hc⟩:=I.cell;cases hc with | os u=>
          rename_i Y g i Z;rw [dI hl]at u;cases u;obtain⟨o',o,C⟩:=H.old l _ hl;cases C with | rows G=>
          have W:(g:Int)+(i:Int)<=(a:List c1.den).length:=by simp_all [bI,lY]
          have T:((((a:List c1.den).take ((g:Int)).toNat).drop ((0:Int)).toNat++replicate ((i:Int)).toNat x)++(a.take ((a.length:Int)).toNat).drop ((g:Int)+(i:Int)).toNat)=a.take g++replicate i x++a.drop (g+i):=by
           rw [show((g:Int)+(i:Int)).toNat=g+i by omega,show((a.length:Int)).toNat=a.length by omega,take_length];simp
          show Hv2 _ _ _ _ _ (h.set l (.rows f c1 ((((a:List c1.den).take ((g:Int)).toNat).drop ((0:Int)).toNat++replicate ((i:Int)).toNat x)++(a.take ((a.length:Int)).toNat).drop ((g:Int)+(i:Int)).toNat))) _;rw [T];have L:(a.take g++replicate i x++a.drop (g+i)).length=a.length:=by simp;omega
          have t:nmh (h.set l (.rows f c1 (a.take g++replicate i x++a.drop (g+i))))=nmh h:=nC hl (by grind [nmh,getElem?_cons_zero]);refine pre (aaW _) (H.set (o':= .rows _ c1.size (aO c1 (a.take g++replicate i x++a.drop (g+i)))) (List.getElem?_eq_some_iff.1 hl).1 (λk x j=>by rw [t];exact j) (.rows G)) (.set (λk x j=>by rw [t];exact j) (Gd hl)) (by simp) (λK hK=> ?_);unfold vW;simp only;rw [o];refine⟨by trivial,aiE.symm,by simpa using s,by rw [aU];omega,?_⟩;simp_all [aO,replicate,map_take,map_drop]
         .cases hk
        .cases hk
       .cases hk
      .cases hk
     .cases hk
    .cases hk
   .cases hk
  .cases hk
 .cases hk
end Go.TX
namespace Go.TX
open Go Go.AE List
variable{h:List aN}
def aiF(o:aN){p:PV}{v:SVal}(a:PVR (nmh h) p v):PVR (nmh (h++ [o])) p v:=a.mono (CF h o)
def LP{X:XT}{E:Tab}(hX:XOK X E){m:Nat}{h':Heap}(H:fT h' h){n k:Nat}(hn:h.length=nm n k){t:Slots}{e:Nat->Option SVal}(I:EvR X E m (nmh h) t e){op:Op}
  {r:HR (std m)} (hk:F3 (std m) X e h op=some r) (A:∀b∈r.chk,b=true):Hv2 (iB E op t h' n k) n h' h r.v r.h r.touched:=by
 have i:∀o:aN,(h++ [o]).length=nm n (k+1):=λo=>by simp [nm]at hn ⊢;omega
 unfold F3 at hk;split at hk
 .rename_i ty;rw [hX.ty]at hk;split at hk
  .rename_i y hy;have G:∀(B:List SC) (w:SVal),kN (std m) y.zero=some B->B≠ []->cellsS w=B->r=⟨[],.c (.pb h.length y.size 0),h++ [.box w],[]⟩->Hv2 (iB E (.alloc ty) t h' n k) n h' h r.v r.h r.touched:=by
    intro B w d s hw Z;subst Z;have hF:F2 (RC (nmh (h++ [.box w]))) y.zero (cellsS w):=by rw [hw];exact CB d
    refine⟨.c (.ptr h.length y.size 0 0),(h.length,.box y.zero)::h',k+1,.ofC .pb,H.push (.box hF),.push _ _ _,i _,λK hK=> ?_⟩;unfold iB;simp only;rw [hy];refine⟨λa3=>s ?_,by rw [<-hn];exact hK⟩;rw [a3]at d;simp [kN]at d;exact d
   split at hk
   .rename_i x d;split at hk<;>cases hk
    .exact G _ (.agg [x]) d (by simp) rfl rfl
    .exact G _ (.c x) d (by simp) rfl rfl
   .rename_i x r' hsd d;cases hk;exact G _ (.agg (x::r')) d (by simp) rfl rfl
   .cases hk
  .cases hk
 .split at hk
  .rename_i v hv;split at hk
   .cases hk
   .rename_i s;cases hk;obtain⟨pv,p1,Y⟩:=dO hX I hv;have S:(aR pv).length=(bZ (std m) v).length:=by rw [dH];exact Y.len
    refine⟨.c (.ptr h.length (bZ (std m) v).length 0 0),(h.length,.box (aR pv))::h',k+1,.ofC .pb,H.push (.box (aiF _ Y).cells),.push _ _ _,i _,λK hK=> ?_⟩;unfold iB;simp only;rw [p1];exact⟨by simpa [S]using s,by rw [<-hn,S];exact hK⟩
  .cases hk
 .rename_i ty len parts;rw [hX.ty]at hk;split at hk
  .rename_i y hy;split at hk
   .rename_i el hd;split at hk
    .rename_i z c d hco;split at hk
     .rename_i hcond;simp only [Bool.and_eq_true,Bool.not_eq_true',beq_iff_eq,beq_eq_false_iff_ne,ne_eq]at hcond;obtain⟨⟨⟨J,s⟩,u⟩,F⟩:=hcond;have F:=Nat.le_of_ble_eq_true F;obtain⟨z',C,N⟩:=gL hX J;rw [d]at C;cases C;split at hk
      .rename_i f B k1 ls aug;cases hk;obtain⟨g,D,Q,O,L,R,M,q6,q7⟩:=OW hX H I aug;have T:B.length=len:=by
        have:=congrArg List.length u;simp at this;rw [q6];simpa using this
       have hP:=O.push (o:= .rows f c B) (o':= .rows g c.size (aO c B)) (.rows Q);have hE:=(L.trans (jf.push (h':=D) (h:=k1) (.rows f c B) (.rows g c.size (aO c B)) [])).mono (λl S=>by simpa using S);refine⟨.c (.os k1.length c.size 0 B.length),_,k+1,.own (su k1 f c B),hP,hE,by simp [nm]at hn ⊢;omega,λK hK=> ?_⟩;unfold iB;simp only;rw [hy];simp only [aD];rw [hd];simp only;rw [d];refine⟨s,u,F,?_⟩;rw [N];refine q7 _ ?_;rw [Oh,<-hn,<-M,<-T];exact hK
      .cases hk
     .cases hk
    .cases hk
   .cases hk
  .cases hk
 .rename_i ty l cp;rw [hX.ty]at hk;split at hk
  .rename_i y hy;split at hk
   .rename_i el hd;split at hk
    .rename_i z c d hco;split at hk
     .rename_i zs fl kl q fc kc q' N S hc;split at hk
      .rename_i fx x lx hx;split at hk
       .rename_i hcond;cases hk;simp only [Bool.and_eq_true,Bool.not_eq_true',beq_eq_false_iff_ne,ne_eq]at hcond;obtain⟨⟨J,s⟩,P⟩:=hcond;have P:=Nat.le_of_ble_eq_true P;obtain⟨z',C,aiE⟩:=gL hX J;rw [d]at C;cases C;obtain⟨pl,l1,l2⟩:=dO hX I S;obtain⟨pc,c1,c2⟩:=dO hX I hc;obtain⟨_,rfl⟩:=l2.int;obtain⟨_,rfl⟩:=c2.int;have U:q'=q:=by simpa [bI]using A (bI .eql q' q) (by simp)
        have V:(0:Int)<=q:=by simpa [bI]using A (bI .leq 0 q) (by simp)
        have W:q<=kC:=by simpa [bI]using A (bI .leq q kC) (by simp)
        obtain⟨q,rfl⟩:∃w:Int,w=q:=⟨q,rfl⟩;have Z:aO c (replicate q.toNat x)=replicate q.toNat (c.row x):=by simp [aO]
        refine⟨.c (.os h.length c.size 0 (replicate q.toNat x).length),(h.length,.rows true c.size (aO c (replicate q.toNat x)))::h',k+1,.own (su h true c (replicate q.toNat x)),H.push (.rows λh=>h),.push _ _ _,i _,λK hK=> ?_⟩;unfold iB;simp only;rw [hy];simp only [aD];rw [hd];simp only;rw [d];refine⟨_,ab3 N hx,?_⟩;rw [l1];simp only [aT];rw [c1];refine⟨s,P,U,V,by simp only [kC,Ay]at W ⊢;omega,?_⟩;rw [<-Z,<-hn,aiE];have:q.toNat=(replicate q.toNat x).length:=by simp
        rw [show(PV.c (.os h.length c.size 0 q.toNat))= .c (.os h.length c.size 0 (replicate q.toNat x).length)from by rw [<-this]];exact hK
       .cases hk
      .cases hk
     .cases hk
    .cases hk
   .cases hk
  .cases hk
 .rename_i ty p x;split at hk
  .rename_i pv v hp hv;obtain⟨pp,p1,Y⟩:=dO hX I hp;obtain⟨a4,v1,v2⟩:=dO hX I hv;obtain⟨a,b,c,Q,O,L,R,M⟩:=ab4 hX H hn Y v2 hk A;refine⟨a,b,c,Q,O,L,R,λK hK=> ?_⟩;have:=M K hK;unfold iB;simp only;cases hy:E.ty ty with
   | none=>rw [hy]at this;exact this.elim
   | some y=>
    rw [hy]at this;simp only [aD]at this ⊢;rw [p1];simp only [aT];rw [v1];exact this
  .cases hk
 .rename_i c;split at hk
  .rename_i a b ty t2 U V W;split at hk
   .rename_i av bv ha hb;obtain⟨pa,a1,a2⟩:=dO hX I ha;obtain⟨pb,b1,b2⟩:=dO hX I hb;obtain⟨pv,D,j,Q,O,L,R,M⟩:=aaV hX H hn a2 b2 hk A;refine⟨pv,D,j,Q,O,L,R,λK hK=> ?_⟩;have:=M K hK;unfold iB;simp only;rw [U,V,W];simp only;cases hy:E.ty ty with
    | none=>rw [hy]at this;exact this.elim
    | some y=>
     rw [hy]at this;simp only [aD]at this ⊢;split at this
     .rename_i e hd;cases d:E.ty e with
      | none=>rw [d]at this;exact this.elim
      | some z=>
       rw [d]at this;simp only at this;rw [hd];simp only;rw [d];simp only;rw [a1];simp only [aT];rw [b1];exact this
     .exact this.elim
   .cases hk
  .rename_i a ty U V W;split at hk
   .rename_i av ha;obtain⟨pa,a1,a2⟩:=dO hX I ha;obtain⟨pv,D,j,Q,O,L,R,M⟩:=ab5 hX H hn a2 hk A;refine⟨pv,D,j,Q,O,L,R,λK hK=> ?_⟩;have:=M K hK;unfold iB;simp only;rw [U,V,W];simp only;cases hy:E.ty ty with
    | none=>rw [hy]at this;exact this.elim
    | some y=>
     rw [hy]at this;simp only [aD]at this ⊢;split at this
     .rename_i e hd;cases d:E.ty e with
      | none=>rw [d]at this;exact this.elim
      | some z=>
       rw [d]at this;simp only at this;obtain⟨zd,a0,this⟩:=this;rw [hd];simp only;rw [d];simp only;refine⟨zd,a0,?_⟩;rw [a1];exact this
     .exact this.elim
   .cases hk
  .cases hk
 .cases hk
end Go.TX
namespace Go.TX
open Go Go.AE List
variable{m:Nat}{i:Nat}{v:Value}{h:List aN}{w:World}{f:Bool}{K2:Nat->Prop}{y:SC}{x:LV aF}
structure ELe{m:Nat}(a b:ES (std m)):Prop where
 ren:∀(i:Nat) (v:Option Nat),a.ren[i]? =some (some v)->b.ren[i]? =some (some v)
 len:b.ren.length=a.ren.length
 fro:∀x,x∈a.fro->x∈b.fro
 ck:∀x,x∈a.ck->x∈b.ck
 tr:∀(i:Nat) (v:Option Nat),a.ren[i]? =some (some v)->j6 (std m) b i=j6 (std m) a i
def ELe.refl(a:ES (std m)):ELe a a:=⟨λ_ _ h=>h,rfl,λ_ h=>h,λ_ h=>h,λ_ _ _=>rfl⟩
def ELe.trans{a b c:ES (std m)}(h:ELe a b)(k:ELe b c):ELe a c:=
 ⟨λi v d=>k.ren i v (h.ren i v d),k.len.trans h.len,λx e=>k.fro x (h.fro x e),λx e=>k.ck x (h.ck x e),λi v d=>(k.tr i v (h.ren i v d)).trans (h.tr i v d)⟩
def sD{s a:ES (std m)}{v:Option Nat}(h:tq (std m) s i v=some a):
  a.ren[i]? =some (some v)/\ELe s a/\a.lv=s.lv/\a.tr=s.tr/\a.fro=s.fro/\a.ck=s.ck:=by
 unfold tq at h;split at h
 .rename_i hi;cases h;have b:=(List.getElem?_eq_some_iff.1 hi).1;refine⟨by simp [b],⟨λj w c=> ?_,by simp,λ_ h=>h,λ_ h=>h,λ_ _ _=>rfl⟩,rfl,rfl,rfl,rfl⟩
  grind
 .rename_i w hi;split at h
  .rename_i e;subst e;cases h;exact⟨hi,.refl _,rfl,rfl,rfl,rfl⟩
  .cases h
 .cases h
def WC(c:Ctx)(w:World)(N:NM)(v:Value)(y:SC):Prop:=∃x,bQ c w v x/\RC N x y
def Gg(k:Nat)(p:Option (Nat×Nat)):Option (Nat×Nat):=p.map λq=>(q.1,q.2+k)
def lH(p:Option (Nat×Nat)):Gg 0 p=p:=by cases p<;>rfl
def Zm(k:Nat)(p:Option (Nat×Nat)):(Gg k p).map (·.1)=p.map (·.1):=by cases p<;>rfl
def trK(e:ES (std m))(h:List aN)(i l:Nat):Nat:=match j6 (std m) e i,nmh h l with | some p,some q=>(p.1:Int).toNat*q.1 | _,_=>0
def pK{e:ES (std m)}{i l:Nat}(a:j6 (std m) e i=none):trK e h i l=0:=by unfold trK;rw [a]
structure Ren{m:Nat}(e:ES (std m))(h:List aN)(c:Ctx)(nm:Nat->Nat)(fr:Bool)(c2:Ctx)(N2:NM):Prop where
 kt:∀b,c.K true b->c2.K true b
 kf:fr=false->∀b,c.K false b->c2.K false b
 sub:∀b,c.K true b->c.K false b
 aq0:∀b,c2.K true b->c2.K false b
 fro:∀l f,(l,f)∈e.fro->(f=true\/fr=false)->∀b,c.μ l=some b->c2.K f b
 name:∀(i l:Nat),e.ren[i]? =some (some (some l))->nm i<c2.n/\c2.ν (nm i)=Gg (trK e h i l) (c.ν l)
 names:∀(i l sz n:Nat),e.ren[i]? =some (some (some l))->nmh h l=some (sz,n)->N2 (nm i)=some (sz,match j6 (std m) e i with | some p=>min ((p.1:Int)+(p.2:Int)).toNat n- (p.1:Int).toNat | none=>n)
 nil:∀(i:Nat),e.ren[i]? =some (some none)->nm i<c2.n/\c2.ν (nm i)=none/\∃sz,N2 (nm i)=some (sz,0)
def Zn{c:Ctx}{r:Heap}(H:bL c w r){l h lo n:Nat}{g:List (List D)}(A:AE.look r l=some (.rows f h g))(s:lo+n<=g.length)(C:bQ c w v (.os l h lo n))
   (hK:∀b,c.K f b->K2 b) (z:∀b,c.μ l=some b->K2 b):dM K2 w v (.rows h ((g.drop lo).take n)):=by
 have k:=(H.obj l _ A).2;cases C with
 | os0 a _ _ x hm=>rw [take_zero];exact .none _ _ _
 | osE a _ _ _ b x hm=>rw [take_zero];exact .none _ _ _
 | os _ _ _ _ p b y x hm hn o=>
  simp only [jM,hm]at k;obtain⟨cells,E,m,e⟩:=k;obtain⟨u,q⟩:=e.aqF;have d:((g.drop lo).take n).length=n:=by simp;omega
  have t:∀i,i<n->((g.drop lo).take n).getD i []=g.getD (lo+i) []:=by grind
  refine .rows b (y+lo*h) p h n _ (λi j=>u (lo+i) j) (z b (kY hm)) d.symm hn ?_ ?_ ?_
  .intro i j hi hj;rw [d]at hi;have B:=(q (lo+i) j ah hj).1;rw [rP m];simpa only [Av,Nat.add_mul,Nat.add_assoc]using B
  .intro i hi;rw [d]at hi;rw [t i hi];exact(e (lo+i) ah).1
  .intro i j hi hj;rw [d]at hi;unfold gd;rw [t i hi];exact((q (lo+i) j ah hj).2).mono' hK
def bQ.auh{c j:Ctx}{l d g lo n:Nat}(h:bQ c w v (.os l g lo n))(e:d<j.n)(i:j.ν d=c.ν l):bQ j w v (.os d g lo n):=by
 have m:j.μ d=c.μ l:=by unfold Ctx.μ;rw [i]
 cases h with
 | os0 a _ _ p hm=>exact .os0 a d g e (m.trans hm)
 | osE a _ _ _ b p hm=>exact .osE a d g lo b e (m.trans hm)
 | os _ _ _ _ k b o p hm hn f=>exact .os d g lo n k b o e (i.trans hm) hn f
def bQ.aq1{c j:Ctx}{l d e lo n:Nat}(h:bQ c w v (.os l e lo n))(f:d<j.n)(g:j.ν d=Gg (lo*e) (c.ν l)):bQ j w v (.os d e 0 n):=by
 have m:j.μ d=c.μ l:=by unfold Ctx.μ;rw [g,Zm]
 cases h with
 | os0 a _ _ p hm=>exact .os0 a d e f (m.trans hm)
 | osE a _ _ _ b p hm=>exact .osE a d e 0 b f (m.trans hm)
 | os _ _ _ _ k b o p hm hn i=>
  rw [hm]at g;have:=bQ.os (c:=j) (w:=w) d e 0 n k b (o+lo*e) f g hn (by simpa [Nat.add_mul,Nat.add_assoc]using i);simpa using this
def bQ.ab6{c e:Ctx}{l a d i j:Nat}(h:bQ c w v (.ptr l d i j))(g:a<e.n)(f:e.ν a=c.ν l):bQ e w v (.ptr a d i j):=by
 cases h with | ptr _ _ _ _ b o k hm=>exact .ptr a d i j b o g (f.trans hm)
def Zo{c:Ctx}{t:Heap}(H:bL c w t)(HR:fT t h){s:Sh}{g:Bool}{z:List Nat}(hk:fQ (std m) h s y=some (g,x,z))
   (C:WC c w (nmh h) v y)   (p:f=true->g=true) (hK:∀b,c.K f b->K2 b) (o:∀l∈z,∀b,c.μ l=some b->K2 b):dM K2 w v (lvD s x):=by
 have r:∀j,(f=true->j=true)->∀b,c.K j b->K2 b:=λj i b o=>hK b (by
  cases f with
  | true=>simp_all
  | false=>cases j with
   | true=>exact H.sub b o
   | false=>exact o)
 obtain⟨F,k,hc⟩:=C;unfold fQ at hk;split at hk
 .rename_i f0 lf;split at hk
  .rename_i e;subst e;cases hk;cases hc with | d B i=>
   rename_i j D;subst B;rw [Gb];cases k with | d _ _ _ hd=>
   cases hs:lf.scalar with
   | true=>exact hd.oG _ (by rw [jO];exact hs)
   | false=>
    refine hd.mono' (r _ (λh=>(i ?_).resolve_right (by simp [hs])));have:=p h;cases lf<;>simp_all [Leaf.flag,Leaf.scalar]
  .cases hk
 .cases hc;split at hk
  .cases hk;cases k;exact .none _ _ _
  .cases hk
 .rename_i f0 co xs;cases hc with | clip i=>
  split at hk
  .rename_i e;subst e;cases hk;cases k with | clip _ a n _ _ hd=>
   exact hd.mono' (r _ λh=>i (p h))
  .cases hk
 .rename_i l;cases hc with | own u=>
  split at hk
  .rename_i f0 co xs hl;split at hk
   .rename_i e;subst e;cases hk;rw [dI hl]at u;cases u;obtain⟨E,q,A⟩:=HR.old l _ hl;cases A with | rows i=>
    have:=Zn H q (by rw [aU];omega) k (r _ λh=>i (p h)) (o l (by simp));rw [drop_zero,take_of_length_le (by grind [aU])]at this;exact this
   .cases hk
  .cases hk
 .cases hk
def oJ{a:Ctx}{b:NM}{y:Leaf aF}(h:dM (a.K f) w v (pI y)):WC a w b v (.d f y):=⟨.d f (pI y),.d f v _ h,.d rfl λh=> .inl h⟩
def EG{s a:ES (std m)}(h:s.tr.any (·.1==i)=false)(e:a.tr=s.tr):j6 (std m) a i=none:=by
 unfold j6;rw [e]
 grind [find?_eq_none,any_eq_true]
def ab7{e b:Ctx}{nm:Nat->Nat}{c:List Value}{a qK:List (Nat×Nat)}(j:i<a.length)(g:i<qK.length)(f:a[i].2=qK[i].2)
  (k:bQ e w (c.getD i undef) ((qK.map λp=>Cell.ptr p.1 p.2 0 0).getD i default)) (m:nm a[i].1<b.n) (l:b.ν (nm a[i].1)=e.ν qK[i].1):
  bQ b w (c.getD i undef) (((a.map λp=>(nm p.1,p.2)).map λp=>Cell.ptr p.1 p.2 0 0).getD i default):=by
 have d:bQ e w (c.getD i undef) (.ptr qK[i].1 qK[i].2 0 0):=by simpa [getD,getElem?_eq_getElem g]using k
 have h:=bQ.ab6 d m l;rw [<-f]at h;simpa [getD,getElem?_eq_getElem j]using h
def OX:∀ {ps:List ((Nat×Nat)×(Nat×Nat))} {s a:ES (std m)},ps.foldlM (λs p=>tq (std m) s p.1.1 (some p.2.1)) s=some a->
  (∀p∈ps,a.ren[p.1.1]? =some (some (some p.2.1)))/\ELe s a/\a.lv=s.lv/\a.tr=s.tr
 | [],s,a,h=>by cases h;exact⟨λ_ h=>(by simp at h),.refl _,rfl,rfl⟩
 | p::ps,s,a,h=>by
  rw [foldlM_cons]at h;cases h1:tq (std m) s p.1.1 (some p.2.1)with
  | none=>simp_all
  | some l=>
   rw [h1]at h;obtain⟨g,c,k,e⟩:=OX (ps:=ps) h;obtain⟨i,j,f,d,_⟩:=sD h1;refine⟨λx b=> ?_,j.trans c,k.trans f,e.trans d⟩;cases b with
   | head=>exact c.ren _ _ i
   | tail _ b=>exact g x b
def ELe.push(s:ES (std m))(x:LV aF):ELe s (s.push (std m) x):=⟨λ_ _ h=>h,rfl,λ_ h=>h,λ_ h=>h,λ_ _ _=>rfl⟩
def aaX{c:Co}{g:Bool}{d:List Nat}(a:fQ (std m) h (.rows c) y=some (g,x,d)):∃b:List c.den,x= .l c b:=by
 unfold fQ at a;split at a
 .rename_i f0 lf;split at a
  .rename_i e;cases a;cases lf with
   | rows f b=>simp only [jZ,Sh.rows.injEq]at e;subst e;exact⟨b,rfl⟩
   | _=>simp [jZ]at e
  .cases a
 .grind
 .split at a
  .rename_i e;cases a;simp only [Sh.rows.injEq]at e;subst e;exact⟨_,rfl⟩
  .cases a
 .split at a
  .split at a
   .rename_i e;cases a;simp only [Sh.rows.injEq]at e;subst e;exact⟨_,rfl⟩
   .cases a
  .cases a
 .cases a
def Zp(nm:Nat->Nat){k:SkC}{s s':ES (std m)}(hk:extC (std m) h k y s=some s'):
  ∃new y2,s'.lv=new.reverse++s.lv/\ELe s s'/\(∀o,abO aF nm k (new++o)=some (y2,o))/\
   ∀ {c:Ctx} {w:World} {U:Heap} {e:ES (std m)} {E:Bool} {K:Ctx} {S:NM} {v:Value},bL c w U->fT U h->ELe s' e->(∀b∈e.ck,b=true)->Ren e h c nm E K S->(E=true->k.fresh=true)->
    WC c w (nmh h) v y->WC K w S v y2:=by
 cases k with
 | int k=>
  simp only [extC]at hk;split at hk
  .rename_i f k' x;split at hk
   .rename_i e;subst e;cases hk;refine⟨[.i x],.d true (.int k x),rfl,.push _ _,λo=>rfl,λH HR t r R q z=> ?_⟩;obtain⟨M,A,hc⟩:=z;obtain⟨g,rfl⟩:=RC.int hc;cases A with | d _ _ _ hd=>exact oJ (hd.oG _ rfl)
   .cases hk
  .cases hk
 | bool=>
  simp only [extC]at hk;split at hk
  .rename_i f x;cases hk;refine⟨[.b x],.d true (.bool x),rfl,.push _ _,λo=>rfl,λH HR t r R q z=> ?_⟩;obtain⟨M,A,hc⟩:=z;obtain⟨g,rfl⟩:=RC.bool hc;cases A with | d _ _ _ hd=>exact oJ (hd.oG _ rfl)
  .cases hk
 | str=>
  simp only [extC]at hk;split at hk
  .rename_i f x;cases hk;refine⟨[.s x],.d true (.str x),rfl,.push _ _,λo=>rfl,λH HR t r R q z=> ?_⟩;obtain⟨M,A,hc⟩:=z;cases hc with | d L _=>
   subst L;cases A with | d _ _ _ hd=>exact oJ (y:= .str x) (hd.oG _ rfl)
  .cases hk
 | rows f c=>
  simp only [extC]at hk;split at hk
  .rename_i l lo n;split at hk
   .rename_i g c' D X;split at hk
    .rename_i hcond;cases hk;obtain⟨rfl,Q⟩:=hcond
     refine⟨[.l c ((((D:List c.den).take ((lo:Int)+(n:Int)).toNat)).drop ((lo:Int)).toNat)],.d f (.rows c ((((D:List c.den).take ((lo:Int)+(n:Int)).toNat)).drop ((lo:Int)).toNat)),rfl,
      ⟨λ_ _ h=>h,rfl,λx L=>mem_cons_of_mem _ L,λx L=>mem_append_right _ L,λ_ _ _=>rfl⟩,λo=>rfl,λ{T w U e E K S v} H HR t r R q z=> ?_⟩
     obtain⟨M,A,hc⟩:=z;cases hc with | os V=>
     rename_i O lo n mm;rw [dI X]at V;cases V;obtain⟨o',b0,hO⟩:=HR.old l _ X;cases hO with | rows W=>
     rename_i f';have aui:∀b∈lY (std m) h (.c (.os l (lo:Int) (n:Int))),b=true:=λb B=>r b (t.ck b (mem_append_left _ B))
     simp only [lY,X]at aui;have h3:(lo:Int)+(n:Int)<=(D:List c.den).length:=by simp_all [bI]
     have wM:f=true\/E=false:=by
      cases E with
      | false=>exact .inr rfl
      | true=>exact .inl (q rfl)
     have F:∀b,T.K f b->K.K f b:=λb B=>by
      cases f with
      | true=>exact R.kt b B
      | false=>exact R.kf (wM.resolve_left (by simp)) b B
     have hd:=Zn H b0 (lo:=lo) (n:=n) (by rw [aU];omega) A (K2:=K.K f) (λb B=>F b (by
      cases f with
      | true=>simp_all
      | false=>cases f' with
       | true=>exact R.sub b B
       | false=>exact B)) (λb B=>R.fro l f (t.fro _ (by simp)) wM b B)
     have e1:aO c (((D:List c.den).take ((lo:Int)+(n:Int)).toNat).drop ((lo:Int)).toNat)=((aO c D).drop lo).take n:=by grind [Gc,yh]
     rw [<-e1]at hd;exact oJ (y:= .rows c _) hd
    .cases hk
   .cases hk
  .split at hk
   .rename_i g x ls L;split at hk
    .rename_i Q;cases hk;have a6:=aaX L;obtain⟨D,rfl⟩:=a6;refine⟨[.l c D],.d f (.rows c D),rfl,⟨λ_ _ h=>h,rfl,λx L=>mem_append_right _ L,λx L=>L,λ_ _ _=>rfl⟩,λo=>rfl,λ{T w U e E K S v} H HR t r R q z=> ?_⟩;have wM:f=true\/E=false:=by
      cases E with
      | false=>exact .inr rfl
      | true=>exact .inl (q rfl)
     have F:∀b,T.K f b->K.K f b:=λb B=>by
      cases f with
      | true=>exact R.kt b B
      | false=>exact R.kf (wM.resolve_left (by simp)) b B
     exact oJ (y:= .rows c D) (Zo H HR L z (λh=>by simp_all) F (λl X b B=>R.fro l f (t.fro _ (mem_append_left _ (mem_map.2 ⟨l,X,rfl⟩))) wM b B))
    .cases hk
   .cases hk
 | nil=>
  simp only [extC]at hk;split at hk
  .cases hk;refine⟨[],.nil,rfl,.refl _,λo=>rfl,λH HR t r R q z=> ?_⟩;obtain⟨M,A,hc⟩:=z;cases hc;cases A;exact⟨.nil,.nil,.nil⟩
  .cases hk
 | own i=>
  simp only [extC]at hk;split at hk
  .rename_i l;split at hk
   .cases hk
   .rename_i I;obtain⟨J,Z,r3,r4,r5,r6⟩:=sD hk;refine⟨[],.own (nm i),by simpa using r3,Z,λo=>rfl,λH HR t r R q z=> ?_⟩;obtain⟨M,A,hc⟩:=z;cases hc with | own V=>
    rename_i O n;obtain⟨P,G⟩:=R.name i l (t.ren _ _ J);have hn:=R.names i l O n (t.ren _ _ J) V;have N:j6 (std m) s' i=none:=EG (by cases hq:s.tr.any (·.1==i)with | true=>exact absurd hq I | false=>rfl) r4;rw [t.tr i _ J,N]at hn;rw [pK ((t.tr i _ J).trans N),lH]at G;exact⟨_,bQ.auh A P G,.own hn⟩
  .obtain⟨J,Z,r3,r4,r5,r6⟩:=sD hk;refine⟨[],.own (nm i),by simpa using r3,Z,λo=>rfl,λH HR t r R q z=> ?_⟩;obtain⟨M,A,hc⟩:=z;cases hc;cases A;obtain⟨P,G,O,n3⟩:=R.nil i (t.ren _ _ J);exact⟨.os (nm i) O 0 0,.os0 none _ O P (aqD G),.own n3⟩
  .rename_i l lo n;split at hk
   .rename_i f0 c D hri X;cases hk;have a2:=(List.getElem?_eq_some_iff.1 hri).1;refine⟨[],.own (nm i),rfl,⟨λj w hj=> ?_,by simp,λ_ h=>h,λx L=>mem_append_right _ L,λj w hj=> ?_⟩,λo=>rfl,λ{T w U e E K S v} H HR t r R q z=> ?_⟩
    .grind
    .grind [j6]
    .obtain⟨M,A,hc⟩:=z;cases hc with | os V=>
     rename_i O lo n mm;have J:=t.ren i (some l) (by simp [a2]);have N:=t.tr i (some l) (by simp [a2]);obtain⟨P,G⟩:=R.name i l J;have hn:=R.names i l O mm J V;rw [N]at hn;have b2:(lo:Int)+(n:Int)<=(D:List c.den).length:=by
      have:=r (bI .leq ((lo:Int)+(n:Int)) ((D:List c.den).length:Int)) (t.ck _ (by simp));simpa [bI]using this
     have a4:=V;rw [dI X]at a4;cases a4;have a7:trK e h i l=lo*c.size:=by unfold trK;rw [N,dI X];simp [j6]
     rw [a7]at G;simp [j6]at hn;have a9:S (nm i)=some (c.size,n):=hn.trans (by show some (c.size,min ((lo:Int)+(n:Int)).toNat (List.length D)-lo)=some (c.size,n);congr 2;omega);exact⟨_,bQ.aq1 A P G,.own a9⟩
   .cases hk
  .cases hk
 | pb i O j=>
  simp only [extC]at hk;split at hk
  .rename_i l sz' j';split at hk
   .rename_i hcond;obtain⟨rfl,rfl,I⟩:=hcond;obtain⟨J,Z,r3,r4,r5,r6⟩:=sD hk;refine⟨[],.pb (nm i) O j,by simpa using r3,Z,λo=>rfl,λH HR t r R q z=> ?_⟩;obtain⟨M,A,hc⟩:=z;cases hc;obtain⟨P,G⟩:=R.name i l (t.ren _ _ J);have N:j6 (std m) s' i=none:=EG (by simpa using I) r4;rw [pK ((t.tr i _ J).trans N),lH]at G;exact⟨_,bQ.ab6 A P G,.pb⟩
   .cases hk
  .cases hk
 | pr i j=>
  simp only [extC]at hk;split at hk
  .rename_i l x j';split at hk
   .rename_i hcond;obtain⟨rfl,I⟩:=hcond;split at hk
    .rename_i s1 hs1;cases hk;obtain⟨J,Z,r3,r4,r5,r6⟩:=sD hs1;refine⟨[.i x],.pr (nm i) x j,by simp [ES.push,r3],Z.trans (.push _ _),λo=>rfl,λH HR t r R q z=> ?_⟩;obtain⟨M,A,hc⟩:=z;cases hc with | pr V=>
     rename_i O i0 mm;have a5:=t.ren i (some l) J;obtain⟨P,G⟩:=R.name i l a5;have N:j6 (std m) s1 i=none:=EG (by simpa using I) r4;rw [pK ((t.tr i _ J).trans N),lH]at G;exact⟨_,bQ.ab6 A P G,.pr (R.names i l O mm a5 V)⟩
    .cases hk
   .cases hk
  .cases hk
 | rp f c j=>
  simp only [extC]at hk;split at hk
  .rename_i g c' D x j';split at hk
   .rename_i hcond;cases hk;obtain⟨rfl,rfl,Q⟩:=hcond;refine⟨[.l c D,.i x],.rp f c D x j,rfl,(ELe.push _ _).trans (.push _ _),λo=>rfl,λ{T w U e E K S v} H HR t r R q z=> ?_⟩;obtain⟨M,A,hc⟩:=z;cases hc with | rp W Y=>
    rename_i f' i0;have wM:f=true\/E=false:=by
     cases E with
     | false=>exact .inr rfl
     | true=>exact .inl (q rfl)
    have F:∀b,T.K f' b->K.K f b:=λb B=>by
     cases f with
     | true=>have:=W (by simpa using Q);rw [this]at B;exact R.kt b B
     | false=>
      refine R.kf (wM.resolve_left (by simp)) b ?_;cases f' with
      | true=>exact R.sub b B
      | false=>exact B
    cases A with | rp _ b a0 _ _ _ _ u B h1 h2 h3 h4=>
    exact⟨.rp f c.size (aO c D) i0 j,.rp f b a0 _ _ _ _ u (F b B) h1 h2 (λi j Y hj=>(h3 i j Y hj).mono' F) h4,.rp (λh=>h) Y⟩
   .cases hk
  .cases hk
 | gp g c=>
  simp only [extC]at hk;split at hk
  .rename_i g' c';split at hk
   .rename_i hcond;cases hk;obtain⟨rfl,rfl⟩:=hcond;refine⟨[],.gp g c,rfl,.refl _,λo=>rfl,λ{T w U e E K S v} H HR t r R q z=> ?_⟩;obtain⟨M,A,hc⟩:=z;cases hc;have wM:E=false:=by grind [SkC.fresh]
    cases A with | rp _ b a0 _ _ _ _ u B h1 h2 h3 h4=>
    exact⟨_,.rp false b a0 _ _ _ _ u (R.kf wM b B) h1 h2 (λi j Y hj=>(h3 i j Y hj).mono' (R.kf wM)) h4,.gp⟩
   .cases hk
  .cases hk
 | fn g C=>
  simp only [extC]at hk;split at hk
  .rename_i g' qK;split at hk
   .rename_i hcond;obtain⟨rfl,a3,I⟩:=hcond;obtain⟨q1,q2,q3,q4⟩:=OX hk;refine⟨[],.fn g (C.map λp=>(nm p.1,p.2)),by simpa using q3,q2,λo=>rfl,λ{T w U e E K S v} H HR t r R q z=> ?_⟩;obtain⟨M,A,hc⟩:=z;cases hc;cases A with | fn _ vs _ X a8=>
    have b1:C.length=qK.length:=by have:=congrArg List.length a3;simpa using this
    refine⟨.fn g ((C.map λp=>(nm p.1,p.2)).map λp=> .ptr p.1 p.2 0 0),.fn g vs _ (by simp_all) (λi Y=> ?_),.fn⟩;simp at Y;have a1:i<qK.length:=by omega
    have h1:=a8 i (by simp;exact a1);have hz:(C.zip qK)[i]? =some (C[i],qK[i]):=by simp_all
    have h2:=q1 _ (mem_of_getElem? hz);obtain⟨P,G⟩:=R.name _ _ (t.ren _ _ h2);have N:j6 (std m) s' C[i].1=none:=EG (by simpa using all_eq_true.1 I C[i] (getElem_mem _)) q4;rw [pK ((t.tr _ _ h2).trans N),lH]at G;exact ab7 Y a1 (by have:=congrArg (λl=>l[i]?) a3;grind) h1 P G
   .cases hk
  .cases hk
 | np=>
  simp only [extC]at hk;split at hk
  .cases hk;refine⟨[],.np,rfl,.refl _,λo=>rfl,λH HR t r R q z=> ?_⟩;obtain⟨M,A,hc⟩:=z;cases hc;cases A;exact⟨.np,.np,.np⟩
  .cases hk
 | clip f c=>
  simp only [extC]at hk;split at hk
  .rename_i g c' D;split at hk
   .rename_i hcond;cases hk;obtain⟨rfl,Q⟩:=hcond;refine⟨[.l c D],.clip f c D,rfl,.push _ _,λo=>rfl,λ{T w U e E K S v} H HR t r R q z=> ?_⟩;obtain⟨M,A,hc⟩:=z;cases hc with | clip W=>
    rename_i f';have wM:f=true\/E=false:=by
     cases E with
     | false=>exact .inr rfl
     | true=>exact .inl (q rfl)
    have F:∀b,T.K f' b->K.K f b:=λb B=>by
     cases f with
     | true=>have:=W (by simpa using Q);rw [this]at B;exact R.kt b B
     | false=>
      refine R.kf (wM.resolve_left (by simp)) b ?_;cases f' with
      | true=>exact R.sub b B
      | false=>exact B
    cases A with | clip _ a n _ _ hd=>exact⟨.clip f c.size (aO c D),.clip f a n _ _ (hd.mono' F),.clip λh=>h⟩
   .cases hk
  .cases hk
end Go.TX
namespace Go.TX
open Go Go.AE List
variable{m:Nat}{h:List aN}{w:World}{f:Bool}{c:Ctx}{us:List Value}
def OY(nm:Nat->Nat):∀ {l:List SkC} {n:List SC} {s f:ES (std m)},F4 (std m) h l n s=some f->
  ∃new d,f.lv=new.reverse++s.lv/\ELe s f/\(∀a,LD aF nm l (new++a)=some (d,a))/\
   ∀ {c:Ctx} {w:World} {o:Heap} {e:ES (std m)} {p:Bool} {q:Ctx} {u:NM} {us:List Value},bL c w o->fT o h->ELe f e->(∀b∈e.ck,b=true)->Ren e h c nm p q u->(p=true->l.all SkC.fresh=true)->
    F2 (WC c w (nmh h)) us n->F2 (WC q w u) us d
 | [],[],s,f,hk=>by
  simp only [F4,Option.some.injEq]at hk;subst hk;exact⟨[],[],rfl,.refl _,λa=>rfl,λ_ _ _ _ _ _ h=>by cases h;exact .nil⟩
 | [],_::_,s,f,hk=>by simp [F4]at hk
 | _::_,[],s,f,hk=>by simp [F4]at hk
 | k::l,y::n,s,f,hk=>by
  simp only [F4]at hk;split at hk
  .rename_i s1 h1;obtain⟨g,y2,G,C,F,z⟩:=Zp nm h1;obtain⟨i,d,E,t,I,A⟩:=OY nm hk;refine⟨g++i,y2::d,by simp_all,C.trans t,λa=> ?_,λH HR r j R D v=> ?_⟩
   .grind [LD,append_assoc]
   .cases v with | cons B x=>
    exact .cons (z H HR (t.trans r) j R (λh=>by simp_all) B) (A H HR r j R (λh=>by simp_all) x)
  .cases hk
def KA{c i:Ctx}{N s:NM}{f g:Bool}(a:∀b,c.K true b->c.K false b)(hK:∀b,c.K f b->i.K f b):∀ {e:List (Leaf aF)} {us:List Value},(f=true->g=true\/∀y∈e,y.scalar=true)->
  F2 (WC c w N) us (e.map (.d g))->F2 (WC i w s) us (e.map (.d f))
 | [],us,_,h=>by cases h;exact .nil
 | y::e,us,hf,h=>by
  cases h with | cons r n=>
  refine .cons ?_ (KA a hK (λh=>(hf h).imp id λq y k=>q y (mem_cons_of_mem _ k)) n);obtain⟨x,m,hc⟩:=r;cases hc with | d p l=>
  rename_i o t;subst p;cases m with | d _ _ _ hd=>
  cases hs:y.scalar with
  | true=>exact oJ (hd.oG _ (by rw [jO];exact hs))
  | false=>
   refine oJ (hd.mono' λb j=>hK b ?_);cases f with
   | false=>cases o with
    | true=>exact a b j
    | false=>exact j
   | true=>simp_all
def Gh{b:Ctx}{e:NM}:∀ {a:List (Leaf aF)} {us:List Value},F2 (dM (b.K f) w) us (a.map pI)->F2 (WC b w e) us (a.map (.d f))
 | [],us,h=>by cases h;exact .nil
 | y::a,us,h=>by cases h with | cons d c=>exact .cons (oJ d) (Gh c)
def uN{n:Heap}(H:bL c w n)(HR:fT n h){j:Nat->Prop}(hK:∀b,c.K f b->j b):
  ∀ {e:List Sh} {i:List SC} {us:List Value} {g:Bool} {a:List (LV aF)} {d:List Nat},aM (std m) h e i=some (g,a,d)->F2 (WC c w (nmh h)) us i->(f=true->g=true)->(∀l∈d,∀b,c.μ l=some b->j b)->
   F2 (dM j w) us (zipWith lvD e a)
 | [],[],us,g,a,d,hk,hu,hf,hb=>by simp [aM]at hk;obtain⟨_,rfl,_⟩:=hk;cases hu;exact .nil
 | [],_::_,_,_,_,_,hk,_,_,_=>by simp [aM]at hk
 | _::_,[],_,_,_,_,hk,_,_,_=>by simp [aM]at hk
 | s::e,y::i,us,g,a,d,hk,hu,hf,hb=>by
  cases hu with | cons p o=>
  unfold aM at hk;split at hk
  .rename_i f1 v1 l1 hv1;split at hk
   .rename_i g2 vs2 ls2 hv2;split at hk<;>cases hk
    refine .cons (Zo H HR hv1 p (λh=> ?_) hK λl k=>hb l (mem_append_left _ k)) (uN H HR hK hv2 o (λh=> ?_) λl k=>hb l (mem_append_right _ k))
    all_goals simp_all
   .cases hk
  .cases hk
def OZ{c a:Ctx}{i:Heap}{o:NM}(H:bL c w i)(HR:fT i h)(hK:∀b,c.K f b->a.K f b){co:Co}{q:SVal}{g:Bool}{x:co.den}{j:List Nat}
  (hk:toX (std m) h co q=some (g,x,j))  (d:F2 (WC c w (nmh h)) us (cellsS q)) (n:f=true->g=true) (k:∀l∈j,∀b,c.μ l=some b->a.K f b):F2 (WC a w o) us (cellsS (.sv f co x)):=by
 unfold toX at hk;split at hk
 .rename_i f' c' x';split at hk
  .rename_i e;subst e;cases hk;refine KA H.sub hK (λh=> ?_) d
   grind [lG]
  .cases hk
 .cases hk
 .split at hk
  .rename_i f1 ys ls1 h1;split at hk
   .rename_i t ht;cases hk;rw [dH]at h1;have:=uN H HR hK h1 d n k;rw [Ba co t ht,<-nA 0 co]at this;exact Gh this
   .cases hk
  .cases hk
def qN:SVal->Bool | .tup _=>true | _=>false
theorem Zq(nm:Nat->Nat){k:SkV}{q:SVal}{s B:ES (std m)}(hk:Js (std m) h k q s=some B):
  qN q=false/\∃new r,B.lv=new.reverse++s.lv/\ELe s B/\(∀a,AY aF nm k (new++a)=some (r,a))/\qN r=false/\bJ (std 0) r=bJ (std 0) q/\
   ∀ {c:Ctx} {w:World} {F:Heap} {e:ES (std m)} {C:Bool} {t:Ctx} {D:NM} {us:List Value},bL c w F->fT F h->ELe B e->(∀b∈e.ck,b=true)->Ren e h c nm C t D->(C=true->k.fresh=true)->
    F2 (WC c w (nmh h)) us (cellsS q)->F2 (WC t w D) us (cellsS r):=by
 cases k with
 | c k=>
  simp only [Js]at hk;split at hk
  .rename_i x;obtain⟨new,y2,J,L,Q,G⟩:=Zp nm hk;refine⟨rfl,new,.c y2,J,L,λa=>by grind [AY],rfl,rfl,λH HR z j R i o=> ?_⟩;cases o with | cons u P=>cases P;exact .cons (G H HR z j R i u) .nil
  .cases hk
 | agg U=>
  simp only [Js]at hk;split at hk
  .rename_i hst;rw [dH]at hk;obtain⟨new,y2,J,L,Q,G⟩:=OY nm hk;refine⟨by cases q<;>simp_all [bJ,qN],new,.agg y2,J,L,λa=>by grind [AY],rfl,by rw [DV m]at hst;rw [hst];rfl,λH HR z j R i o=>G H HR z j R i o⟩
  .cases hk
 | sv f co=>
  simp only [Js]at hk;split at hk
  .rename_i hst;split at hk
   .rename_i g x ls p;split at hk
    .rename_i hfg;cases hk;refine⟨by cases q<;>simp_all [bJ,qN],[.x co x],.sv f co x,rfl,⟨λ_ _ h=>h,rfl,λx p=>mem_append_right _ p,λx p=>p,λ_ _ _=>rfl⟩,λa=>rfl,rfl,by rw [DV m]at hst;rw [hst];rfl,λ{c w F e C t D us} H HR z j R i o=> ?_⟩;by_cases ab8:co.flat=true
     ·
      have u:F2 (WC {t with K:=λg b=>t.K g b\/c.K g b\/∃l∈ls,c.μ l=some b} w D) us (cellsS (.sv f co x)):=OZ H HR (λb n=>Or.inr (Or.inl n)) p o (λh=>by simp_all) (λl M b n=>Or.inr (Or.inr ⟨l,M,n⟩));have v:=lG co ab8 x;have A:cellsS (.sv f co x)=(gq (std 0) co x 0 co.fields).map (.d f):=rfl;rw [A]at u ⊢
      clear o p A i hfg
      generalize gq (std 0) co x 0 co.fields=lv at u v
      induction lv generalizing us with
      | nil=>cases u;exact .nil
      | cons y lv S=>
       cases u with | cons T r=>
       refine .cons ?_ (S r λy N=>v y (mem_cons_of_mem _ N));obtain⟨V,O,hc⟩:=T;cases hc with | d I _=>
       subst I;cases O with | d _ _ _ hd=>exact oJ (hd.oG _ (by grind [jO]))
     .have wM:f=true\/C=false:=by grind [SkV.fresh]
      have E:∀b,c.K f b->t.K f b:=λb n=>by
       cases f with
       | true=>exact R.kt b n
       | false=>exact R.kf (wM.resolve_left (by simp)) b n
      exact OZ H HR E p o (λh=>by simp_all) (λl M b n=>R.fro l f (z.fro _ (mem_append_left _ (mem_map.2 ⟨l,M,rfl⟩))) wM b n)
    .cases hk
   .cases hk
  .cases hk
def WV(c:Ctx)(w:World)(N:NM)(u:Value)(q:SVal):Prop:=∃p,bK c w u p/\PVR N p q
def F2.wc{N:NM}{cs:List Cell}{e:List SC}(g:F2 (bQ c w) us cs)(d:F2 (RC N) cs e):F2 (WC c w N) us e:=by
 induction g generalizing e with
 | nil=>cases d;exact .nil
 | cons a _ f=>cases d with | cons b d=>exact .cons ⟨_,a,b⟩ (f d)
def F2.aq2{N:NM}{d:List SC}(h:F2 (WC c w N) us d):∃cs,F2 (bQ c w) us cs/\F2 (RC N) cs d:=by
 induction h with
 | nil=>exact⟨[],.nil,.nil⟩
 | cons i _ e=>
  obtain⟨x,a,b⟩:=i;obtain⟨cs,g,f⟩:=e;exact⟨x::cs,.cons a g,.cons b f⟩
def WV.conv{c j:Ctx}{N k:NM}{u:Value}{q e:SVal}(h:WV c w N u q)(l:qN q=false)(g:qN e=false)(i:bJ (std 0) e=bJ (std 0) q)
  (hc:∀us,F2 (WC c w N) us (cellsS q)->F2 (WC j w k) us (cellsS e)):WV j w k u e:=by
 obtain⟨p,d,f⟩:=h;cases f with
 | tup _=>simp [qN]at l
 | one f=>
  cases f with
  | c o=>
   cases d with | c _ _ d=>
   have:=hc [u] (.cons ⟨_,d,o⟩ .nil);cases e with
   | c y=>cases this with | cons r _=>obtain⟨x,a,b⟩:=r;exact⟨.c x,.c _ _ a,.ofC b⟩
   | agg _=>simp [bJ]at i
   | sv _ _ _=>simp [bJ]at i
   | tup _=>simp [qN]at g
  | agg m n=>
   cases d with | agg us _ d=>
   obtain⟨cs,a,b⟩:=F2.aq2 (hc us (F2.wc d n));exact⟨.agg cs,.agg _ _ a,.one (.agg (by simp_all) b)⟩
def wN(nm:Nat->Nat):∀ {ks:List SkV} {u:List SVal} {s d:ES (std m)},qL (std m) h ks u s=some d->
  ∃new j,d.lv=new.reverse++s.lv/\ELe s d/\(∀a,tC aF nm ks (new++a)=some (j,a))/\
   ∀ {c:Ctx} {w:World} {o:Heap} {e:ES (std m)} {p:Bool} {q:Ctx} {v:NM} {us:List Value},bL c w o->fT o h->ELe d e->(∀b∈e.ck,b=true)->Ren e h c nm p q v->(p=true->ks.all SkV.fresh=true)->
    F2 (WV c w (nmh h)) us u->F2 (WV q w v) us j
 | [],[],s,d,hk=>by
  simp only [qL,Option.some.injEq]at hk;subst hk;exact⟨[],[],rfl,.refl _,λa=>rfl,λ_ _ _ _ _ _ h=>by cases h;exact .nil⟩
 | [],_::_,s,d,hk=>by simp [qL]at hk
 | _::_,[],s,d,hk=>by simp [qL]at hk
 | k::ks,y::ys,s,d,hk=>by
  simp only [qL]at hk;split at hk
  .rename_i s1 h1;obtain⟨z,f,y2,K,F,J,D,st2,B⟩:=Zq nm h1;obtain⟨g,n,I,t,L,C⟩:=wN nm hk;refine⟨f++g,y2::n,by simp_all,F.trans t,λa=> ?_,λH HR r i R G x=> ?_⟩
   .grind [tC,append_assoc]
   .cases x with | cons E A=>
    refine .cons (E.conv z D st2 λus l=>B H HR (t.trans r) i R (λh=> ?_) l) (C H HR r i R (λh=> ?_) A)
    all_goals simp_all
  .cases hk
end Go.TX
namespace Go.TX
open Go Go.AE List
variable{K:Nat->Prop}{w:World}{cells:Array Value}{a:List (List D)}{h:List aN}
structure OF{m:Nat}(e:ES (std m))(h:List aN)(nm:Nat->Nat)(i:Nat)(k:SkO)(old o2:aN):Prop where
 s1:∀(l sz n:Nat),k≠ .gone->e.ren[i]? =some (some (some l))->nmh h l=some (sz,n)->nmh [o2] 0=some (sz,match j6 (std m) e i with | some p=>min ((p.1:Int)+(p.2:Int)).toNat n- (p.1:Int).toNat | none=>n)
 s2:k≠ .gone->e.ren[i]? =some (some none)->∃sz,nmh [o2] 0=some (sz,0)
 gone:k= .gone->o2=old
 live:k≠ .gone->∃v,e.ren[i]? =some (some v)
 ng:k≠ .gone->¬Gone [o2] 0
 rel:∀ {c:Ctx} {w:World} {h':Heap} {fr:Bool} {c2:Ctx} {N2:NM},bL c w h'->fT h' h->(∀b∈e.ck,b=true)->Ren e h c nm fr c2 N2->(fr=true->k.fresh=true)->
  ∃o2',OR N2 o2' o2/\jM c2 w (nm i) o2'/\(k= .gone->o2'= .gone)/\(∀l,k≠ .gone->e.ren[i]? =some (some (some l))->∃o',AE.look h' l=some o'/\o'.live)
def bT.pre{b n:Nat}(h:bT K w cells b a):bT K w cells b (a.take n):=λi c=>by
 simp at c;have e:(a.take n).getD i []=a.getD i []:=by grind
 refine⟨by rw [e];exact(h i ah).1,λj d=> ?_⟩;obtain⟨v,f,hd⟩:=(h i ah).2 j d
 grind [gd]
def bT.aq3{o b k:Nat}(h:bT K w (from_ cells o) b a):bT K w (from_ cells (o+k*b)) b (a.drop k):=λi c=>by
 rw [length_drop]at c;have e:(a.drop k).getD i []=a.getD (k+i) []:=by grind
 refine⟨by rw [e];exact(h (k+i) ah).1,λj d=> ?_⟩;obtain⟨v,f,hd⟩:=(h (k+i) ah).2 j d;refine⟨v,by simpa only [Av,Nat.add_mul,Nat.add_assoc]using f,?_⟩;unfold gd;rw [e];exact hd
theorem ab9{c:Co}(a:c.flat=true)(x:c.den):∀d∈c.row x,d.oG=true:=by
 intro d hd;rw [<-nA 0]at hd
 grind [jO,lG]
def bT.flat{K f:Nat->Prop}{c:Co}(g:c.flat=true){b:List c.den}(h:bT K w cells c.size (aO c b)):bT f w cells c.size (aO c b):=λi a=>by
 refine⟨(h i a).1,λj d=> ?_⟩;obtain⟨v,e,hd⟩:=(h i a).2 j d;refine⟨v,e,hd.oG _ ?_⟩
 grind [aO,gd,getD,tH,default,ab9,getElem_mem]
def Zr{m:Nat}(nm:Nat->Nat){i:Nat}{k:SkO}{s D:ES (std m)}(hk:Q9 (std m) h i k s=some D)(z:aN)(G:Gone [z] 0):
  ∃new W,D.lv=new.reverse++s.lv/\ELe s D/\(∀j,abP aF nm z k (new++j)=some (W,j))/\∀e,ELe D e->OF e h nm i k z W:=by
 cases k with
 | gone=>
  have:D=s:=by simp_all [Q9]
  subst this;obtain⟨c,n,ho⟩:=G;simp at ho;subst ho;exact⟨[],_,rfl,.refl _,λj=>rfl,λe y=>⟨λ_ _ _ h=>absurd rfl h,λh=>absurd rfl h,λ_=>rfl,λh=>absurd rfl h,λh=>absurd rfl h,λ_ _ _ _ _=>⟨.gone,.gone,trivial,λ_=>rfl,λ_ h=>absurd rfl h⟩⟩⟩
 | box k=>
  rcases hr:s.ren[i]? with _ | _ | _ | l<;>simp only [Q9,hr,reduceCtorEq]at hk
  ·
   split at hk
   .rename_i v hl;obtain⟨ht,new,q2,a1,a2,a3,t2,st2,a4⟩:=Zq nm hk;refine⟨new,.box q2,a1,a2,λj=>by grind [abP],λe y=> ?_⟩;have a:=y.ren i _ (a2.ren i _ hr);refine⟨λF sz n _ t h2=> ?_,λ_ t=> ?_,λh=>(by cases h),λ_=>⟨_,a⟩,λ_ ⟨c,n,N⟩=>by simp at N,λ{c w X P Z N2} H HR B R C=> ?_⟩
    .grind [nmh]
    .simp_all
    .obtain⟨o',ho',hO⟩:=HR.old l _ hl;cases hO with | box hF=>
     obtain⟨b,vs,E,hm,x,T⟩:=(H.obj l _ ho').2;obtain⟨S,q1,U⟩:=F2.aq2 (a4 H HR y B R (λh=>C h) (F2.wc T hF));obtain⟨n1,A⟩:=R.name i l a;have k0:trK e h i l=0:=by unfold trK;simp [nmh,hl]
     rw [k0,lH]at A;exact⟨.box S,.box U,⟨b,vs,E,A.trans hm,x,q1⟩,λh=>(by cases h),λF _ t=>by rw [a]at t;cases t;exact⟨_,ho',trivial⟩⟩
   .cases hk
 | rows f c=>
  rcases hr:s.ren[i]? with _ | _ | _ | l<;>simp only [Q9,hr,reduceCtorEq]at hk
  .cases hk;refine⟨[.l c []],.rows f c [],rfl,.push _ _,λj=>rfl,λe y=> ?_⟩;have a:=y.ren i _ (by exact hr);refine⟨λF sz n _ t h2=> ?_,λ_ t=>⟨c.size,by simp [nmh]⟩,λh=>(by cases h),λ_=>⟨_,a⟩,λ_ ⟨c,n,N⟩=>by simp at N,λ{c0 w X P Z N2} H HR B R C=> ?_⟩
   .simp_all
   .obtain⟨n1,A,_⟩:=R.nil i a;refine⟨.rows f c.size (aO c []),.rows λh=>h,?_,λh=>(by cases h),λF _ t=>by simp_all⟩;simp only [jM];rw [A];rfl
  ·
   split at hk
   .rename_i g c' u hl;split at hk
    .rename_i hcond;obtain⟨rfl,M⟩:=hcond;obtain⟨d,a0,a5,K⟩:∃d:List c.den,(match j6 (std m) s i with | some p=>(std m).sub c u p.1 ((std m).addN p.1 p.2) | none=>u)=d/\d.length=(match j6 (std m) s i with | some p=>min ((p.1:Int)+(p.2:Int)).toNat (u:List c.den).length- (p.1:Int).toNat | none=>(u:List c.den).length)/\∃q,d=((u:List c.den).take q).drop (match j6 (std m) s i with | some p=>(p.1:Int).toNat | none=>0):=by
      cases j6 (std m) s i with
      | none=>exact⟨u,rfl,rfl,(u:List c.den).length,by simp⟩
      | some p=>exact⟨((u:List c.den).take ((p.1:Int)+(p.2:Int)).toNat).drop (p.1:Int).toNat,rfl,by simp,_,rfl⟩
     have V:D=s.push (std m) (.l c d):=by grind
     subst V;refine⟨[.l c d],.rows f c d,rfl,.push _ _,λj=>rfl,λe y=> ?_⟩;have a:=y.ren i _ (by exact hr);have O:j6 (std m) e i=j6 (std m) s i:=y.tr i _ hr;refine⟨λF sz n _ t h2=> ?_,λ_ t=> ?_,λh=>(by cases h),λ_=>⟨_,a⟩,λ_ ⟨c,n,N⟩=>by simp at N,λ{c0 w X P Z N2} H HR B R C=> ?_⟩
     .grind [dI,nmh,getElem?_cons_zero]
     .simp_all
     .obtain⟨o',ho',hO⟩:=HR.old l _ hl;cases hO with | rows Q=>
      rename_i g';have r:=(H.obj l _ ho').2;obtain⟨n1,A⟩:=R.name i l a;refine⟨.rows f c.size (aO c d),.rows λh=>h,?_,λh=>(by cases h),λF _ t=>by rw [a]at t;cases t;exact⟨_,ho',trivial⟩⟩;obtain⟨q,hq⟩:=K;have J:trK e h i l=(match j6 (std m) s i with | some p=>(p.1:Int).toNat | none=>0)*c.size:=by
       unfold trK;rw [O,dI hl];cases j6 (std m) s i<;>simp
      generalize (match j6 (std m) s i with | some p=>(p.1:Int).toNat | none=>0)=Y at hq J;have L:aO c d=((aO c u).take q).drop Y:=by rw [hq];simp [aO,map_take]
      rw [J]at A;simp only [jM]at r ⊢;rw [A];cases hm:c0.ν l with
      | none=>rw [hm]at r;have r:aO c u=[]:=r;show aO c d=[];rw [L,r];simp
      | some p=>
       rw [hm]at r;obtain⟨cells,E,x,I⟩:=r;refine⟨cells,E,x,?_⟩;have o:=bT.aq3 (k:=Y) (bT.pre (n:=q) I);rw [<-L]at o;by_cases ab8:c.flat=true
       .exact bT.flat ab8 o
       .have M:f=true->g=true:=λh=>by simp_all
        refine o.mono (λb x=> ?_) λ_ _=>rfl
        cases f with
        | true=>have:=Q (M rfl);rw [this]at x;exact R.kt b x
        | false=>
         have wM:P=false:=by grind [SkO.fresh]
         refine R.kf wM b ?_;cases g' with
         | true=>exact R.sub b x
         | false=>exact x
    .cases hk
   .cases hk
def sF{m:Nat}(nm:Nat->Nat)(old:Nat->aN)(c:∀j,Gone [old j] 0):∀ {ks:List SkO} {i:Nat} {s d:ES (std m)},AX (std m) h i ks s=some d->
  ∃new b,d.lv=new.reverse++s.lv/\ELe s d/\(∀a,wF aF nm old i ks (new++a)=some (b,a))/\b.length=ks.length/\
   ∀e,ELe d e->∀(j:Nat) (k:SkO),ks[j]? =some k->∃f,b[j]? =some f/\OF e h nm (i+j) k (old (i+j)) f
 | [],i,s,d,hk=>by
  simp only [AX,Option.some.injEq]at hk;subst hk;exact⟨[],[],rfl,.refl _,λa=>rfl,rfl,λe o j k n=>by simp at n⟩
 | k::ks,i,s,d,hk=>by
  simp only [AX]at hk;split at hk
  .rename_i s1 h1;obtain⟨g,f,z,t,y,q⟩:=Zr nm h1 (old i) (c i);obtain⟨l,b,v,p,x,r,w⟩:=sF nm old c hk;refine⟨g++l,f::b,by simp_all,t.trans p,λa=> ?_,by simp [r],λe o j u n=> ?_⟩
   .grind [wF,append_assoc]
   .cases j with
    | zero=>simp at n;subst n;exact⟨f,rfl,q e (p.trans o)⟩
    | succ j=>grind
  .cases hk
end Go.TX
namespace Go.TX
open Go Go.AE List
variable{m:Nat}{nm:Nat->Nat}{f:Nat->fK}
def Bc:∀ {r:List (Option (Option Nat))},distinct (bM r)=true->∀ {i j l:Nat},r[i]? =some (some (some l))->r[j]? =some (some (some l))->i=j
 | [],_,i,j,l,h,_=>by simp at h
 | x::r,hd,i,j,l,hi,hj=>by
  have mem:∀ {r:List (Option (Option Nat))} {i l:Nat},r[i]? =some (some (some l))->l∈bM r:=by
   intro r
   induction r with
   | nil=>simp_all
   | cons x r b=>
    intro i l h;cases i with
    | zero=>grind [bM]
    | succ i=>
     have:=b (by simpa using h)
     match x with
     | some (some y)=>simp [bM,this]
     | some none=>simpa [bM]using this
     | none=>simpa [bM]using this
  have a:distinct (bM r)=true:=by
   match x with
   | some (some y)=>grind [bM,distinct]
   | some none=>simpa [bM]using hd
   | none=>simpa [bM]using hd
  cases i with
  | zero=>grind [bM,distinct,absurd]
  | succ i=>
   cases j with
   | zero=>grind [bM,distinct,absurd]
   | succ j=>
    have:=Bc a (i:=i) (j:=j) (l:=l) (by simpa using hi) (by simpa using hj);omega
theorem sG:∀ {r:List (Option (Option Nat))} {i l:Nat},r[i]? =some (some (some l))->l∈bM r
 | [],i,l,h=>by simp at h
 | x::r,i,l,h=>by
  cases i with
  | zero=>grind [bM]
  | succ i=>
   have:=sG (r:=r) (i:=i) (l:=l) (by simpa using h)
   match x with
   | some (some y)=>simp [bM,this]
   | some none=>simpa [bM]using this
   | none=>simpa [bM]using this
def yx:∀ {r:List (Option (Option Nat))} {l:Nat},l∈bM r->∃i:Nat,r[i]? =some (some (some l))
 | [],l,h=>by simp [bM]at h
 | x::r,l,h=>by
  have b:l∈bM r->∃i:Nat,(x::r)[i]? =some (some (some l)):=λh=>let⟨i,a⟩:=yx h;⟨i+1,by simpa using a⟩
  match x with
  | some (some y)=>
   simp only [bM,mem_cons]at h;rcases h with rfl | h
   .exact⟨0,rfl⟩
   .exact b h
  | some none=>grind [bM]
  | none=>grind [bM]
def DX:∀ {a:List SkO} {r:List (Option (Option Nat))},rY a r=true->∀ {i:Nat} {v:Option Nat},r[i]? =some (some v)->a[i]? ≠some .gone
 | [],_,_,i,v,_=>by simp
 | o::a,[],_,i,v,h=>by simp at h
 | o::a,x::r,hg,i,v,h=>by
  have b:rY a r=true:=by
   cases o<;>cases x<;>simp_all [rY]
  cases i with
  | zero=>grind [rY]
  | succ i=>simpa using DX b (i:=i) (v:=v) (by simpa using h)
structure aq4{m:Nat}(h:List aN)(e:ES (std m))(os:List SkO):Prop where
 dist:∀ {i j l:Nat},e.ren[i]? =some (some (some l))->e.ren[j]? =some (some (some l))->i=j
 fro:∀l f,(l,f)∈e.fro->(∀i:Nat,e.ren[i]? ≠some (some (some l)))/\∃g c xs,h[l]? =some (.rows g c xs)
 gone:∀ {i:Nat} {v:Option Nat},e.ren[i]? =some (some v)->os[i]? ≠some .gone
def LQ{h:List aN}{e:ES (std m)}{os:List SkO}(a:ES.fine (std m) h e os=true):aq4 h e os:=by
 unfold ES.fine at a;simp only [Bool.and_eq_true]at a;obtain⟨⟨c,b⟩,d⟩:=a;refine⟨Bc c,λl f g=> ?_,DX d⟩;have:=all_eq_true.1 b _ g;simp only [Bool.and_eq_true,Bool.not_eq_true']at this;refine⟨λi j=> ?_,?_⟩
 .grind [sG]
 .have h4:=this.2;unfold abN at h4;split at h4
  all_goals simp_all
def KX(e:ES (std m))(a:Ctx)(c:Bool)(f:Bool)(b:Nat):Prop:=a.K (f || c) b\/∃l g,(l,g)∈e.fro/\a.μ l=some b/\((f || c)=true->g=true)
def uO(nm:Nat->Nat)(f:Nat->fK):List Nat->Heap->Heap
 | [],h=>h
 | i::r,h=>(nm i,f i)::uO nm f r h
def O5{l:Nat}:∀ {a:List Nat} {h:Heap},(∀i∈a,nm i≠l)->AE.look (uO nm f a h) l=AE.look h l
 | [],_,_=>rfl
 | i::r,h,hn=>by simp only [uO];rw [aC _ _ (hn i (by simp))];exact O5 λj b=>hn j (mem_cons_of_mem _ b)
def O6(P:Nat->Prop)(b:∀i j,P i->P j->nm i=nm j->i=j):∀ {c:List Nat} {h:Heap},(∀i∈c,P i)->∀i∈c,AE.look (uO nm f c h) (nm i)=some (f i)
 | [],_,_,i,a=>by simp at a
 | j::r,h,hp,i,a=>by
  simp only [uO];by_cases e:nm j=nm i
  .grind [aK]
  .rw [aC _ _ e];cases a with
   | head=>exact absurd rfl e
   | tail _ a=>exact O6 P b (λj d=>hp j (mem_cons_of_mem _ d)) i a
set_option maxHeartbeats 2000000 in
def zW{w:World}{B:Ctx}{C:Heap}{X:List aN}(Q:bL B w C)(S:fT C X){e:ES (std m)}(b2:∀b∈e.ck,b=true){ks:List SkO}(jX:aq4 X e ks)(b6:e.ren.length=ks.length)
   {old:Nat->aN} {G:List aN} (b4:G.length=ks.length) (V:∀(j:Nat) (k:SkO),ks[j]? =some k->∃u,G[j]? =some u/\OF e X nm j k (old j) u)
  {cb:Ctx} {hb':Heap} (W:bL cb w hb') (H:Bool) (N:H=true->ks.all SkO.fresh=true)
  {ν2:Nat->Option (Nat×Nat)} {n2:Nat} (a6:cb.n<=n2) (hν:∀l,l<cb.n->ν2 l=cb.ν l) (a9:∀i,i<ks.length->nm i<n2) (a3:∀i j,i<ks.length->j<ks.length->nm i=nm j->i=j)
  (E:∀(i l:Nat),e.ren[i]? =some (some (some l))->ν2 (nm i)=Gg (trK e X i l) (B.ν l)) (a0:∀(i:Nat),e.ren[i]? =some (some none)->ν2 (nm i)=none)
  {h2:List aN} (P:∀i,i<ks.length->h2[nm i]? =G[i]?) (b3:∀l o,(∀i,i<ks.length->nm i≠l)->h2[l]? =some o->∃A,AE.look hb' l=some A/\OR (nmh h2) A o) (b0:∀l,h2.length<=l->AE.look hb' l=none)
  (a5:∀b,fP cb hb' b->fP B C b->False) (auj:∀f b,cb.K f b->fP B C b->False) (alq:∀f b,fP cb hb' b->KX e B H f b->False):
  ∃(A:Nat->fK),let c2:Ctx:={K:=λf b=>cb.K f b\/KX e B H f b,ν:=ν2,n:=n2};let M:Heap:=uO nm A (range ks.length) hb'
   bL c2 w M/\fT M h2/\Ren e X B nm H c2 (nmh h2)/\(∀b,fP c2 M b->fP cb hb' b\/∃(i y:Nat) (q:fK),e.ren[i]? =some (some (some y))/\AE.look C y=some q/\q.live/\B.μ y=some b)/\CLe cb c2/\(∀l,(∀i,i<ks.length->nm i≠l)->AE.look M l=AE.look hb' l):=by
 have hμ:∀l,l<cb.n->(ν2 l).map (·.1)=cb.μ l:=λl d=>by rw [hν l d];rfl
 have avE:∀(i l:Nat),e.ren[i]? =some (some (some l))->(ν2 (nm i)).map (·.1)=B.μ l:=λi l a=>by rw [E i l a,Zm];rfl
 have avw:∀(i:Nat),e.ren[i]? =some (some none)->(ν2 (nm i)).map (·.1)=none:=λi a=>by rw [a0 i a];rfl
 have auk:∀(i:Nat) (u:aN),i<ks.length->G[i]? =some u->nmh h2 (nm i)=nmh [u] 0:=λi u a ho=>by grind [nmh,getElem?_cons_zero]
 have T:∀(i:Nat) (v:Option (Option Nat)),e.ren[i]? =some v->i<ks.length:=λi v h=>by grind
 have F:∀i,i<ks.length->∃k,ks[i]? =some k:=λi a=>⟨ks[i],getElem?_eq_getElem a⟩
 have R:Ren e X B nm H {K:=λf b=>cb.K f b\/KX e B H f b,ν:=ν2,n:=n2} (nmh h2):={
  kt:=λb r=> .inr (.inl (by simpa using r))
  kf:=λhf b r=> .inr (.inl (by simp_all))
  sub:=Q.sub
  aq0:=λb r=>by
   rcases r with r | r | ⟨l,g,Y,h2,h3⟩
   .exact .inl (W.sub b r)
   .refine .inr (.inl ?_);cases H with
    | true=>simpa using r
    | false=>exact Q.sub b (by simpa using r)
   .exact .inr (.inr ⟨l,g,Y,h2,λ_=>h3 (by simp)⟩)
  fro:=λl f d hf b r=> .inr (.inr ⟨l,f,d,r,λh=>by grind⟩)
  name:=λi l a=>⟨a9 i (T i _ a),E i l a⟩
  names:=λi l sz n a d=>by
   have J:=T i _ a;obtain⟨k,hk⟩:=F i J;obtain⟨u,O,L⟩:=V i k hk;rw [auk i u J O];exact L.s1 l sz n (λe=>jX.gone a (by rw [hk,e])) a d
  nil:=λi a=>by
   have J:=T i _ a;obtain⟨k,hk⟩:=F i J;obtain⟨u,O,L⟩:=V i k hk;obtain⟨sz,hs⟩:=L.s2 (λe=>jX.gone a (by rw [hk,e])) a;simp_all}
 have b1:∀i,∃A,∀k,ks[i]? =some k->∃u,G[i]? =some u/\OR (nmh h2) A u/\jM {K:=λf b=>cb.K f b\/KX e B H f b,ν:=ν2,n:=n2} w (nm i) A/\
   (A.live->k≠ .gone/\∃v,e.ren[i]? =some (some v)/\∀l,v=some l->∃q,AE.look C l=some q/\q.live):=by
  intro i;cases hk:ks[i]? with
  | none=>simp_all
  | some k=>
   obtain⟨u,O,L⟩:=V i k hk;obtain⟨A,r1,r2,r3,r4⟩:=L.rel Q S b2 R (λh=>all_eq_true.1 (N h) k (mem_of_getElem? hk));refine⟨A,λk' h=> ?_⟩;cases h;refine⟨u,O,r1,r2,λd=> ?_⟩;have a7:k≠ .gone:=λe=>by rw [r3 e]at d;exact d
   obtain⟨v,hv⟩:=L.live a7
   grind
 obtain⟨A,alr⟩:=Classical.axiomOfChoice b1;refine⟨A,?_⟩;have O7:∀i,i<ks.length->AE.look (uO nm A (range ks.length) hb') (nm i)=some (A i):=λi a=>
  O6 (λi=>i<ks.length) a3 (λi a=>List.mem_range.1 a) i (List.mem_range.2 a)
 have wO:∀l,(∀i,i<ks.length->nm i≠l)->AE.look (uO nm A (range ks.length) hb') l=AE.look hb' l:=λl d=>O5 λi a=>d i (List.mem_range.1 a)
 have Z:CLe cb {K:=λf b=>cb.K f b\/KX e B H f b,ν:=ν2,n:=n2}:=⟨λf b h=> .inl h,a6,hν⟩;have b5:∀f b,KX e B H f b->b<w.heap.size:=by
  rintro f b (h | ⟨l,g,Y,h2,h3⟩)
  .exact Q.low _ b h
  .obtain⟨_,g',c,xs,d⟩:=jX.fro l g Y;obtain⟨q,p,hO⟩:=S.old l _ d;cases hO with | rows _=>
   exact(Q.obj l _ p).2.lt trivial h2
 have t:∀l o,AE.look (uO nm A (range ks.length) hb') l=some o->o.live->∀b,(ν2 l).map (·.1)=some b->
   (∃i q y,i<ks.length/\nm i=l/\e.ren[i]? =some (some (some y))/\AE.look C y=some q/\q.live/\B.μ y=some b)\/((∀i,i<ks.length->nm i≠l)/\AE.look hb' l=some o/\cb.μ l=some b):=by
  intro l o d x b r;by_cases I:∃i,i<ks.length/\nm i=l
  .obtain⟨i,a,rfl⟩:=I;rw [O7 i a]at d;cases d;obtain⟨k,hk⟩:=F i a;obtain⟨u,O,L,q3,q4⟩:=alr i k hk;obtain⟨a7,v,hv,p⟩:=q4 x;cases v with
   | none=>simp_all
   | some y=>grind
  .have hx':∀i,i<ks.length->nm i≠l:=λi a h=>I ⟨i,a,h⟩
   rw [wO l hx']at d;exact .inr ⟨hx',d,by rw [<-hμ l (W.obj l o d).1];exact r⟩
 refine⟨?_,?_,R,?_,Z,wO⟩
 .refine⟨λl o d=> ?_,λl o l' o1 b Y U h2 D a8 a4=> ?_,?_,?_,λb r=>R.aq0 b r⟩
  .by_cases I:∃i,i<ks.length/\nm i=l
   .grind
   .rw [wO l (λi a h=>I ⟨i,a,h⟩)]at d;obtain⟨a1,a2⟩:=W.obj l o d;exact⟨Nat.lt_of_lt_of_le a1 a6,a2.mono Z (λ_ _ _=>rfl) (.refl w) a1 (λ_ _ _=>rfl)⟩
  .rcases t l o Y U b a8 with⟨i,q,y,a,rfl,hr,p,z,hm⟩ | ⟨I,p,hm⟩
   .rcases t l' o1 h2 D b a4 with⟨j,q',lq',hj,rfl,hr',s,als,hm'⟩ | ⟨hx',s,hm'⟩
    .have:=Q.inj y q lq' q' b p z s als hm hm';subst this;rw [jX.dist hr hr']
    .exact(a5 b ⟨l',o1,s,D,hm'⟩ ⟨y,q,p,z,hm⟩).elim
   .rcases t l' o1 h2 D b a4 with⟨j,q',lq',hj,rfl,hr',s,als,hm'⟩ | ⟨hx',s,hm'⟩
    .exact(a5 b ⟨l,o,p,U,hm⟩ ⟨lq',q',s,als,hm'⟩).elim
    .exact W.inj l o l' o1 b p U s D hm hm'
  .rintro f b ⟨l,o,d,x,r⟩ hk;rcases t l o d x b r with⟨i,q,y,a,rfl,hr,p,z,hm⟩ | ⟨I,p,hm⟩
   .rcases hk with hk | hk | ⟨l2,g,k1,k2,k3⟩
    .exact auj f b hk ⟨y,q,p,z,hm⟩
    .exact Q.own _ b ⟨y,q,p,z,hm⟩ hk
    .obtain⟨hnn,g',c,xs,D⟩:=jX.fro l2 g k1;obtain⟨q',s,hO⟩:=S.old l2 _ D;cases hO with | rows _=>
     have:=Q.inj y q l2 _ b p z s trivial hm k2;simp_all
   .rcases hk with hk | hk
    .exact W.own f b ⟨l,o,p,x,hm⟩ hk
    .exact alq f b ⟨l,o,p,x,hm⟩ hk
  .rintro f b (hk | hk)
   .exact W.low f b hk
   grind
 .refine⟨λl o d=> ?_,λl d=> ?_⟩
  .by_cases I:∃i,i<ks.length/\nm i=l
   .obtain⟨i,a,rfl⟩:=I;obtain⟨k,hk⟩:=F i a;obtain⟨u,O,L,q3,q4⟩:=alr i k hk;rw [P i a,O]at d;cases d;exact⟨A i,O7 i a,L⟩
   .have hx':∀i,i<ks.length->nm i≠l:=λi a h=>I ⟨i,a,h⟩
    obtain⟨q,a1,a2⟩:=b3 l o hx' d;exact⟨q,by rw [wO l hx'];exact a1,a2⟩
  .have hx':∀i,i<ks.length->nm i≠l:=λi a h=>by
    obtain⟨k,hk⟩:=F i a;obtain⟨u,O,_⟩:=alr i k hk;have:=P i a;rw [O,h]at this;have:=(List.getElem?_eq_some_iff.1 this).1;omega
   rw [wO l hx'];exact b0 l d
 .rintro b ⟨l,o,d,x,r⟩;rcases t l o d x b r with⟨i,q,y,a,rfl,hr,p,z,hm⟩ | ⟨I,p,hm⟩
  .exact .inr ⟨i,y,q,hr,p,z,hm⟩
  .exact .inl ⟨l,o,p,x,hm⟩
end Go.TX
namespace Go.TX
open Go Go.AE List
variable{m:Nat}{h:List aN}{X:XT}{E:Tab}{t:Slots}{e:Nat->Option SVal}{C:Calls aF}
def dL{s:Sig}(i:Ct aF s):Trans:=λc f g K=>∃(m:Nat) (e:List SVal) (h:List aN),F2 (PVR (nmh h)) c e/\fT f h/\h.length=g/\
 ∃d,tF (std m) h s i e=some d/\(∀b∈d.ck,b=true)/\∃v k,d.k d.y=some (v,k)/\
  ∀r a j,PVR (nmh k) r v->fT a k->jf f h a k d.touched->k.length=nm g j->K r a j
def lZ(C:Calls aF):o9:=λf=>match C f with | []=>none | l=>some λa h n K=>∃b∈l,dL b.2 a h n K
def Mu(T:(PV->Heap->Nat->Prop)->Prop)(n:Nat)(c:Heap)(h:List aN)(b:CR (std m)):Prop:=
 ∃v k,b.k b.y=some (v,k)/\(b.pure=true->k=h/\b.touched=[])/\
  ∀K,(∀pv a j,PVR (nmh k) pv v->fT a k->jf c h a k b.touched->k.length=nm n j->K pv a j)->T K
def Rm(E:Tab)(G:o9)(a:Op)(t:Slots)(s:St)(K:PV->Heap->Nat->Prop):Prop:=
 match jq a with
 | 1=>iB E a t s.h s.n s.k K
 | _=>vZ E G a {s with t:=t} K
def Mu.aq5{T:(PV->Heap->Nat->Prop)->Prop}{n:Nat}{c:Heap}{a:CR (std m)}{v:SVal}{k:List aN}{d:List Nat}(H:Hv2 T n c h v k d)(q:a.k a.y=some (v,k))(i:a.touched=d)(f:a.pure=false):Mu T n c h a:=by
 obtain⟨pv,b,j,o,e,l,g,p⟩:=H;exact⟨v,k,q,λh=>(by rw [f]at h;cases h),λK hK=>p K (hK pv b j o e (by rw [i];exact l) g)⟩
def Zt(hX:XOK X E){n:Nat}{N:NM}(c:EvR X E n N t e):∀ {d:List Operand} {a:List SVal},OJ (std n) X e d=some a->
  ∃b,F2 (PVR N) b a/\∀K,K b->Kn E t d K
 | [],a,h=>by simp only [OJ,Option.some.injEq]at h;subst h;exact⟨[],.nil,λK hK=>hK⟩
 | x::r,a,h=>by
  simp only [OJ]at h;split at h
  .rename_i v hv;split at h
   .rename_i vs' hvs;cases h;obtain⟨pv,f,j⟩:=dO hX c hv;obtain⟨b,i,g⟩:=Zt hX c hvs;exact⟨pv::b,.cons j i,λK hK=>by unfold Kn;rw [f];exact g _ hK⟩
   .cases h
  .cases h
def Bd{b:List SVal}{c:CR (std m)}:∀ {l:List (Sigma (Ct aF))},A8 (std m) h b l=some c->∃a∈l,tF (std m) h a.1 a.2 b=some c
 | [],hk=>by simp [A8]at hk
 | ⟨s,a⟩::r,hk=>by
  simp only [A8]at hk;split at hk
  .rename_i x hx;cases hk;exact⟨⟨s,a⟩,by simp,hx⟩
  .obtain⟨ct',h1,h2⟩:=Bd hk;exact⟨ct',mem_cons_of_mem _ h1,h2⟩
def acd{s:Sig}{o:Ct aF s}{n:List SVal}{c:CR (std m)}(hk:tF (std m) h s o n=some c):c.pure=true->(∀v k,c.k c.y=some (v,k)->k=h)/\c.touched=[]:=by
 unfold tF at hk;split at hk
 .rename_i e1 he1;split at hk
  .rename_i e he;split at hk
   .split at hk
    .rename_i x hx;simp only [Option.some.injEq]at hk;subst hk;intro g;simp only [Bool.and_eq_true,isEmpty_iff,Bool.or_eq_true]at g;obtain⟨⟨q,f⟩,d⟩:=g;have aul:e.ren=[]:=by
      obtain⟨_,_,_,p,_⟩:=wN (m:=m) (λi=>i) he1;obtain⟨_,_,_,j,_⟩:=sF (m:=m) (λi=>i) (λ_=> .gone .i64 0) (λ_=>⟨.i64,0,rfl⟩) he;have:=j.len.trans p.len;simp [es0,q]at this;exact this
     refine⟨λv k a=> ?_,?_⟩
     .simp only [f]at a;split at a
      .rename_i vs' r hvs;simp only [wF,length_nil]at a;simp only [Option.some.injEq,Prod.mk.injEq]at a;obtain⟨_,rfl⟩:=a;have:∀(h:List aN) (l:List Nat),iP (std m) h l []=h:=λh l=>by cases l<;>rfl
       rw [this];split
       .rfl
       .rename_i hnb;rcases d with b | b
        .exact absurd (by rw [Bool.and_eq_true];exact b) hnb
        .rw [b];rfl
      .cases a
     .simp only [aul,bM,nil_append];split
      .rfl
      .rename_i hnb;rcases d with b | b
       .exact absurd (by rw [Bool.and_eq_true];exact b) hnb
       .rw [b];rfl
    .cases hk
   .cases hk
  .cases hk
 .cases hk
def ace(hX:XOK X E){s:St}(H:fT s.h h)(hn:h.length=nm s.n s.k)(G:EvR X E m (nmh h) t e){F:Op}
  {u:CR (std m)} (hk:Ze (std m) X C e h F=some u) (A:∀b∈u.ck,b=true) (o:∃v k,u.k u.y=some (v,k)):Mu (λK=>vZ E (lZ C) F {s with t:=t} K) s.n s.h h u:=by
 unfold Ze at hk;split at hk
 .rename_i c;split at hk
  .rename_i f hf;split at hk
   .rename_i g d vs hfv hvs;obtain⟨S,B,I⟩:=dO hX G hfv;obtain⟨x,rfl,hc⟩:=I.cell;cases hc;obtain⟨U,R,J⟩:=Zt hX G hvs;obtain⟨⟨T,D⟩,l,q⟩:=Bd hk;obtain⟨v,k,i⟩:=o;refine⟨v,k,i,λO=> ?_,λK hK=> ?_⟩
    .obtain⟨a,b⟩:=acd q O;exact⟨a v k i,b⟩
    .unfold vZ;simp only;rw [hf];simp only;unfold ajS;simp only;rw [B];refine J _ ?_;have w:lZ C g=some λy h n K=>∃D∈C g,dL D.2 y h n K:=by
      unfold lZ;split
      .rename_i hnil;rw [hnil]at l;cases l
      .rfl
     rw [w];refine⟨_,l,m,vs++d.map λp=> .c (.pb p.1 p.2 0),h,?_,H,hn,u,q,A,v,k,i,λr z j P Q M L=>hK r z _ P Q M (by rw [L,abu])⟩;refine R.append ?_
     clear hvs hk q hfv B I
     induction d with
     | nil=>exact .nil
     | cons p d N=>exact .cons (.ofC .pb) N
   .cases hk
  .cases hk
 .cases hk
def CJ(hX:XOK X E){s:St}(H:fT s.h h)(hn:h.length=nm s.n s.k)(D:EvR X E m (nmh h) t e){q:Op}
  {o:CR (std m)} (hk:aaP (std m) X C e h q=some o) (w:∀b∈o.ck,b=true) (y:∃v k,o.k o.y=some (v,k)):Mu (Rm E (lZ C) q t s) s.n s.h h o:=by
 unfold aaP at hk;by_cases n:jq q=1
 .have hT:Rm E (lZ C) q t s=iB E q t s.h s.n s.k:=by
   funext K;unfold Rm;split
   .rfl
   .rename_i z;exact absurd n z
  rw [hT]
  clear hT
  split at hk
  case h_2=>rename_i z;exact absurd n z
  clear n
  split at hk
  .rename_i ty p x _;split at hk
   .rename_i pv v hpv hv;split at hk
    .rename_i r hr;have j:∀g:CR (std m),g.ck=r.chk->g.k g.y=some (r.v,r.h)->g.touched=r.touched->g.pure=false->g=o->Mu (iB E (.store ty p x) t s.h s.n s.k) s.n s.h h o:=by
      intro g A G F B I;subst I;have u:F3 (std m) X e h (.store ty p x)=some r:=by simp only [F3,hpv,hv];exact hr
      exact .aq5 (LP hX H hn D u (by rw [<-A];exact w)) G F B
     split at hk
     .cases hk;exact j _ rfl (by simp only;rw [hr]) rfl rfl rfl
     .cases hk;exact j _ rfl (by simp only;rw [hr]) rfl rfl rfl
     .cases hk;exact j _ rfl (by simp only;rw [hr]) rfl rfl rfl
     .cases hk;exact j _ rfl (by simp only;rw [hr]) rfl rfl rfl
     .cases hk;exact j _ rfl rfl rfl rfl rfl
    .cases hk
   .cases hk
  .split at hk
   .rename_i r hr;have j:∀g:CR (std m),g.ck=r.chk->g.k g.y=some (r.v,r.h)->g.touched=r.touched->g.pure=false->g=o->Mu (iB E q t s.h s.n s.k) s.n s.h h o:=by
     intro g A G F B I;subst I;exact .aq5 (LP hX H hn D hr (by rw [<-A];exact w)) G F B
    split at hk
    .rename_i l hrv;split at hk
     .rename_i f c xs hl;cases hk;refine j _ rfl ?_ rfl rfl rfl;simp only;have:r.h.set l (.rows f c xs)=r.h:=by
       apply ext_getElem?;intro i;rw [getElem?_set];split
       .rename_i A;subst A;rw [hl];split
        .rfl
        .rename_i hh;exact absurd (List.getElem?_eq_some_iff.1 hl).1 hh
       .rfl
      rw [this]
     .cases hk
    .cases hk;exact j _ rfl rfl rfl rfl rfl
   .cases hk
 .have hT:Rm E (lZ C) q t s=λK=>vZ E (lZ C) q {s with t:=t} K:=by
   funext K;unfold Rm;split
   .rename_i z;exact absurd z n
   .rfl
  have hk:Ze (std m) X C e h q=some o:=by
   revert hk;split
   .rename_i z;exact absurd z n
   .exact id
  obtain⟨a,b,c,d,e⟩:=ace hX H hn D hk w y;rw [hT];exact⟨a,b,c,d,e⟩
end Go.TX
namespace Go.TX
open Go Go.AE List
section
variable {n:Nat}
def Bf(gs:List (GE (std n)))(t':Slots)(N:NM)(i:Nat)(a:SV (std n)):Prop:=match a.tag with
 | none=>∃pv,aY t' i=some pv/\PVR N pv a.v
 | some t=>∃e,gs[t]? =some e/\(e.g=true->∃pv,aY t' i=some pv/\PVR N pv a.v)/\(e.g=false->aY t' i=some qz)
structure GOK(gs:List (GE (std n)))(t':Slots)(e:GE (std n)):Prop where
 yes:∀d,e.slot=some d->e.g=true->∃f,aY t' d=some (.c (.d f (.bool e.want)))
 no:∀d,e.slot=some d->e.g=false->(∃f,aY t' d=some (.c (.d f (.bool (!e.want)))))\/aY t' d=some qz
 dead:e.dead=true->e.g=false
 par:∀p,e.par=some p->∃q,gs[p]? =some q/\(e.g=true->q.g=true)
structure SR(s':St)(s:RSt (std n)):Prop where
 heap:fT s'.h s.h
 len:s.h.length=nm s'.n s'.k
 m:s'.m=s.m
 val:∀i sv,dN (std n) s.t i=some sv->Bf s.gs s'.t (nmh s.h) i sv
 gs:∀(t:Nat) (e:GE (std n)),s.gs[t]? =some e->GOK s.gs s'.t e
def Keep(k:Nat)(h0 h:List aN):Prop:=∀i,i<k->(Gone h0 i->Gone h i)/\∀x,nmh h0 i=some x->Gone h i\/nmh h i=some x
theorem Keep.refl(k:Nat)(h:List aN):Keep k h h:=λ_ _=>⟨id,λ_ h=> .inr h⟩
theorem Keep.trans{k:Nat}{a b c:List aN}(x:Keep k a b)(y:Keep k b c):Keep k a c:=λi d=>
 ⟨λh=>(y i d).1 ((x i d).1 h),λv e=>((x i d).2 v e).elim (λh=> .inl ((y i d).1 h)) λh=>(y i d).2 v h⟩
theorem jf.O8{c e:Heap}{a b:List aN}{f:List Nat}(x:jf c a e b f)(k:Nat):Keep k a b:=λi _=>⟨x.gone i,λv d=> .inr (x.same i v d)⟩
theorem pO{d i:Nat}{a:SV (std n)}{t:List (Nat×SV (std n))}:dN (std n) ((d,a)::t) i=if d=i then some a else dN (std n) t i:=by
 simp only [dN,beq_iff_eq]
theorem Bf.mono{gs a:List (GE (std n))}{j t2:Slots}{N M:NM}{i:Nat}{f:SV (std n)}(h:Bf gs j N i f)(r:∀(t:Nat) (e:GE (std n)),gs[t]? =some e->∃b,a[t]? =some b/\b.g=e.g)(k:aY t2 i=aY j i)(g:∀l x,N l=some x->M l=some x):Bf a t2 M i f:=by
 unfold Bf at h ⊢;cases hs:f.tag with
 | none=>
  rw [hs]at h;simp only at h ⊢;obtain⟨pv,d,c⟩:=h;exact⟨pv,by rw [k];exact d,c.mono g⟩
 | some t=>
  rw [hs]at h;simp only at h ⊢;obtain⟨e,d,c,s⟩:=h;obtain⟨b,p,m⟩:=r t e d;refine⟨b,p,λh=> ?_,λh=>by simp_all⟩;obtain⟨pv,q,o⟩:=c (m▸h);exact⟨pv,by rw [k];exact q,o.mono g⟩
theorem nL(d:Nat)(e:GE (std n)):(ou (std n) d e).g=e.g:=by grind [ou]
theorem tK{d:Nat}{e:GE (std n)}{x:Nat}(h:(ou (std n) d e).slot=some x):e.slot=some x/\x≠d:=by grind [ou]
theorem jD(d:Nat)(e:GE (std n)):(ou (std n) d e).want=e.want/\(ou (std n) d e).par=e.par/\(ou (std n) d e).dead=e.dead:=by grind [ou]
theorem SR.put{g:St}{s:RSt (std n)}(S:SR g s){d:Option Nat}{tag:Option Nat}{v:SVal}{f:Option PV}
  (w:match tag with
   | none=>∃pv,f=some pv/\PVR (nmh s.h) pv v
   | some t=>∃e,s.gs[t]? =some e/\(e.g=true->∃pv,f=some pv/\PVR (nmh s.h) pv v)/\(e.g=false->f=some qz)):SR (g.put d f) (s.put (std n) d tag v):=by
 cases d with
 | none=>exact S
 | some d=>
  have u:∀(t:Nat) (e:GE (std n)),s.gs[t]? =some e->∃l,(s.gs.map (ou (std n) d))[t]? =some l/\l.g=e.g:=λt e h=>⟨ou (std n) d e,by simp [h],nL d e⟩
  refine⟨S.heap,S.len,S.m,λi E c=> ?_,λt e r=> ?_⟩
  .simp only [RSt.put]at c;rw [pO]at c;split at c
   .rename_i e;subst e;cases c;unfold Bf;cases tag with
    | none=>
     obtain⟨pv,o,j⟩:=w;exact⟨pv,by grind [St.put,ji],j⟩
    | some t=>
     obtain⟨e,o,j,F⟩:=w;obtain⟨l,D,z⟩:=u t e o;refine⟨l,D,λh=> ?_,λh=> ?_⟩
     .obtain⟨pv,q1,q2⟩:=j (z▸h);exact⟨pv,by grind [St.put,ji],q2⟩
     grind [St.put,ji]
   .rename_i e;exact(S.val i E c).mono u (by grind [St.put,ji]) (λ_ _ h=>h)
  .simp only [RSt.put,getElem?_map,Option.map_eq_some_iff]at r;obtain⟨m,B,rfl⟩:=r;have G:=S.gs t m B;have y:∀x,x≠d->aY (St.put g (some d) f).t x=aY g.t x:=λx k=>by grind [St.put,ji]
   refine⟨λx k A=> ?_,λx k C=> ?_,λhd=> ?_,λp H=> ?_⟩
   .obtain⟨a,b⟩:=tK k;rw [y x b,(jD d m).1];exact G.yes x a (by grind [nL])
   .obtain⟨a,b⟩:=tK k;rw [y x b,(jD d m).1];exact G.no x a (by grind [nL])
   .rw [nL];exact G.dead (by grind [jD])
   .obtain⟨q,o,j⟩:=G.par p (by grind [jD])
    grind [ou,RSt.put,nL]
theorem tL{d i:Nat}:∀ {t:List (Nat×SV (std n))} {a:SV (std n)},dN (std n) (t.filter λp=> !(p.1==d)) i=some a->i≠d/\dN (std n) t i=some a
 | [],_,h=>by cases h
 | (j,x)::r,a,h=>by
  by_cases c:j=d
  .subst c;rw [filter_cons_of_neg (by simp)]at h;obtain⟨f,b⟩:=tL h
   grind [pO]
  .rw [filter_cons_of_pos (by simpa using c),pO]at h;rw [pO];split at h
   .simp_all
   .rename_i e;rw [if_neg e];exact tL h
theorem SR.del{f:St}{s:RSt (std n)}(S:SR f s){d:Option Nat}:SR (f.put d none) (s.del (std n) d):=by
 cases d with
 | none=>exact S
 | some d=>
  have v:∀(t:Nat) (e:GE (std n)),s.gs[t]? =some e->∃m,(s.gs.map (ou (std n) d))[t]? =some m/\m.g=e.g:=λt e h=>⟨ou (std n) d e,by simp [h],nL d e⟩
  refine⟨S.heap,S.len,S.m,λi w c=> ?_,λt e k=> ?_⟩
  .simp only [RSt.del]at c;obtain⟨e,c⟩:=tL c;exact(S.val i w c).mono v (by grind [St.put,ji]) (λ_ _ h=>h)
  .simp only [RSt.del,getElem?_map,Option.map_eq_some_iff]at k;obtain⟨j,r,rfl⟩:=k;have G:=S.gs t j r;have l:∀x,x≠d->aY (St.put f (some d) none).t x=aY f.t x:=λx g=>by grind [St.put,ji]
   refine⟨λx g o=> ?_,λx g u=> ?_,λhd=> ?_,λp y=> ?_⟩
   .obtain⟨a,b⟩:=tK g;rw [l x b,(jD d j).1];exact G.yes x a (by grind [nL])
   .obtain⟨a,b⟩:=tK g;rw [l x b,(jD d j).1];exact G.no x a (by grind [nL])
   .rw [nL];exact G.dead (by grind [jD])
   .obtain⟨q,h1,h2⟩:=G.par p (by grind [jD])
    grind [ou,RSt.del,nL]
theorem aq6{s:RSt (std n)}{d:Option Nat}:(s.del (std n) d).h=s.h/\(s.del (std n) d).m=s.m:=by cases d<;>exact⟨rfl,rfl⟩
theorem SR.zY{b:St}{s:RSt (std n)}(S:SR b s){a:Heap}{k:List aN}{j:Nat}(g:Same s.h k)(d:fT a k)(f:k.length=nm b.n j):SR {b with h:=a,k:=j} {s with h:=k}:=
 ⟨d,f,S.m,λi l c=>(S.val i l c).mono (λ_ e h=>⟨e,h,rfl⟩) rfl g,S.gs⟩
theorem Gi:∀ {a:List (GE (std n))} {d:Nat} {w:Bool} {i t:Nat},dF (std n) a d w i=some t->∃e,i<=t/\a[t-i]? =some e/\e.slot=some d/\e.want=w
 | [],_,_,_,_,h=>by simp [dF]at h
 | e::r,d,w,i,t,h=>by
  simp only [dF]at h;split at h
  .simp_all
  .obtain⟨e',h1,h2,h3⟩:=Gi h
   grind
theorem wP{gs:List (GE (std n))}{d:Nat}{w:Bool}{t:Nat}(h:dF (std n) gs d w 0=some t):∃e,gs[t]? =some e/\e.slot=some d/\e.want=w:=by
 obtain⟨e,_,a,b⟩:=Gi h;simp_all
theorem qO{gs:List (GE (std n))}{t':Slots}(b:∀(t:Nat) (e:GE (std n)),gs[t]? =some e->GOK gs t' e):∀ {f:Nat} {o:Option Nat},(∀t,o=some t->∃e,gs[t]? =some e/\e.g=true)->∀t∈Ra (std n) gs f o,∃e,gs[t]? =some e/\e.g=true
 | 0,_,_,t,a=>by simp [Ra]at a
 | _+1,none,_,t,a=>by simp [Ra]at a
 | f+1,some x,h,t,a=>by
  simp only [Ra,mem_cons]at a;rcases a with rfl | a
  .exact h t rfl
  .obtain⟨e,h1,h2⟩:=h x rfl;rw [h1]at a;refine qO b (o:=e.par) (λp c=> ?_) t a;obtain⟨q,g,d⟩:=(b x e h1).par p c;simp_all
theorem sH{X:XT}{E:Tab}{gs:List (GE (std n))}{t' tt:Slots}{N:NM}{lk:Nat->Option (SV (std n))}(b:∀d,(lk d).isSome->aY tt d=aY t' d)(f:∀i g,lk i=some g->Bf gs t' N i g){al:List Nat}(c:∀t∈al,∃e,gs[t]? =some e/\e.g=true):
  EvR X E n N tt (gY (std n) lk al):=by
 intro i v a;unfold gY at a;split at a
 .rename_i v' hl;cases a;rw [b i (by rw [hl];rfl)];exact f i _ hl
 .rename_i t v' hl;split at a
  .rename_i hc;cases a;obtain⟨e,l,j⟩:=c t (by simpa using hc);obtain⟨m,h,k,_⟩:=f i _ hl;simp_all
  .cases a
 .cases a
theorem gB{ρ:Type}{Q:ρ->Prop}:∀ {ps:List Bool} {a:(ρ->Prop)->Prop},ig (std n) ps a Q->(∀b∈ps,b=true)/\a Q
 | [],a,h=>⟨λ_ h=>by simp at h,h⟩
 | b::ps,a,h=>by
  obtain⟨c,h⟩:b=true/\ig (std n) ps a Q:=h;obtain⟨e,d⟩:=gB (ps:=ps) h;simp_all
theorem Bg{g:Bool}{a:List Bool}(h:∀b∈under (std n) g a,b=true)(d:g=true):∀b∈a,b=true:=λb c=>by
 have:=h (!g || b) (mem_map.2 ⟨b,c,rfl⟩);simp_all
theorem EH{ρ:Type}(a:Op)(v:SVal)(K:SVal->(ρ->Prop)->Prop):Zf (std n) a v K=K v:=by
 unfold Zf;split
 .split<;>rfl
 .rfl
theorem CK{ρ:Type}{c:CR (std n)}{K:SVal->List aN->(ρ->Prop)->Prop}{Q:ρ->Prop}(h:uK (std n) c K Q):∃v k,c.k c.y=some (v,k)/\K v k Q:=by
 obtain⟨f,d,y,k,e,p⟩:=c;unfold uK at h;cases d with
 | nil=>
  simp only at h ⊢;cases hk:k y with
  | none=>simp_all
  | some x=>rw [hk]at h;grind
 | cons a b=>
  simp only at h ⊢;cases hk:k y with
  | none=>simp_all
  | some x=>rw [hk]at h;grind
theorem yB{X:XT}{E:Tab}(hX:XOK X E){u:Heap}{h:List aN}(H:fT u h){gs:List (GE (std n))}{t' tt:Slots}(C:∀(t:Nat) (e:GE (std n)),gs[t]? =some e->GOK gs t' e)
  {lk:Nat->Option (SV (std n))} (l:∀d,(lk d).isSome->aY tt d=aY t' d) (F:∀i O,lk i=some O->Bf gs t' (nmh h) i O) {cur:Option Nat} (r:∀t,cur=some t->∃e,gs[t]? =some e/\e.g=true) {P:Op} {v:SVal} {S:List Bool}
  (hk:wG (std n) X lk gs h cur P=some (S,v)) (J:∀b∈S,b=true):Gv (gX E P tt u) (nmh h) v:=by
 have m:=qO C r (f:=gs.length+1);have R:EvR X E n (nmh h) tt (gY (std n) lk (eU (std n) gs cur)):=sH l F m;unfold wG at hk;split at hk
 .rename_i c a b;simp only at hk;split at hk
  .rename_i fq q hc;obtain⟨pc,M,U⟩:=dO hX R hc;obtain⟨g,rfl⟩:=U.bool;have o:∀w,q=w->∀t∈(match c with | .tmp d=>(match dF (std n) gs d w 0 with | some t=>eU (std n) gs (some t)++eU (std n) gs cur | none=>eU (std n) gs cur) | _=>eU (std n) gs cur),∃e,gs[t]? =some e/\e.g=true:=by
    intro w hw t k;split at k
    .rename_i d;split at k
     .rename_i t0 hf;obtain⟨e,Q,V,e3⟩:=wP hf;rcases mem_append.1 k with k | k
      .refine qO C (λx s=> ?_) t k;cases s;refine⟨e,Q,?_⟩;cases hgg:e.g with
       | true=>rfl
       | false=>
        have G:(lk d).isSome:=by
         have Z:gY (std n) lk (eU (std n) gs cur) d=some (.c (.d fq (.bool q))):=hc
         grind [gY]
        have hd:aY t' d=some (.c (.d g (.bool q))):=by rw [<-l d G];exact M
        rcases(C t0 e Q).no d V hgg with⟨f,hh⟩ | hh
        all_goals grind [Option.some.injEq,PV.c.injEq,Cell.d.injEq,D.bool.injEq,qz]
      .exact m t k
     .exact m t k
    .exact m t k
   have A:q=true->∀ {v},evX (std n) X (gY (std n) lk (match c with | .tmp d=>(match dF (std n) gs d true 0 with | some t=>eU (std n) gs (some t)++eU (std n) gs cur | none=>eU (std n) gs cur) | _=>eU (std n) gs cur)) a=some v->∃pv,ev E tt a=some pv/\PVR (nmh h) pv v:=
    λj v p=>dO hX (sH l F (o true j)) p
   have I:q=false->∀ {v},evX (std n) X (gY (std n) lk (match c with | .tmp d=>(match dF (std n) gs d false 0 with | some t=>eU (std n) gs (some t)++eU (std n) gs cur | none=>eU (std n) gs cur) | _=>eU (std n) gs cur)) b=some v->∃pv,ev E tt b=some pv/\PVR (nmh h) pv v:=
    λj v p=>dO hX (sH l F (o false j)) p
   have fin:∀pv,PVR (nmh h) pv v->(q=true->ev E tt a=some pv)->(q=false->ev E tt b=some pv)->Gv (gX E (.pick c a b) tt u) (nmh h) v:=by
    intro pv Y W T;refine⟨pv,Y,λK hK=> ?_⟩;unfold gX;simp only;rw [M];exact⟨λj=>je (W j) _ hK,λj=>je (T j) _ hK⟩
   split at hk
   .rename_i y s hy;cases hk;have j:q=false:=by simp_all
    grind
   .rename_i x s hy;cases hk;have j:q=true:=by simp_all
    grind
   .rename_i x y s hy _ _;unfold OD at hk;split at hk
    .rename_i z hz;cases hk;cases j:q with
     | true=>
      obtain⟨pv,L,B⟩:=A j ‹_›;have:=OT (N:=nmh h) (px:=pv) (py:=pv) (q:=q) (λ_=>B) (λh=>by simp_all) hz
      grind
     | false=>
      obtain⟨pv,L,B⟩:=I j ‹_›;have:=OT (N:=nmh h) (px:=pv) (py:=pv) (q:=q) (λh=>by simp_all) (λ_=>B) hz;rw [j]at this;exact fin pv this (λh=>by rw [j]at h;cases h) λ_=>L
    .cases hk
   .cases hk
  .cases hk
 .exact ab0 hX H R hk J
inductive GM (s':St) (s:RSt (std n)) (tt:Slots) (d:Nat) (want:Bool):GR (std n)->Prop
 | skip:(∀T F:Prop,F->mZ (aY tt d) want T F)->GM s' s tt d want .skip
 | run {gs:List (GE (std n))} {t:Nat} {g:Bool} {e:GE (std n)}:SR s' {s with gs:=gs}->gs[t]? =some e->e.g=g->(∀i sv,dN (std n) s.t i=some sv->Bf gs s'.t (nmh s.h) i sv)->
  (g=true->∀T F:Prop,T->mZ (aY tt d) want T F)->(g=false->∀T F:Prop,F->mZ (aY tt d) want T F)->GM s' s tt d want (.run gs t g)
theorem Gj{k:St}{s:RSt (std n)}(S:SR k s){lk:Nat->Option (SV (std n))}(W:∀i A,lk i=some A->dN (std n) s.t i=some A){tt:Slots}{d:Nat}{want:Bool}(X:(lk d).isSome->aY tt d=aY k.t d){r:GR (std n)}(j:F6 (std n) lk s.gs d want=r)(Q:r≠ .bad):
    GM k s tt d want r:=by
  unfold F6 at j;split at j
  · exact absurd j.symm Q
  · rename_i tg v hd;have C:=X (by rw [hd];rfl);have w:=S.val d _ (W d _ hd);split at j
    · rename_i t hf;obtain⟨e,U,e2,e3⟩:=wP hf;rw [U]at j;simp only at j;have G:=S.gs t e U;have H:e.g=true->∀T F:Prop,T->mZ (aY tt d) want T F:=λa T F H=>by
        obtain⟨f,P⟩:=G.yes d e2 a;rw [C,P,e3];exact fU (λ_=>H) (λh=>absurd rfl h)
      have o:e.g=false->∀T F:Prop,F->mZ (aY tt d) want T F:=λa T F o=>by
        rcases G.no d e2 a with⟨f,P⟩ | P
        · rw [C,P,e3];exact fU (λh=>by cases want<;>simp at h) (λ_=>o)
        · rw [C,P];exact o
      split at j
      · rename_i aq7;subst j;exact .skip (o (G.dead aq7))
      · subst j;exact .run S U rfl S.val H o
    · split at j
      · rename_i f b;obtain⟨b,rfl⟩:∃b':Bool,b'=b:=⟨b,rfl⟩;have m:(if want then b else !b)=(b==want):=by cases want<;>cases b<;>rfl
        simp only at j;have ext:∀(e:GE (std n)) (gs:List (GE (std n))),gs=s.gs++ [e]->GOK gs k.t e->SR k {s with gs:=gs}/\(∀i A,dN (std n) s.t i=some A->Bf gs k.t (nmh s.h) i A)/\gs[s.gs.length]? =some e:=by
          intro e gs V L;subst V;have z:∀(t:Nat) (x:GE (std n)),s.gs[t]? =some x->(s.gs++ [e])[t]? =some x:=λt x c=>by rw [getElem?_append_left (List.getElem?_eq_some_iff.1 c).1];exact c
          have sI:∀i A,dN (std n) s.t i=some A->Bf (s.gs++ [e]) k.t (nmh s.h) i A:=λi A hi=>(S.val i A hi).mono (λt x c=>⟨x,z t x c,rfl⟩) rfl (λ_ _ h=>h)
          refine⟨⟨S.heap,S.len,S.m,sI,λt x c=> ?_⟩,sI,by simp⟩;by_cases a0:t<s.gs.length
          · simp only at c;rw [getElem?_append_left a0]at c;have G:=S.gs t x c;exact⟨G.yes,G.no,G.dead,λp N=>let⟨q,O,J⟩:=G.par p N;⟨q,z p q O,J⟩⟩
          · simp only at c;rw [getElem?_append_right ah]at c;have:t-s.gs.length=0:=by
              have:=(List.getElem?_eq_some_iff.1 c).1;simp at this;omega
            rw [this]at c;simp at c;subst c;exact L
        split at j
        · subst j;obtain⟨pv,E,M⟩:=w;obtain⟨g,rfl⟩:=M.bool;have L:GOK (s.gs++ [⟨some d,want,none,if want then b else !b,false⟩]) k.t ⟨some d,want,none,if want then b else !b,false⟩:=by
            refine⟨λx c l=> ?_,λx c y=> ?_,λh=>(by cases h),λp N=>(by cases N)⟩
            · cases c;have l:(if want then b else !b)=true:=l;rw [m]at l
              exact ⟨g, by rw [E]; have : b = want := by simpa using l
                           rw [this]⟩
            · cases c;have y:(if want then b else !b)=false:=y;rw [m]at y;refine .inl ⟨g,?_⟩;rw [E];have:b= !want:=by cases b<;>cases want<;>simp_all
              rw [this]
          obtain⟨O,J,Y⟩:=ext ⟨some d,want,none,if want then b else !b,false⟩ _ rfl L;refine .run O Y rfl J (λa T F H=> ?_) (λa T F o=> ?_)
          · rw [C,E];refine fU (λ_=>H) (λh=> ?_);have a:(if want then b else !b)=true:=a;rw [m]at a;exact absurd (by simpa using a) h
          · rw [C,E];refine fU (λh=> ?_) (λ_=>o);have a:(if want then b else !b)=false:=a;rw [m,h]at a;simp at a
        · rename_i Z;split at j
          · rename_i D I;subst j;obtain⟨a1,h3,h4,h5⟩:=w;rw [I]at h3;cases h3;have u:D.g=true->∃g,aY k.t d=some (.c (.d g (.bool b))):=λa=>by
              obtain⟨pv,E,M⟩:=h4 a;obtain⟨g,rfl⟩:=M.bool;exact⟨g,E⟩
            have H:(D.g&& (if want then b else !b))=true->∃g,aY k.t d=some (.c (.d g (.bool want))):=λh=>by
              simp only [Bool.and_eq_true]at h;obtain⟨g,B⟩:=u h.1;have:=h.2;rw [m]at this
              exact ⟨g, by rw [B]; have : b = want := by simpa using this
                           rw [this]⟩
            have o:(D.g&& (if want then b else !b))=false->(∃g,aY k.t d=some (.c (.d g (.bool (!want)))))\/aY k.t d=some qz:=λh=>by
              cases a:D.g with
              | false=>exact .inr (h5 a)
              | true=>
                rw [a]at h;simp only [Bool.true_and]at h;rw [m]at h;obtain⟨g,B⟩:=u a;refine .inl ⟨g,?_⟩;rw [B];have:b= !want:=by cases b<;>cases want<;>simp_all
                rw [this]
            have L:GOK (s.gs++ [⟨some d,want,some Z,D.g&& (if want then b else !b),false⟩]) k.t ⟨some d,want,some Z,D.g&& (if want then b else !b),false⟩:=by
              refine⟨λx c l=> ?_,λx c y=> ?_,λh=>(by cases h),λp N=> ?_⟩
              · cases c;exact H l
              · cases c;exact o y
              · cases N;refine⟨D,by rw [getElem?_append_left (List.getElem?_eq_some_iff.1 I).1];exact I,λh=> ?_⟩;have h:(D.g&& (if want then b else !b))=true:=h;simp only [Bool.and_eq_true]at h;exact h.1
            obtain⟨O,J,Y⟩:=ext ⟨some d,want,some Z,D.g&& (if want then b else !b),false⟩ _ rfl L;refine .run O Y rfl J (λa T F R=> ?_) (λa T F K=> ?_)
            · obtain⟨g,B⟩:=H a;rw [C,B];exact fU (λ_=>R) (λh=>absurd rfl h)
            · rcases o a with⟨g,B⟩ | B
              · rw [C,B];exact fU (λh=>by cases want<;>simp at h) (λ_=>K)
              · rw [C,B];exact K
          · exact absurd j.symm Q
      · split at j
        · subst j;obtain⟨pv,E,M⟩:=w;have:pv=qz:=by
            cases M with
            | one h=>cases h with
              | agg hs _=>simp [bJ]at hs
            | tup h=>cases h;rfl
          subst this;exact .skip λT F o=>by rw [C,E];exact o
        · exact absurd j.symm Q
      · exact absurd j.symm Q
end
end Go.TX
namespace Go.TX
open Go Go.AE List
section
variable {n:Nat}
theorem SR.kill{f:St}{s:RSt (std n)}(S:SR f s){t:Nat}{e:GE (std n)}(d:s.gs[t]? =some e)(u:e.g=false):SR f {s with gs:=AZ (std n) s.gs t}:=by
 have hk:AZ (std n) s.gs t=s.gs.set t {e with dead:=true}:=by unfold AZ;rw [d]
 have j:=(List.getElem?_eq_some_iff.1 d).1;have a:∀(i:Nat) (x:GE (std n)),s.gs[i]? =some x->∃g,(s.gs.set t {e with dead:=true})[i]? =some g/\g.g=x.g:=λi x b=>by
  by_cases h:t=i
  .subst h;rw [d]at b;cases b;exact⟨_,getElem?_set_self j,rfl⟩
  .exact⟨x,by rw [getElem?_set_ne h];exact b,rfl⟩
 rw [hk];refine⟨S.heap,S.len,S.m,λi y k=>(S.val i y k).mono a rfl (λ_ _ h=>h),λi x b=> ?_⟩;have c:∀ {x:GE (std n)},(∀p,x.par=some p->∃q,s.gs[p]? =some q/\(x.g=true->q.g=true))->∀p,x.par=some p->∃q,(s.gs.set t {e with dead:=true})[p]? =some q/\(x.g=true->q.g=true):=λh p o=>by
  obtain⟨q,r,l⟩:=h p o;obtain⟨w,v,m⟩:=a p q r;exact⟨w,v,λh=>by rw [m];exact l h⟩
 by_cases h:t=i
 .subst h;simp only [getElem?_set_self j,Option.some.injEq]at b;subst b;have G:=S.gs t e d;exact⟨G.yes,G.no,λ_=>u,c G.par⟩
 .simp only [getElem?_set_ne h]at b;have G:=S.gs i x b;exact⟨G.yes,G.no,G.dead,c G.par⟩
theorem Gm{E:Tab}{G:o9}{o:Oper}{s:St}{K:St->Prop}(h:jq o.op≠0)(hd:dOK s.m o.dst)(hm:Rm E G o.op s.t s λv h k=>K (St.put {s with h:=h,k:=k} o.dst (some v))):aby E G o s K:=by
 refine⟨hd,?_⟩;unfold Rm at hm;split
 .rename_i h0;exact absurd h0 h
 .rename_i h1;rw [h1]at hm;exact hm
 .rename_i h0 h1;split at hm
  .rename_i h2;exact absurd h2 h1
  .exact hm
theorem KC{E:Tab}{G:o9}{o:Oper}{s:St}{K:St->Prop}(h:jq o.op=0)(hd:dOK s.m o.dst)(hm:gX E o.op s.t s.h λv=>K (s.put o.dst (some v))):aby E G o s K:=by
 refine⟨hd,?_⟩;rw [h];exact hm
theorem acf{m:Nat}{d:Option Nat}(h:Zd m d=true):dOK m d:=by
 cases d with
 | none=>trivial
 | some d=>unfold Zd at h;exact(by simpa using h:d<m)
theorem aj0{s:RSt (std n)}{d tag:Option Nat}{v:SVal}:(s.put (std n) d tag v).h=s.h/\(s.put (std n) d tag v).m=s.m:=by cases d<;>exact⟨rfl,rfl⟩
theorem acg{N:NM}:PVR N qz (.tup []):= .tup .nil
theorem KD{X:XT}{E:Tab}(hX:XOK X E){C:Calls aF}{q:List Oper}{ρ:Type}{K:RSt (std n)->(ρ->Prop)->Prop}{r:ρ->Prop}{h0:List aN}{m0:Nat}:∀ {rest:List Oper} {x:St} {s:RSt (std n)},SR x s->(∀k,Keep k h0 s.h)->s.m=m0->fF (std n) X C q rest K s r->
  zO E (lZ C) q rest (λD=>∃y,SR D y/\(∀k,Keep k h0 y.h)/\y.m=m0/\K y r) x
 | [],x,s,S,hK0,hm0,hk=>⟨s,S,hK0,hm0,hk⟩
 | o::rest,x,s,S,hK0,hm0,hk=>by
  generalize b:fF (std n) X C q (o::rest) K s=M at hk;unfold fF at b;split at b
  .rename_i hdst;have hd:dOK x.m o.dst:=by rw [S.m];exact acf hdst
   have z:∀ {F:St} {s2:RSt (std n)} {tag:Option Nat} {v:SVal},SR F (s2.put (std n) o.dst tag v)->(∀k,Keep k s.h s2.h)->s2.m=s.m->fF (std n) X C q rest K (s2.put (std n) o.dst tag v) r->
     zO E (lZ C) q rest (λD=>∃y,SR D y/\(∀k,Keep k h0 y.h)/\y.m=m0/\K y r) F:=by
    intro F s2 tag v A G R a5;have u:=aj0 (n:=n) (s:=s2) (d:=o.dst) (tag:=tag) (v:=v);exact KD hX (rest:=rest) A (λk=>by rw [u.1];exact(hK0 k).trans (G k)) (by rw [u.2,R,hm0]) a5
   have H:∀ {gs:List (GE (std n))},SR x {s with gs:=gs}->∀ {al:List Nat},(∀t∈al,∃e,gs[t]? =some e/\e.g=true)->EvR X E n (nmh s.h) x.t (gY (std n) (dN (std n) s.t) al):=λS _ a0=>sH (λ_ _=>rfl) S.val a0
   unfold zO Cq;split at b
   .rename_i hguard;rw [hguard];simp only;split at b
    .rename_i a;have a:jq o.op=0:=by simpa using a
     split at b
     .rename_i ps v hv;subst b;obtain⟨l,hk⟩:=gB hk;rw [EH]at hk;obtain⟨pv,Q,Z⟩:=yB hX S.heap S.gs (tt:=x.t) (λ_ _=>rfl) S.val (cur:=none) (λt h=>by cases h) hv l;refine KC a hd (Z _ (z (S.put (tag:=none) ⟨pv,rfl,Q⟩) (λ_=> .refl _ _) rfl hk))
     ·(subst b;exact hk.elim)
    .rename_i a;have a:jq o.op≠0:=by simpa using a
     split at b
     .rename_i cr hcr;subst b;obtain⟨l,hk⟩:=gB hk;obtain⟨v,k,m,hk⟩:=CK hk;obtain⟨v',k',u,_,L⟩:=CJ hX S.heap S.len (H S (al:=[]) (λt h=>by simp at h)) hcr l ⟨v,k,m⟩;rw [m]at u;cases u;refine Gm a hd (L _ λpv N j O P I J=> ?_);have A:=S.zY I.same P J;exact z (s2:={s with h:=k}) (A.put (tag:=none) ⟨pv,rfl,O⟩) I.O8 rfl hk
     ·(subst b;exact hk.elim)
   .rename_i j want hguard;rw [hguard];simp only;refine⟨hd,?_⟩;split at b
    .rename_i d hgs;rw [hgs];simp only [DL];have B:=λhb=>Gj S (lk:=dN (std n) s.t) (λ_ _ h=>h) (tt:=x.t) (d:=d) (want:=want) (λ_=>rfl) rfl hb
     split at b
     .rename_i hr;rw [hr]at B;subst b;cases B (by simp)with | skip h=>
      refine h _ _ (z (s2:=s) (S.put (tag:=none) ⟨qz,rfl,acg⟩) (λ_=> .refl _ _) rfl hk)
     .rename_i gs t g hr;rw [hr]at B;cases B (by simp)with | run p i c sI T W=>
      rename_i e;subst c;have w:e.g=true->∀Y,some t=some Y->∃e,gs[Y]? =some e/\e.g=true:=λh Y ht=>by cases ht;exact⟨e,i,h⟩
      split at b
      .rename_i a;have a:jq o.op=0:=by simpa using a
       split at b
       .rename_i ps v hv;subst b;obtain⟨l,hk⟩:=gB hk;cases c:e.g with
        | true=>
         obtain⟨pv,Q,Z⟩:=yB hX p.heap p.gs (tt:=x.t) (λ_ _=>rfl) sI (w c) hv (Bg l c);refine T c _ _ (KC a hd (Z _ (z (s2:={s with gs:=gs}) (p.put (tag:=some t) ⟨e,i,λ_=>⟨pv,rfl,Q⟩,λh=>by rw [c]at h;cases h⟩) (λ_=> .refl _ _) rfl hk)))
        | false=>
         exact W c _ _ (z (s2:={s with gs:=gs}) (p.put (tag:=some t) ⟨e,i,λh=>(by rw [c]at h;cases h),λ_=>rfl⟩) (λ_=> .refl _ _) rfl hk)
       ·(subst b;exact hk.elim)
      .rename_i a;have a:jq o.op≠0:=by simpa using a
       split at b
       .rename_i cr hcr;split at b
        .rename_i hpure;subst b;obtain⟨l,hk⟩:=gB hk;obtain⟨v,k,m,hk⟩:=CK hk;cases c:e.g with
         | true=>
          obtain⟨v',k',u,e2,L⟩:=CJ hX p.heap p.len (H p (qO p.gs (w c) (f:=gs.length+1))) hcr (Bg l c) ⟨v,k,m⟩;rw [m]at u;cases u;obtain⟨rfl,a6⟩:=e2 hpure;refine T c _ _ (Gm a hd (L _ λpv N j O P I J=> ?_));have A:=p.zY (Same.refl _) P J;exact z (s2:={s with gs:=gs}) (A.put (tag:=some t) ⟨e,i,λ_=>⟨pv,rfl,O⟩,λh=>by rw [c]at h;cases h⟩) (λ_=> .refl _ _) rfl hk
         | false=>
          exact W c _ _ (z (s2:={s with gs:=gs}) (p.put (tag:=some t) ⟨e,i,λh=>(by rw [c]at h;cases h),λ_=>rfl⟩) (λ_=> .refl _ _) rfl hk)
        .subst b;obtain⟨U,V⟩:(e.g=true->ig (std n) cr.ck (uK (std n) cr λv h=>fF (std n) X C q rest K (RSt.put (std n) {s with h:=h,gs:=gs} o.dst none v)) r)/\(e.g=false->fF (std n) X C q rest K (RSt.put (std n) {s with gs:=AZ (std n) gs t} o.dst none (.tup [])) r):=hk;cases c:e.g with
         | true=>
          obtain⟨l,hk⟩:=gB (U c);obtain⟨v,k,m,hk⟩:=CK hk;obtain⟨v',k',u,e2,L⟩:=CJ hX p.heap p.len (H p (qO p.gs (w c) (f:=gs.length+1))) hcr l ⟨v,k,m⟩;rw [m]at u;cases u;refine T c _ _ (Gm a hd (L _ λpv N j O P I J=> ?_));have A:=p.zY I.same P J;exact z (s2:={s with h:=k,gs:=gs}) (A.put (tag:=none) ⟨pv,rfl,O⟩) I.O8 rfl hk
         | false=>
          have hk:=V c;have A:=p.kill i c;exact W c _ _ (z (s2:={s with gs:=AZ (std n) gs t}) (A.put (tag:=none) ⟨qz,rfl,acg⟩) (λ_=> .refl _ _) rfl hk)
       ·(subst b;exact hk.elim)
     ·(subst b;exact hk.elim)
    ·(subst b;exact hk.elim)
  ·(subst b;exact hk.elim)
end
end Go.TX
namespace Go.TX
open Go Go.AE List
variable [aB]
section
variable {n:Nat}
theorem ach{t:Slots}{r:Nat}:∀ {a:List Nat},r∈a->aY (cut t a) r=aY t r
 | [],h=>by simp at h
 | x::a,h=>by
  simp only [cut,aY];split
  .rename_i e;rw [e]
  .rename_i e;cases h with
   | head=>exact absurd rfl e
   | tail _ h=>exact ach h
theorem alu{h:List aN}{x:Cell}{y:SC}(a:RC (nmh h) x y){s:Sh}{f:Bool}{v:LV aF}(hk:fQ (std n) h s y=some (f,v,[])):∃g,(f=true->g=true)/\ZC x g (lvD s v):=by
 unfold fQ at hk;split at hk
 .rename_i f0 lf;split at hk
  .rename_i e;subst e;cases hk;cases a with | d i b=>
   rename_i k l;subst i;rw [Gb];refine⟨k || (pI lf).oG,λh=> ?_,.d _ _⟩;rw [jO];cases lf with
   | rows c j=>grind [Leaf.flag,Leaf.scalar]
   | _=>simp [Leaf.scalar]
  .cases hk
 .cases a;split at hk
  .cases hk;exact⟨true,λ_=>rfl,.nil _⟩
  .cases hk
 .rename_i f0 c j;cases a with | clip b=>
  split at hk
  .rename_i e;subst e;cases hk;exact⟨_,b,.clip _ _ _⟩
  .cases hk
 .split at hk
  all_goals simp_all
 .cases hk
theorem O9{h:List aN}:∀ {c:List Sh} {d:List SC} {b:List Cell} (_:F2 (RC (nmh h)) b d) {f:Bool} {a:List (LV aF)},aM (std n) h c d=some (f,a,[])->∃g,(f=true->g=true)/\ZCs b g (zipWith lvD c a)
 | [],[],b,hF,f,a,hk=>by simp [aM]at hk;obtain⟨rfl,rfl⟩:=hk;cases hF;exact⟨true,λ_=>rfl,.nil⟩
 | [],_::_,_,_,_,_,hk=>by simp [aM]at hk
 | _::_,[],_,_,_,_,hk=>by simp [aM]at hk
 | s::c,y::d,b,hF,f,a,hk=>by
  cases hF with | cons j i=>
  unfold aM at hk;split at hk
  .rename_i f1 v1 l1 hv1;split at hk
   .rename_i g2 vs2 ls2 hv2;split at hk
    .simp only [Option.some.injEq,Prod.mk.injEq,append_eq_nil_iff]at hk;obtain⟨rfl,rfl,rfl,rfl⟩:=hk;obtain⟨k,o,e⟩:=alu j hv1;obtain⟨m,p,l⟩:=O9 i hv2;exact⟨k&&m,λh=>by simp_all,.cons e l⟩
    .cases hk
   .cases hk
  .cases hk
theorem KE{N:NM}:∀ {a:List (Leaf aF)} {b:List Cell} {f:Bool},F2 (RC N) b (a.map (.d f))->∃g,(f=true\/(∀y∈a,y.scalar=true)->g=true)/\ZCs b g (a.map pI)
 | [],_,_,h=>by cases h;exact⟨true,λ_=>rfl,.nil⟩
 | y::a,_,f,.cons h1 h2=>by
  obtain⟨g,j,c⟩:=KE h2;cases h1 with | d e l=>
  rename_i i k;subst e;refine⟨(i || (pI y).oG)&&g,λh=> ?_,.cons (.d _ _) c⟩
  grind [jO,mem_cons_of_mem]
theorem aq8{h:List aN}{p:PV}{q:SVal}(d:PVR (nmh h) p q){c:Co}{f:Bool}{x:c.den}(hk:toX (std n) h c q=some (f,x,[])):∃g,(f=true->g=true)/\ZCs (aR p) g (c.row x):=by
 unfold toX at hk;split at hk
 .rename_i f' c' x';split at hk
  .rename_i e;subst e;cases hk;have b:=d.cells;have i:cellsS (.sv f' c' x')=(gq (std 0) c' x' 0 c'.fields).map (.d f'):=rfl;rw [i]at b;obtain⟨g,j,a⟩:=KE b;rw [nA]at a
   grind [lG]
  .cases hk
 .cases hk
 .split at hk
  .rename_i f1 ys ls1 h1;split at hk
   .rename_i t ht;simp only [Option.some.injEq,Prod.mk.injEq]at hk;obtain⟨rfl,rfl,rfl⟩:=hk;rw [dH]at h1;obtain⟨g,j,a⟩:=O9 d.cells h1
    grind [Ba]
   .cases hk
  .cases hk
theorem Zu{X:XT}{E:Tab}(hX:XOK X E){t:Slots}{e:Nat->Option SVal}{c:Co}{h:List aN}(j:EvR X E n (nmh h) t e):∀ {a:List (Nat×Operand)} {f:Bool} {b:List c.den} {k:List aN},sZ (std n) X e c h a=some (f,b,k,[])->
  ∃g,(f=true->g=true)/\b.length=a.length/\ZPs E t c.size a g (aO c b)
 | [],f,b,k,hk=>by
  simp only [sZ,Option.some.injEq,Prod.mk.injEq]at hk;obtain⟨rfl,rfl,_⟩:=hk;exact⟨true,λ_=>rfl,rfl,.nil⟩
 | (i,x)::r,f,b,k,hk=>by
  simp only [sZ]at hk;split at hk
  .rename_i v hv;split at hk
   .rename_i f1 y l1 hy;split at hk
    .rename_i g1 ys k1 l2 hys;simp only [Option.some.injEq,Prod.mk.injEq,append_eq_nil_iff]at hk;obtain⟨rfl,rfl,_,rfl,rfl⟩:=hk;obtain⟨pv,m,o⟩:=dO hX j hv;obtain⟨w,C,l⟩:=aq8 o hy;obtain⟨q,B,p,A⟩:=Zu hX j (h:=h) hys;have z:(aR pv).length=c.size:=by
      have:∀ {cs:List Cell} {g:Bool} {d:List D},ZCs cs g d->cs.length=d.length:=by
       intro cs g d u
       induction u with
       | nil=>rfl
       | cons _ _ s=>simp [s]
      rw [this l,tH]
     exact⟨w&&q,λh=>by simp_all,by simp [p],.cons m z l A⟩
    .cases hk
   .cases hk
  .cases hk
theorem aum{X:XT}{E:Tab}(hX:XOK X E){t:Slots}{e:Nat->Option SVal}{h:List aN}(o:EvR X E n (nmh h) t e){j:Op}{p:List Bool}{v:SVal}(hk:zX (std n) X e h j=some (p,v)):Gv (zA E j t) (nmh h) v:=by
 unfold zX at hk;split at hk
 .rename_i ty len parts;rw [hX.ty]at hk;split at hk
  .rename_i y hy;split at hk
   .rename_i el hd;split at hk
    .rename_i z c hz hco;split at hk
     .rename_i hcond;simp only [Bool.and_eq_true,Bool.not_eq_true',beq_iff_eq,beq_eq_false_iff_ne,ne_eq]at hcond;obtain⟨⟨⟨i,m⟩,a⟩,b⟩:=hcond;have b:=Nat.le_of_ble_eq_true b;obtain⟨w,d,r⟩:=gL hX i;rw [hz]at d;cases d;split at hk
      .rename_i f xs k hps;cases hk;obtain⟨g,q,s,u⟩:=Zu hX o hps;have l:xs.length=len:=by
        have:=congrArg List.length a
        grind
       refine⟨.c (.clip g c.size (aO c xs)),.ofC (.clip q),λK hK=> ?_⟩
       grind [zA,aD,aO,aU]
      .cases hk
     .cases hk
    .cases hk
   .cases hk
  .cases hk
 .cases hk
theorem Pb{E:Tab}{N:NM}{d a:Heap}{ty:TypeId}{pv:PV}{q:SVal}(b:PVR N pv q)(h:∀l∈wI (std n) q,AE.look a l=AE.look d l)(K:PV->Prop):mP E a ty pv K=mP E d ty pv K:=by
 have g:∀l f i j,pv= .c (.ptr l f i j)->AE.look a l=AE.look d l:=by
  intro l f i j e;subst e;cases b with | one b=>cases b with | c hc=>
  cases hc with
  | pb=>simp_all [wI]
  | pr _=>simp_all [wI]
 grind [mP,aD]
theorem stable{X:XT}{E:Tab}(hX:XOK X E){N:NM}{d b:Heap}{t:Slots}{e:Nat->Option SVal}(i:EvR X E n N t e){a:Op}(g:∀l∈iC (std n) X e a,AE.look b l=AE.look d l)(c:isLoad a=true->∃ty x q,a= .load ty x/\evX (std n) X e x=some q)(K:PV->Prop):
  gX E a t b K=gX E a t d K:=by
 cases hL:isLoad a with
 | false=>rw [zR hL]
 | true=>
  obtain⟨ty,x,q,rfl,f⟩:=c hL;obtain⟨pv,h,j⟩:=dO hX i f;simp only [iC,f]at g;unfold gX;simp only;rw [h];simp only [aT];exact Pb j g K
def HI(E:Tab)(ops:List Oper)(c:Heap)(h:List aN)(b:List Held)(d:List (Nat×List Nat)):Prop:=∀p∈d,(∀l∈p.2,l<h.length)/\∃o t v,qJ b p.1=some (o,t,v)/\
 ∀a,(∀l∈p.2,AE.look a l=AE.look c l)->jd E ops o t a (λe=>e=v)
theorem HI.turn{E:Tab}{ops:List Oper}{f b:Heap}{h k:List aN}{a:List Held}{g:List (Nat×List Nat)}(H:HI E ops f h a g){i:List Nat}(x:jf f h b k i):HI E ops b k a (pG g i):=by
 intro p d;simp only [pG,mem_filter]at d;obtain⟨d,hn⟩:=d;obtain⟨j,o,t,v,q,n⟩:=H p d;refine⟨λl c=>Nat.lt_of_lt_of_le (j l c) x.len,o,t,v,q,λe m=>n e λl c=> ?_⟩;have:=all_eq_true.1 hn l c;rw [m l c,(x.keep l (j l c) (by simpa using this)).2]
theorem Bh(a:List (Nat×List Nat)):pG a []=a:=by grind [pG,filter_eq_self]
theorem EI{E:Tab}{ops:List Oper}{e a:Heap}{h k:List aN}{b:List Held}{f:List (Nat×List Nat)}(H:HI E ops e h b f){i:List Nat}(x:jf e h a k i):∀ {cs:List Nat},cs.all (LG f i)=true->QS E ops a b cs
 | [],_=>trivial
 | j::r,hc=>by
  simp only [all_cons,Bool.and_eq_true]at hc;refine⟨?_,EI H x hc.2⟩;have d:=hc.1;simp only [LG,any_eq_true,Bool.and_eq_true,beq_iff_eq]at d;obtain⟨p,q,c,g⟩:=d;obtain⟨s,o,t,v,n,m⟩:=H p q;rw [<-c,n];refine m a λl u=>(x.keep l (s l u) ?_).2
  simp_all
theorem HI.push{E:Tab}{ops:List Oper}{h':Heap}{h:List aN}{a:List Held}{f:List (Nat×List Nat)}(H:HI E ops h' h a f){i:Nat}(m:¬(f.any λp=>p.1==i)=true){j:List Nat}{o:Oper}{t:Slots}{v:Option PV}
  (g:∀l∈j,l<h.length) (d:∀b,(∀l∈j,AE.look b l=AE.look h' l)->jd E ops o t b (λk=>k=v)):HI E ops h' h ((i,o,t,v)::a) ((i,j)::f):=by
 intro p c;cases c with
 | head=>exact⟨g,o,t,v,by simp [qJ],d⟩
 | tail _ c=>
  obtain⟨u,s,w,k,r,q⟩:=H p c;have n:i≠p.1:=λe=>m (by rw [any_eq_true];exact⟨p,c,by simp [e]⟩)
  grind [Oz]
theorem KF{E:Tab}{X:XT}{N:NM}{t:Slots}{e:Nat->Option SVal}(d:EvR X E n N t e){k:Int}:∀ {l:List (Int×Nat)} {b:Bool},EF (std n) e k l=some b->∀K:Bool->Prop,K b->FH t k l K
 | [],b,h,K,a=>by cases h;exact a
 | (k',r)::rest,b,h,K,a=>by
  unfold EF at h;split at h
  .rename_i f b1 hr;split at h
   .rename_i q hq;cases h;obtain⟨pv,j,i⟩:=d r _ hr;obtain⟨g,rfl⟩:=i.bool;refine⟨g,b1,j,?_⟩;have a:K (bif decide (k=k')then b1 else q):=a;by_cases c:k=k'
    .simp_all
    .rw [if_neg c];rw [decide_eq_false c]at a;exact KF d hq K a
   .cases h
  .cases h
theorem Rn{X:XT}{g:List Oper}{e:Nat->Option SVal}{h:List aN}{f:Op}(c:FK f=true):Rb (std n) X g e h f=match zX (std n) X e h f with | some r=>some (some r) | none=>none:=by
 cases f
 case makeMap=>cases c
 case insert=>cases c
 case move=>cases c
 case lookup a b q d=>cases q<;>first | rfl | cases c
 all_goals grind [Rb,zX]
theorem map_ok{X:XT}{E:Tab}(hX:XOK X E){ops:List Oper}{t:Slots}{e:Nat->Option SVal}{h:List aN}(k:EvR X E n (nmh h) t e){i:Op}{r:Option (List Bool×SVal)}(hk:Rb (std n) X ops e h i=some r):
  match r with | none=>∀K:Option PV->Prop,K none->zM E ops i t K | some (_,v)=>∃pv,PVR (nmh h) pv v/\∀K:Option PV->Prop,K (some pv)->zM E ops i t K:=by
 by_cases l:FK i=true
 .rw [Rn l]at hk;split at hk
  .rename_i q hq;cases hk;obtain⟨p,v⟩:=q;obtain⟨pv,j,o⟩:=aum hX k hq
   grind [AJ]
  .cases hk
 .cases i
  case makeMap=>cases hk;exact λK h=>h
  case insert a b c v=>
   cases v with
   | tmp r=>
    simp only [Rb]at hk;cases hq:e r with
    | some q=>
     rw [hq]at hk;cases hk;obtain⟨pv,j,_⟩:=k _ _ hq;exact λK h=>⟨⟨pv,j⟩,h⟩
    | none=>grind
   | _=>cases hk
  case move x=>
   simp only [Rb]at hk;split at hk
   .rename_i hs;cases hk;exact λK h=>⟨hs,h⟩
   .cases hk
  case lookup a b q d=>
   cases q with
   | tmp q=>
    simp only [Rb]at hk;split at hk
    .rename_i f m hq;split at hk
     .rename_i bb hb;cases hk;obtain⟨pv,j,o⟩:=k _ _ hq;obtain⟨g,rfl⟩:=o.int;exact⟨_,.ofC (.d rfl λ_=> .inl rfl),λK hK=>⟨g,m,j,KF k hb _ hK⟩⟩
     .cases hk
    .cases hk
   | _=>exact absurd rfl l
  all_goals exact absurd rfl l
theorem zZ{X:XT}{gs:List (GE (std n))}{lk:Nat->Option (SV (std n))}{h:List aN}{cur:Option Nat}{b:Op}{d:List Bool}{v:SVal}(hk:wG (std n) X lk gs h cur b=some (d,v))(a:isLoad b=true):
  (∃ty x q,b= .load ty x/\evX (std n) X (gY (std n) lk (eU (std n) gs cur)) x=some q)/\∀l∈iC (std n) X (gY (std n) lk (eU (std n) gs cur)) b,l<h.length:=by
 cases b<;>simp only [isLoad,Bool.false_eq_true]at a
 rename_i ty x;simp only [wG,Zb]at hk;obtain⟨q,c,hk⟩:=eD hk;refine⟨⟨ty,x,q,rfl,c⟩,λl a=> ?_⟩;simp only [iC,c]at a;unfold OE at hk;split at hk
 .cases hk
 .unfold wI at a;split at a
  all_goals grind
end
end Go.TX
namespace Go.TX
open Go Go.AE List
variable [aB]
section
variable {n:Nat}
theorem CO(gs:List (GE (std n))):eU (std n) gs none=[]:=by unfold eU;rw [Ra];simp
theorem Gn{E:Tab}{ops:List Oper}{o:Oper}(a:o.guard=none)(t:Slots)(h:Heap)(K:Option PV->Prop):jd E ops o t h K=gX E o.op t h λv=>K (some v):=by unfold jd;rw [a]
theorem tN{E:Tab}{ops:List Oper}{o:Oper}{j d:Nat}{w:Bool}(a:o.guard=some (j,w))(hd:gslot ops j=some d)(t:Slots)(h:Heap)(K:Option PV->Prop):
 jd E ops o t h K=mZ (aY t d) w (gX E o.op t h λv=>K (some v)) (K (some qz)):=by unfold jd;rw [a];simp only;rw [hd];rfl
theorem LU{X:XT}{E:Tab}(hX:XOK X E){C:Calls aF}{ops:List Oper}{ρ:Type}{K:RSt (std n)->(ρ->Prop)->Prop}{r:ρ->Prop}{h0:List aN}{m0:Nat}:∀ {rest:List fM} {hs:List (Nat×List Nat)} {hs':List Held} {u:St} {s:RSt (std n)},SR u s->(∀k,Keep k h0 s.h)->s.m=m0->
    HI E ops u.h s.h hs' hs->jr (std n) X C ops rest hs K s r->
    fD E (lZ C) ops rest hs' (λG=>∃z,SR G z/\(∀k,Keep k h0 z.h)/\z.m=m0/\K z r) u
  | [],hs,hs',u,s,S,hK0,hm0,HH,hk=>⟨s,S,hK0,hm0,hk⟩
  | (i,rs,cs)::rest,hs,hs',u,s,S,hK0,hm0,HH,hk=>by
    generalize c:jr (std n) X C ops ((i,rs,cs)::rest) hs K s=M at hk;unfold jr at c;unfold fD;split at c
    · (subst c;exact hk.elim)
    · rename_i o ho;rw [ho];simp only [ajU];split at c
      · rename_i b6;have hd:dOK u.m o.dst:=by rw [S.m];exact acf b6
        refine⟨hd,?_⟩;simp only at c;have V:∀i J,(if rs.contains i then dN (std n) s.t i else none)=some J->dN (std n) s.t i=some J:=λi J h=>by
          split at h
          · exact h
          · cases h
        have aci:∀d,(if rs.contains d then dN (std n) s.t d else none).isSome->aY (cut u.t rs) d=aY u.t d:=λd h=>by
          split at h
          · rename_i hc;exact ach (by simpa using hc)
          · cases h
        have I:∀ {gs:List (GE (std n))},SR u {s with gs:=gs}->∀ {al:List Nat},(∀t∈al,∃e,gs[t]? =some e/\e.g=true)->EvR X E n (nmh s.h) (cut u.t rs) (gY (std n) (λi=>if rs.contains i then dN (std n) s.t i else none) al):=
          λx _ c3=>sH (t':=u.t) aci (λi J h=>x.val i J (V i J h)) c3
        have Q:∀ {a6:St} {s2:RSt (std n)} {tag:Option Nat} {v:SVal} {a9:List (Nat×List Nat)} {alv:List Held},SR a6 (s2.put (std n) o.dst tag v)->(∀k,Keep k s.h s2.h)->s2.m=s.m->HI E ops a6.h s2.h alv a9->jr (std n) X C ops rest a9 K (s2.put (std n) o.dst tag v) r->
            fD E (lZ C) ops rest alv (λG=>∃z,SR G z/\(∀k,Keep k h0 z.h)/\z.m=m0/\K z r) a6:=by
          intro a6 s2 tag v a9 alv U b1 b8 H a8;have F:=aj0 (n:=n) (s:=s2) (d:=o.dst) (tag:=tag) (v:=v);exact LU hX (rest:=rest) U (λk=>by rw [F.1];exact(hK0 k).trans (b1 k)) (by rw [F.2,b8,hm0]) (by rw [F.1];exact H) a8
        have LW:∀(d:Option Nat) (v:Option PV),(u.put d v).h=u.h:=λd v=>by cases d<;>rfl
        split at c
        ·
          rename_i b;split at c
          · (subst c;exact hk.elim)
          rename_i L;split at c
          · rename_i a;rw [b];split at c
            · rename_i ps v y;subst c;obtain⟨q,hk⟩:=gB hk;rw [EH]at hk;have sI:∀i J,(if rs.contains i then dN (std n) s.t i else none)=some J->Bf s.gs u.t (nmh s.h) i J:=λi J h=>S.val i J (V i J h)
              obtain⟨pv,p1,Y⟩:=yB hX S.heap S.gs aci sI (cur:=none) (λt h=>by cases h) y q;simp only;rw [Gn a];have a0:=I S (al:=eU (std n) s.gs none) (λt h=>by rw [CO]at h;simp at h);rw [CO]at a0;have b0:=λN=>zZ y N
              rw [CO]at b0;have b9:∀w,(∀l∈iC (std n) X (gY (std n) (λi=>if rs.contains i then dN (std n) s.t i else none) []) o.op,AE.look w l=AE.look u.h l)->jd E ops o (cut u.t rs) w (λv'=>v'=some pv):=λw hh=>by
                rw [Gn a,stable hX a0 hh (λN=>(b0 N).1)];exact Y _ rfl
              have a5:∀l∈iC (std n) X (gY (std n) (λi=>if rs.contains i then dN (std n) s.t i else none) []) o.op,l<s.h.length:=λl T=>by
                cases N:isLoad o.op with
                | true=>exact(b0 N).2 l T
                | false => unfold iC at T; split at T
                           · rename_i R;rw [R]at N;simp [isLoad]at N
                           · simp at T
              exact Y _ (Q (s2:=s) (S.put (tag:=none) ⟨pv,rfl,p1⟩) (λ_=> .refl _ _) rfl (by rw [LW];exact HH.push L a5 b9) hk)
            · (subst c;exact hk.elim)
          · rename_i j want a;rw [b];split at c
            · rename_i d O;have A:=λhb=>Gj S (lk:=λi=>if rs.contains i then dN (std n) s.t i else none) V (tt:=cut u.t rs) (d:=d) (want:=want) (aci d) rfl hb
              simp only;rw [tN a O];split at c
              · rename_i W;rw [W]at A;subst c;cases A (by simp)with | skip h=>
                refine h _ _ (Q (s2:=s) (S.put (tag:=none) ⟨qz,rfl,acg⟩) (λ_=> .refl _ _) rfl (by rw [LW];exact HH.push L (λl T=>by simp at T) (λw _=>by rw [tN a O];exact h _ _ rfl)) hk)
              · rename_i gs t g W;rw [W]at A;cases A (by simp)with | run x m p sI hT hF=>
                rename_i e;subst p;split at c
                · rename_i ps v y;subst c;obtain⟨q,hk⟩:=gB hk;have a5:∀l∈iC (std n) X (gY (std n) (λi=>if rs.contains i then dN (std n) s.t i else none) (eU (std n) gs (some t))) o.op,l<s.h.length:=λl T=>by
                    cases N:isLoad o.op with
                    | true=>exact(zZ y N).2 l T
                    | false => unfold iC at T; split at T
                               · rename_i R;rw [R]at N;simp [isLoad]at N
                               · simp at T
                  cases p:e.g with
                  | true=>
                    have B:∀t0,some t=some t0->∃e,gs[t0]? =some e/\e.g=true:=λt0 ht=>by cases ht;exact⟨e,m,p⟩
                    obtain⟨pv,p1,Y⟩:=yB hX x.heap x.gs aci (λi J h=>sI i J (V i J h)) B y (Bg q p);have a0:EvR X E n (nmh s.h) (cut u.t rs) (gY (std n) (λi=>if rs.contains i then dN (std n) s.t i else none) (eU (std n) gs (some t))):=I x (qO x.gs B (f:=gs.length+1));refine hT p _ _ (Y _ (Q (s2:={s with gs:=gs}) (x.put (tag:=some t) ⟨e,m,λ_=>⟨pv,rfl,p1⟩,λh=>by rw [p]at h;cases h⟩) (λ_=> .refl _ _) rfl (by
                      rw [LW];refine HH.push L a5 (λw hh=> ?_);rw [tN a O,stable hX a0 hh (λN=>(zZ y N).1)];exact hT p _ _ (Y _ rfl)) hk))
                  | false=>
                    exact hF p _ _ (Q (s2:={s with gs:=gs}) (x.put (tag:=some t) ⟨e,m,λh=>(by rw [p]at h;cases h),λ_=>rfl⟩) (λ_=> .refl _ _) rfl (by
                      rw [LW];refine HH.push L a5 (λw hh=> ?_);rw [tN a O];exact hF p _ _ rfl) hk)
                · (subst c;exact hk.elim)
              · (subst c;exact hk.elim)
            · (subst c;exact hk.elim)
        · rename_i b;rw [b];split at c
          · rename_i ps v y;subst c;obtain⟨q,hk⟩:=gB hk;obtain⟨pv,p1,Y⟩:=map_ok hX (ops:=ops) (I S (al:=[]) (λt h=>by simp at h)) y;simp only;exact Y _ (Q (s2:=s) (S.put (tag:=none) ⟨pv,rfl,p1⟩) (λ_=> .refl _ _) rfl (by rw [LW];exact HH) hk)
          · rename_i y;subst c;have Y:=map_ok hX (ops:=ops) (I S (al:=[]) (λt h=>by simp at h)) y;simp only;refine Y _ ?_;have F:=aq6 (n:=n) (s:=s) (d:=o.dst);exact LU hX (rest:=rest) S.del (λk=>by rw [F.1];exact hK0 k) (by rw [F.2,hm0]) (by rw [F.1,LW];exact HH) hk
          · (subst c;exact hk.elim)
        · rename_i b;rw [b];split at c
          · rename_i W y;subst c;obtain⟨q,hk⟩:=gB hk;have c0:EvR X E n (nmh s.h) [] (λ_=>none):=λi v h=>by cases h
            obtain⟨pv,w,j,q1,q2,q3,q4,q5⟩:=LP hX S.heap S.len c0 y q;simp only;have U:=S.zY q3.same q2 q4;have b3:W.touched=[]:=by
              unfold kindOf at b;split at b
              · rename_i ty R;rw [R]at y;simp only [F3]at y;split at y
                · split at y
                  · split at y<;>(cases y;rfl)
                  · cases y;rfl
                  · cases y
                · cases y
              all_goals first | cases b | (split at b<;>cases b)
            have H:=HH.turn q3;rw [b3,Bh]at H;exact q5 _ (Q (s2:={s with h:=W.h}) (U.put (tag:=none) ⟨pv,rfl,q1⟩) q3.O8 rfl (by cases o.dst<;>exact H) hk)
          · (subst c;exact hk.elim)
        · rename_i b4 b7 a8;split at c
          · rename_i a;split at c
            · rename_i cr a7;split at c
              · rename_i Z;subst c;obtain⟨q,hk⟩:=gB hk;obtain⟨v,k,D,hk⟩:=CK hk;obtain⟨v',k',F,_,e3⟩:=CJ hX S.heap S.len (I S (al:=[]) (λt h=>by simp at h)) a7 q ⟨v,k,D⟩;rw [D]at F;cases F;split
                · rename_i h;exact absurd h b4
                · rename_i h;exact absurd h b7
                · rename_i h;exact absurd h a8
                · rw [a];refine e3 _ λpv w j a1 a2 P a4=>⟨EI HH P Z,?_⟩
                  have U:=S.zY P.same a2 a4;exact Q (s2:={s with h:=k}) (U.put (tag:=none) ⟨pv,rfl,a1⟩) P.O8 rfl (by cases o.dst<;>exact HH.turn P) hk
              · (subst c;exact hk.elim)
            · (subst c;exact hk.elim)
          · rename_i j want a;split at c
            · rename_i d O;have A:=λhb=>Gj S (lk:=λi=>if rs.contains i then dN (std n) s.t i else none) V (tt:=cut u.t rs) (d:=d) (want:=want) (aci d) rfl hb
              have b5:mZ (aY (cut u.t rs) d) want
                  (aaF E (lZ C) o (cut u.t rs) u λv h k=>QS E ops h hs' cs/\fD E (lZ C) ops rest hs' (λG=>∃z,SR G z/\(∀k,Keep k h0 z.h)/\z.m=m0/\K z r) (St.put {u with h:=h,k:=k} o.dst (some v)))
                  (fD E (lZ C) ops rest hs' (λG=>∃z,SR G z/\(∀k,Keep k h0 z.h)/\z.m=m0/\K z r) (u.put o.dst (some qz))):=by
                split at c
                · rename_i W;rw [W]at A;subst c;cases A (by simp)with | skip h=>
                  exact h _ _ (Q (s2:=s) (S.put (tag:=none) ⟨qz,rfl,acg⟩) (λ_=> .refl _ _) rfl (by rw [LW];exact HH) hk)
                · rename_i gs t g W;rw [W]at A;cases A (by simp)with | run x m p sI hT hF=>
                  rename_i e;subst p;have B:e.g=true->∀t0,some t=some t0->∃e,gs[t0]? =some e/\e.g=true:=λh t0 ht=>by cases ht;exact⟨e,m,h⟩
                  split at c
                  · rename_i cr a7;split at c
                    · rename_i Z;split at c
                      · rename_i b2;subst c;obtain⟨q,hk⟩:=gB hk;obtain⟨v,k,D,hk⟩:=CK hk;cases p:e.g with
                        | true=>
                          obtain⟨v',k',F,e2,e3⟩:=CJ hX x.heap x.len (I x (qO x.gs (B p) (f:=gs.length+1))) a7 (Bg q p) ⟨v,k,D⟩;rw [D]at F;cases F;obtain⟨rfl,b3⟩:=e2 b2;refine hT p _ _ (e3 _ λpv w j a1 a2 P a4=>⟨EI HH P Z,?_⟩);have U:=x.zY (Same.refl _) a2 a4;have H:=HH.turn P;rw [b3,Bh]at H;exact Q (s2:={s with gs:=gs}) (U.put (tag:=some t) ⟨e,m,λ_=>⟨pv,rfl,a1⟩,λh=>by rw [p]at h;cases h⟩) (λ_=> .refl _ _) rfl (by cases o.dst<;>exact H) hk
                        | false=>
                          exact hF p _ _ (Q (s2:={s with gs:=gs}) (x.put (tag:=some t) ⟨e,m,λh=>(by rw [p]at h;cases h),λ_=>rfl⟩) (λ_=> .refl _ _) rfl (by rw [LW];exact HH) hk)
                      · subst c;obtain⟨c2,c1⟩:(e.g=true->ig (std n) cr.ck (uK (std n) cr λv h=>jr (std n) X C ops rest (pG hs cr.touched) K (RSt.put (std n) {s with h:=h,gs:=gs} o.dst none v)) r)/\(e.g=false->jr (std n) X C ops rest hs K (RSt.put (std n) {s with gs:=AZ (std n) gs t} o.dst none (.tup [])) r):=hk;cases p:e.g with
                        | true=>
                          obtain⟨q,hk⟩:=gB (c2 p);obtain⟨v,k,D,hk⟩:=CK hk;obtain⟨v',k',F,e2,e3⟩:=CJ hX x.heap x.len (I x (qO x.gs (B p) (f:=gs.length+1))) a7 q ⟨v,k,D⟩;rw [D]at F;cases F;refine hT p _ _ (e3 _ λpv w j a1 a2 P a4=>⟨EI HH P Z,?_⟩);have U:=x.zY P.same a2 a4;exact Q (s2:={s with h:=k,gs:=gs}) (U.put (tag:=none) ⟨pv,rfl,a1⟩) P.O8 rfl (by cases o.dst<;>exact HH.turn P) hk
                        | false=>
                          have hk:=c1 p;have U:=x.kill m p;exact hF p _ _ (Q (s2:={s with gs:=AZ (std n) gs t}) (U.put (tag:=none) ⟨qz,rfl,acg⟩) (λ_=> .refl _ _) rfl (by rw [LW];exact HH) hk)
                    · (subst c;exact hk.elim)
                  · (subst c;exact hk.elim)
                · (subst c;exact hk.elim)
              split
              · rename_i h;exact absurd h b4
              · rename_i h;exact absurd h b7
              · rename_i h;exact absurd h a8
              · rw [a];simp only;rw [O];exact b5
            · (subst c;exact hk.elim)
      · (subst c;exact hk.elim)
end
end Go.TX
namespace Go.TX
open Go Go.AE List
variable [aB]
section
variable {n:Nat}
theorem KG{s:RSt (std n)}:∀ {l:List (Nat×SkV)} {b e:ES (std n)},wJ (std n) s.t s.h l b=some e->
  ∃a,F2 (λi v=>dN (std n) s.t i=some ⟨none,v⟩) (l.map (·.1)) a/\qL (std n) s.h (l.map (·.2)) a b=some e
 | [],b,e,h=>by simp only [wJ,Option.some.injEq]at h;subst h;exact⟨[],.nil,rfl⟩
 | p::l,b,e,h=>by
  simp only [wJ]at h;split at h
  .rename_i v hl;split at h
   .rename_i e1 h1;obtain⟨a,c,d⟩:=KG (l:=l) h;exact⟨v::a,.cons hl c,by grind [qL]⟩
   .cases h
  .cases h
theorem LY{k:Nat}{os:List SkO}{i:Nat}(a:i<k)(b:i<os.length):(es0 (std n) k os).ren[i]? =some (if tu os[i]? then none else some (some i)):=by
 have c:Nat.blt i k=true:=by simpa using a
 grind [es0,getElem?_range,tu]
theorem LZ(k:Nat)(os:List SkO):(es0 (std n) k os).ren.length=os.length:=by simp [es0]
theorem L6{c:Ctx}{w:World}{N:NM}{us:List Value}{e:List SVal}(h:F2 (WV c w N) us e):∃d,F2 (bK c w) us d/\F2 (PVR N) d e:=by
 induction h with
 | nil=>exact⟨[],.nil,.nil⟩
 | cons j _ f=>
  obtain⟨p,a,b⟩:=j;obtain⟨d,i,g⟩:=f;exact⟨p::d,.cons a i,.cons b g⟩
theorem Gp{N:NM}:∀ {b:List Nat} {d:List SVal} {a:List PV},F2 (PVR N) a d->∀i c,dN (std n) (b.zip (d.map λv=>(⟨none,v⟩:SV (std n)))) i=some c->c.tag=none/\∃pv,aY (b.zip (a.map some)) i=some pv/\PVR N pv c.v
 | [],d,a,_,i,c,h=>by simp [dN]at h
 | j::b,[],a,hF,i,c,h=>by simp [dN]at h
 | j::b,v::d,a,hF,i,c,h=>by
  cases hF with | cons f h2=>
  simp only [map_cons,zip_cons_cons,pO]at h ⊢;simp only [aY];split at h
  .grind
  .rename_i e;rw [if_neg e];exact Gp h2 i c h
theorem Gq{c:Ctx}{w:World}{a:Act}:∀ {d:List Nat} {us:List Value} {b:List PV},F2 (bK c w) us b->F2 (λi u=>a.tmps[i]? =some u) d us->∀i v,aY (d.zip (b.map some)) i=some v->∃u,a.tmps[i]? =some u/\bK c w u v
 | [],us,b,_,_,i,v,h=>by simp [aY]at h
 | j::d,us,b,hF,hI,i,v,h=>by
  cases hI with | cons g e=>
  cases hF with | cons f h2=>
  simp only [map_cons,zip_cons_cons,aY]at h;split at h
  .simp_all
  .exact Gq h2 e i v h
theorem Gr{E:Tab}{e:St}{s:RSt (std n)}(S:SR e s){c:Ctx}{w:World}{a:Act}(A:nO E e c w a):∀ {b:List Nat} {d:List SVal},F2 (λi v=>dN (std n) s.t i=some ⟨none,v⟩) b d->∃us,F2 (λi u=>a.tmps[i]? =some u) b us/\F2 (WV c w (nmh s.h)) us d
 | [],_,h=>by cases h;exact⟨[],.nil,.nil⟩
 | i::b,_,.cons h1 h2=>by
  obtain⟨us,m,j⟩:=Gr S A h2;obtain⟨pv,g,l⟩:=S.val i _ h1;obtain⟨u,f,k⟩:=A.abs.slot i pv g;exact⟨u::us,.cons f m,.cons ⟨pv,k,l⟩ j⟩
def νX(e:ES (std n))(h:List aN)(c:Ctx)(i:Nat):Option (Nat×Nat):=match e.ren[i]? with | some (some (some l))=>Gg (trK e h i l) (c.ν l) | some (some none)=>none | _=>c.ν i
theorem Pf(w:World)(K:Bool->Nat->Prop)(ν:Nat->Option (Nat×Nat))(k:Nat)(a:∀f b,K f b->b<w.heap.size)(c:∀b,K true b->K false b):bL {K:=K,ν:=ν,n:=k} w []:=
 ⟨λl o h=>by simp [AE.look]at h,λl o e g b h=>by simp [AE.look]at h,λf b ⟨l,o,d,_⟩=>by simp [AE.look]at d,a,c⟩
theorem L8{E:Tab}{k:Nat}{p:eO}{s:RSt (std n)}{ck:List Bool}{x:iQ p.tys}(y:F7 (std n) k p s=some (ck,x))(J:∀b∈ck,b=true){s':St}(S:SR s' s){c:Ctx}{w:World}{a:Act}(A:nO E s' c w a)
  {X:Ctx} {w0:World} {r:Heap} (b8:X.n=k) (g:Grow X w0 r c w s'.h) {m:Nat} (hm:s.m=m):
  ∃c2 L,Grow X w0 r c2 w L.h/\nO E L c2 w a/\SR L (uL (std n) p m x)/\Keep k s.h (uL (std n) p m x).h/\(uL (std n) p m x).m=m:=by
 unfold F7 at y;split at y
 .cases y
 rename_i D;have D:k<=p.objs.length:=by simp_all
 split at y
 .rename_i e1 he1;split at y
  .rename_i e he;split at y
   .rename_i jX;split at y
    .rename_i x' hx';cases y;have jX:=LQ jX;obtain⟨vs,v1,v2⟩:=KG he1;obtain⟨us,u1,u2⟩:=Gr S A v1;obtain⟨V,a0,a1,M,a3,a4⟩:=wN (λi=>i) v2;obtain⟨Q,F,b1,O,b3,b4,b5⟩:=sF (λi=>i) (λ_=>(.gone .i64 0:aN)) (λ_=>⟨.i64,0,rfl⟩) he;have a5:e.lv.reverse=V++Q:=by grind [es0]
     have R:=unpack_pack hx';rw [a5]at R;have a7:e.ren.length=p.objs.length:=by rw [O.len,M.len,LZ]
     have T:∀(j:Nat) (Z:SkO),p.objs[j]? =some Z->∃P,F[j]? =some P/\OF e s.h (λi=>i) j Z (.gone .i64 0) P:=λj Z hj=>by
      obtain⟨P,G,C⟩:=b5 e (.refl _) j Z hj;simp_all
     have DK:uL (std n) p m x={t:=(p.slots.map (·.1)).zip (a0.map λv=>(⟨none,v⟩:SV (std n))),gs:=[],h:=F,m:=m}:=by
      unfold uL;rw [R,a3];simp only;have:=b3 [];simp_all
     have H:=A.abs.heap
     obtain⟨o',m1,m2,m3,m4,m5,_⟩:=zW (ks:=p.objs) (nm:=λi=>i) (old:=λ_=>(.gone .i64 0:aN)) H S.heap J jX a7 b4 T (cb:={K:=λ_ _=>False,ν:=νX e s.h c,n:=k}) (hb':=[])
      (Pf w _ _ _ (λ_ _ h=>h.elim) (λ_ h=>h)) false (λh=>by cases h) (ν2:=νX e s.h c) (n2:=p.objs.length) D (λ_ _=>rfl) (λi N=>N) (λi j _ _ h=>h)
      (λi l N=>by grind [νX]) (λi N=>by grind [νX]) (h2:=F) (λi _=>rfl)
      (λl o z ho=>by grind) (λ_ _=>rfl)
      (λb ⟨l,o,z,_⟩ _=>by simp [AE.look]at z) (λf b h _=>h) (λf b ⟨l,o,z,_⟩ _=>by simp [AE.look]at z)
     have b6:∀l,l<k->νX e s.h c l=c.ν l:=λl z=>by
      have r:=LY (n:=n) z (Nat.lt_of_lt_of_le z D) (os:=p.objs);unfold νX;by_cases Y:tu p.objs[l]? =true
      .have I:p.objs[l]? =some .gone:=by grind [tu]
       cases hr:e.ren[l]? with
       | none=>rfl
       | some q=>
        cases q with
        | none=>rfl
        | some v=>exact absurd I (jX.gone hr)
      .rw [if_neg Y]at r;have:=O.ren l _ (M.ren l _ r);rw [this];have ht:j6 (std n) e l=none:=by rw [O.tr l _ (M.ren l _ r),M.tr l _ r];rfl
       show Gg (trK e s.h l l) (c.ν l)=c.ν l;rw [pK ht,lH]
     have a9:Grow X w0 r {K:=λf b=>False\/KX e c false f b,ν:=νX e s.h c,n:=p.objs.length} w (uO (λi=>i) o' (range p.objs.length) []):=by
      refine⟨⟨λf b B=> .inr (.inl (by simpa using g.le.K f b B)),by simp_all,λl z=> ?_⟩,g.size,g.stays,g.kept,λf b B=> ?_,λb B=> ?_,g.os,g.tape,g.output⟩
      .show νX e s.h c l=X.ν l;rw [b6 l ah];exact g.le.ν l z
      .rcases B with B | B | ⟨l,f',G,C,q3⟩
       .exact B.elim
       .exact g.yT f b (by simpa using B)
       .obtain⟨_,g',cc,xs,z⟩:=jX.fro l f' G;obtain⟨P,b0,hO⟩:=S.heap.old l _ z;cases hO with | rows _=>
        exact .inr ((g.qV b ⟨l,_,b0,trivial,C⟩).elim .inr .inl)
      .rcases m4 b B with⟨l,o,z,_⟩ | ⟨i,lq,q,_,G,C,q3⟩
       .simp [AE.look]at z
       .exact g.qV b ⟨lq,q,G,C,q3⟩
     obtain⟨a6,p1,p2⟩:=L6 (a4 H S.heap (O) J m3 (λh=>by cases h) u2);refine⟨_,{t:=(p.slots.map (·.1)).zip (a6.map some),h:=uO (λi=>i) o' (range p.objs.length) [],n:=p.objs.length,k:=0,m:=m},a9,⟨⟨λi v hv=>Gq p1 u1 i v hv,m1,?_⟩,rfl,A.defers,by rw [A.size,S.m,hm]⟩,?_,?_,by rw [DK]⟩
     .intro gg d hd;obtain⟨G,u,C,q3⟩:=A.abs.glob gg d hd;exact⟨.inr (.inl (by simpa using G)),u,C,q3.mono' λb B=> .inr (.inl (by simpa using B))⟩
     .rw [DK];refine⟨m2,by simp [nm,b4],rfl,λi sv N=> ?_,λt e he=>by simp at he⟩
      grind [Gp,Bf]
     .rw [DK];intro i N;have W:i<p.objs.length:=Nat.lt_of_lt_of_le N D;have a8:p.objs[i]? =some p.objs[i]:=getElem?_eq_getElem W;obtain⟨P,G,C⟩:=T i _ a8;have r:=LY (n:=n) N W;by_cases Y:p.objs[i]= .gone
      .have:Gone F i:=⟨.i64,0,by rw [G,C.gone Y]⟩;simp_all
      .have hig:tu p.objs[i]? =false:=by grind [tu,absurd,Option.some.inj]
       rw [hig]at r;have r:(es0 (std n) k p.objs).ren[i]? =some (some (some i)):=by simpa using r
       have U:=O.ren i _ (M.ren i _ r);have b7:j6 (std n) e i=none:=by rw [O.tr i _ (M.ren i _ r),M.tr i _ r];rfl
       refine⟨λ⟨cc,nn,I⟩=> ?_,λx y=> .inr ?_⟩
       .obtain⟨oo,r1,r2,r3,r4⟩:=C.rel H S.heap J m3 (λh=>by cases h);obtain⟨o3,h3,h4⟩:=r4 i Y U;obtain⟨o4,h5,h6⟩:=S.heap.old i _ I;rw [h3]at h5;cases h5;cases h6;exact h4.elim
       .have:=C.s1 i x.1 x.2 Y U (by rw [y])
        grind [nmh]
    .cases y
   .cases y
  .cases y
 .cases y
end
end Go.TX
namespace Go.TX
open Go Go.AE List
variable [aB]
section
variable {n:Nat}
def LX(E:Tab)(d:Ctx)(g:World)(h0:Heap)(k:Nat)(f:List aN)(m0:Nat){ρ:Type}(K:Exit->RSt (std n)->(ρ->Prop)->Prop)(r:ρ->Prop):Exit->Act->World->Prop
 | .outgrown,_,_=>False
 | .panic _,_,_=>False
 | .goto _,_,_=>False
 | e,a,w=>∃c b s,Grow d g h0 c w b.h/\nO E b c w a/\SR b s/\Keep k f s.h/\s.m=m0/\K e s r
theorem Ro{E:Tab}{z:Ctx}{F:World}{D:Heap}{k:Nat}{C:List aN}{y:Nat}(J:z.n=k){v:Code}{a:Act}{w:World}{x:eO}{Z:Bool}{s:RSt (std n)}(R:s.m=y){ρ:Type}{K:Exit->RSt (std n)->(ρ->Prop)->Prop}{r:ρ->Prop}
  {W: {σ:Type}->(Exit->RSt (std n)->(σ->Prop)->Prop)->(σ->Prop)->Prop} (N:∀ {σ:Type} {P:Exit->RSt (std n)->(σ->Prop)->Prop} {O:σ->Prop},W P O->v.wp E.P (LX E z F D k C y P O) a w)
  (h:Rc (std n) k x Z s K W r):v.wp E.P (LX E z F D k C y K r) a w:=by
 have step:∀ {t:iQ x.tys} {f:RSt (std n)} {B:List Bool},F7 (std n) k x f=some (B,t)->(∀b∈B,b=true)->K .normal (uL (std n) x s.m t) r->∀ {c l a w},Grow z F D c w l.h->nO E l c w a->SR l f->Keep k C f.h->f.m=y->LX E z F D k C y K r .normal a w:=by
  intro t f B h1 X M c l a w g A S hK hm;obtain⟨V,I,g2,Q,T,Y,G⟩:=L8 h1 X S A J g hm;rw [R]at M;exact⟨V,I,_,g2,Q,T,hK.trans Y,G,M⟩
 unfold Rc at h;split at h
 .refine wp_mono (N h) ?_;intro e U w' j;cases e with
  | outgrown=>exact j.elim
  | panic _=>exact j
  | goto _=>exact j
  | normal=>
   obtain⟨c,l,f,q,u,o,m,p,d⟩:=j;simp only at d;rcases hx:F7 (std n) k x f with _ | ⟨B,t'⟩
   .rw [hx]at d;exact d.elim
   .rw [hx]at d;obtain⟨L,H⟩:=gB d;exact step hx L H q u o m p
  | ret=>obtain⟨c,l,f,q,u,o,m,p,d⟩:=j;exact d.elim
  | exit i=>obtain⟨c,l,f,q,u,o,m,p,d⟩:=j;exact d.elim
 .refine wp_mono (N h) ?_;intro e U w' j;cases e with
  | outgrown=>exact j.elim
  | panic _=>exact j
  | goto _=>exact j
  | normal=>
   obtain⟨c,l,f,q,u,o,m,p,d⟩:=j;simp only at d;rcases hx:F7 (std n) k x f with _ | ⟨B,t'⟩
   .rw [hx]at d;exact d.elim
   .rw [hx]at d;obtain⟨L,H⟩:=gB d;exact step hx L H q u o m p
  | ret=>obtain⟨c,l,f,q,u,o,m,p,d⟩:=j;exact⟨c,l,f,q,u,o,m,p,d⟩
  | exit i=>obtain⟨c,l,f,q,u,o,m,p,d⟩:=j;exact⟨c,l,f,q,u,o,m,p,d⟩
section
variable {X:XT} {E:Tab} (hE:aI E) (hX:XOK X E) {C:Calls aF} (hG:qY E (lZ C)) (hm:E.P.follows .mixedOrders=true) {ord:Nat->List fM} {chk:Nat->Array Oper->Nat->Bool} (Ph:∀id ops m,chk id ops m=true->Static E ord id ops m)
 {c0:Ctx} {w0:World} {h0:Heap} {k:Nat} {H0:List aN} {m0:Nat} (hc0:c0.n=k)
include hE hX hG hm Ph
theorem alx{id:Nat}{d:Array Oper}{draw:Bool}{s:RSt (std n)}{ρ:Type}{K:Exit->RSt (std n)->(ρ->Prop)->Prop}{r:ρ->Prop}
  (h:(if draw then(if chk id d s.m then jr (std n) X C d.toList (ord id) [] (λs=>K .normal s) s else(std n).fail)else fF (std n) X C d.toList d.toList (λs=>K .normal s) s:(std n).M ρ) r)
  {l:St} {c:Ctx} {w:World} {a:Act} (A:nO E l c w a) (g:Grow c0 w0 h0 c w l.h) (S:SR l s) (hK:Keep k H0 s.h) (v:s.m=m0):(Code.region id d draw).wp E.P (LX E c0 w0 h0 k H0 m0 K r) a w:=by
 have fin:∀ {e:Exit} {a:Act} {w:World},zf E c0 w0 h0 (λe b=>e= .normal/\∃f,SR b f/\(∀k,Keep k s.h f.h)/\f.m=m0/\K .normal f r) e a w->LX E c0 w0 h0 k H0 m0 K r e a w:=by
  intro e a w j;cases e with
  | outgrown=>exact j.elim
  | panic _=>exact j
  | goto _=>exact j
  | normal=>obtain⟨c,b,t,u,_,f,y,x,z,D⟩:=j;exact⟨c,b,f,t,u,y,hK.trans (x k),z,D⟩
  | ret=>obtain⟨c,b,t,u,q,_⟩:=j;cases q
  | exit i=>obtain⟨c,b,t,u,q,_⟩:=j;cases q
 split at h
 .rename_i hd;subst hd;split at h
  .rename_i hc;have m:=Ph _ _ _ hc;have o:=LU hX (h0:=s.h) (m0:=m0) (hs':=[]) S (λ_=> .refl _ _) v (λp B=>by simp at B) h;refine wp_mono (alf hE hG hm ord id d (λe b=>e= .normal/\∃f,SR b f/\(∀k,Keep k s.h f.h)/\f.m=m0/\K .normal f r) l c0 w0 h0 c w a A g ⟨by rw [S.m];exact m,?_⟩) λe a w=>fin
   simpa using o
  .exact h.elim
 .rename_i hd;have:draw=false:=by simpa using hd
  subst this;have o:=KD hX (h0:=s.h) (m0:=m0) S (λ_=> .refl _ _) v h;refine wp_mono (wp_region_list (AB hE hG (Q:=λe b=>e= .normal/\∃f,SR b f/\(∀k,Keep k s.h f.h)/\f.m=m0/\K .normal f r) d d.toList A g ?_)) λe a w=>fin
  simpa using o
end
end
end Go.TX
namespace Go.TX
open Go Go.AE List
variable [aB]
section
variable {n:Nat}
variable {X:XT} {E:Tab} (hE:aI E) (hX:XOK X E) {C:Calls aF} (hG:qY E (lZ C)) (hm:E.P.follows .mixedOrders=true) {ord:Nat->List fM} {chk:Nat->Array Oper->Nat->Bool} (Ph:∀id ops m,chk id ops m=true->Static E ord id ops m)
 {c0:Ctx} {w0:World} {h0:Heap} {k:Nat} {H0:List aN} {m0:Nat} (hc0:c0.n=k)
include hE hX hG hm Ph hc0
theorem oK:∀(Q:Code) {ρ:Type} {m:Ann} {s:RSt (std n)} {K:Exit->RSt (std n)->(ρ->Prop)->Prop} {r:ρ->Prop},bN (std n) X C ord chk k m Q s K r->∀ {d:St} {c:Ctx} {w:World} {a:Act},nO E d c w a->Grow c0 w0 h0 c w d.h->SR d s->Keep k H0 s.h->s.m=m0->
  Q.wp E.P (LX E c0 w0 h0 k H0 m0 K r) a w
 | .skip,ρ,m,s,K,r,h,d,c,w,a,A,g,S,hK,hs=>by
  have h:K .normal s r:=by cases m<;>exact h
  exact wp_skip ⟨c,d,s,g,A,S,hK,hs,h⟩
 | .region id ops draw,ρ,m,s,K,r,h,d,c,w,a,A,g,S,hK,hs=>by
  have R:∀ {σ:Type} {F:Exit->RSt (std n)->(σ->Prop)->Prop} {H:σ->Prop},(if draw then(if chk id ops s.m then jr (std n) X C ops.toList (ord id) [] (λs=>F .normal s) s else(std n).fail)else fF (std n) X C ops.toList ops.toList (λs=>F .normal s) s:(std n).M σ) H->
    (Code.region id ops draw).wp E.P (LX E c0 w0 h0 k H0 m0 F H) a w:=λh=>alx hE hX hG hm Ph h A g S hK hs
  generalize p:bN (std n) X C ord chk k m (.region id ops draw) s K=M at h;simp only [bN]at p;split at p
  .subst p;exact Ro hc0 hs R h
  .subst p;exact R h
 | .seq x y,ρ,m,s,K,r,h,d,c,w,a,A,g,S,hK,hs=>by
  have l:∀(G P:Ann) (J:Exit->RSt (std n)->(ρ->Prop)->Prop),(∀d,J .normal d=bN (std n) X C ord chk k P y d K)->(∀d,J .ret d=K .ret d)->(∀i d,J (.exit i) d=K (.exit i) d)->bN (std n) X C ord chk k G x s J r->
    (Code.seq x y).wp E.P (LX E c0 w0 h0 k H0 m0 K r) a w:=by
   intro G P J e1 e2 e3 h;refine wp_seq (wp_mono (oK x h A g S hK hs) ?_);intro e W V o;cases e with
   | outgrown=>exact o.elim
   | panic _=>exact o
   | goto _=>exact o
   | normal=>obtain⟨c,d,L,v,z,D,B,q,j⟩:=o;rw [e1]at j;exact oK y j z v D B q
   | ret=>obtain⟨c,d,L,v,z,D,B,q,j⟩:=o;rw [e2]at j;exact⟨c,d,L,v,z,D,B,q,j⟩
   | exit i=>obtain⟨c,d,L,v,z,D,B,q,j⟩:=o;rw [e3]at j;exact⟨c,d,L,v,z,D,B,q,j⟩
  cases m with
  | seq G P=>rw [bN]at h;refine l G P _ ?_ ?_ ?_ h<;>intros<;>rfl
  | u=>rw [bN]at h;refine l .u .u _ ?_ ?_ ?_ h<;>intros<;>rfl
  | _=>simp [bN]at h
 | .cond cd x y,ρ,m,s,K,r,h,d,c,w,a,A,g,S,hK,hs=>by
  have o:EvR X E n (nmh s.h) d.t (gY (std n) (dN (std n) s.t) []):=sH (λ_ _=>rfl) S.val (λt h=>by simp at h);generalize p:bN (std n) X C ord chk k m (.cond cd x y) s K=M at h;simp only [bN]at p;split at p
  .rename_i f b hb;obtain⟨pv,p1,p2⟩:=dO hX o hb;obtain⟨gf,rfl⟩:=p2.bool;have a4:=lT (NV A.abs p1);have l:∀(G P:Ann) {σ:Type} {F:Exit->RSt (std n)->(σ->Prop)->Prop} {H:σ->Prop},((b=true->bN (std n) X C ord chk k G x s F H)/\(b=false->bN (std n) X C ord chk k P y s F H))->(Code.cond cd x y).wp E.P (LX E c0 w0 h0 k H0 m0 F H) a w:=by
    intro G P σ F H h;refine wp_cond a4 ?_;obtain⟨b,rfl⟩:∃b':Bool,b'=b:=⟨b,rfl⟩;cases b with
    | true=>exact oK x (h.1 rfl) A g S hK hs
    | false=>exact oK y (h.2 rfl) A g S hK hs
   split at p
   .subst p;exact l _ _ h
   .subst p;exact l _ _ h
   .rename_i T G P;subst p;exact Ro hc0 hs (λ{σ F H} h=>l G P h) h
   .subst p;exact h.elim
  .subst p;exact h.elim
 | .block id b,ρ,m,s,K,r,h,d,c,w,a,A,g,S,hK,hs=>by
  have l:∀(G:Ann) {σ:Type} {F:Exit->RSt (std n)->(σ->Prop)->Prop} {H:σ->Prop} (J:Exit->RSt (std n)->(σ->Prop)->Prop),(∀d,J .normal d=F .normal d)->(∀d,J .ret d=F .ret d)->(∀i d,J (.exit i) d=if i==id then F .normal d else F (.exit i) d)->
    bN (std n) X C ord chk k G b s J H->(Code.block id b).wp E.P (LX E c0 w0 h0 k H0 m0 F H) a w:=by
   intro G σ F H J e1 e2 e3 h;refine wp_block (wp_mono (oK b h A g S hK hs) ?_);intro e W V o;cases e with
   | outgrown=>exact o.elim
   | panic _=>exact o
   | goto _=>exact o
   | normal=>obtain⟨c,d,L,v,z,D,B,q,j⟩:=o;rw [e1]at j;exact⟨c,d,L,v,z,D,B,q,j⟩
   | ret=>obtain⟨c,d,L,v,z,D,B,q,j⟩:=o;rw [e2]at j;exact⟨c,d,L,v,z,D,B,q,j⟩
   | exit i=>
    obtain⟨c,d,L,v,z,D,B,q,j⟩:=o;rw [e3]at j;simp only [Exit.inBlock];simp only [beq_iff_eq]at j;split
    .rename_i e;rw [if_pos e]at j;exact⟨c,d,L,v,z,D,B,q,j⟩
    .rename_i e;rw [if_neg e]at j;exact⟨c,d,L,v,z,D,B,q,j⟩
  generalize p:bN (std n) X C ord chk k m (.block id b) s K=M at h;simp only [bN]at p;split at p
  .subst p;refine l _ _ ?_ ?_ ?_ h<;>intros<;>rfl
  .subst p;refine l _ _ ?_ ?_ ?_ h<;>intros<;>rfl
  .rename_i T G;subst p;exact Ro hc0 hs (λ{σ F H} h=>by refine l G _ ?_ ?_ ?_ h<;>intros<;>rfl) h
  .subst p;exact h.elim
 | .loop b,ρ,m,s,K,r,h,d,c,w,a,A,g,S,hK,hs=>by
  cases m with
  | loop T G=>
   rw [bN]at h;rcases hx0:F7 (std n) k T s with _ | ⟨ck,x0⟩
   .rw [hx0]at h;exact h.elim
   .rw [hx0]at h;obtain⟨a6,h⟩:=gB h;obtain⟨I,μ,a7,h⟩:=h;obtain⟨c1,Z,g1,A1,S1,J,a9⟩:=L8 hx0 a6 S A hc0 g hs;rw [hs]at h;refine wp_loop_ghost (λN W V=>∃c d x,Grow c0 w0 h0 c V d.h/\nO E d c V W/\SR d (uL (std n) T m0 x)/\Keep k H0 (uL (std n) T m0 x).h/\(uL (std n) T m0 x).m=m0/\I x/\μ x=N) (μ x0) ⟨c1,Z,x0,g1,A1,S1,hK.trans J,a9,a7,rfl⟩ ?_;rintro N W V ⟨c2,b0,x,g2,A2,S2,K2,a0,hi,rfl⟩;have hq:=h x hi;refine wp_mono (oK b hq A2 g2 S2 K2 a0) ?_;intro e a3 w3 o;cases e with
    | outgrown=>exact o.elim
    | panic _=>exact o
    | goto _=>exact o
    | normal=>
     obtain⟨Y,O,U,v,z,D,B,q,j⟩:=o;simp only at j;rcases hx4:F7 (std n) k T U with _ | ⟨b7,t4⟩
     .rw [hx4]at j;exact j.elim
     .rw [hx4]at j;obtain⟨aun,j⟩:=gB j;obtain⟨c5,a8,g5,A5,S5,K5,a5⟩:=L8 hx4 aun D z hc0 v q;exact⟨μ t4,j.2,c5,a8,_,g5,A5,S5,B.trans K5,a5,j.1,rfl⟩
    | ret=>obtain⟨Y,O,U,v,z,D,B,q,j⟩:=o;exact⟨Y,O,U,v,z,D,B,q,j⟩
    | exit i=>obtain⟨Y,O,U,v,z,D,B,q,j⟩:=o;exact⟨Y,O,U,v,z,D,B,q,j⟩
  | _=>simp [bN]at h
 | .exit i,ρ,m,s,K,r,h,d,c,w,a,A,g,S,hK,hs=>by
  have h:K (.exit i) s r:=by cases m<;>exact h
  exact wp_exit ⟨c,d,s,g,A,S,hK,hs,h⟩
 | .ret,ρ,m,s,K,r,h,d,c,w,a,A,g,S,hK,hs=>by
  have h:K .ret s r:=by cases m<;>exact h
  exact wp_ret ⟨c,d,s,g,A,S,hK,hs,h⟩
 | .rangeFunc ..,ρ,m,s,K,r,h,_,_,_,_,_,_,_,_,_=>by cases m<;>simp [bN]at h
 | .scope _,ρ,m,s,K,r,h,_,_,_,_,_,_,_,_,_=>by cases m<;>simp [bN]at h
 | .label _,ρ,m,s,K,r,h,_,_,_,_,_,_,_,_,_=>by cases m<;>simp [bN]at h
 | .goto _,ρ,m,s,K,r,h,_,_,_,_,_,_,_,_,_=>by cases m<;>simp [bN]at h
 | .refuse _,ρ,m,s,K,r,h,_,_,_,_,_,_,_,_,_=>by cases m<;>simp [bN]at h
end
end Go.TX
namespace Go.TX
open Go Go.AE List
variable [aB]
section
variable {n:Nat}
theorem iR:∀(r:List (Option (Option Nat))) (m k:Nat),(newNames r m k).length=k
 | _,_,0=>by simp [newNames]
 | [],m,k+1=>by simp [newNames,iR [] (m+1) k]
 | some (some l)::r,m,k+1=>by simp [newNames,iR r m k]
 | some none::r,m,k+1=>by simp [newNames,iR r (m+1) k]
 | none::r,m,k+1=>by simp [newNames,iR r (m+1) k]
structure acj(r:List (Option (Option Nat)))(h:List aN)(os:List aN)(nms:List Nat)(kT:List aN):Prop where
 len:h.length<=kT.length
 at_:∀(i:Nat),i<os.length->∃l,nms[i]? =some l/\kT[l]? =os[i]? /\(r[i]? =some (some (some l))\/(h.length<=l/\∀q:Nat,r[i]? ≠some (some (some q))))
 old:∀l,l<h.length->(∀i:Nat,i<os.length->r[i]? ≠some (some (some l)))->kT[l]? =h[l]?
 inj:∀(i j l:Nat),nms[i]? =some l->nms[j]? =some l->i=j
 new:∀l,h.length<=l->l<kT.length->∃i:Nat,i<os.length/\nms[i]? =some l
theorem Rp:∀(c:List aN) (r:List (Option (Option Nat))) (h:List aN),(∀i l:Nat,r[i]? =some (some (some l))->i<c.length->l<h.length)->(∀i j l:Nat,r[i]? =some (some (some l))->r[j]? =some (some (some l))->i=j)->
  acj r h c (newNames r h.length c.length) (iP (std n) h (newNames r h.length c.length) c)
 | [],r,h,h1,h2=>by
  refine⟨?_,λi f=>by simp at f,λl _ _=> ?_,λi j l f=>by simp [newNames]at f,λl a b=> ?_⟩<;>simp only [length_nil,newNames,iP]at* <;>first | exact Nat.le_refl _ | rfl | omega
 | o::c,r,h,h1,h2=>by
  have fresh:∀d,(∀(i:Nat),d[i]? =r[i+1]?)->(∀q:Nat,r[0]? ≠some (some (some q)))->newNames r h.length (c.length+1)=h.length::newNames d (h.length+1) c.length->acj r h (o::c) (newNames r h.length (c.length+1)) (iP (std n) h (newNames r h.length (c.length+1)) (o::c)):=by
   intro d E F e;rw [e];have x:(h++ [o]).length=h.length+1:=by simp
   have P:=Rp c d (h++ [o]) (λi l f z=>by grind) (λi j l f p=>by grind);rw [x]at P;have m:iP (std n) h (h.length::newNames d (h.length+1) c.length) (o::c)=iP (std n) (h++ [o]) (newNames d (h.length+1) c.length) c:=by
    simp [iP]
   rw [m];have t:(iP (std n) (h++ [o]) (newNames d (h.length+1) c.length) c)[h.length]? =some o:=by
    rw [P.old h.length (by simp) (λi f y=>by grind)];simp
   refine⟨by grind,λi f=> ?_,λl B hn=> ?_,λi j l f p=> ?_,λl D A=> ?_⟩
   .cases i with
    | zero=>simp_all
    | succ i=>
     obtain⟨l,u,s,k⟩:=P.at_ i (by simpa using f)
     grind
   .rw [P.old l (by simp;omega) (λi f y=>hn (i+1) (by simp;omega) (by simp_all))]
    grind
   .have ne:∀(j:Nat),(newNames d (h.length+1) c.length)[j]? =some h.length->False:=by
     intro j p;have v:j<c.length:=by grind [List.getElem?_eq_some_iff,iR]
     obtain⟨l,u,s,k⟩:=P.at_ j v
     grind
    cases i with
    | zero=>grind
    | succ i=>
     cases j with
     | zero=>simp_all
     | succ j=>rw [P.inj i j l (by simpa using f) (by simpa using p)]
   .by_cases e:l=h.length
    .subst e;exact⟨0,by simp,rfl⟩
    .obtain⟨i,u,s⟩:=P.new l (by simp;omega) A;exact⟨i+1,by simp;omega,by simpa using s⟩
  match r,h1,h2,fresh with
  | [],h1,h2,fresh=>exact fresh [] (λi=>by simp) (λq=>by simp) rfl
  | none::d,h1,h2,fresh=>exact fresh d (λi=>by simp) (λq=>by simp) rfl
  | some none::d,h1,h2,fresh=>exact fresh d (λi=>by simp) (λq=>by simp) rfl
  | some (some g)::d,h1,h2,_=>
   have w:g<h.length:=h1 0 g rfl (by simp);have e:newNames (some (some g)::d) h.length (c.length+1)=g::newNames d h.length c.length:=rfl;show acj _ _ _ (newNames (some (some g)::d) h.length (c.length+1)) (iP (std n) h (newNames (some (some g)::d) h.length (c.length+1)) (o::c));rw [e];have x:(h.set g o).length=h.length:=by simp
   have P:=Rp c d (h.set g o) (λi l f z=>by rw [x];exact h1 (i+1) l (by simpa using f) (by simp;omega)) (λi j l f p=>by have:=h2 (i+1) (j+1) l (by simpa using f) (by simpa using p);omega);rw [x]at P;have m:iP (std n) h (g::newNames d h.length c.length) (o::c)=iP (std n) (h.set g o) (newNames d h.length c.length) c:=by
    have:Nat.blt g h.length=true:=by simpa using w
    simp [iP,w]
   rw [m];have t:(iP (std n) (h.set g o) (newNames d h.length c.length) c)[g]? =some o:=by
    rw [P.old g (by simpa using w) (λi f y=>by have:=h2 0 (i+1) g rfl (by simpa using y);omega)];simp_all
   refine⟨by have:=P.len;omega,λi f=> ?_,λl B hn=> ?_,λi j l f p=> ?_,λl D A=> ?_⟩
   .cases i with
    | zero=>exact⟨g,rfl,by rw [t];rfl,.inl rfl⟩
    | succ i=>
     obtain⟨l,u,s,k⟩:=P.at_ i (by simpa using f);refine⟨l,by simpa using u,by rw [s];simp,?_⟩;simp only [getElem?_cons_succ];rcases k with k | ⟨k,C⟩
     .exact .inl k
     .exact .inr ⟨by rw [x]at k;exact k,C⟩
   .rw [P.old l ah (λi f y=>hn (i+1) (by simp;omega) (by simpa using y))];have:g≠l:=λe=>hn 0 (by simp) (by rw [e];rfl)
    exact getElem?_set_ne this
   .have ne:∀(j:Nat),(newNames d h.length c.length)[j]? =some g->False:=by
     intro j p;have v:j<c.length:=by grind [List.getElem?_eq_some_iff,iR]
     obtain⟨l,u,s,k⟩:=P.at_ j v;rw [p]at u;cases u;rcases k with k | ⟨k,C⟩
     .have:=h2 0 (j+1) g rfl (by simpa using k);omega
     omega
    cases i with
    | zero=>grind
    | succ i=>
     cases j with
     | zero=>grind
     | succ j=>rw [P.inj i j l (by simpa using f) (by simpa using p)]
   .obtain⟨i,u,s⟩:=P.new l (by rw [x];exact D) A;exact⟨i+1,by simp;omega,by simpa using s⟩
theorem aaY{nm:Nat->Nat}{k:SkV}{r a:List (LV aF)}{v:SVal}(h:AY aF nm k r=some (v,a)):qN v=false:=by
 cases k with
 | c k=>simp only [AY]at h;split at h<;>cases h;rfl
 | agg b=>simp only [AY]at h;split at h<;>cases h;rfl
 | sv f c=>
  unfold AY at h;split at h<;>first | (cases h;rfl) | simp_all | cases h
theorem Gs{nm:Nat->Nat}:∀ {ks:List SkV} {r b:List (LV aF)} {a:List SVal},tC aF nm ks r=some (a,b)->∀v∈a,qN v=false
 | [],r,b,a,h=>by grind [tC,Option.some.injEq,Prod.mk.injEq]
 | k::ks,r,b,a,h=>by
  simp only [tC]at h;split at h
  .rename_i x r1 hx;split at h
   .rename_i xs r2 hxs;cases h;intro v c;cases c with
    | head=>exact aaY hx
    | tail _ c=>exact Gs hxs v c
   .cases h
  .cases h
theorem Bj:∀ {d:List Nat} {h:List aN} {l:Nat} {g:Bool} {c:Co} {xs:List c.den},l∈d->h[l]? =some (.rows g c xs)->Gone (bA (std n) h d) l
 | [],_,_,_,_,_,hm,_=>by simp at hm
 | a::d,h,l,g,c,xs,hm,hl=>by
  rw [gN];have f:∀(d:List Nat) (h:List aN),Gone h l->Gone (bA (std n) h d) l:=by
   intro d
   induction d with
   | nil=>intro h i;exact i
   | cons b d j=>
    intro h ⟨k,m,i⟩;rw [gN];refine j _ ⟨k,m,?_⟩
    grind [fG,yj]
  by_cases e:a=l
  .subst e;refine f d _ ⟨c,(xs.length:Int),?_⟩
   grind [fG,getElem?_set_self,List.getElem?_eq_some_iff]
  .refine Bj (g:=g) (c:=c) (xs:=xs) ?_ (by rw [yj e];exact hl)
   grind
theorem KH{h:List aN}:∀ {ks:List SkO} {j:Nat} {s b:ES (std n)},AX (std n) h j ks s=some b->∀ {i:Nat} {k:SkO},ks[i]? =some k->k≠ .gone->∀ {l:Nat} (_:b.ren[j+i]? =some (some (some l))),∃o,h[l]? =some o/\¬Gone [o] 0
 | [],_,_,_,_,i,k,hk,_,_,_=>by simp at hk
 | q::ks,j,s,b,hx,i,k,hk,hg,l,h5=>by
  simp only [AX]at hx;split at hx
  .rename_i s1 h1;cases i with
   | succ i=>
    have:=KH hx (i:=i) (k:=k) (by simpa using hk) hg (l:=l) (by grind);exact this
   | zero=>
    simp at hk;subst hk;rw [Nat.add_zero]at h5;have d:ELe s b:=by
     obtain⟨_,_,_,p,_⟩:=Zr (m:=n) (λi=>i) h1 (.gone .i64 0) ⟨.i64,0,rfl⟩;obtain⟨_,_,_,e,_⟩:=sF (m:=n) (λi=>i) (λ_=> .gone .i64 0) (λ_=>⟨.i64,0,rfl⟩) hx;exact p.trans e
    cases q with
    | gone=>exact absurd rfl hg
    | box t=>
     rcases hr:s.ren[j]? with _ | _ | _ | r<;>simp only [Q9,hr,reduceCtorEq]at h1
     have:=d.ren j _ hr;rw [h5]at this;cases this;split at h1
     .rename_i v hv;exact⟨_,hv,λ⟨c,m,a⟩=>by simp at a⟩
     .cases h1
    | rows f c=>
     rcases hr:s.ren[j]? with _ | _ | _ | r<;>simp only [Q9,hr,reduceCtorEq]at h1
     .have:=d.ren j _ hr;simp_all
     .have:=d.ren j _ hr;rw [h5]at this;cases this;split at h1
      .rename_i g c' xs hv;exact⟨_,hv,λ⟨c,m,a⟩=>by simp at a⟩
      .cases h1
  .cases hx
end
end Go.TX
namespace Go.TX
open Go Go.AE List
variable [aB]
section
variable {n:Nat}
theorem L9{X:XT}{E:Tab}(hX:XOK X E){f:St}{s:RSt (std n)}(S:SR f s):∀ {g:List ResultVar} {c:List SVal},Rf (std n) X s g=some c->∃a,F2 (PVR (nmh s.h)) a c/\∀K,K a->Oo E f g K
 | [],c,h=>by simp only [Rf,Option.some.injEq]at h;subst h;exact⟨[],.nil,λK hK=>hK⟩
 | .tmp t::r,c,h=>by
  simp only [Rf]at h;split at h
  .rename_i v hv;split at h
   .rename_i vs hvs;cases h;obtain⟨pv,i,d⟩:=S.val t _ hv;obtain⟨a,e,j⟩:=L9 hX S hvs;exact⟨pv::a,.cons d e,λK hK=>by grind [Oo,je]⟩
   .cases h
  .cases h
 | .cell t ty::r,c,h=>by
  simp only [Rf]at h;split at h
  .rename_i p hp;split at h
   .rename_i v hv;split at h
    .rename_i vs hvs;cases h;obtain⟨pv,i,d⟩:=S.val t _ hp;obtain⟨l,m,o⟩:=OM hX S.heap d hv (λb k=>by simp at k);obtain⟨a,e,j⟩:=L9 hX S hvs;exact⟨l::a,.cons m e,λK hK=>by grind [Oo,je]⟩
    .cases h
   .cases h
  .cases h
theorem aly{N:NM}:∀ {c:List PV} {b:List SVal},F2 (PVR N) c b->(∀v∈b,qN v=false)->PVR N (one c) (aqP (std n) b)
 | [],_,h,_=>by cases h;exact .tup .nil
 | [p],_,.cons h1 h2,_=>by cases h2;exact h1
 | p::q::c,_,.cons h1 (.cons h2 h3),d=>by
  have g:∀ {p v},PVR N p v->qN v=false->PV0 N p v:=λh e=>by
   cases h with
   | one h=>exact h
   | tup _=>simp [qN]at e
  have all:∀ {c:List PV} {b:List SVal},F2 (PVR N) c b->(∀v∈b,qN v=false)->F2 (PV0 N) c b:=by
   intro c b h
   induction h with
   | nil=>intro _;exact .nil
   | cons a _ f=>intro d;exact .cons (g a (d _ (by simp))) (f λv e=>d v (mem_cons_of_mem _ e))
  exact .tup (all (.cons h1 (.cons h2 h3)) d)
theorem aiG{c:Ctx}{w:World}{us:List Value}{d:List PV}(h:F2 (bK c w) us d):bK c w (if h:us.toArray.size=1 then us.toArray[0]else .tuple us.toArray) (one d):=by
 cases h with
 | nil=>exact Ol _ _
 | cons a j=>
  cases j with
  | nil=>simpa [one]using a
  | cons f b=>
   have e:=(F2.cons a (F2.cons f b)).length;rw [dif_neg (by simp)];refine .tup _ _ e (λi g=> ?_);have k:∀(l:List PV),i<l.length->l[i]? =some (l.getD i default):=λl e=>by simp_all
   obtain⟨u,m,n⟩:=(F2.cons a (F2.cons f b)).get (k _ g);simp_all
theorem Pj(h:List aN)(l:Nat):Gone [wH (std n) h l] 0:=by
 unfold wH;split
 .exact⟨_,_,rfl⟩
 .exact⟨_,_,rfl⟩
 .exact⟨_,_,rfl⟩
def Bn(D:List Nat)(h:Heap):Heap:=D.map (λl=>(l,fK.gone))++h
theorem Gu{D:List Nat}{h:Heap}{l:Nat}(a:l∈D):AE.look (Bn D h) l=some .gone:=by
 induction D with
 | nil=>simp at a
 | cons d D b=>grind [AE.look,Bn,aK,aC,absurd]
theorem sJ{D:List Nat}{h:Heap}{l:Nat}(b:l∉D):AE.look (Bn D h) l=AE.look h l:=by
 induction D with
 | nil=>rfl
 | cons d D a=>grind [AE.look,Bn,aC,mem_cons_of_mem]
section
variable {X:XT} {E:Tab} (hE:aI E) (hX:XOK X E) {C:Calls aF} (hG:qY E (lZ C)) (hm:E.P.follows .mixedOrders=true) {ord:Nat->List fM} {chk:Nat->Array Oper->Nat->Bool} (Ph:∀id ops m,chk id ops m=true->Static E ord id ops m)
include hE hX hG hm Ph
theorem aq9{f:FuncId}{fn:Func}{b9:Code}(hf:E.P.funcs[f]? =some fn)(a:fn.body=some b9)(f5:Enters E.P f){G:Sig}{an:Ann}{ct:Ct aF G}
  (R:∀x,ct.pre x=true->rZ (std 0) X C ord chk an G fn b9 x (λy=>y=ct.fn x)):dP E f (dL ct) where
 enters:=f5
 calls:=by
  rintro i9 h nn K ⟨m,qs,S,c6,HR,e8,cr,J,aiH,v,kT,a5,hK⟩ c w vs e4 sI H Gl;subst e8;unfold tF at J;split at J
  .rename_i e1 he1;split at J
   .rename_i e he;split at J
    .rename_i jX;simp only [Bool.and_eq_true,isEmpty_iff]at jX;obtain⟨jX,e7⟩:=jX;have jX:=LQ jX;split at J
     .rename_i x hx;simp only [Option.some.injEq]at J;subst J;have d8:∀b∈e.ck,b=true:=λb a=>aiH b (mem_append_left _ a)
      have f6:ct.pre x=true:=aiH _ (mem_append_right _ (by simp));obtain⟨N,R⟩:∃N:Nat,rZ (std N) X C ord chk an G fn b9 x (λy=>y=ct.fn x):=⟨0,R x f6⟩;simp only at a5 hK;obtain⟨d3,a0,a1,a2,a3,a4⟩:=wN (λi=>i) he1;obtain⟨c4,a9,b1,b2,b3,b4,b5⟩:=sF (λi=>i) (λ_=>(.gone .i64 0:aN)) (λ_=>⟨.i64,0,rfl⟩) he;have F:e.lv.reverse=d3++c4:=by rw [b1,a1];simp [es0]
      have f3:=unpack_pack hx;rw [F]at f3;have f7:e.ren.length=G.objs.length:=by rw [b2.len,a2.len,LZ]
      have d7:∀(j:Nat) (kk:SkO),G.objs[j]? =some kk->∃o2,a9[j]? =some o2/\OF e S (λi=>i) j kk (.gone .i64 0) o2:=λj kk hj=>by
       obtain⟨o2,I,L⟩:=b5 e (.refl _) j kk hj;exact⟨o2,I,by simpa using L⟩
      obtain⟨o1,m1,m2,m3,m4,_,_⟩:=zW (ks:=G.objs) (nm:=λi=>i) (old:=λ_=>(.gone .i64 0:aN)) H HR d8 jX f7 b4 d7 (cb:={K:=λ_ _=>False,ν:=νX e S c,n:=0}) (hb':=[])
       (Pf w _ _ _ (λ_ _ h=>h.elim) (λ_ h=>h)) false (λh=>by cases h) (ν2:=νX e S c) (n2:=G.objs.length) (Nat.zero_le _) (λ_ _=>rfl) (λi A=>A) (λi j _ _ h=>h)
       (λi l A=>by simp only [νX];rw [A]) (λi A=>by simp only [νX];rw [A]) (h2:=a9) (λi _=>rfl)
       (λl o s W=>by
        have:G.objs.length<=l:=by
         rcases Nat.lt_or_ge l G.objs.length with h | h
         .exact absurd rfl (s l h)
         .exact h
        rw [getElem?_eq_none ah]at W;cases W) (λ_ _=>rfl)
       (λb ⟨l,o,s,_⟩ _=>by simp [AE.look]at s) (λf b h _=>h) (λf b ⟨l,o,s,_⟩ _=>by simp [AE.look]at s)
      generalize e0:({K:=λf b=>False\/KX e c false f b,ν:=νX e S c,n:=G.objs.length}:Ctx)=c1 at m1 m2 m3 m4;generalize j4:uO (λi=>i) o1 (range G.objs.length) []=c0 at m1 m2 m4;have d9:c1.n=G.objs.length:=by rw [<-e0]
      have f2:∀f b,c1.K f b->c.K f b\/∃l g,(l,g)∈e.fro/\c.μ l=some b/\(f=true->g=true):=λf b a=>by
       rw [<-e0]at a;rcases a with a | a | ⟨l,g,I,L,Y⟩
       .exact a.elim
       .exact .inl (by simpa using a)
       .exact .inr ⟨l,g,I,L,λh=>Y (by simp [h])⟩
      have alz:∀f b,c.K f b->c1.K f b:=λf b a=>by rw [<-e0];exact .inr (.inl (by simpa using a))
      have ara:∀b,fP c1 c0 b->∃(i lq:Nat) (q:fK),e.ren[i]? =some (some (some lq))/\AE.look h lq=some q/\q.live/\c.μ lq=some b:=λb a=>by
       rcases m4 b a with⟨l,o,s,_⟩ | a
       .simp [AE.look]at s
       .exact a
      have arb:F2 (WV c w (nmh S)) vs qs:=by
       clear he1 a1 a2 a3 a4 a5 R
       induction sI generalizing qs with
       | nil=>cases c6;exact .nil
       | cons I _ ih=>cases c6 with | cons Y q4=>exact .cons ⟨_,I,Y⟩ (ih _ q4)
      obtain⟨ard,p1,p2⟩:=L6 (a4 H HR b2 d8 m3 (λh=>by cases h) arb);unfold rZ at R;split at R
      .exact R.elim
      rename_i c2;have c2:G.objs.length<=G.dV.length:=by
       have:Nat.ble G.objs.length G.dV.length=true:=by simpa using c2
       exact Nat.le_of_ble_eq_true this
      rw [show unpack (std N).aA G.inp x=d3++c4 from f3,a3]at R;simp only at R;have f1:=b3 [];rw [append_nil]at f1;rw [show wF (std N).aA (λi=>i) (λ_=>dZ.gone Co.i64 ((std N).lit 0)) 0 G.objs c4=some (a9,[])from f1]at R;simp only at R;have e9:a0.length=vs.length:=by rw [<-p2.length,<-p1.length]
      refine calls_of_wp hf a ?_;have A1:nO E {t:=(range a0.length).zip (ard.map some),h:=c0,n:=G.objs.length,k:=0,m:=a0.length+(fn.ntmps-a0.length)} c1 w {tmps:=vs.toArray++Array.replicate (fn.ntmps-vs.toArray.size) undef,defers:=[]}:=by
       refine⟨⟨λi u hu=>Gq p1 ?_ i u hu,m1,?_⟩,d9,rfl,by simp [e9]⟩
       .refine F2.EZ (by simp [e9]) λj i u hj hu=> ?_
        have:i=j:=by
         have h3:=(List.getElem?_eq_some_iff.1 hj).1;simp at h3;rw [getElem?_range h3]at hj;cases hj;rfl
        subst this;have i0:i<vs.length:=(List.getElem?_eq_some_iff.1 hu).1;simp only;rw [Array.getElem?_append_left (by simpa using i0)];simpa using hu
       .intro gg d hd;obtain⟨I,u,L,Y⟩:=Gl gg d hd;exact⟨alz _ _ I,u,L,Y.mono' λb a=>alz _ _ a⟩
      have S1:SR {t:=(range a0.length).zip (ard.map some),h:=c0,n:=G.objs.length,k:=0,m:=a0.length+(fn.ntmps-a0.length)}
        ({t:=(range a0.length).zip (a0.map λv=>⟨none,v⟩),gs:=[],h:=a9,m:=a0.length+(fn.ntmps-a0.length)}:RSt (std N)):=by
       refine⟨m2,by simp [nm,b4],rfl,λi sv A=> ?_,λt e he=>by simp at he⟩;obtain⟨I,L⟩:=Gp p2 i sv A;unfold Bf;rw [I];exact L
      refine wp_mono (oK hE hX hG hm Ph d9 b9 R A1 (.refl _ _ _) S1 (.refl _ a9) rfl) ?_
      have fin:∀ {c3:Ctx} {a6:St} {s3:RSt (std N)} {d5:Act} {w3:World},Grow c1 w c0 c3 w3 a6.h->nO E a6 c3 w3 d5->SR a6 s3->Keep G.objs.length a9 s3.h->
        aaQ (std N) X G fn s3 (λy=>y=ct.fn x)->
        d5.defers=[]/\∃v,(results fn d5.tmps).run E.P w3= .ok v w3/\
         Post (λv w'=>∃c' r h' j,Grow c w h c' w' h'/\bL c' w' h'/\c'.n=nm S.length j/\bK c' w' v r/\K r h' j) (.returned v) w3:=by
       intro c3 a6 s3 avF w3 g3 A3 S3 K3 Q;refine⟨A3.defers,?_⟩;generalize hM:aaQ (std N) X G fn s3=M at Q;unfold aaQ at hM;split at hM
       .rename_i rs hrs;split at hM
        .rename_i e2 he2;split at hM
         .rename_i e3 he3;split at hM
          .rename_i Gw;have Gw:=LQ Gw;split at hM
           .rename_i y hy;subst hM;obtain⟨arf,Q⟩:=gB Q;have Q:y=ct.fn x:=Q;subst Q;obtain⟨ps,g8,h1⟩:=L9 (E:=E) hX S3 hrs;obtain⟨us,j2,u1,u2,u3⟩:=Cr hE A3 _ (λq=>q=ps) (h1 _ rfl);subst u3;refine⟨_,Oq u1,?_⟩;generalize e5:(G.fresh&&e.fro.all λp=> !p.2)=br at a5 hK;generalize aaZ:(if br=true then S else bA (std m) S (e.fro.map (·.1)))=h1T at a5;have Gx:h1T.length=S.length:=by
             rw [<-aaZ];split
             .rfl
             .exact qM _ _ _
            have arh:nmh h1T=nmh S:=by
             rw [<-aaZ];split
             .rfl
             .exact wL _ _ _
            obtain⟨B,alA⟩:∃B,newNames e.ren h1T.length G.dV.length=B:=⟨_,rfl⟩;rw [alA]at a5;have ari:B.length=G.dV.length:=by rw [<-alA];exact iR _ _ _
            obtain⟨arj,j3,x1,x2,x3,x4⟩:=wN (λi=>B.getD i 0) he2;obtain⟨alB,c7,y1,y2,y3,y4,y5⟩:=sF (λi=>B.getD i 0) (λi=>wH (std m) h1T (B.getD i 0)) (λj=>Pj h1T _) he3;have e6:e3.lv.reverse=arj++alB:=by rw [y1,x1];simp [es0]
            have ark:=unpack_pack hy;rw [e6]at ark;rw [show unpack (std m).aA G.out (ct.fn x)=arj++alB from ark,x3]at a5;simp only at a5;have g7:=y3 [];rw [append_nil]at g7;rw [g7]at a5;simp only [Option.some.injEq,Prod.mk.injEq]at a5;obtain⟨hv,i3⟩:=a5;have c8:e3.ren.length=G.dV.length:=by rw [y2.len,x2.len,LZ]
            have KJ:∀(i l:Nat),e.ren[i]? =some (some (some l))->i<G.objs.length:=λi l A=>by rw [<-f7];exact(List.getElem?_eq_some_iff.1 A).1
            have U:∀(i l:Nat),e.ren[i]? =some (some (some l))->∃V,AE.look h l=some V/\V.live:=λi l A=>by
             have T:=KJ i l A;obtain⟨o2,I,L⟩:=d7 i _ (getElem?_eq_getElem T);obtain⟨_,_,_,_,Y⟩:=L.rel H HR d8 m3 (λh=>by cases h);exact Y l (λhg=>jX.gone A (by rw [getElem?_eq_getElem T,hg])) A
            have d2:∀l V,AE.look h l=some V->l<S.length:=λl V s=>by rw [<-e4];exact(H.obj l V s).1
            have P:=Rp (n:=m) c7 e.ren h1T (λi l A _=>by rw [Gx];obtain⟨V,q,_⟩:=U i l A;exact d2 l V q) (λi j l A hj=>jX.dist A hj);rw [y4,alA,i3]at P;have aiI:∀i,i<G.dV.length->B[i]? =some (B.getD i 0):=λi A=>by
             have:i<B.length:=by rw [ari];exact A
             simp [getD,getElem?_eq_getElem this]
            have b7:∀i,i<G.dV.length->kT[B.getD i 0]? =c7[i]? /\(e.ren[i]? =some (some (some (B.getD i 0)))\/(S.length<=B.getD i 0/\∀q:Nat,e.ren[i]? ≠some (some (some q)))):=λi A=>by
             obtain⟨l,I,L,Y⟩:=P.at_ i (by rw [y4];exact A);rw [aiI i A]at I;have I:=Option.some.inj I;subst I;rw [Gx]at Y;exact⟨L,Y⟩
            have acn:∀i j,i<G.dV.length->j<G.dV.length->B.getD i 0=B.getD j 0->i=j:=λi j A hj i6=>P.inj i j _ (aiI i A) (by rw [i6];exact aiI j hj)
            have auo:∀i,i<G.dV.length->B.getD i 0<kT.length:=λi A=>by
             have h3:=(b7 i A).1;rw [getElem?_eq_getElem (show i<c7.length by rw [y4];exact A)]at h3;exact(List.getElem?_eq_some_iff.1 h3).1
            have Zv:∀(i l:Nat),e.ren[i]? =some (some (some l))->B.getD i 0=l:=λi l A=>by
             have T:=Nat.lt_of_lt_of_le (KJ i l A) c2;rcases(b7 i T).2 with q | ⟨_,q⟩
             .rw [A]at q;cases q;rfl
             .exact absurd A (q l)
            have hD:∀l,l∈bM e.ren->∃i,i<G.dV.length/\B.getD i 0=l/\e.ren[i]? =some (some (some l)):=λl s=>by
             obtain⟨i,A⟩:=yx s;exact⟨i,Nat.lt_of_lt_of_le (KJ i l A) c2,Zv i l A,A⟩
            obtain⟨D,aj1⟩:∃D,bM e.ren++(if br=true then []else e.fro.map (·.1))=D:=⟨_,rfl⟩;rw [aj1]at hK;have Pm:∀l,l∈D↔l∈bM e.ren\/(br=false/\∃f,(l,f)∈e.fro):=λl=>by
             rw [<-aj1];cases br<;>simp
            have yC:∀l f,(l,f)∈e.fro->(∃g cc xs,S[l]? =some (.rows g cc xs))/\∃V,AE.look h l=some V/\V.live:=λl f s=>by
             obtain⟨_,g,cc,xs,q⟩:=jX.fro l f s;obtain⟨V,I,L⟩:=HR.old l _ q;cases L with | rows _=>exact⟨⟨g,cc,xs,q⟩,_,I,trivial⟩
            have KL:∀l o,AE.look (Bn D h) l=some o->o.live->l∉D/\AE.look h l=some o:=λl o s F=>by
             by_cases hd:l∈D
             .rw [Gu hd]at s;cases s;exact F.elim
             .rw [sJ hd]at s;exact⟨hd,s⟩
            have Ma:∀l o b,l∉D->AE.look h l=some o->o.live->c.μ l=some b->¬fP c1 c0 b:=λl o b hd s F a W=>by
             obtain⟨i,lq,q,I,L,Y,q4⟩:=ara b W;have:=H.inj l o lq q b s F L Y a q4;subst this;exact hd ((Pm l).2 (.inl (sG I)))
            have Zw:∀b,fP c1 c0 b->fP c h b:=λb a=>by
             obtain⟨i,lq,q,_,L,Y,q4⟩:=ara b a;exact⟨lq,q,L,Y,q4⟩
            have f9:∀f b,c.K f b->w3.heap[b]? =w.heap[b]? :=λf b a=>g3.kept b (H.low f b a) (λW=>H.own f b (Zw b W) a)
            have Hb:bL c w3 (Bn D h):=by
             refine⟨λl o s=> ?_,λl o l' V b I L Y q4 q5 q6=> ?_,?_,λf b a=>Nat.lt_of_lt_of_le (H.low f b a) g3.size,H.sub⟩
             .by_cases hd:l∈D
              .rw [Gu hd]at s;cases s;refine⟨?_,trivial⟩;rcases(Pm l).1 hd with h3 | ⟨_,f,h3⟩
               .obtain⟨i,A⟩:=yx h3;obtain⟨V,q,_⟩:=U i l A;exact(H.obj l V q).1
               .obtain⟨_,V,q,_⟩:=yC l f h3;exact(H.obj l V q).1
              .rw [sJ hd]at s;obtain⟨I,L⟩:=H.obj l o s;exact⟨I,L.mono (.refl c) f9 g3.stays I (λb F a=>g3.kept b (L.lt F a) (Ma l o b hd s F a))⟩
             .obtain⟨_,r1⟩:=KL l o I L;obtain⟨_,r2⟩:=KL l' V Y q4;exact H.inj l o l' V b r1 L r2 q4 q5 q6
             .rintro f b ⟨l,o,s,F,a⟩ hk;obtain⟨_,r1⟩:=KL l o s F;exact H.own f b ⟨l,o,r1,F,a⟩ hk
            have aco:∀l o b,AE.look h l=some o->o.live->c.μ l=some b->b<w.heap.size:=λl o b s F a=>(H.obj l o s).2.lt F a
            have aj2:∀l o b,l∉D->AE.look h l=some o->o.live->c.μ l=some b->¬fP c3 a6.h b:=λl o b hd s F a W=>by
             rcases g3.qV b W with h3 | h3
             .exact Ma l o b hd s F a h3
             .have:=aco l o b s F a;omega
            have Zx:∀q g b,(q,g)∈e3.fro->c3.μ q=some b->fP c3 a6.h b:=λq g b hq a=>by
             obtain⟨_,g',cc,xs,s⟩:=Gw.fro q g hq;obtain⟨V,I,L⟩:=S3.heap.old q _ s;cases L with | rows _=>exact⟨q,_,I,trivial,a⟩
            have arl:br=true->∀l f,(l,f)∈e.fro->f=false:=λa l f s=>by
             rw [<-e5]at a;simp only [Bool.and_eq_true]at a;have:=all_eq_true.1 a.2 _ s;simpa using this
            have alq:∀f b,fP c (Bn D h) b->KX e3 c3 br f b->False:=by
             rintro f b ⟨l,o,s,F,a⟩ hk;obtain⟨hd,s⟩:=KL l o s F;rcases hk with hk | ⟨q,g,I,L,_⟩
             .rcases g3.yT _ b hk with h3 | h3 | h3
              .rcases f2 _ b h3 with h3 | ⟨l2,g2,I,L,Y⟩
               .exact H.own _ b ⟨l,o,s,F,a⟩ h3
               .obtain⟨_,o2,r1,r2⟩:=yC l2 g2 I;have:=H.inj l o l2 o2 b s F r1 r2 a L;subst this;cases hbb:br with
                | false=>exact hd ((Pm l).2 (.inr ⟨hbb,g2,I⟩))
                | true=>
                 have Z:=Y (by rw [hbb];simp);have h6:=arl hbb l g2 I;rw [Z]at h6;cases h6
              .have:=aco l o b s F a;omega
              .exact Ma l o b hd s F a h3
             .exact aj2 l o b hd s F a (Zx q g b I L)
            have aup:∃μ2:Nat->Option (Nat×Nat),(∀l,l<S.length->μ2 l=c.ν l)/\(∀(i q:Nat),i<G.dV.length->S.length<=B.getD i 0->e3.ren[i]? =some (some (some q))->μ2 (B.getD i 0)=Gg (trK e3 s3.h i q) (c3.ν q))/\
              (∀i:Nat,i<G.dV.length->S.length<=B.getD i 0->e3.ren[i]? =some (some none)->μ2 (B.getD i 0)=none):=by
             have i1:∀l,∃ob:Option (Nat×Nat),(l<S.length->ob=c.ν l)/\(∀(i q:Nat),i<G.dV.length->S.length<=l->B.getD i 0=l->e3.ren[i]? =some (some (some q))->ob=Gg (trK e3 s3.h i q) (c3.ν q))/\
               (∀i:Nat,i<G.dV.length->S.length<=l->B.getD i 0=l->e3.ren[i]? =some (some none)->ob=none):=by
              intro l;by_cases s:l<S.length
              .exact⟨c.ν l,λ_=>rfl,λi q _ O=>by omega,λi _ O=>by omega⟩
              .by_cases hx:∃i q:Nat,i<G.dV.length/\B.getD i 0=l/\e3.ren[i]? =some (some (some q))
               .obtain⟨i,q,O,Z,h6⟩:=hx;refine⟨Gg (trK e3 s3.h i q) (c3.ν q),λh=>absurd h s,λj q' h7 _ h9 a8=> ?_,λj h7 _ h9 a8=> ?_⟩
                .have:=acn i j O h7 (Z.trans h9.symm);subst this;rw [h6]at a8;cases a8;rfl
                .have:=acn i j O h7 (Z.trans h9.symm);subst this;rw [h6]at a8;cases a8
               .exact⟨none,λh=>absurd h s,λj q' h7 _ h9 a8=>absurd ⟨j,q',h7,h9,a8⟩ hx,λ_ _ _ _ _=>rfl⟩
             obtain⟨μ2,alC⟩:=Classical.axiomOfChoice i1;exact⟨μ2,λl s=>(alC l).1 s,λi q O Z h6=>(alC _).2.1 i q O Z rfl h6,λi O Z h6=>(alC _).2.2 i O Z rfl h6⟩
            obtain⟨μ2,μa,μb,μc⟩:=aup;have Rq:∀(i:Nat) (v:Option Nat),i<G.objs.length->e3.ren[i]? =some (some v)->v=some i/\(es0 (std N) G.objs.length G.dV).ren[i]? =some (some (some i)):=λi v A hv=>by
             have T:=Nat.lt_of_lt_of_le A c2;have h0:=LY (n:=N) A T;have hg:tu G.dV[i]? =false:=by
              unfold tu;split
              .rename_i hh;exact absurd hh (Gw.gone hv)
              .rfl
             rw [hg]at h0;have h0:(es0 (std N) G.objs.length G.dV).ren[i]? =some (some (some i)):=by simpa using h0
             have:=y2.ren i _ (x2.ren i _ h0);rw [hv]at this;cases this;exact⟨rfl,h0⟩
            have d6:∀(i q:Nat),e3.ren[i]? =some (some (some q))->μ2 (B.getD i 0)=Gg (trK e3 s3.h i q) (c3.ν q):=λi q A=>by
             have T:i<G.dV.length:=by rw [<-c8];exact(List.getElem?_eq_some_iff.1 A).1
             rcases(b7 i T).2 with O | ⟨O,_⟩
             .have a7:=KJ i _ O;obtain⟨Z,g9⟩:=Rq i _ a7 A;cases Z;obtain⟨V,h6,_⟩:=U i _ O;have i8:j6 (std N) e3 i=none:=by rw [y2.tr i _ (x2.ren i _ g9),x2.tr i _ g9];rfl
              have i7:j6 (std m) e i=none:=by simp [j6,e7]
              rw [μa _ (d2 _ V h6),pK i8,lH,g3.le.ν i (by rw [d9];exact a7)];have:=(m3.name i _ O).2;rw [pK i7,lH]at this;exact this.symm
             .exact μb i q T O A
            have f4:∀(i:Nat),e3.ren[i]? =some (some none)->μ2 (B.getD i 0)=none:=λi A=>by
             have T:i<G.dV.length:=by rw [<-c8];exact(List.getElem?_eq_some_iff.1 A).1
             rcases Nat.lt_or_ge i G.objs.length with O | O
             .obtain⟨Z,_⟩:=Rq i _ O A;cases Z
             .rcases(b7 i T).2 with Z | ⟨Z,_⟩
              .have:=KJ i _ Z;omega
              .exact μc i T Z A
            have d1:Same S kT:=λl z hz=>by
             have b8:l<S.length:=by
              rcases Nat.lt_or_ge l S.length with s | s
              .exact s
              .simp [nmh,getElem?_eq_none s]at hz
             by_cases hp:∃i:Nat,e.ren[i]? =some (some (some l))
             .obtain⟨i,A⟩:=hp;have a7:=KJ i l A;have T:=Nat.lt_of_lt_of_le a7 c2;have hn:=Zv i l A;have f0:=(b7 i T).1;rw [hn]at f0;obtain⟨k3,g5⟩:∃k3,G.dV[i]? =some k3:=⟨_,getElem?_eq_getElem T⟩;obtain⟨o3,r1,r2⟩:=y5 e3 (.refl _) i k3 g5;rw [Nat.zero_add]at r2;have d4:nmh [o3] 0=some z->nmh kT l=some z:=λhh=>by
               simp only [nmh,f0,r1];simpa [nmh]using hh
              by_cases hg:k3= .gone
              .refine d4 ?_;rw [r2.gone hg];show nmh [wH (std m) h1T (B.getD i 0)] 0=some z;rw [hn];rw [<-arh]at hz;unfold wH;simp only [nmh]at hz ⊢;split at hz
               .rename_i hh;rw [hh];simpa using hz
               .rename_i hh;rw [hh];simpa using hz
               .cases hz
              .obtain⟨v3,c9⟩:=r2.live hg;obtain⟨Z,h6⟩:=Rq i _ a7 c9;subst Z;obtain⟨j0,s1,s2⟩:=d7 i _ (getElem?_eq_getElem a7);have auq:G.objs[i]≠ .gone:=λhh=>jX.gone A (by rw [getElem?_eq_getElem a7,hh])
               have t1:=s2.s1 l z.1 z.2 auq A (by rw [hz]);have aur:j6 (std m) e i=none:=by simp [j6,e7]
               rw [aur]at t1;have t2:nmh a9 i=some z:=by simp only [nmh,s1];simpa [nmh]using t1
               rcases(K3 i a7).2 z t2 with⟨cc,nn,b0⟩ | t3
               .exfalso;obtain⟨j5,avG⟩:=r2.live hg;have:=KH he3 (i:=i) g5 hg (l:=i) (by rw [Nat.zero_add];exact c9);obtain⟨o4,g0,aus⟩:=this;rw [b0]at g0;cases g0;exact aus ⟨_,_,rfl⟩
               .have aut:j6 (std N) e3 i=none:=by rw [y2.tr i _ (x2.ren i _ h6),x2.tr i _ h6];rfl
                have t4:=r2.s1 i z.1 z.2 hg c9 (by rw [t3]);rw [aut]at t4;exact d4 t4
             .have hp':∀i:Nat,i<c7.length->e.ren[i]? ≠some (some (some l)):=λi _ A=>hp ⟨i,A⟩
              have:=P.old l (by rw [Gx];exact b8) hp';rw [<-arh]at hz;simp only [nmh,this];exact hz
            have auu:∀(j:Nat) (kk:SkO),G.dV[j]? =some kk->∃o2,c7[j]? =some o2/\OF e3 s3.h (λi=>B.getD i 0) j kk (wH (std m) h1T (B.getD j 0)) o2:=λj kk hj=>by
             obtain⟨o2,I,L⟩:=y5 e3 (.refl _) j kk hj;exact⟨o2,I,by simpa using L⟩
            have auv:br=true->G.dV.all SkO.fresh=true:=λa=>by
             rw [<-e5]at a;simp only [Bool.and_eq_true,Sig.fresh]at a;exact a.1.2
            have auw:br=true->G.res.all SkV.fresh=true:=λa=>by
             rw [<-e5]at a;simp only [Bool.and_eq_true,Sig.fresh]at a;exact a.1.1
            obtain⟨j1,z1,z2,z3,z4,z5,z6⟩:=zW (ks:=G.dV) (nm:=λi=>B.getD i 0) (old:=λi=>wH (std m) h1T (B.getD i 0)) A3.abs.heap S3.heap arf Gw c8 y4 auu (cb:=c) (hb':=Bn D h)
             Hb br auv (ν2:=μ2) (n2:=kT.length) (by rw [e4,<-Gx];exact P.len) (λl s=>μa l (by rw [<-e4];exact s)) auo acn d6 f4 (h2:=kT) (λi A=>(b7 i A).1)
             (λl o s W=>by
              have b8:l<S.length:=by
               rcases Nat.lt_or_ge l S.length with O | O
               .exact O
               .obtain⟨i,I,L⟩:=P.new l (by rw [Gx];exact O) (List.getElem?_eq_some_iff.1 W).1;rw [y4]at I;rw [aiI i I]at L;exact absurd (Option.some.inj L) (s i I)
              have b6:l∉bM e.ren:=λhp=>by
               obtain⟨i,I,L,_⟩:=hD l hp;exact s i I L
              have Z:=P.old l (by rw [Gx];exact b8) (λi A hh=>b6 (sG hh));rw [Z]at W;by_cases hd:l∈D
              .rcases(Pm l).1 hd with h6 | ⟨hb0,f,h6⟩
               .exact absurd h6 b6
               .rw [<-aaZ,hb0]at W;simp only [Bool.false_eq_true,if_false]at W;obtain⟨⟨g,cc,xs,h7⟩,_⟩:=yC l f h6;have:Gone (bA (std m) S (e.fro.map (·.1))) l:=Bj (mem_map.2 ⟨_,h6,rfl⟩) h7;obtain⟨c5,n5,h8⟩:=this;rw [h8]at W;cases W;exact⟨.gone,Gu hd,.gone⟩
              .have h7:S[l]? =some o:=by
                rw [<-aaZ]at W;split at W
                .exact W
                .rename_i hb0;rw [lF m _ _ (λh8=>hd ((Pm l).2 (.inr ⟨by simpa using hb0,by
                  obtain⟨p,hp,rfl⟩:=mem_map.1 h8;exact⟨p.2,hp⟩⟩)))]at W
                 exact W
               obtain⟨V,r1,r2⟩:=HR.old l _ h7;exact⟨V,by rw [sJ hd];exact r1,r2.mono d1⟩)
             (λl s=>by
              have b8:S.length<=l:=by have:=P.len;rw [Gx]at this;omega
              have d0:l∉D:=λhd=>by
               rcases(Pm l).1 hd with O | ⟨_,f,O⟩
               .obtain⟨i,A⟩:=yx O;obtain⟨V,q,_⟩:=U i l A;have:=d2 l V q;omega
               .obtain⟨_,V,q,_⟩:=yC l f O;have:=d2 l V q;omega
              rw [sJ d0];exact HR.new l b8)
             (λb ⟨l,o,s,F,a⟩ W=>by
              obtain⟨hd,s⟩:=KL l o s F;exact aj2 l o b hd s F a W)
             (λf b hk W=>A3.abs.heap.own f b W (g3.le.K f b (alz f b hk))) alq
            have i5:F2 (WV c3 w3 (nmh s3.h)) us rs:=by
             clear he2 x1 x2 x3 x4 hrs u1 h1
             induction u2 generalizing rs with
             | nil=>cases g8;exact .nil
             | cons I _ ih=>cases g8 with | cons Y q4=>exact .cons ⟨_,I,Y⟩ (ih _ q4)
            obtain⟨auy,w1,w2⟩:=L6 (x4 A3.abs.heap S3.heap y2 arf z3 auw i5);have c9:PVR (nmh kT) (one auy) v:=by rw [<-hv];exact aly w2 (Gs (x3 alB))
            have f8:kT.length=nm S.length (kT.length-S.length):=by have:=P.len;rw [Gx]at this;simp [nm];omega
            have auz:∀b,fP c (Bn D h) b->fP c h b:=λb ⟨l,o,s,F,a⟩=>⟨l,o,(KL l o s F).2,F,a⟩
            have aj3:∀b,fP c3 a6.h b->fP c h b\/w.heap.size<=b:=λb a=>(g3.qV b a).imp (Zw b) id
            refine⟨_,_,_,kT.length-S.length,?_,z1,f8,aiG w1,hK _ _ _ c9 z2 ?_ f8⟩
            .refine⟨z5,g3.size,g3.stays,λb a i4=>g3.kept b a (λW=>i4 (Zw b W)),λf b a=> ?_,λb a=> ?_,g3.os,g3.tape,g3.output⟩
             .rcases a with a | a | ⟨q,g,I,L,_⟩
              .exact .inl a
              .rcases g3.yT _ b a with O | O | O
               .rcases f2 _ b O with Z | ⟨l2,g2,I,L,Y⟩
                .left;cases f with
                 | true=>simpa using Z
                 | false=>cases br with
                  | true=>exact H.sub b (by simpa using Z)
                  | false=>simpa using Z
                .obtain⟨_,o2,r1,r2⟩:=yC l2 g2 I;exact .inr (.inr ⟨l2,o2,r1,r2,L⟩)
               .exact .inr (.inl O)
               .exact .inr (.inr (Zw b O))
              .rcases aj3 b (Zx q g b I L)with O | O
               .exact .inr (.inr O)
               .exact .inr (.inl O)
             .rcases z4 b a with O | ⟨i,lq,q,_,L,Y,q4⟩
              .exact .inl (auz b O)
              .exact aj3 b ⟨lq,q,L,Y,q4⟩
            .refine⟨d1,by have:=P.len;rw [Gx]at this;exact this,λl ⟨cc,nn,b0⟩=> ?_,λl s d0=> ?_⟩
             .have b8:=(List.getElem?_eq_some_iff.1 b0).1;have b6:∀i:Nat,e.ren[i]? ≠some (some (some l)):=λi A=>by
               obtain⟨V,I,L⟩:=U i l A;obtain⟨o2,Y,q4⟩:=HR.old l _ b0;rw [I]at Y;cases Y;cases q4;exact L.elim
              have i2:∀f,(l,f)∉e.fro:=λf hf=>by
               obtain⟨⟨g,c5,xs,h7⟩,_⟩:=yC l f hf;rw [b0]at h7;cases h7
              refine⟨cc,nn,?_⟩;rw [P.old l (by rw [Gx];exact b8) (λi _=>b6 i),<-aaZ];split
              .exact b0
              .rw [lF m _ _ (λh8=>by
                obtain⟨p,hp,rfl⟩:=mem_map.1 h8;exact i2 p.2 hp)]
               exact b0
             .have b6:∀i:Nat,e.ren[i]? ≠some (some (some l)):=λi A=>d0 ((Pm l).2 (.inl (sG A)))
              refine⟨?_,?_⟩
              .rw [P.old l (by rw [Gx];exact s) (λi _=>b6 i),<-aaZ];split
               .rfl
               .rename_i hb0;exact lF m _ _ (λh8=>d0 ((Pm l).2 (.inr ⟨by simpa using hb0,by
                 obtain⟨p,hp,rfl⟩:=mem_map.1 h8;exact⟨p.2,hp⟩⟩)))
              .rw [z6 l (λi A hh=>by
                rcases(b7 i A).2 with O | ⟨O,_⟩
                .rw [hh]at O;exact b6 i O
                .omega),sJ d0]
           ·(subst hM;exact Q.elim)
          ·(subst hM;exact Q.elim)
         ·(subst hM;exact Q.elim)
        ·(subst hM;exact Q.elim)
       ·(subst hM;exact Q.elim)
      intro ex a' w' he;cases ex with
      | outgrown=>exact he.elim
      | panic _=>exact he.elim
      | goto _=>exact he.elim
      | normal=>obtain⟨c3,a6,s3,g1,g2,g3,g4,_,g6⟩:=he;exact fin g1 g2 g3 g4 g6
      | ret=>obtain⟨c3,a6,s3,g1,g2,g3,g4,_,g6⟩:=he;exact fin g1 g2 g3 g4 g6
      | exit i=>obtain⟨c3,a6,s3,g1,g2,g3,g4,_,g6⟩:=he;exact g6.elim
     .cases J
    .cases J
   .cases J
  .cases J
end
end
end Go.TX
