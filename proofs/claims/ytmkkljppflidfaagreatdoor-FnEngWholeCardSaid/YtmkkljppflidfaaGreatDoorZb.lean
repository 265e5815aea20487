/- Part 2 of a proof: what the last part needs. No condition. -/
import Derived.Test.YtmkkljppflidfaaGreatDoorZa
set_option maxHeartbeats 1000000
set_option linter.all false
set_option linter.unusedSectionVars false
set_option linter.unusedVariables false
set_option linter.unusedSimpArgs false
namespace Go.TX
open Go Go.AE List
variable [aD]
inductive SkC where
 | int (k:IntKind) | bool | str | rows (f:Bool) (c:Co) | nil | own (l:Nat) | pb (l sz j:Nat) | pr (l j:Nat) | rp (f:Bool) (c:Co) (j:Nat) | gp (g:Nat) (c:Co)
 | fn (g:FuncId) (caps:List (Nat×Nat)) | np | clip (f:Bool) (c:Co)
 deriving DecidableEq,Inhabited,Repr
inductive SkV where
 | c (x:SkC) | agg (cs:List SkC) | sv (f:Bool) (c:Co)
 deriving DecidableEq,Inhabited,Repr
inductive SkO where
 | box (v:SkV) | rows (f:Bool) (c:Co) | gone
 deriving DecidableEq,Inhabited,Repr
structure gL where
 slots:List (Nat×SkV)
 objs:List SkO
 deriving DecidableEq,Inhabited
abbrev SkC.tys:SkC->List LTy
 | .int _=> [.i] | .bool=> [.b] | .str=> [.s] | .rows _ c=> [.l c] | .pr _ _=> [.i] | .rp _ c _=> [.l c,.i] | .clip _ c=> [.l c] | _=> []
abbrev SkC.CW:List SkC->List LTy
 | []=> []
 | x::r=>x.tys++SkC.CW r
abbrev SkV.tys:SkV->List LTy
 | .c x=>x.tys | .agg cs=>SkC.CW cs | .sv _ q=> [.x q]
abbrev SkV.CW:List SkV->List LTy
 | []=> []
 | x::r=>x.tys++SkV.CW r
abbrev SkO.tys:SkO->List LTy
 | .box v=>v.tys | .rows _ c=> [.l c] | .gone=> []
abbrev SkO.CW:List SkO->List LTy
 | []=> []
 | x::r=>x.tys++SkO.CW r
abbrev gL.tys(k:gL):List LTy:=SkV.CW (k.slots.map (·.2))++SkO.CW k.objs
structure Sig where
 args:List SkV
 objs:List SkO
 res:List SkV
 dJ:List SkO
 deriving DecidableEq,Inhabited
abbrev Sig.inp(s:Sig):List LTy:=SkV.CW s.args++SkO.CW s.objs
abbrev Sig.out(s:Sig):List LTy:=SkV.CW s.res++SkO.CW s.dJ
def SkC.fresh:SkC->Bool | .rows f _=>f | .clip f _=>f | .rp f _ _=>f | .gp _ _=>false | _=>true
def SkV.fresh:SkV->Bool | .c x=>x.fresh | .agg cs=>cs.all SkC.fresh | .sv f q=>f || q.flat
def SkO.fresh:SkO->Bool | .box v=>v.fresh | .rows f _=>f | .gone=>true
def Sig.fresh(s:Sig):Bool:=s.res.all SkV.fresh&&s.dJ.all SkO.fresh
structure Ct(A:Car)(s:Sig) where
 pre:Tup A s.inp->A.B
 fn:Tup A s.inp->Tup A s.out
abbrev Calls(A:Car):=FuncId->List (Sigma (Ct A))
inductive Ann where
 | u | seq (a b:Ann) | cond (a b:Ann) | block (a:Ann) | loop (k:gL) (a:Ann) | cut (k:gL) (a:Ann)
 deriving Inhabited
section
variable (A:Alg)
structure ES where
 ren:List (Option (Option Nat))
 fro:List (Nat×Bool)
 tr:List (Nat×A.I×A.I)
 ck:List A.B
 lv:List (LV A.aA)
def ES.push(s:ES A)(x:LV A.aA):ES A:={s with lv:=x::s.lv}
def sF(s:ES A)(i:Nat)(v:Option Nat):Option (ES A):=
 match s.ren[i]? with
 | some none=>some {s with ren:=s.ren.set i (some v)}
 | some (some w)=>if w=v then some s else none
 | none=>none
def extC(h:List (dL A.aA))(k:SkC)(v:TC A.aA)(s:ES A):Option (ES A):=
 match k with
 | .int k=>match v with | .d _ (.int k' x)=>if k=k' then some (s.push A (.i x))else none | _=>none
 | .bool=>match v with | .d _ (.bool x)=>some (s.push A (.b x)) | _=>none
 | .str=>match v with | .d _ (.str x)=>some (s.push A (.s x)) | _=>none
 | .rows f c=>match v with
  | .os l e n=>match h[l]? with
   | some (.rows g a d)=>if c=a/\(!f || g)then some {(s.push A (.l a (A.sub a d e (A.addN e n))))with fro:=(l,f)::s.fro,ck:=kU A h (.c v)++s.ck}else none
   | _=>none
  | v=>match eO A h (.rows c) v with
   | some (g,x,ls)=>if !f || g then some {(s.push A x)with fro:=ls.map (λl=>(l,f))++s.fro}else none
   | none=>none
 | .nil=>match v with | .nil=>some s | _=>none
 | .own i=>match v with
  | .own l=>if s.tr.any (·.1==i)then none else sF A s i (some l)
  | .nil=>sF A s i none
  | .os l e n=>match s.ren[i]?,h[l]? with
   | some none,some (.rows _ c d)=>some {s with ren:=s.ren.set i (some (some l)),tr:=(i,e,n)::s.tr,ck:=[A.cmp .leq (A.lit 0) e,A.cmp .leq (A.lit 0) n,A.cmp .leq (A.addN e n) (A.len c d)]++s.ck}
   | _,_=>none
  | _=>none
 | .pb i r j=>match v with | .pb l q m=>if r=q/\j=m/\ !(s.tr.any (·.1==i))then sF A s i (some l)else none | _=>none
 | .pr i j=>match v with | .pr l x m=>if j=m/\ !(s.tr.any (·.1==i))then(match sF A s i (some l)with | some s=>some (s.push A (.i x)) | none=>none)else none | _=>none
 | .rp f c j=>match v with | .rp g a d x m=>if c=a/\j=m/\(!f || g)then some ((s.push A (.l a d)).push A (.i x))else none | _=>none
 | .gp g c=>match v with | .gp o a=>if g=o/\c=a then some s else none | _=>none
 | .fn g b=>match v with
  | .fn o pU=>if g=o/\b.map (·.2)=pU.map (·.2)/\b.all (λp=> !(s.tr.any (·.1==p.1)))then
    (b.zip pU).foldlM (λs p=>sF A s p.1.1 (some p.2.1)) s else none
  | _=>none
 | .np=>match v with | .np=>some s | _=>none
 | .clip f c=>match v with | .clip g a d=>if c=a/\(!f || g)then some (s.push A (.l a d))else none | _=>none
def Eu(h:List (dL A.aA)):List SkC->List (TC A.aA)->ES A->Option (ES A)
 | [],[],s=>some s
 | k::r,v::vs,s=>match extC A h k v s with | some s=>Eu h r vs s | none=>none
 | _,_,_=>none
def GK(h:List (dL A.aA))(k:SkV)(v:TV A.aA)(s:ES A):Option (ES A):=
 match k with
 | .c k=>match v with | .c x=>extC A h k x s | _=>none
 | .agg a=>if bE A v then Eu A h a (bU A v) s else none
 | .sv f c=>if bE A v then match toX A h c v with
  | some (g,x,ls)=>if !f || g then some {(s.push A (.x c x))with fro:=ls.map (λl=>(l,f))++s.fro}else none
  | none=>none
  else none
def pV(h:List (dL A.aA)):List SkV->List (TV A.aA)->ES A->Option (ES A)
 | [],[],s=>some s
 | k::r,v::vs,s=>match GK A h k v s with | some s=>pV h r vs s | none=>none
 | _,_,_=>none
def jH(s:ES A)(i:Nat):Option (A.I×A.I):=match s.tr.find? (·.1==i)with | some x=>some x.2 | none=>none
def Oo(h:List (dL A.aA))(i:Nat)(k:SkO)(s:ES A):Option (ES A):=
 match k,s.ren[i]? with
 | .gone,_=>some s
 | .box k,some (some (some l))=>match h[l]? with | some (.box v)=>GK A h k v s | _=>none
 | .rows f c,some (some (some l))=>match h[l]? with
  | some (.rows g c' xs)=>if c=c'/\(!f || g || c.flat)then some (s.push A (.l c' (match jH A s i with | some p=>A.sub c' xs p.1 (A.addN p.1 p.2) | none=>xs)))else none
  | _=>none
 | .rows _ c,some (some none)=>some (s.push A (.l c (A.Eo c)))
 | _,_=>none
def zW(h:List (dL A.aA)):Nat->List SkO->ES A->Option (ES A)
 | _,[],s=>some s
 | i,k::r,s=>match Oo A h i k s with | some s=>zW h (i+1) r s | none=>none
def bI:List (Option (Option Nat))->List Nat
 | []=> []
 | some (some l)::r=>l::bI r
 | _::r=>bI r
def distinct:List Nat->Bool
 | []=>true
 | x::r=> !r.contains x&&distinct r
def sG:Option SkO->Bool | some .gone=>true | _=>false
def qZ:List SkO->List (Option (Option Nat))->Bool
 | .gone::os,some _::_=>false
 | _::os,_::r=>qZ os r
 | _,_=>true
def Xw(h:List (dL A.aA))(l:Nat):Bool:=match h[l]? with | some (.rows ..)=>true | _=>false
def ES.fine(h:List (dL A.aA))(s:ES A)(a:List SkO):Bool:=distinct (bI s.ren)&& (s.fro.all λp=> !(bI s.ren).contains p.1&&Xw A h p.1)&&qZ a s.ren
def es0(k:Nat)(os:List SkO):ES A:={ren:=(range os.length).map λi=>if Nat.blt i k&& !sG os[i]? then some (some i)else none,fro:=[],tr:=[],ck:=[],lv:=[]}
end
section
variable (A:Car)
def Xx(nm:Nat->Nat):SkC->List (LV A)->Option (TC A×List (LV A))
 | .int k,.i x::r=>some (.d true (.int k x),r)
 | .bool,.b x::r=>some (.d true (.bool x),r)
 | .str,.s x::r=>some (.d true (.str x),r)
 | .rows f _,.l c x::r=>some (.d f (.rows c x),r)
 | .nil,r=>some (.nil,r)
 | .own i,r=>some (.own (nm i),r)
 | .pb i sz j,r=>some (.pb (nm i) sz j,r)
 | .pr i j,.i x::r=>some (.pr (nm i) x j,r)
 | .rp f _ j,.l c x:: .i y::r=>some (.rp f c x y j,r)
 | .gp g c,r=>some (.gp g c,r)
 | .fn g caps,r=>some (.fn g (caps.map λp=>(nm p.1,p.2)),r)
 | .np,r=>some (.np,r)
 | .clip f _,.l c x::r=>some (.clip f c x,r)
 | _,_=>none
def JE(nm:Nat->Nat):List SkC->List (LV A)->Option (List (TC A)×List (LV A))
 | [],r=>some ([],r)
 | k::ks,r=>match Xx A nm k r with
  | some (x,r)=>match JE nm ks r with | some (xs,r)=>some (x::xs,r) | none=>none
  | none=>none
def zY(nm:Nat->Nat):SkV->List (LV A)->Option (TV A×List (LV A))
 | .c k,r=>match Xx A nm k r with | some (x,r)=>some (.c x,r) | none=>none
 | .agg ks,r=>match JE A nm ks r with | some (xs,r)=>some (.agg xs,r) | none=>none
 | .sv f _,.x c x::r=>some (.sv f c x,r)
 | _,_=>none
def sH(nm:Nat->Nat):List SkV->List (LV A)->Option (List (TV A)×List (LV A))
 | [],r=>some ([],r)
 | k::ks,r=>match zY A nm k r with
  | some (x,r)=>match sH nm ks r with | some (xs,r)=>some (x::xs,r) | none=>none
  | none=>none
def Xy(nm:Nat->Nat)(a:dL A):SkO->List (LV A)->Option (dL A×List (LV A))
 | .box k,r=>match zY A nm k r with | some (v,r)=>some (.box v,r) | none=>none
 | .rows f _,.l c x::r=>some (.rows f c x,r)
 | .gone,r=>some (a,r)
 | _,_=>none
def vJ(nm:Nat->Nat)(old:Nat->dL A):Nat->List SkO->List (LV A)->Option (List (dL A)×List (LV A))
 | _,[],r=>some ([],r)
 | i,k::ks,r=>match Xy A nm (old i) k r with
  | some (x,r)=>match vJ nm old (i+1) ks r with | some (xs,r)=>some (x::xs,r) | none=>none
  | none=>none
end
section
variable (A:Alg)
structure SV where
 tag:Option Nat
 v:TV A.aA
structure GE where
 slot:Option Nat
 want:Bool
 par:Option Nat
 g:A.B
 dead:Bool
structure RSt where
 t:List (Nat×SV A)
 gs:List (GE A)
 h:List (dL A.aA)
 m:Nat
 deriving Inhabited
def cu:List (Nat×SV A)->Nat->Option (SV A)
 | [],_=>none
 | (i,v)::r,j=>if i==j then some v else cu r j
def nJ(d:Nat)(e:GE A):GE A:=match e.slot with | some x=>if x==d then {e with slot:=none}else e | none=>e
def RSt.put(s:RSt A)(d:Option Nat)(tag:Option Nat)(v:TV A.aA):RSt A:=
 match d with | none=>s | some d=> {s with t:=(d,⟨tag,v⟩)::s.t,gs:=s.gs.map (nJ A d)}
def RSt.del(s:RSt A)(d:Option Nat):RSt A:=
 match d with | none=>s | some d=> {s with t:=s.t.filter λp=> !(p.1==d),gs:=s.gs.map (nJ A d)}
def TK(m:Nat):Option Nat->Bool | none=>true | some d=>Nat.blt d m
def Oq(a:List (GE A)):Nat->Option Nat->List Nat
 | 0,_=> []
 | _,none=> []
 | f+1,some t=>t::(match a[t]? with | some e=>Oq a f e.par | none=> [])
def dM(gs:List (GE A))(t:Option Nat):List Nat:=Oq A gs (gs.length+1) t
def dS:List (GE A)->Nat->Bool->Nat->Option Nat
 | [],_,_,_=>none
 | e::r,d,w,i=>if(e.slot==some d)&& (e.want==w)then some i else dS r d w (i+1)
def fZ(lk:Nat->Option (SV A))(al:List Nat)(i:Nat):Option (TV A.aA):=
 match lk i with
 | some ⟨none,v⟩=>some v
 | some ⟨some t,v⟩=>if al.contains t then some v else none
 | none=>none
inductive GR where
 | bad | skip | run (gs:List (GE A)) (t:Nat) (g:A.B)
def Br(g:Nat->Option (SV A))(gs:List (GE A))(d:Nat)(a:Bool):GR A:=
 match g d with
 | none=> .bad
 | some ⟨tg,v⟩=>match dS A gs d a 0 with
  | some t=>match gs[t]? with | some e=>if e.dead then .skip else .run gs t e.g | none=> .bad
  | none=>match v with
   | .c (.d _ (.bool b))=>
    let c:=if a then b else A.yU b
    match tg with
    | none=> .run (gs++ [⟨some d,a,none,c,false⟩]) gs.length c
    | some f=>match gs[f]? with
     | some e=> .run (gs++ [⟨some d,a,some f,A.LQ e.g c,false⟩]) gs.length (A.LQ e.g c)
     | none=> .bad
   | .tup []=>match tg with | none=> .skip | some _=> .bad
   | _=> .bad
def zZ(gs:List (GE A))(t:Nat):List (GE A):=match gs[t]? with | some e=>gs.set t {e with dead:=true} | none=>gs
def vK(X:XT)(f:Nat->Option (SV A))(gs:List (GE A))(h:List (dL A.aA))(g:Option Nat)(i:Op):PR A:=
 let al:=dM A gs g
 match i with
 | .pick c a b=>match evX A X (fZ A f al) c with
  | some (.c (.d _ (.bool q)))=>
   let e (w:Bool):List Nat:=match c with
    | .tmp d=>(match dS A gs d w 0 with | some t=>dM A gs (some t)++al | none=>al)
    | _=>al
   match evX A X (fZ A f (e true)) a,evX A X (fZ A f (e false)) b with
   | some (.tup []),some y=>some ([A.yU q],y)
   | some x,some (.tup [])=>some ([q],x)
   | some x,some y=>LU A (Ol A q x y)
   | _,_=>none
  | _=>none
 | i=>TI A X (fZ A f al) h i
def L8(X:XT)(e:Nat->Option (TV A.aA)):List Operand->Option (List (TV A.aA))
 | []=>some []
 | x::r=>match evX A X e x with | some v=>(match L8 X e r with | some a=>some (v::a) | none=>none) | none=>none
def newNames:List (Option (Option Nat))->Nat->Nat->List Nat
 | _,_,0=> []
 | [],n,k+1=>n::newNames [] (n+1) k
 | some (some l)::r,n,k+1=>l::newNames r n k
 | _::r,n,k+1=>n::newNames r (n+1) k
def vL(h:List (dL A.aA))(l:Nat):dL A.aA:=
 match h[l]? with | some (.rows _ c xs)=> .gone c (A.len c xs) | some (.gone c n)=> .gone c n | _=> .gone .i64 (A.lit 0)
def iC(h:List (dL A.aA)):List Nat->List (dL A.aA)->List (dL A.aA)
 | l::ls,o::os=>iC (if Nat.blt l h.length then h.set l o else h++ [o]) ls os
 | _,_=>h
def amh:List (TV A.aA)->TV A.aA | [v]=>v | vs=> .tup vs
structure CR where
 ck:List A.B
 ts:List LTy
 y:Tup A.aA ts
 k:Tup A.aA ts->Option (TV A.aA×List (dL A.aA))
 touched:List Nat
 pure:Bool
def sI(h:List (dL A.aA))(s:Sig)(d:Ct A.aA s)(args:List (TV A.aA)):Option (CR A):=
  match pV A h s.args args (es0 A 0 s.objs)with
  | some e=>match zW A h 0 s.objs e with
    | some e=>if ES.fine A h e s.objs&&e.tr.isEmpty then match pack A.aA s.inp e.lv.reverse with
      | some x=>
        let b:=s.fresh&&e.fro.all λp=> !p.2
        some { ck := e.ck ++ [d.pre x], ts := s.out, y := d.fn x, touched := bI e.ren ++ (if b then [] else e.fro.map (·.1)), pure := s.objs.isEmpty && s.dJ.isEmpty && (b || e.fro.isEmpty)
               k:=λy=>
                 let c:=if b then h else bg A h (e.fro.map (·.1))
                 let a:=newNames e.ren c.length s.dJ.length
                 let nm:=λi=>a.getD i 0
                 match sH A.aA nm s.res (unpack A.aA s.out y)with
                 | some (vs,r)=>match vJ A.aA nm (λi=>vL A c (nm i)) 0 s.dJ r with
                   | some (os,_)=>some (amh A vs,iC A c a os)
                   | none=>none
                 | none=>none}
      | none=>none
      else none
    | none=>none
  | none=>none
def Aa(h:List (dL A.aA))(a:List (TV A.aA)):List (Sigma (Ct A.aA))->Option (CR A)
 | []=>none
 | ⟨s,ct⟩::r=>match sI A h s ct a with | some x=>some x | none=>Aa h a r
def TL(X:XT)(C:Calls A.aA)(e:Nat->Option (TV A.aA))(h:List (dL A.aA))(a:Op):Option (CR A):=
 match a with
 | .call c=>match c.callee with
  | .value f=>match evX A X e f,L8 A X e c.args.toList with
   | some (.c (.fn g caps)),some vs=>Aa A h (vs++caps.map λp=> .c (.pb p.1 p.2 0)) (C g)
   | _,_=>none
  | _=>none
 | _=>none
def V5(X:XT)(C:Calls A.aA)(e:Nat->Option (TV A.aA))(h:List (dL A.aA))(a:Op):Option (CR A):=
 match iT a with
 | 1=>match a with
  | .store ty p x=>match evX A X e p,evX A X e x with
   | some pv,some v=>match vI A X h ty pv v with
    | some r=>match v with
     | .c (.d f (.int q n))=>some {ck:=r.chk,ts:=[.i],y:=(n,()),k:=λy=>(match vI A X h ty pv (.c (.d f (.int q y.1)))with | some r=>some (r.v,r.h) | none=>none),touched:=r.touched,pure:=false}
     | .c (.d f (.bool n))=>some {ck:=r.chk,ts:=[.b],y:=(n,()),k:=λy=>(match vI A X h ty pv (.c (.d f (.bool y.1)))with | some r=>some (r.v,r.h) | none=>none),touched:=r.touched,pure:=false}
     | .c (.d f (.rows c n))=>some {ck:=r.chk,ts:=[.l c],y:=(n,()),k:=λy=>(match vI A X h ty pv (.c (.d f (.rows c y.1)))with | some r=>some (r.v,r.h) | none=>none),touched:=r.touched,pure:=false}
     | .sv f c n=>some {ck:=r.chk,ts:=[.x c],y:=(n,()),k:=λy=>(match vI A X h ty pv (.sv f c y.1)with | some r=>some (r.v,r.h) | none=>none),touched:=r.touched,pure:=false}
     | _=>some {ck:=r.chk,ts:=[],y:=(),k:=λ_=>some (r.v,r.h),touched:=r.touched,pure:=false}
    | none=>none
   | _,_=>none
  | _=>match Es A X e h a with
   | some r=>match r.v with
    | .c (.own l)=>match r.h[l]? with
     | some (.rows f c xs)=>some {ck:=r.chk,ts:=[.l c],y:=(xs,()),k:=λy=>some (r.v,r.h.set l (.rows f c y.1)),touched:=r.touched,pure:=false}
     | _=>none
    | _=>some {ck:=r.chk,ts:=[],y:=(),k:=λ_=>some (r.v,r.h),touched:=r.touched,pure:=false}
   | none=>none
 | _=>TL A X C e h a
def TM{ρ:Type}(a:Op)(v:TV A.aA)(K:TV A.aA->A.M ρ):A.M ρ:=
 match a with
 | .assign _=>match v with
  | .c (.d f (.int k x))=>A.uF [.i] (x,()) λy=>K (.c (.d f (.int k y.1)))
  | .c (.d f (.bool x))=>A.uF [.b] (x,()) λy=>K (.c (.d f (.bool y.1)))
  | .c (.d f (.rows c x))=>A.uF [.l c] (x,()) λy=>K (.c (.d f (.rows c y.1)))
  | v=>K v
 | _=>K v
def gY{ρ:Type}:List A.B->A.M ρ->A.M ρ
 | [],m=>m
 | b::r,m=>A.chk b (gY r m)
def under(g:A.B)(a:List A.B):List A.B:=a.map λp=>A.orB (A.yU g) p
def tZ{ρ:Type}(r:CR A)(K:TV A.aA->List (dL A.aA)->A.M ρ):A.M ρ:=
 match r.ts,r.y,r.k with
 | [],y,k=>(match k y with | some (v,h)=>K v h | none=>A.fail)
 | ts,y,k=>A.uF ts y λy=>match k y with | some (v,h)=>K v h | none=>A.fail
def dZ{ρ:Type}(X:XT)(C:Calls A.aA)(ops:List Oper):List Oper->(RSt A->A.M ρ)->RSt A->A.M ρ
 | [],K,s=>K s
 | o::r,K,s=>if TK s.m o.dst then match o.guard with
  | none=>if iT o.op==0 then match vK A X (cu A s.t) s.gs s.h none o.op with
    | some (ps,v)=>gY A ps (TM A o.op v λv=>dZ X C ops r K (s.put A o.dst none v))
    | none=>A.fail
   else match V5 A X C (fZ A (cu A s.t) []) s.h o.op with
    | some a=>gY A a.ck (tZ A a λv h=>dZ X C ops r K (RSt.put A {s with h:=h} o.dst none v))
    | none=>A.fail
  | some (j,want)=>match gslot ops j with
   | some d=>match Br A (cu A s.t) s.gs d want with
    | .skip=>dZ X C ops r K (s.put A o.dst none (.tup []))
    | .run gs t g=>if iT o.op==0 then match vK A X (cu A s.t) gs s.h (some t) o.op with
      | some (ps,v)=>gY A (under A g ps) (dZ X C ops r K (RSt.put A {s with gs:=gs} o.dst (some t) v))
      | none=>A.fail
     else match V5 A X C (fZ A (cu A s.t) (dM A gs (some t))) s.h o.op with
      | some a=>if a.pure then gY A (under A g a.ck) (tZ A a λv _=>dZ X C ops r K (RSt.put A {s with gs:=gs} o.dst (some t) v))
       else A.cond g (gY A a.ck (tZ A a λv h=>dZ X C ops r K (RSt.put A {s with h:=h,gs:=gs} o.dst none v)))
        (dZ X C ops r K (RSt.put A {s with gs:=zZ A gs t} o.dst none (.tup [])))
      | none=>A.fail
    | .bad=>A.fail
   | none=>A.fail
  else A.fail
def vM:TV A.aA->List Nat
 | .c (.pb l _ _)=> [l] | .c (.pr l _ _)=> [l] | _=> []
def gQ(X:XT)(e:Nat->Option (TV A.aA)):Op->List Nat
 | .load _ x=>match evX A X e x with | some v=>vM A v | none=> []
 | _=> []
def JF(b:List (Nat×List Nat))(a:List Nat)(j:Nat):Bool:=b.any λp=>(p.1==j)&&p.2.all λl=> !a.contains l
def oJ(b:List (Nat×List Nat))(a:List Nat):List (Nat×List Nat):=b.filter λp=>p.2.all λl=> !a.contains l
def zX(X:XT)(e:Nat->Option (TV A.aA))(h:List (dL A.aA))(d:Op):PR A:=
 match d with
 | .buildSlice ty len a=>match X.ty ty with
  | some y=>match y.desc with
   | .slice b=>match X.ty b,X.co b with
    | some z,some c=>if kS X b c&& !(z.size==0)&& (a.toList.map (·.1)==range len)&&Nat.ble (len*z.size) 16777216 then
      match sD A X e c h a.toList with
      | some (f,xs,_,[])=>some ([],.c (.clip f c (A.lst c xs)))
      | _=>none
     else none
    | _,_=>none
   | _=>none
  | none=>none
 | _=>none
def Dp(e:Nat->Option (TV A.aA))(k:A.I):List (Int×Nat)->Option A.B
 | []=>some (A.bl false)
 | (k',r)::rest=>match e r with
  | some (.c (.d _ (.bool b)))=>(match Dp e k rest with | some q=>some (A.JA (A.cmp .eql k (A.lit k')) b q) | none=>none)
  | _=>none
def L9(X:XT)(c:List Oper)(e:Nat->Option (TV A.aA))(h:List (dL A.aA))(a:Op):Option (Option (List A.B×TV A.aA)):=
 match a with
 | .makeMap .. =>some none
 | .insert _ _ _ v=>(match v with | .tmp r=>(match e r with | some _=>some none | none=>none) | _=>none)
 | .move x=>if mI x then some none else none
 | .lookup _ _ (.tmp q) _=>(match e q with
  | some (.c (.d _ (.int .i64 n)))=>(match Dp A e n (l8 c)with | some b=>some (some ([],.c (.d true (.bool b)))) | none=>none)
  | _=>none)
 | a=>(match zX A X e h a with | some r=>some (some r) | none=>none)
def ig{ρ:Type}(X:XT)(C:Calls A.aA)(ops:List Oper):List eF->List (Nat×List Nat)->(RSt A->A.M ρ)->RSt A->A.M ρ
 | [],_,K,s=>K s
 | (i,rs,cs)::r,hs,K,s=>match ops[i]? with
  | none=>A.fail
  | some o=>if TK s.m o.dst then
   let lk:=λi=>if rs.contains i then cu A s.t i else none
   match kindOf o.op with
   | 0=>if hs.any λp=>p.1==i then A.fail else match o.guard with
    | none=>match vK A X lk s.gs s.h none o.op with
     | some (ps,v)=>gY A ps (TM A o.op v λv=>ig X C ops r ((i,gQ A X (fZ A lk []) o.op)::hs) K (s.put A o.dst none v))
     | none=>A.fail
    | some (j,want)=>match gslot ops j with
     | some d=>match Br A lk s.gs d want with
      | .skip=>ig X C ops r ((i,[])::hs) K (s.put A o.dst none (.tup []))
      | .run gs t g=>match vK A X lk gs s.h (some t) o.op with
       | some (ps,v)=>gY A (under A g ps) (ig X C ops r ((i,gQ A X (fZ A lk (dM A gs (some t))) o.op)::hs) K (RSt.put A {s with gs:=gs} o.dst (some t) v))
       | none=>A.fail
      | .bad=>A.fail
     | none=>A.fail
   | 1=>match o.guard with
    | none=>match L9 A X ops (fZ A lk []) s.h o.op with
     | some (some (ps,v))=>gY A ps (ig X C ops r hs K (s.put A o.dst none v))
     | some none=>ig X C ops r hs K (s.del A o.dst)
     | none=>A.fail
    | some (j,want)=>match gslot ops j with
     | some d=>match Br A lk s.gs d want with
      | .skip=>ig X C ops r hs K (s.put A o.dst none (.tup []))
      | .run gs t g=>match L9 A X ops (fZ A lk (dM A gs (some t))) s.h o.op with
       | some (some (ps,v))=>gY A (under A g ps) (ig X C ops r hs K (RSt.put A {s with gs:=gs} o.dst (some t) v))
       | _=>A.fail
      | .bad=>A.fail
     | none=>A.fail
   | 2=>match Es A X (λ_=>none) s.h o.op with
    | some b=>gY A b.chk (ig X C ops r hs K (RSt.put A {s with h:=b.h} o.dst none b.v))
    | none=>A.fail
   | _=>match o.guard with
    | none=>match V5 A X C (fZ A lk []) s.h o.op with
     | some a=>
      if cs.all (JF hs a.touched)then gY A a.ck (tZ A a λv h=>ig X C ops r (oJ hs a.touched) K (RSt.put A {s with h:=h} o.dst none v))else A.fail
     | none=>A.fail
    | some (j,want)=>match gslot ops j with
     | some d=>match Br A lk s.gs d want with
      | .skip=>ig X C ops r hs K (s.put A o.dst none (.tup []))
      | .run gs t g=>match V5 A X C (fZ A lk (dM A gs (some t))) s.h o.op with
       | some a=>if cs.all (JF hs a.touched)then
         if a.pure then gY A (under A g a.ck) (tZ A a λv _=>ig X C ops r hs K (RSt.put A {s with gs:=gs} o.dst (some t) v))
         else A.cond g (gY A a.ck (tZ A a λv h=>ig X C ops r (oJ hs a.touched) K (RSt.put A {s with h:=h,gs:=gs} o.dst none v)))
          (ig X C ops r hs K (RSt.put A {s with gs:=zZ A gs t} o.dst none (.tup [])))
        else A.fail
       | none=>A.fail
      | .bad=>A.fail
     | none=>A.fail
   else A.fail
def vN(t:List (Nat×SV A))(h:List (dL A.aA)):List (Nat×SkV)->ES A->Option (ES A)
 | [],e=>some e
 | p::r,e=>match cu A t p.1 with
  | some ⟨none,v⟩=>(match GK A h p.2 v e with | some e=>vN t h r e | none=>none)
  | _=>none
def Ew(k:Nat)(a:gL)(s:RSt A):Option (List A.B×Tup A.aA a.tys):=
 if !Nat.ble k a.objs.length then none else match vN A s.t s.h a.slots (es0 A k a.objs)with
 | some e=>match zW A s.h 0 a.objs e with
  | some e=>if ES.fine A s.h e a.objs then(match pack A.aA a.tys e.lv.reverse with | some x=>some (e.ck,x) | none=>none)else none
  | none=>none
 | none=>none
def uf(a:gL)(m:Nat)(x:Tup A.aA a.tys):RSt A:=
 match sH A.aA (λi=>i) (a.slots.map (·.2)) (unpack A.aA a.tys x)with
 | some (vs,r)=>match vJ A.aA (λi=>i) (λ_=> .gone .i64 (A.lit 0)) 0 a.objs r with
  | some (os,_)=> {t:=(a.slots.map (·.1)).zip (vs.map λv=>⟨none,v⟩),gs:=[],h:=os,m:=m}
  | none=>default
 | none=>default
def plain:Code->Bool
 | .skip=>true | .region .. =>true | .seq a b=>plain a&&plain b | .cond _ x y=>plain x&&plain y
 | _=>false
def Ou{ρ:Type}(k:Nat)(a:gL)(c:Bool)(s:RSt A)(K:Exit->RSt A->A.M ρ)(W: {σ:Type}->(Exit->RSt A->A.M σ)->A.M σ):A.M ρ:=
 if c then A.bind a.tys (W λe b=>match e with
  | .normal=>(match Ew A k a b with | some (ck,t)=>gY A ck (A.ret a.tys t) | none=>A.fail)
  | _=>A.fail) λt=>K .normal (uf A a s.m t)
 else A.vH a.tys (W λe b=>match e with
  | .normal=>(match Ew A k a b with | some (ck,t)=>gY A ck (A.inl a.tys t) | none=>A.fail)
  | e=>A.inr a.tys (K e b)) λt=>K .normal (uf A a s.m t)
def bK(X:XT)(C:Calls A.aA)(d:Nat->List eF)(chk:Nat->Array Oper->Nat->Bool)(k:Nat): {ρ:Type}->Ann->Code->RSt A->(Exit->RSt A->A.M ρ)->A.M ρ
 | _,_,.skip,s,K=>K .normal s
 | _,an,.region id ops draw,s,K=>
  let W: {σ:Type}->(Exit->RSt A->A.M σ)->A.M σ:=λK=>
   if draw then(if chk id ops s.m then ig A X C ops.toList (d id) [] (λs=>K .normal s) s else A.fail)
   else dZ A X C ops.toList ops.toList (λs=>K .normal s) s
  match an with
  | .cut sk .u=>Ou A k sk true s K W
  | _=>W K
 | _,an,.seq x y,s,K=>match an with
  | .seq a b=>bK X C d chk k a x s λe f=>match e with | .normal=>bK X C d chk k b y f K | e=>K e f
  | .u=>bK X C d chk k .u x s λe f=>match e with | .normal=>bK X C d chk k .u y f K | e=>K e f
  | _=>A.fail
 | _,an,.cond c x y,s,K=>match evX A X (fZ A (cu A s.t) []) c with
  | some (.c (.d _ (.bool b)))=>match an with
   | .cond h j=>A.cond b (bK X C d chk k h x s K) (bK X C d chk k j y s K)
   | .u=>A.cond b (bK X C d chk k .u x s K) (bK X C d chk k .u y s K)
   | .cut sk (.cond h j)=>Ou A k sk (plain x&&plain y) s K λg=>A.cond b (bK X C d chk k h x s g) (bK X C d chk k j y s g)
   | _=>A.fail
  | _=>A.fail
 | _,an,.block id b,s,K=>match an with
  | .block a=>bK X C d chk k a b s λe f=>match e with | .exit i=>if i==id then K .normal f else K (.exit i) f | e=>K e f
  | .u=>bK X C d chk k .u b s λe f=>match e with | .exit i=>if i==id then K .normal f else K (.exit i) f | e=>K e f
  | .cut sk (.block a)=>Ou A k sk false s K λg=>bK X C d chk k a b s λe f=>match e with | .exit i=>if i==id then g .normal f else g (.exit i) f | e=>g e f
  | _=>A.fail
 | _,.loop sk a,.loop b,s,K=>match Ew A k sk s with
  | some (ck,x0)=>gY A ck (A.iter sk.tys (λx=>bK X C d chk k a b (uf A sk s.m x) λe f=>match e with
    | .normal=>(match Ew A k sk f with | some (ck,t)=>gY A ck (A.inl sk.tys t) | none=>A.fail)
    | e=>A.inr sk.tys (K e f)) x0)
  | none=>A.fail
 | _,_,.exit id,s,K=>K (.exit id) s
 | _,_,.ret,s,K=>K .ret s
 | _,_,_,_,_=>A.fail
def Ov(X:XT)(s:RSt A):List ResultVar->Option (List (TV A.aA))
 | []=>some []
 | .tmp t::r=>match cu A s.t t with
  | some ⟨none,v⟩=>(match Ov X s r with | some a=>some (v::a) | none=>none)
  | _=>none
 | .cell t ty::r=>match cu A s.t t with
  | some ⟨none,p⟩=>match LW A X s.h ty p with
   | some ([],v)=>(match Ov X s r with | some a=>some (v::a) | none=>none)
   | _=>none
  | _=>none
def V6(X:XT)(a:Sig)(c:Func)(s:RSt A):A.M (Tup A.aA a.out):=
 match Ov A X s c.results.toList with
  | some b=>match pV A s.h a.res b (es0 A a.objs.length a.dJ)with
   | some e=>match zW A s.h 0 a.dJ e with
    | some e=>if ES.fine A s.h e a.dJ then(match pack A.aA a.out e.lv.reverse with | some y=>gY A e.ck (A.ret a.out y) | none=>A.fail)else A.fail
    | none=>A.fail
   | none=>A.fail
  | none=>A.fail
def kV(X:XT)(C:Calls A.aA)(ord:Nat->List eF)(chk:Nat->Array Oper->Nat->Bool)(an:Ann)(a:Sig)(c:Func)(b:Code)(x:Tup A.aA a.inp):A.M (Tup A.aA a.out):=
 if !Nat.ble a.objs.length a.dJ.length then A.fail else match sH A.aA (λi=>i) a.args (unpack A.aA a.inp x)with
 | some (vs,r)=>match vJ A.aA (λi=>i) (λ_=> .gone .i64 (A.lit 0)) 0 a.objs r with
  | some (os,_)=>
   bK A X C ord chk a.objs.length an b {t:=(range vs.length).zip (vs.map λv=>⟨none,v⟩),gs:=[],h:=os,m:=vs.length+(c.ntmps-vs.length)} λe s=>
    match e with
    | .ret | .normal=>V6 A X a c s
    | _=>A.fail
  | none=>A.fail
 | none=>A.fail
end
end Go.TX
namespace Go.TX
open Go Go.AE List
abbrev aG:Car:={I:=Int,B:=Bool,S:=ByteArray,L:=λc=>List c.den,X:=Co.den}
def aeg(b:Blk):List (LV aG):=[.i b.pc,.i b.len,.l .iop b.ops,.i b.fin,.i b.x,.i b.y,.i b.k]
def afN(m:aC):List (LV aG):=[.l .i64 m.regs,.i m.pc,.l .i64 m.mem,.i m.save,.b m.aO,.b m.waits,.i m.halt,.l .i64 m.ins,.l .i64 m.outs,.i m.count]
def Co.yY:(c:Co)->c.den->List (LV aG)
 | .i64,n=> [.i n] | .u8,n=> [.i n] | .bool,b=> [.b b] | .str,s=> [.s s]
 | .ins,i=> [.i i.op,.i i.d,.i i.a,.i i.k]
 | .form,f=> [.b f.d,.b f.a,.i f.most,.l .str f.words]
 | .mono,m=> [.i m.dI,.l .i64 m.atoms]
 | .poly,p=> [.l .mono p]
 | .atom,a=> [.i a.kind,.i a.k,.l .mono a.x,.l .mono a.y]
 | .tab,t=> [.l .atom t]
 | .iop,o=> [.i o.kind,.i o.x,.i o.y,.i o.k,.i o.at_]
 | .blk,b=>aeg b
 | .aj,m=>afN m
 | .ev,e=> [.i e.kind,.i e.at_,.l .mono e.x,.l .mono e.y,.l .poly e.regs]
 | .sym,s=> [.l .ev s.events,.l .poly s.regs,.i s.fin,.l .mono s.x,.l .mono s.y,.i s.k]
 | .cac,c=> .l .i64 c.words::aeg c.blk
 | .cer,c=>aeg c.base++aeg c.made
 | .ask,a=> [.b a.own,.l .u8 a.bytes]
 | .eng,e=>afN e.aj++ [.l .cac e.cache,.l .cer e.bC]
 | .ints,t=> [.l .i64 t]
abbrev iD:=Tup aG
def Co.mk:(c:Co)->iD c.qY->c.den
 | .i64,t=>t.1 | .u8,t=>t.1 | .bool,t=>t.1 | .str,t=>t.1
 | .ins,t=>⟨t.1,t.2.1,t.2.2.1,t.2.2.2.1⟩
 | .form,t=>⟨t.1,t.2.1,t.2.2.1,t.2.2.2.1⟩
 | .mono,t=>⟨t.1,t.2.1⟩
 | .poly,t=>t.1
 | .atom,t=>⟨t.1,t.2.1,t.2.2.1,t.2.2.2.1⟩
 | .tab,t=>t.1
 | .iop,t=>⟨t.1,t.2.1,t.2.2.1,t.2.2.2.1,t.2.2.2.2.1⟩
 | .blk,t=>⟨t.1,t.2.1,t.2.2.1,t.2.2.2.1,t.2.2.2.2.1,t.2.2.2.2.2.1,t.2.2.2.2.2.2.1⟩
 | .aj,t=>⟨t.1,t.2.1,t.2.2.1,t.2.2.2.1,t.2.2.2.2.1,t.2.2.2.2.2.1,t.2.2.2.2.2.2.1,t.2.2.2.2.2.2.2.1,t.2.2.2.2.2.2.2.2.1,t.2.2.2.2.2.2.2.2.2.1⟩
 | .ev,t=>⟨t.1,t.2.1,t.2.2.1,t.2.2.2.1,t.2.2.2.2.1⟩
 | .sym,t=>⟨t.1,t.2.1,t.2.2.1,t.2.2.2.1,t.2.2.2.2.1,t.2.2.2.2.2.1⟩
 | .cac,t=>⟨t.1,⟨t.2.1,t.2.2.1,t.2.2.2.1,t.2.2.2.2.1,t.2.2.2.2.2.1,t.2.2.2.2.2.2.1,t.2.2.2.2.2.2.2.1⟩⟩
 | .cer,t=>⟨⟨t.1,t.2.1,t.2.2.1,t.2.2.2.1,t.2.2.2.2.1,t.2.2.2.2.2.1,t.2.2.2.2.2.2.1⟩,
  ⟨t.2.2.2.2.2.2.2.1,t.2.2.2.2.2.2.2.2.1,t.2.2.2.2.2.2.2.2.2.1,t.2.2.2.2.2.2.2.2.2.2.1,t.2.2.2.2.2.2.2.2.2.2.2.1,t.2.2.2.2.2.2.2.2.2.2.2.2.1,t.2.2.2.2.2.2.2.2.2.2.2.2.2.1⟩⟩
 | .ask,t=>⟨t.1,t.2.1⟩
 | .eng,t=>⟨⟨t.1,t.2.1,t.2.2.1,t.2.2.2.1,t.2.2.2.2.1,t.2.2.2.2.2.1,t.2.2.2.2.2.2.1,t.2.2.2.2.2.2.2.1,t.2.2.2.2.2.2.2.2.1,t.2.2.2.2.2.2.2.2.2.1⟩,t.2.2.2.2.2.2.2.2.2.2.1,t.2.2.2.2.2.2.2.2.2.2.2.1⟩
 | .ints,t=>t.1
def bytesOf(l:List UInt8):ByteArray:=⟨l.toArray⟩
def sJ:List Form:=[
 ⟨false,false,3,[bytesOf [115,116,111,112],bytesOf [114,101,116,117,114,110],bytesOf [108,101,116],bytesOf [107,101,101,112]]⟩,
 ⟨true,false,255,[bytesOf [115,101,116]]⟩,⟨true,true,0,[bytesOf [109,111,118,101]]⟩,⟨true,true,3,[bytesOf [97,100,100]]⟩,⟨true,true,3,[bytesOf [115,117,98]]⟩,
 ⟨true,true,3,[bytesOf [109,117,108]]⟩,⟨true,true,3,[bytesOf [97,110,100]]⟩,⟨true,true,3,[bytesOf [120,111,114]]⟩,⟨true,true,15,[bytesOf [115,104,105,102,116]]⟩,
 ⟨true,true,255,[bytesOf [108,111,97,100]]⟩,⟨true,true,255,[bytesOf [115,116,111,114,101]]⟩,⟨true,true,255,[bytesOf [115,97,109,101]]⟩,⟨true,true,255,[bytesOf [108,101,115,115]]⟩,
 ⟨false,true,0,[bytesOf [103,111]]⟩,⟨true,false,0,[bytesOf [111,117,116]]⟩,⟨true,false,0,[bytesOf [105,110]]⟩]
def TN:(c:Co)->List c.den
 | .form=>sJ
 | _=> []
def CX{α ρ:Type}(k:α->(ρ->Prop)->Prop)(Q:ρ->Prop):α ⊕ ρ->Prop
 | .inl x=>k x Q
 | .inr r=>Q r
def itW{α ρ:Type}:Nat->(α->(α ⊕ ρ->Prop)->Prop)->α->(ρ->Prop)->Prop
 | 0,_,_,_=>False
 | n+1,f,x,Q=>f x (CX (itW n f) Q)
def TP{α ρ:Type}(f:α->(α ⊕ ρ->Prop)->Prop)(x:α)(Q:ρ->Prop):Prop:=
 ∃(I:α->Prop) (μ:α->Nat),I x/\∀y,I y->f y (CX (λz _=>I z/\μ z<μ y) Q)
def eX(a:BinOp)(k:IntKind)(x y:Int):Int:=
 match a with
 | .add=>k.wrap (x+y) | .sub=>k.wrap (x-y) | .mul=>k.wrap (x*y) | .quo=>k.wrap (x.tdiv y) | .rem=>x.tmod y
 | .and=>dR .and k x y | .or=>dR .or k x y | .xor=>dR .xor k x y
 | .shl=>k.wrap (x*2^ (min y.toNat k.bits)) | .shr=>x.fdiv (2^ (min y.toNat k.bits))
 | _=>0
def bD(a:BinOp)(x y:Int):Bool:=
 match a with
 | .eql=>decide (x=y) | .neq=> !decide (x=y) | .lss=>decide (x<y) | .leq=>decide (x<=y) | .gtr=>decide (y<x) | .geq=>decide (y<=x)
 | _=>false
def Xz(x y:Ins):Bool:=decide (x=y)
def XA(x y:IOp):Bool:=decide (x=y)
def ami:(c:Co)->c.den->c.den->Bool
 | .ins,x,y=>Xz x y | .iop,x,y=>XA x y | _,_,_=>false
def bR(c:Co)(j:Nat)(x:c.den):Int:=match (c.yY x)[j]? with | some (.i n)=>n | _=>0
def JG(c:Co)(j:Nat)(x:c.den):Bool:=match (c.yY x)[j]? with | some (.b n)=>n | _=>false
def apD(c:Co)(j:Nat)(x:c.den):ByteArray:=match (c.yY x)[j]? with | some (.s n)=>n | _=>default
def iW(c:Co)(j:Nat)(a:Co)(x:c.den):List a.den:=match (c.yY x)[j]? with | some (.l q xs)=>if e:q=a then e▸xs else [] | _=> []
abbrev std(N:Nat):Alg where
 aA:=aG
 M:=fun ρ=>(ρ->Prop)->Prop
 lit:=λn=>(n:Int)
 bl:=λb=>(b:Bool)
 st:=λs=>(s:ByteArray)
 arith:=eX
 cmp:=bD
 addN:=λ(x y:Int)=>x+y
 LP:=λ(x y:Int)=>x-y
 neg:=λk (x:Int)=>k.wrap (0-x)
 conv:=λk (x:Int)=>k.wrap x
 Oc:=λ(m n:Int)=>if n<m then n else m
 jK:=λ(m n:Int)=>if m<n then n else m
 yU:=λ(b:Bool)=> !b
 LQ:=λ(a b:Bool)=>a&&b
 orB:=λ(a b:Bool)=>a || b
 eqB:=λ(a b:Bool)=>a==b
 eqS:=λ(a b:ByteArray)=>a.toList==b.toList
 Od:=λ(d:List Int)=>strOfNums d
 Oe:=λ(b:Bool) (x y:Int)=>bif b then x else y
 JA:=λ(b:Bool) (x y:Bool)=>bif b then x else y
 Og:=λ(b:Bool) c (x y:List c.den)=>(bif b then x else y:List c.den)
 V4:=λ(b:Bool) _ x y=>bif b then x else y
 len:=λc (d:List c.den)=>(d.length:Int)
 Eo:=λc=>([]:List c.den)
 get:=λc (d:List c.den) (i:Int)=>d.getD i.toNat default
 set:=λc (d:List c.den) (i:Int) x=>d.set i.toNat x
 app:=λc (d g:List c.den)=>d++g
 sub:=λc (d:List c.den) (h e:Int)=>(d.take e.toNat).drop h.toNat
 rep:=λc (n:Int) x=>replicate n.toNat x
 lst:=λc (d:List c.den)=>d
 glob:=λ_ c=>TN c
 fI:=bR
 fB:=JG
 fS:=apD
 fL:=iW
 mkX:=Co.mk
 eqX:=ami
 ret:=λ_ t Q=>Q t
 fail:=λ_=>False
 uF:=λ_ t k=>k t
 chk:=λ(b:Bool) m Q=>b=true/\m Q
 cond:=λ(b:Bool) x y Q=>(b=true->x Q)/\(b=false->y Q)
 bind:=λ_ m k Q=>m λt=>k t Q
 vH:=λ_ m k Q=>m (CX k Q)
 inl:=λ_ t Q=>Q (.inl t)
 inr:=λ_ m Q=>m λr=>Q (.inr r)
 iter:=λ_ f x Q=>TP f x Q
abbrev Co.size(c:Co):Nat:=c.fields.length
def amj(n:Int):List D:=[.int .i64 n]
def Ey(a:List Int):D:= .rows 1 (a.map amj)
def afO(m:au):List D:=[.int .i64 m.dI,Ey m.atoms]
def Ez(p:List au):D:= .rows 2 (p.map afO)
def XB(p:List au):List D:=[Ez p]
def afP(a:Atom):List D:=[.int .i64 a.kind,.int .i64 a.k,Ez a.x,Ez a.y]
def amk(o:IOp):List D:=[.int .i64 o.kind,.int .i64 o.x,.int .i64 o.y,.int .i64 o.k,.int .i64 o.at_]
def aml(s:ByteArray):List D:=[.str s]
def u8R(n:Int):List D:=[.int .u8 n]
def aeh(b:Blk):List D:=[.int .i64 b.pc,.int .i64 b.len,.rows 5 (b.ops.map amk),.int .i64 b.fin,.int .i64 b.x,.int .i64 b.y,.int .i64 b.k]
def afQ(m:aC):List D:=[Ey m.regs,.int .i64 m.pc,Ey m.mem,.int .i64 m.save,.bool m.aO,.bool m.waits,.int .i64 m.halt,Ey m.ins,Ey m.outs,.int .i64 m.count]
def evR(e:Ev):List D:=[.int .i64 e.kind,.int .i64 e.at_,Ez e.x,Ez e.y,.rows 1 (e.regs.map XB)]
def amm(c:Cac):List D:=Ey c.words::aeh c.blk
def amn(c:Cer):List D:=aeh c.base++aeh c.made
def Co.row:(c:Co)->c.den->List D
 | .i64,n=>amj n | .u8,n=>u8R n | .bool,b=> [.bool b] | .str,s=>aml s
 | .ins,i=> [.int .i64 i.op,.int .i64 i.d,.int .i64 i.a,.int .i64 i.k]
 | .form,f=> [.bool f.d,.bool f.a,.int .i64 f.most,.rows 1 (f.words.map aml)]
 | .mono,m=>afO m | .poly,p=>XB p | .atom,a=>afP a | .tab,t=> [.rows 4 (t.map afP)] | .iop,o=>amk o
 | .blk,b=>aeh b | .aj,m=>afQ m | .ev,e=>evR e
 | .sym,s=> [.rows 5 (s.events.map evR),.rows 1 (s.regs.map XB),.int .i64 s.fin,Ez s.x,Ez s.y,.int .i64 s.k]
 | .cac,c=>amm c | .cer,c=>amn c | .ask,a=> [.bool a.own,.rows 1 (a.bytes.map u8R)]
 | .eng,e=>afQ e.aj++ [.rows 8 (e.cache.map amm),.rows 14 (e.bC.map amn)]
 | .ints,t=> [Ey t]
def aM(c:Co)(a:List c.den):List (List D):=a.map c.row
def oK:Leaf aG->D
 | .int k x=> .int k x | .bool b=> .bool b | .str s=> .str s | .rows c a=> .rows c.size (aM c a)
def lvD:Sh->LV aG->D
 | .int k,.i n=> .int k n
 | _,.i n=> .int .i64 n
 | _,.b b=> .bool b
 | _,.s s=> .str s
 | _,.l c xs=> .rows c.size (aM c xs)
 | _,.x _ _=> .bool false
def XC(c:Co)(x:c.den):c.row x=zipWith lvD c.fields (c.yY x):=by cases c<;>rfl
theorem sK(c:Co)(x:c.den):(c.row x).length=c.size:=by cases c<;>rfl
def XD(c:Co)(x:c.den):(c.yY x).length=c.size:=by cases c<;>rfl
def l9(N:Nat)(c:Co)(x:c.den):(fD (std N) c x 0 c.fields).map oK=c.row x:=by cases c<;>rfl
def Bu(N:Nat)(c:Co)(x:c.den):(fD (std N) c x 0 c.fields).map jG=c.fields:=by cases c<;>rfl
def Ih(N:Nat)(c:Co)(x:c.den):(fD (std N) c x 0 c.fields).map Leaf.lv=c.yY x:=by cases c<;>rfl
def V7{t:LTy}{v:LV aG}{a:LT aG t}(h:ahS aG t v=some a):amg aG t a=v:=by
 cases t<;>cases v<;>simp only [ahS,reduceCtorEq]at h<;>(try (cases h;rfl))
 all_goals
  split at h
  .rename_i e;subst e;cases h;rfl
  .cases h
def unpack_pack:∀ {c:List LTy} {d:List (LV aG)} {t:iD c},pack aG c d=some t->unpack aG c t=d
 | [],[],_,_=>rfl
 | [],_::_,_,h=>by simp [pack]at h
 | _::_,[],_,h=>by simp [pack]at h
 | t::r,v::d,x,h=>by
  unfold pack at h;split at h
  .rename_i a ha;split at h
   .rename_i b hb;cases h;simp only [unpack];rw [V7 ha,unpack_pack hb]
   .cases h
  .cases h
def TQ(c:Co)(t:iD c.qY):c.yY (c.mk t)=unpack aG c.qY t:=by cases c<;>rfl
variable{x:Cell}{p:PV}{f:Bool}{k:IntKind}
abbrev SC:=TC aG
abbrev SVal:=TV aG
abbrev aN:=dL aG
abbrev NM:=Nat->Option (Nat×Nat)
def Leaf.scalar:Leaf aG->Bool | .rows _ _=>false | _=>true
inductive RC (N:NM):Cell->SC->Prop
 | d {f g:Bool} {x:D} {y:Leaf aG}:x=oK y->(g=true->f=true\/y.scalar=true)->RC N (.d f x) (.d g y)
 | nil:RC N .nil .nil
 | clip {f g:Bool} {c:Co} {xs:List c.den}:(g=true->f=true)->RC N (.clip f c.size (aM c xs)) (.clip g c xs)
 | own {l sz n:Nat}:N l=some (sz,n)->RC N (.os l sz 0 n) (.own l)
 | os {l sz lo n m:Nat}:N l=some (sz,m)->RC N (.os l sz lo n) (.os l (lo:Int) (n:Int))
 | pb {l sz j:Nat}:RC N (.ptr l sz 0 j) (.pb l sz j)
 | pr {l sz i j m:Nat}:N l=some (sz,m)->RC N (.ptr l sz i j) (.pr l (i:Int) j)
 | rp {f g:Bool} {c:Co} {xs:List c.den} {i j:Nat}:(g=true->f=true)->i<xs.length->RC N (.rp f c.size (aM c xs) i j) (.rp g c xs (i:Int) j)
 | gp {g:Nat} {c:Co}:RC N (.rp false 1 [[.rows c.size (aM c (TN c))]] 0 0) (.gp g c)
 | fn {g:FuncId} {caps:List (Nat×Nat)}:RC N (.fn g (caps.map λp=> .ptr p.1 p.2 0 0)) (.fn g caps)
 | np:RC N .np .np
def cellsS(v:SVal):List SC:=bU (std 0) v
def Ow(n:Nat)(c:Co)(x:c.den):∀(l:List Sh) (j:Nat),fD (std n) c x j l=fD (std 0) c x j l
 | [],_=>rfl
 | s::r,j=>by simp_all
def Ma(n:Nat)(f:Bool)(c:Co)(x:c.den):qC (std n) f c x=qC (std 0) f c x:=congrArg (List.map (TC.d f)) (Ow n c x _ _)
def cB(n:Nat)(v:SVal):bU (std n) v=cellsS v:=by
 cases v with
 | sv f c x=>exact Ma n f c x
 | _=>rfl
inductive PV0 (N:NM):PV->SVal->Prop
 | c {x:Cell} {y:SC}:RC N x y->PV0 N (.c x) (.c y)
 | agg {cs:List Cell} {v:SVal}:bE (std 0) v=true->F2 (RC N) cs (cellsS v)->PV0 N (.agg cs) v
inductive PVR (N:NM):PV->SVal->Prop
 | one {p:PV} {v:SVal}:PV0 N p v->PVR N p v
 | tup {ps:List PV} {vs:List SVal}:F2 (PV0 N) ps vs->PVR N (.tup ps) (.tup vs)
def nmh(h:List aN):NM:=λl=>match h[l]? with
 | some (.rows _ c a)=>some (c.size,(a:List c.den).length)
 | some (.gone c n)=>some (c.size,(n:Int).toNat)
 | _=>none
inductive OR (N:NM):eD->aN->Prop
 | box {cs:List Cell} {v:SVal}:F2 (RC N) cs (cellsS v)->OR N (.box cs) (.box v)
 | rows {f g:Bool} {c:Co} {xs:List c.den}:(g=true->f=true)->OR N (.rows f c.size (aM c xs)) (.rows g c xs)
 | gone {c:Co} {n:Int}:OR N .gone (.gone c n)
structure eP(h':Heap)(h:List aN):Prop where
 old:∀l o,h[l]? =some o->∃o',AE.look h' l=some o'/\OR (nmh h) o' o
 new:∀l,h.length<=l->AE.look h' l=none
def RC.mono{N M:NM}(a:∀l x,N l=some x->M l=some x){y:SC}(h:RC N x y):RC M x y:=by
 cases h with
 | d e c=>exact .d e c
 | nil=>exact .nil
 | clip h=>exact .clip h
 | own h=>exact .own (a _ _ h)
 | os h=>exact .os (a _ _ h)
 | pb=>exact .pb
 | pr h=>exact .pr (a _ _ h)
 | rp h b=>exact .rp h b
 | gp=>exact .gp
 | fn=>exact .fn
 | np=>exact .np
def PV0.mono{N M:NM}(a:∀l x,N l=some x->M l=some x){x:PV}{y:SVal}(h:PV0 N x y):PV0 M x y:=by
 cases h with
 | c h=>exact .c (h.mono a)
 | agg d b=>exact .agg d (b.mono λ_ _ h=>h.mono a)
def PVR.mono{N M:NM}(a:∀l x,N l=some x->M l=some x){x:PV}{y:SVal}(h:PVR N x y):PVR M x y:=by
 cases h with
 | one h=>exact .one (h.mono a)
 | tup h=>exact .tup (h.mono λ_ _ h=>h.mono a)
def OR.mono{N M:NM}(a:∀l x,N l=some x->M l=some x){x:eD}{y:aN}(h:OR N x y):OR M x y:=by
 cases h with
 | box h=>exact .box (h.mono λ_ _ h=>h.mono a)
 | rows h=>exact .rows h
 | gone=>exact .gone
def PVR.cell{N:NM}{y:SC}(h:PVR N p (.c y)):∃x,p= .c x/\RC N x y:=by
 cases h with | one h=>cases h with
  | c h=>exact⟨_,rfl,h⟩
  | agg h _=>simp [bE]at h
def PVR.ofC{N:NM}{y:SC}(h:RC N x y):PVR N (.c x) (.c y):= .one (.c h)
theorem RC.int{N:NM}{n:Int}(h:RC N x (.d f (.int k n))):∃g,x= .d g (.int k n):=by
 cases h with | d a b=>exact⟨_,by rw [a];rfl⟩
theorem RC.bool{N:NM}{b:Bool}(h:RC N x (.d f (.bool b))):∃g,x= .d g (.bool b):=by
 cases h with | d a c=>exact⟨_,by rw [a];rfl⟩
theorem PVR.int{N:NM}{n:Int}(h:PVR N p (.c (.d f (.int k n)))):∃g,p= .c (.d g (.int k n)):=by
 obtain⟨x,rfl,hc⟩:=h.cell;grind [RC.int]
theorem PVR.bool{N:NM}{b:Bool}(h:PVR N p (.c (.d f (.bool b)))):∃g,p= .c (.d g (.bool b)):=by
 obtain⟨x,rfl,hc⟩:=h.cell;grind [RC.bool]
def PVR.ci{N:NM}(k:IntKind)(n:Int)(f:Bool):PVR N (ci k n) (.c (.d f (.int k n))):= .ofC (.d rfl λ_=> .inl rfl)
def PVR.cb{N:NM}(b f:Bool):PVR N (AE.cb b) (.c (.d f (.bool b))):= .ofC (.d rfl λ_=> .inl rfl)
def PVR.cells{N:NM}{v:SVal}(h:PVR N p v):F2 (RC N) (aP p) (cellsS v):=by
 cases h with
 | one h=>cases h with
  | c h=>exact .cons h .nil
  | agg _ h=>exact h
 | tup h=>exact .nil
def PVR.len{N:NM}{v:SVal}(h:PVR N p v):(aP p).length=(cellsS v).length:=h.cells.length
def F2.afR{N:NM}{f g:Bool}(b:g=true->f=true):∀(a:List (Leaf aG)),F2 (RC N) ((a.map oK).map (.d f)) (a.map (.d g))
 | []=> .nil
 | _::a=> .cons (.d rfl λh=> .inl (b h)) (F2.afR b a)
def V8{N:NM}(n:Nat){f g:Bool}(a:g=true->f=true)(c:Co)(x:c.den):F2 (RC N) ((c.row x).map (.d f)) (qC (std n) g c x):=by
 unfold qC;rw [<-l9 n c x];exact F2.afR a _
structure XOK(X:XT)(E:Tab):Prop where
 ty:X.ty=E.ty
 glob:∀g c,X.glob g=some c->E.glob g=some (.rows c.size (aM c (TN c)))
 ieq:∀t c,X.ieq t=some c->(c= .ins/\E.ieq t=some 4)\/(c= .iop/\E.ieq t=some 5)
def Gv(T:(PV->Prop)->Prop)(N:NM)(v:SVal):Prop:=∃pv,PVR N pv v/\∀K,K pv->T K
def EvR(X:XT)(E:Tab)(n:Nat)(N:NM)(t:Slots)(e:Nat->Option SVal):Prop:=∀i v,e i=some v->∃pv,aW t i=some pv/\PVR N pv v
def dx{X:XT}{E:Tab}(hX:XOK X E){n:Nat}{N:NM}{t:Slots}{e:Nat->Option SVal}(a:EvR X E n N t e){x:Operand}{v:SVal}(h:evX (std n) X e x=some v):
  ∃pv,ev E t x=some pv/\PVR N pv v:=by
 cases x with
 | tmp i=>exact a i v h
 | const c=>
  simp only [evX]at h;split at h<;>cases h
  .exact⟨_,rfl,.ci _ _ _⟩
  .exact⟨_,rfl,.cb _ _⟩
  .exact⟨_,rfl,.ofC (.d rfl λ_=> .inl rfl)⟩
  .exact⟨_,rfl,.ofC .nil⟩
  .exact⟨_,rfl,.ofC .np⟩
 | global g=>
  simp only [evX]at h;split at h
  .rename_i c hc;cases h;refine⟨_,by simp only [ev,hX.glob g c hc,Option.map_some],.ofC .gp⟩
  .cases h
 | func f=>cases h;exact⟨_,rfl,.ofC (RC.fn (caps:=[]))⟩
theorem iM{o:Option PV}{pv:PV}(h:o=some pv)(K:PV->Prop):K pv->aT o K:=by rw [h];exact id
end Go.TX
namespace Go.TX
open Go Go.AE List
variable{n:Nat}{N:NM}{c:List Bool}{y:TY}{v:SVal}{X:XT}{E:Tab}{p:PV}{s:TypeId}
def Ox{d:lN}(h:d.agg=true):∃a,d= .struct a:=by cases d<;>simp [lN.agg]at h;exact⟨_,rfl⟩
def Cy(n:Nat)(w:SVal):bE (std n) w=bE (std 0) w:=by cases w<;>rfl
def XE{f g:Bool}(u:g=true->f=true){c:Co}{x:c.den}{j:Nat}
  (h:kD (std n) y j (.sv g c x) (qC (std n) g c x)=some v):Gv (uP f y (c.row x) j) N v:=by
 have b:=V8 (N:=N) n u c x;have z:(qC (std n) g c x).length=(c.row x).length:=by have:=b.length;simp_all
 unfold kD at h;split at h
 .rename_i hagg;obtain⟨A,t⟩:=Ox hagg;have l:∀v,F2 (RC N) ((((c.row x).drop j).take y.size).map (.d f)) (cellsS v)->bE (std 0) v=true->j+y.size<=(c.row x).length->Gv (uP f y (c.row x) j) N v:=by
   intro v o s B;refine⟨_,.one (.agg s o),λK hk=> ?_⟩
   grind [uP]
  split at h
  .rename_i h0;simp only [Bool.and_eq_true,beq_iff_eq]at h0;obtain⟨⟨rfl,C⟩,_⟩:=h0;cases h;refine l _ ?_ rfl ah;have:((c.row x).drop 0).take y.size=c.row x:=by simp_all
   rw [this];have:=b;rw [Ma]at this;exact this
  .split at h
   .rename_i o;cases h;have o:=Nat.le_of_ble_eq_true o;refine l _ ?_ rfl ah;rw [map_take,map_drop];exact(b.drop j).take y.size
   .cases h
 .rename_i hagg;split at h
  .rename_i q hq;obtain⟨a,p,i⟩:=b.get hq;rw [getElem?_map]at p;cases hd:(c.row x)[j]? with
   | none=>simp_all
   | some d=>
   rw [hd]at p;simp at p;subst p;split at h
   .rename_i k hk;split at h
    .rename_i f' k' m;split at h
     .rename_i e;subst e;cases h;obtain⟨w,r⟩:=RC.int i;cases r;exact⟨_,.ci k m _,λK hK=>by grind [uP]⟩
     .cases h
    .cases h
   .rename_i hni;cases h;refine⟨_,.ofC i,λK hK=> ?_⟩
    grind [List.getElem?_eq_some_iff,uP,lN.agg,absurd,bool]
  .cases h
def TR{f g:Bool}(d:g=true->f=true){c:Co}{a:List c.den}{i j:Nat}(e:i<a.length)
  (h:kD (std n) y j (.sv g c (a.getD i default)) (qC (std n) g c (a.getD i default))=some v):Gv (WU f (aM c a) i j y) N v:=by
 obtain⟨pv,b,k⟩:=XE (N:=N) d h;refine⟨pv,b,λK hK=>⟨by simpa [aM]using e,λrow l=> ?_⟩⟩
 grind [aM,getElem?_eq_getElem,Option.some.injEq,default,getD]
def aei{cs:List Cell}{w v:SVal}{j:Nat}(hc:F2 (RC N) cs (cellsS w))(h:kD (std n) y j w (bU (std n) w)=some v):Gv (Jk cs j y) N v:=by
 have g:(bU (std n) w).length=cs.length:=by rw [cB];exact hc.length.symm
 unfold kD at h;split at h
 .rename_i hagg;split at h
  .rename_i h0;simp only [Bool.and_eq_true,beq_iff_eq]at h0;obtain⟨⟨rfl,i⟩,f⟩:=h0;cases h;refine⟨.agg ((cs.drop 0).take y.size),.one (.agg ah ?_),λK hK=> ?_⟩
   all_goals grind [take_of_length_le,Jk]
  .split at h
   .rename_i c;cases h;have c:=Nat.le_of_ble_eq_true c;refine⟨.agg ((cs.drop j).take y.size),.one (.agg rfl ?_),λK hK=>by grind [Jk]⟩;have:=(hc.drop j).take y.size;rw [<-cB n]at this;exact this
   .cases h
 .rename_i hagg;split at h
  .rename_i q hq;rw [cB]at hq;obtain⟨a,e,b⟩:=hc.get hq;have d:v= .c q:=by
    split at h
    .split at h
     all_goals simp_all
    .cases h;rfl
   subst d;exact⟨_,.ofC b,λK hK=>by unfold Jk;rw [if_neg hagg,e];exact hK⟩
  .cases h
def Mc(hX:XOK X E){o:Heap}{h:List aN}(H:eP o h){ty:TypeId}{q v:SVal}{D:List Bool}(r:PVR (nmh h) p q)
  (hk:LW (std n) X h ty q=some (D,v)) (B:∀b∈D,b=true):Gv (lQ E o ty p) (nmh h) v:=by
 unfold LW at hk;rw [hX.ty]at hk;cases hy:E.ty ty with
 | none=>simp_all
 | some y=>
 rw [hy]at hk;simp only at hk;have a:∀ {T:(PV->Prop)->Prop},Gv T (nmh h) v->(∀K,T K->lQ E o ty p K)->Gv (lQ E o ty p) (nmh h) v:=λ⟨pv,J,C⟩ f=>⟨pv,J,λK hK=>f K (C K hK)⟩
 split at hk
 .rename_i l F j;obtain⟨x,rfl,hc⟩:=r.cell;cases hc;split at hk
  .rename_i w hw;split at hk
   .obtain⟨N,d,s⟩:=H.old l _ hw;cases s with | box L=>
    unfold LU at hk;split at hk
    .rename_i u hu;cases hk;refine a (aei L hu) λK k=> ?_
     unfold lQ;rw [hy];simp only [aF];rw [d];exact⟨rfl,k⟩
    .cases hk
   .cases hk
  .cases hk
 .rename_i l i j;obtain⟨x,rfl,hc⟩:=r.cell;cases hc with | pr O=>
  rename_i F i m;split at hk
  .rename_i f c z hw;obtain⟨N,d,s⟩:=H.old l _ hw;cases s with | rows t=>
   split at hk
   .rename_i u hu;cases hk;have C:=B ((std n).cmp .lss (i:Int) ((std n).len c z)) (by simp);have A:i< (z:List c.den).length:=by grind [bD]
    have M:F=c.size:=by grind [nmh,Option.some.injEq,Prod.mk.injEq]
    refine a (TR (n:=n) t A (by simpa [std]using hu)) λK k=> ?_
    unfold lQ;rw [hy];simp only [aF];rw [d];exact⟨M,k⟩
   .cases hk
  .cases hk
 .rename_i f c z i j;obtain⟨x,rfl,hc⟩:=r.cell;cases hc with | rp t A=>
  unfold LU at hk;split at hk
  .rename_i u hu;cases hk;refine a (TR (n:=n) t A (by simpa [std]using hu)) λK k=> ?_
   unfold lQ;rw [hy];exact k
  .cases hk
 .rename_i g c;obtain⟨x,rfl,hc⟩:=r.cell;cases hc;split at hk
  .rename_i e he;cases hk;refine⟨_,.ofC (.d (f:=false) rfl (λh=>by cases h)),λK hK=> ?_⟩;unfold lQ;rw [hy];simp only [aF];refine⟨by simp,λrow G=> ?_⟩;simp at G;subst G;unfold uP;rw [he];exact⟨by simp,λx I=>by simp at I;subst I;exact hK⟩
  .cases hk
 .cases hk
def JH{q v:SVal}{b:List Bool}(a:PVR N p q)(hk:ahX (std n) q=some (b,v)):Gv (Ny p) N v:=by
 unfold ahX at hk;split at hk
 .cases hk;obtain⟨x,rfl,hc⟩:=a.cell;cases hc;exact⟨_,.ofC .pb,λK hK=>hK⟩
 .cases hk;obtain⟨x,rfl,hc⟩:=a.cell;cases hc with | pr h=>exact⟨_,.ofC (.pr h),λK hK=>hK⟩
 .cases hk;obtain⟨x,rfl,hc⟩:=a.cell;cases hc with | rp h c=>exact⟨_,.ofC (.rp h c),λK hK=>hK⟩
 .cases hk
def amo{b:UnOp}{q v:SVal}(a:PVR N p q)(hk:unX (std n) b q=some (c,v)):Gv (unA b p) N v:=by
 unfold unX at hk;split at hk
 .cases hk;obtain⟨g,rfl⟩:=a.bool;exact⟨_,.cb _ _,λK hK=>hK⟩
 .cases hk;obtain⟨g,rfl⟩:=a.int;exact⟨_,.ci _ _ _,λK hK=>hK⟩
 .cases hk
def Ii:∀a:List Int,K9 (aM .u8 a)=some a
 | []=>rfl
 | x::r=>by
  have b:=Ii r;show(match ahI (Co.row .u8 x),K9 (aM .u8 r)with | some n,some l=>some (n::l) | _,_=>none)=_;rw [b];rfl
def aej(hX:XOK X E){s d:TypeId}{q v:SVal}(b:PVR N p q)(hk:Xu (std n) X s d q=some (c,v)):Gv (DJ E s d p) N v:=by
 unfold Xu at hk;rw [hX.ty]at hk;split at hk
 .rename_i y1 y2 h1 h2;split at hk
  .rename_i k f k' m hd;cases hk;obtain⟨g,rfl⟩:=b.int;refine⟨_,.ci _ _ _,λK hK=> ?_⟩
   grind [DJ,aF]
  .rename_i f xs hd;split at hk
   .rename_i e hs;split at hk
    .rename_i t ht;split at hk
     .rename_i hte;cases hk;obtain⟨x,rfl,hc⟩:=b.cell;have a:∃g,x= .d g (.rows Co.u8.size (aM .u8 xs)):=by cases hc with | d h _=>exact⟨_,by rw [h];rfl⟩
      obtain⟨g,rfl⟩:=a;refine⟨.c (.d true (.str (strOfNums xs))),.ofC (.d rfl λ_=> .inl rfl),λK hK=> ?_⟩;unfold DJ;rw [h2];simp only [aF];rw [hd];simp only;rw [h1];simp only;rw [hs];simp only;rw [ht];simp only;refine⟨hte,?_⟩;rw [Ii];exact hK
     .cases hk
    .cases hk
   .cases hk
  .cases hk
 .cases hk
def JI(hX:XOK X E){i:Nat}{q v:SVal}(b:PVR N p q)(hk:yV (std n) X s q i=some (c,v)):Gv (jc E s p i) N v:=by
 unfold yV at hk;rw [hX.ty]at hk;split at hk
 .rename_i y hy;split at hk
  .rename_i fs hd;split at hk
   .rename_i off ft hf;split at hk
    .rename_i z hz;split at hk
     .cases hk
     .rename_i a;have a:z.size≠0:=by simpa using a
      have fin:∀K,(match p with | .c (.ptr l sz i j)=>K (.c (.ptr l sz i (j+off))) | .c (.rp r sz es i j)=>K (.c (.rp r sz es i (j+off))) | _=>False)->jc E s p i K:=by grind [jc,aF]
      split at hk
      .cases hk;obtain⟨x,rfl,hc⟩:=b.cell;cases hc;exact⟨_,.ofC .pb,λK hK=>fin K hK⟩
      .cases hk;obtain⟨x,rfl,hc⟩:=b.cell;cases hc with | pr h=>exact⟨_,.ofC (.pr h),λK hK=>fin K hK⟩
      .cases hk;obtain⟨x,rfl,hc⟩:=b.cell;cases hc with | rp h d=>exact⟨_,.ofC (.rp h d),λK hK=>fin K hK⟩
      .cases hk
    .cases hk
   .cases hk
  .cases hk
 .cases hk
def PVR.struct(h:PVR N p v)(a:bE (std 0) v=true):∃cs,p= .agg cs/\F2 (RC N) cs (cellsS v):=by
 cases h with
 | one h=>cases h with
  | c _=>simp [bE]at a
  | agg _ h=>exact⟨_,rfl,h⟩
 | tup _=>simp [bE]at a
def XF(hX:XOK X E){i:Nat}{q v:SVal}{f:List Bool}(g:PVR N p q)(hk:Oh (std n) X s q i=some (f,v)):Gv (uR E s p i) N v:=by
 unfold Oh at hk;rw [hX.ty]at hk;split at hk
 .rename_i y hy;split at hk
  .rename_i fs hd;split at hk
   .rename_i off ft hf;split at hk
    .rename_i z hz;split at hk
     .rename_i hc;simp only [Bool.and_eq_true]at hc;obtain⟨e,b⟩:=hc;have b:=Nat.le_of_ble_eq_true b;obtain⟨cs,rfl,d⟩:=g.struct ah;have j:(bU (std n) q).length=cs.length:=by rw [cB];exact d.length.symm
      have fin:∀K,(if z.desc.agg then K (.agg ((cs.drop off).take z.size))else Cm cs[off]? λx=>K (.c x))->uR E s (.agg cs) i K:=by grind [uR,aF]
      split at hk
      .rename_i hagg;cases hk;refine⟨.agg ((cs.drop off).take z.size),.one (.agg rfl ?_),λK hK=>fin K (by simp_all)⟩;have:=(d.drop off).take z.size;rw [<-cB n]at this;exact this
      .rename_i hagg;split at hk
       .rename_i x hx;cases hk;rw [cB]at hx;obtain⟨a,h,c⟩:=d.get hx;exact⟨_,.ofC c,λK hK=>fin K (by rw [if_neg hagg,h];exact hK)⟩
       .cases hk
     .cases hk
    .cases hk
   .cases hk
  .cases hk
 .cases hk
end Go.TX
namespace Go.TX
open Go Go.AE List
variable{N:NM}{n:Nat}{h:List aN}{c:Co}{p:PV}{X:XT}{E:Tab}
def V9{a:BinOp}{k:IntKind}{x y:Int}{v:SVal}{d:List Bool}
    (hk:(match a with
       | .quo | .rem=>some ([(std n).cmp .neq y ((std n).lit 0)],.c (.d true (.int k ((std n).arith a k x y))))
       | .shl | .shr=>some ([(std n).cmp .leq ((std n).lit 0) y],.c (.d true (.int k ((std n).arith a k x y))))
       | a=>if JB a then okI (std n) k ((std n).arith a k x y)else if Xt a then okB (std n) ((std n).cmp a x y)else none:PR (std n))=some (d,v))
    (c:∀b∈d,b=true):Gv (AX a k x y) N v:=by
  cases a<;>simp only [JB,Xt,okI,okB,if_true,Bool.false_eq_true,if_false,Option.some.injEq,Prod.mk.injEq,reduceCtorEq]at hk<;>
    first
    | exact hk.elim
    | (obtain⟨rfl,rfl⟩:=hk;exact⟨_,.ci _ _ _,λK hK=>hK⟩)
    | (obtain⟨rfl,rfl⟩:=hk;exact⟨_,.cb _ _,λK hK=>hK⟩)
    | (obtain ⟨rfl, rfl⟩ := hk
       have h:=c _ (mem_singleton.2 rfl);refine⟨_,.ci _ _ _,λK hK=>⟨?_,hK⟩⟩;simpa [bD]using h)
def F2.JJ:∀ {cs:List Cell} {k:List SC},F2 (RC N) cs k->∀(i:List Int),(∃j:List Bool,k=zipWith (λf n=>TC.d f (.int .i64 n)) j i/\j.length=i.length)->iy cs=some i
 | [],_,h,i,⟨j,e,hl⟩=>by
  cases h;cases i with
  | nil=>rfl
  | cons a b=>simp_all
 | _::_,_,.cons h1 h2,i,⟨j,e,hl⟩=>by
  cases i with
  | nil=>simp_all
  | cons a b=>cases j with
   | nil=>simp at hl
   | cons c d=>
    simp only [zipWith_cons_cons,List.cons.injEq]at e;obtain⟨rfl,rfl⟩:=e;obtain⟨g,rfl⟩:=RC.int h1;have:=F2.JJ h2 b ⟨d,rfl,by simpa using hl⟩;simp [iy,Nz,this]
def ug:∀ {l:List Sh} {i:List SC} {f:Bool} {b:List (LV aG)} {m:List Nat},(∀s∈l,s=Sh.i)->aL (std n) h l i=some (f,b,m)->
  ∃a:List Int,b=a.map LV.i/\∃d:List Bool,i=zipWith (λf n=>TC.d f (.int .i64 n)) d a/\d.length=a.length
 | [],[],f,b,m,_,hk=>by simp_all [aL]
 | [],_::_,_,_,_,_,hk=>by simp [aL]at hk
 | _::_,[],_,_,_,_,hk=>by simp [aL]at hk
 | s::l,y::i,f,b,m,hs,hk=>by
  unfold aL at hk;split at hk
  .rename_i f1 y1 l1 h1;split at hk
   .rename_i g ys1 ls1 h2;split at hk<;>cases hk
    obtain⟨a,rfl,d,rfl,o⟩:=ug (λs j=>hs s (mem_cons_of_mem _ j)) h2;have:=hs s (by simp);subst this;unfold eO at h1;split at h1
    .rename_i f0 lf;split at h1
     .rename_i e;cases lf with
      | int k x=>simp [jG,Sh.i]at e;subst e;cases h1;exact⟨x::a,rfl,f0::d,rfl,by simp [o]⟩
      | bool x=>simp [jG,Sh.i]at e
      | str x=>simp [jG,Sh.i]at e
      | rows c x=>simp [jG,Sh.i]at e
     .cases h1
    .simp_all
    .simp_all
    .split at h1
     all_goals simp_all
    .cases h1
   .cases hk
  .cases hk
theorem Md(x:Ins):Co.yY .ins x=[x.op,x.d,x.a,x.k].map LV.i:=rfl
theorem Me(x:IOp):Co.yY .iop x=[x.kind,x.x,x.y,x.k,x.at_].map LV.i:=rfl
def Wh{a b:List Int}(h:a.map (LV.i (A:=aG))=b.map LV.i):a=b:=by
 induction a generalizing b with
 | nil=>cases b<;>simp_all
 | cons x a c=>cases b with
  | nil=>simp at h
  | cons y b=>grind
theorem Ab(hc:∀s∈c.fields,s=Sh.i){q:SVal}{f:Bool}{x:c.den}{z:List Nat}(m:PVR N p q)(hk:toX (std n) [] c q=some (f,x,z))(l:List Int)(d:c.yY x=l.map LV.i):
  iy (aP p)=some l:=by
 unfold toX at hk;split at hk
 .rename_i f' c' x';split at hk
  .rename_i e;subst e;cases hk;have h:=m.cells;have w:cellsS (.sv f' c' x')=(fD (std 0) c' x' 0 c'.fields).map (.d f'):=rfl;rw [w]at h;refine F2.JJ h l ?_;have g:=Ih 0 c' x';have j:=Bu 0 c' x';rw [d]at g
   revert g j
   generalize fD (std 0) c' x' 0 c'.fields=lv;intro g j;have v:∀y∈lv,jG y=Sh.i:=λy i=>hc _ (by grind)
   clear j d m h w hc
   induction lv generalizing l with
   | nil=>simp_all
   | cons y lv A=>cases l with
    | nil=>simp at g
    | cons a b=>
     simp only [map_cons,List.cons.injEq]at g;obtain⟨r,e,o⟩:=A b g.2 (λy i=>v y (mem_cons_of_mem _ i));have i:=v y (by simp);cases y with
     | int k x=>simp [jG,Sh.i]at i;subst i;simp [Leaf.lv]at g;exact⟨f'::r,by simp [e,g.1],by simp [o]⟩
     | bool x=>grind [jG]
     | str x=>grind [jG]
     | rows c x=>grind [jG]
  .cases hk
 .cases hk
 .split at hk
  .rename_i f1 ys ls1 g;split at hk
   .rename_i t ht;cases hk;obtain⟨u,rfl,r,i,o⟩:=ug hc g;rw [cB]at i;have j:c.yY (c.mk t)=u.map LV.i:=by rw [TQ,unpack_pack ht]
    rw [show(std n).mkX c t=c.mk t from rfl]at d;rw [j]at d;have:=Wh d;subst this;exact F2.JJ m.cells u ⟨r,i,o⟩
   .cases hk
  .cases hk
def EA{q:SVal}(b:PVR N p q){a:List Int}(h:iy (aP p)=some a)(e:2<=a.length):∃cs,p= .agg cs/\iy cs=some a:=by
 cases p with
 | c x=>grind [aP,iy]
 | agg cs=>exact⟨cs,rfl,h⟩
 | tup d=>grind [aP,iy]
def amq{x y:Ins}:([x.op,x.d,x.a,x.k]==[y.op,y.d,y.a,y.k])=Xz x y:=by
 unfold Xz;rw [Bool.eq_iff_iff];cases x;cases y;simp
def amr{x y:IOp}:([x.kind,x.x,x.y,x.k,x.at_]==[y.kind,y.x,y.y,y.k,y.at_])=XA x y:=by
 unfold XA;rw [Bool.eq_iff_iff];cases x;cases y;simp
theorem aU(c:Co)(xs:List c.den):(aM c xs).length=xs.length:=by simp [aM]
def ahZ(hX:XOK X E){F:BinOp}{ty:TypeId}{p B:PV}{a b v:SVal}{J:List Bool}(q:PVR N p a)(i:PVR N B b)
  (hk:ahU (std n) X F ty a b=some (J,v)) (j:∀b∈J,b=true):Gv (AY E F ty p B) N v:=by
 unfold ahU at hk;split at hk
 .rename_i f k x f' k' y;obtain⟨g,rfl⟩:=q.int;obtain⟨L,rfl⟩:=i.int;split at hk
  .rename_i e;obtain⟨pv,Q,I⟩:=V9 (N:=N) hk j;exact⟨pv,Q,λK hK=>⟨e,I K hK⟩⟩
  .cases hk
 .rename_i f x f' y;obtain⟨g,rfl⟩:=q.bool;obtain⟨L,rfl⟩:=i.bool;rw [hX.ty]at hk;split at hk
  .rename_i z hz;split at hk
   .rename_i hd;split at hk
    .cases hk;exact⟨_,.cb _ _,λK hK=>by unfold AY;simp only;rw [hz];exact⟨hd,hK⟩⟩
    .cases hk;exact⟨_,.cb _ _,λK hK=>by unfold AY;simp only;rw [hz];exact⟨hd,hK⟩⟩
    .cases hk
   .cases hk
  .cases hk
 .rename_i f x f' y;have u:∀ {p:PV} {f:Bool} {s:ByteArray},PVR N p (.c (.d f (.str s)))->∃g,p= .c (.d g (.str s)):=λh=>by
   obtain⟨x,rfl,hc⟩:=h.cell;cases hc with | d G _=>exact⟨_,by rw [G];rfl⟩
  obtain⟨g,rfl⟩:=u q;obtain⟨L,rfl⟩:=u i;rw [hX.ty]at hk;split at hk
  .rename_i z hz;split at hk
   .rename_i hd;split at hk
    .cases hk;exact⟨_,.cb _ _,λK hK=>by unfold AY;simp only;rw [hz];exact⟨hd,hK⟩⟩
    .cases hk;exact⟨_,.cb _ _,λK hK=>by unfold AY;simp only;rw [hz];exact⟨hd,hK⟩⟩
    .cases hk
   .cases hk
  .cases hk
 .rename_i l U m;obtain⟨x,rfl,D⟩:=q.cell;obtain⟨R,rfl,r⟩:=i.cell;rw [hX.ty]at hk;split at hk
  .rename_i z hz;split at hk
   .rename_i el hd;cases D with
    | @os l Y U M Z hN=>
    cases r;have ne:(!decide ((M:Int)=0))=true->M≠0:=λh e=>by simp_all
    split at hk
    .cases hk;exact⟨_,.cb _ _,λK hK=>⟨ne (j _ (mem_singleton.2 rfl)),by rw [hz];exact⟨⟨el,hd⟩,hK⟩⟩⟩
    .cases hk;exact⟨_,.cb _ _,λK hK=>⟨ne (j _ (mem_singleton.2 rfl)),by rw [hz];exact⟨⟨el,hd⟩,hK⟩⟩⟩
    .cases hk
   .cases hk
  .cases hk
 .rename_i f c t;obtain⟨x,rfl,D⟩:=q.cell;obtain⟨R,rfl,r⟩:=i.cell;rw [hX.ty]at hk;split at hk
  .rename_i z hz;split at hk
   .rename_i el hd;cases D with
    | d G _=>
    cases r;subst G;have ne:(!decide ((t.length:Int)=0))=true->aM c t≠ []:=λh e=>by grind [aU,Bool.not_eq_true',decide_eq_false_iff_not]
    split at hk
    .cases hk;exact⟨_,.cb _ _,λK hK=>⟨ne (j _ (mem_singleton.2 rfl)),by rw [hz];exact⟨⟨el,hd⟩,hK⟩⟩⟩
    .cases hk;exact⟨_,.cb _ _,λK hK=>⟨ne (j _ (mem_singleton.2 rfl)),by rw [hz];exact⟨⟨el,hd⟩,hK⟩⟩⟩
    .cases hk
   .cases hk
  .cases hk
 .split at hk
  .rename_i c hc;split at hk
   .rename_i f1 x l1 f2 y l2 hx hy;have o:∀(m:Nat) (t w:List Int),E.ieq ty=some m->t.length=m->w.length=m->2<=m->iy (aP p)=some t->iy (aP B)=some w->(t==w)=(std n).eqX c x y->Gv (AY E F ty p B) N v:=by
     intro m t w A O S I H C V;obtain⟨cs,rfl,T⟩:=EA q H ah;obtain⟨W,rfl,P⟩:=EA i C ah;split at hk
     .cases hk;exact⟨_,.cb _ _,λK hK=>by grind [AY,uQ]⟩
     .cases hk;exact⟨_,.cb _ _,λK hK=>by grind [AY,uQ]⟩
     .cases hk
    rcases hX.ieq ty c hc with⟨rfl,A⟩ | ⟨rfl,A⟩
    .exact o 4 _ _ A rfl rfl ah (Ab (by decide) q hx _ (Md x)) (Ab (by decide) i hy _ (Md y)) amq
    .exact o 5 _ _ A rfl rfl ah (Ab (by decide) q hx _ (Me x)) (Ab (by decide) i hy _ (Me y)) amr
   .cases hk
  .cases hk
def fV(hX:XOK X E){e:TypeId}(h:kS X e c=true):∃z,E.ty e=some z/\z.size=c.size:=by
 unfold kS at h;rw [hX.ty]at h
 grind
theorem cO{l:Nat}{f:Bool}{xs:List c.den}(a:h[l]? =some (.rows f c xs)):nmh h l=some (c.size,xs.length):=by simp only [nmh,a]
def aek{v:SVal}(a:PVR (nmh h) p v):PVR (nmh h) p (ahV (std n) h v):=by
 unfold ahV;split
 .rename_i l;split
  .rename_i f c xs hl;obtain⟨x,rfl,d⟩:=a.cell;cases d with
   | @own l g m b=>
    have e:=cO hl;rw [b]at e;cases e;exact .ofC (.os b)
  .exact a
 .exact a
def JK(hX:XOK X E){t:TypeId}{p H:PV}{a b v:SVal}{G:List Bool}(C:PVR (nmh h) p a)(F:PVR (nmh h) H b)
  (hk:yX (std n) X h t a b=some (G,v)) (L:∀b∈G,b=true):Gv (jV E t p H) (nmh h) v:=by
 unfold yX at hk;rw [hX.ty]at hk;split at hk
 .rename_i y hy;split at hk
  .rename_i e f k i hd;obtain⟨i,rfl⟩:∃M:Int,M=i:=⟨i,rfl⟩;obtain⟨g,rfl⟩:=F.int
   have fin:∀z,E.ty e=some z->∀K,(match p with
     | .c (.d f (.rows s es))=>(es≠ []->s=z.size)/\0<=i/\i<es.length/\K (.c (.rp f s es i.toNat 0))
     | .c (.clip f s es)=>(es≠ []->s=z.size)/\0<=i/\i<es.length/\K (.c (.rp f s es i.toNat 0))
     | .c (.os l s A n)=>s=z.size/\0<=i/\i<n/\K (.c (.ptr l s (A+i.toNat) 0))
     | _=>False)->jV E t p (.c (.d g (.int k i))) K:=by
    intro z r K hK;unfold jV;rw [hy];simp only [aF];rw [hd];simp only;rw [r];exact hK
   split at hk
   .rename_i f0 c u;split at hk
    .rename_i hs;cases hk;obtain⟨z,r,o⟩:=fV hX hs;obtain⟨x,rfl,hc⟩:=C.cell;cases hc with | d J I=>
     subst J;have w:(0:Int)<=i:=by simp_all [bD]
     have B:i< (u:List c.den).length:=by simp_all [bD]
     refine⟨_,.ofC (x:= .rp _ c.size (aM c u) i.toNat 0) (by
      grind [RC.rp,nmh,Leaf.scalar,Int.toNat_of_nonneg]),λK hK=>fin z r K ⟨λ_=>o.symm,w,by rw [aU];omega,hK⟩⟩
    .cases hk
   .rename_i f0 c u;split at hk
    .rename_i hs;cases hk;obtain⟨z,r,o⟩:=fV hX hs;obtain⟨x,rfl,hc⟩:=C.cell;cases hc with | clip I=>
     have w:(0:Int)<=i:=by simp_all [bD]
     have B:i< (u:List c.den).length:=by simp_all [bD]
     refine⟨_,.ofC (x:= .rp _ c.size (aM c u) i.toNat 0) (by
      grind [RC.rp,nmh,Int.toNat_of_nonneg]),λK hK=>fin z r K ⟨λ_=>o.symm,w,by rw [aU];omega,hK⟩⟩
    .cases hk
   .rename_i l;split at hk
    .rename_i f1 c u hl;split at hk
     .rename_i hs;cases hk;obtain⟨z,r,o⟩:=fV hX hs;obtain⟨x,rfl,hc⟩:=C.cell;cases hc with | own D=>
      have q:=D;rw [cO hl]at q;cases q;have w:(0:Int)<=i:=by simp_all [bD]
      have B:i< (u:List c.den).length:=by simp_all [bD]
      refine⟨_,.ofC (x:= .ptr l c.size (0+i.toNat) 0) (by
       grind [RC.pr,nmh,Int.toNat_of_nonneg]),λK hK=>fin z r K ⟨o.symm,w,B,hK⟩⟩
     .cases hk
    .cases hk
   .rename_i l A n;split at hk
    .rename_i f1 c u hl;split at hk
     .rename_i hs;cases hk;obtain⟨z,r,o⟩:=fV hX hs;obtain⟨x,rfl,hc⟩:=C.cell;cases hc with | os D=>
      rename_i s A n m;have q:=D;rw [cO hl]at q;cases q;have w:(0:Int)<=i:=by simp_all [bD]
      have B:i< (n:Int):=by simp_all [bD]
      refine⟨_,.ofC (x:= .ptr l c.size (A+i.toNat) 0) (by
       have:=RC.pr (N:=nmh h) (i:=A+i.toNat) (j:=0) D
       grind),λK hK=>fin z r K ⟨o.symm,w,B,hK⟩⟩
     .cases hk
    .cases hk
   .cases hk
  .cases hk
 .cases hk
def ah0{q v:SVal}{e:List Bool}(a:PVR (nmh h) p q)(hk:ahW (std n) h q=some (e,v)):Gv (La p) (nmh h) v:=by
 unfold ahW at hk;split at hk
 .cases hk;obtain⟨x,rfl,hc⟩:=a.cell;cases hc with | d g _=>subst g;exact⟨_,.ci _ _ _,λK hK=>by grind [La,oK,aU]⟩
 .cases hk;obtain⟨x,rfl,hc⟩:=a.cell;cases hc with | clip _=>exact⟨_,.ci _ _ _,λK hK=>by grind [La,aU]⟩
 .obtain⟨x,rfl,hc⟩:=a.cell;cases hc with | own b=>
  split at hk
  .rename_i f c xs hl;cases hk;rw [cO hl]at b;cases b;exact⟨_,.ci _ _ _,λK hK=>hK⟩
  .cases hk
 .cases hk;obtain⟨x,rfl,hc⟩:=a.cell;cases hc;exact⟨_,.ci _ _ _,λK hK=>hK⟩
 .cases hk;obtain⟨x,rfl,hc⟩:=a.cell;cases hc;exact⟨_,.ci _ _ _,λK hK=>hK⟩
 .cases hk
end Go.TX
namespace Go.TX
open Go Go.AE List
variable{X:XT}{E:Tab}{n:Nat}{N:NM}{t:Slots}{e:Nat->Option SVal}{h:List aN}{ty:TypeId}{v:SVal}
def sM(hX:XOK X E)(c:EvR X E n N t e){o:Option Operand}{d m:Int}(hk:JC (std n) X e o d=some m){K:Int->Prop}(h:K m):zI E t o d K:=by
 cases o with
 | none=>simp only [JC,Option.some.injEq]at hk;subst hk;exact h
 | some x=>
  simp only [JC]at hk;split at hk
  .rename_i f k m' hx;cases hk;obtain⟨pv,b,a⟩:=dx hX c hx;obtain⟨g,rfl⟩:=a.int;unfold zI;simp only;rw [b];exact h
  .cases hk
theorem xk(c:Co)(xs:List c.den)(l r:Nat):((aM c xs).take r).drop l=aM c ((xs.take r).drop l):=by simp [aM,map_take,map_drop]
def XG(hX:XOK X E)(G:EvR X E n (nmh h) t e){p:PV}{q v:SVal}{lo F C:Option Operand}{R:List Bool}(L:PVR (nmh h) p q)
    (hk:Oi (std n) X e h ty q lo F C=some (R,v)) (a:∀b∈R,b=true):Gv (uS E t ty p lo F C) (nmh h) v:=by
  unfold Oi at hk;rw [hX.ty]at hk;split at hk
  · rename_i y W;split at hk
    · rename_i U hd;split at hk
      · rename_i l V;obtain⟨l,rfl⟩:∃j:Int,j=l:=⟨l,rfl⟩
        have fin:∀z,E.ty U=some z->∀K,(match p with
          | .c (.d f (.rows D es))=>(es≠ []->D=z.size)/\(zI E t F es.length λh=>0<=l/\l<=h/\h<=es.length/\
              (match C with
               | none=>K (.c (.d f (.rows D ((es.take h.toNat).drop l.toNat))))
               | some _=>zI E t C 0 λm=>F.isSome=true/\m=h/\K (.c (.clip f D ((es.take h.toNat).drop l.toNat)))))
          | .c (.os b D lo0 n)=>D=z.size/\C=none/\(zI E t F n λh=>0<=l/\l<=h/\h<=n/\K (.c (.os b D (lo0+l.toNat) (h.toNat-l.toNat))))
          | .c .nil=>C=none/\(zI E t F 0 λh=>l=0/\h=0/\K (.c .nil))
          | _=>False)->uS E t ty p lo F C K:=by
          intro z k K hK;unfold uS;rw [W];simp only [aF];rw [hd];simp only;rw [k];exact sM hX G V hK
        split at hk
        · rename_i f0 c xs;split at hk
          · rename_i I;obtain⟨z,k,g⟩:=fV hX I;obtain⟨x,rfl,hc⟩:=L.cell;cases hc with | d Z S=>
            subst Z;split at hk
            · rename_i r u;obtain⟨r,rfl⟩:∃j:Int,j=r:=⟨r,rfl⟩;split at hk
              · rename_i hm;cases hk;have B:(0:Int)<=l:=by simpa [bD]using a (bD .leq 0 l) (by simp)
                have s:l<=r:=by simpa [bD]using a (bD .leq l r) (by simp)
                have o:r<=(xs:List c.den).length:=by simpa [bD]using a (bD .leq r ((xs:List c.den).length:Int)) (by simp)
                refine⟨_,.ofC (.d (y:= .rows c ((xs.take r.toNat).drop l.toNat)) rfl S),λK hK=>fin z k K ⟨λ_=>g.symm,?_⟩⟩;rw [aU];refine sM hX G u ⟨B,s,o,?_⟩;simp only [xk];exact hK
              · rename_i mo hm;split at hk
                · rename_i m M;obtain⟨m,rfl⟩:∃j:Int,j=m:=⟨m,rfl⟩;split at hk
                  · rename_i A;cases hk;have B:(0:Int)<=l:=by simpa [bD]using a (bD .leq 0 l) (by simp)
                    have s:l<=r:=by simpa [bD]using a (bD .leq l r) (by simp)
                    have o:r<=(xs:List c.den).length:=by simpa [bD]using a (bD .leq r ((xs:List c.den).length:Int)) (by simp)
                    have Y:m=r:=by simpa [bD]using a (bD .eql m r) (by simp)
                    refine⟨_,.ofC (.clip (c:=c) (xs:=((xs.take r.toNat).drop l.toNat)) (λh=>(S h).resolve_right (by simp [Leaf.scalar]))),λK hK=>fin z k K ⟨λ_=>g.symm,?_⟩⟩;rw [aU];refine sM hX G u ⟨B,s,o,?_⟩;simp only [xk];exact sM hX G M ⟨A,Y,hK⟩
                  · cases hk
                · cases hk
            · cases hk
          · cases hk
        · rename_i w;split at hk
          · rename_i T c xs P;split at hk
            · rename_i I;obtain⟨z,k,g⟩:=fV hX I;obtain⟨x,rfl,hc⟩:=L.cell;cases hc with | own J=>
              have i:=J;rw [cO P]at i;cases i;split at hk
              · rename_i r u;cases hk;obtain⟨r,rfl⟩:∃j:Int,j=r:=⟨r,rfl⟩;have B:(0:Int)<=l:=by simpa [bD]using a (bD .leq 0 l) (by simp)
                have s:l<=r:=by simpa [bD]using a (bD .leq l r) (by simp)
                have o:r<=(xs:List c.den).length:=by simpa [bD]using a (bD .leq r ((xs:List c.den).length:Int)) (by simp)
                refine⟨_,.ofC (x:= .os w c.size (0+l.toNat) (r.toNat-l.toNat)) (by
                  have:=RC.os (N:=nmh h) (lo:=0+l.toNat) (n:=r.toNat-l.toNat) J;rw [show((0+l.toNat:Nat):Int)=l by omega,show((r.toNat-l.toNat:Nat):Int)=r-l by omega]at this;exact this),λK hK=>fin z k K ⟨g.symm,rfl,?_⟩⟩
                exact sM hX G u ⟨B,s,o,hK⟩
              · cases hk
            · cases hk
          · cases hk
        · rename_i w H O;split at hk
          · rename_i T c xs P;split at hk
            · rename_i I;obtain⟨z,k,g⟩:=fV hX I;obtain⟨x,rfl,hc⟩:=L.cell;cases hc with | os J=>
              rename_i D H O m;have i:=J;rw [cO P]at i;cases i;split at hk
              · rename_i r u;cases hk;obtain⟨r,rfl⟩:∃j:Int,j=r:=⟨r,rfl⟩;have B:(0:Int)<=l:=by simpa [bD]using a (bD .leq 0 l) (by simp)
                have s:l<=r:=by simpa [bD]using a (bD .leq l r) (by simp)
                have o:r<=(O:Int):=by simpa [bD]using a (bD .leq r (O:Int)) (by simp)
                refine⟨_,.ofC (x:= .os w c.size (H+l.toNat) (r.toNat-l.toNat)) (by
                  have:=RC.os (N:=nmh h) (lo:=H+l.toNat) (n:=r.toNat-l.toNat) J;rw [show((H+l.toNat:Nat):Int)=(H:Int)+l by omega,show((r.toNat-l.toNat:Nat):Int)=r-l by omega]at this;exact this),λK hK=>fin z k K ⟨g.symm,rfl,?_⟩⟩
                exact sM hX G u ⟨B,s,o,hK⟩
              · cases hk
            · cases hk
          · cases hk
        · split at hk
          · rename_i r u;split at hk
            · rename_i Q;cases hk;obtain⟨r,rfl⟩:∃j:Int,j=r:=⟨r,rfl⟩;obtain⟨x,rfl,hc⟩:=L.cell;cases hc;have s:l=0:=by simpa [bD]using a (bD .eql l 0) (by simp)
              have o:r=0:=by simpa [bD]using a (bD .eql r 0) (by simp)
              obtain⟨z,k⟩:=Option.isSome_iff_exists.1 Q;exact⟨_,.ofC .nil,λK hK=>fin z k K ⟨rfl,sM hX G u ⟨s,o,hK⟩⟩⟩
            · cases hk
          · cases hk
        · cases hk
      · cases hk
    · cases hk
  · cases hk
def XH{x:Cell}{y:SC}(h:TH (std n) x=some y):RC N x y:=by
 unfold TH at h;split at h<;>first | (cases h;exact .d rfl λ_=> .inl rfl) | (cases h;exact .nil) | (cases h;exact .np) | cases h
def Bv:∀ {b:List Cell} {a:List SC},jY (std n) b=some a->F2 (RC N) b a
 | [],a,h=>by simp [jY]at h;subst h;exact .nil
 | x::b,a,h=>by
  simp only [jY]at h;split at h
  .rename_i y ys' h1 h2;cases h;exact .cons (XH h1) (Bv h2)
  .cases h
def TS(hX:XOK X E)(m:EvR X E n N t e)(g:List (Nat×TypeId)):
  ∀(d:List (Nat×Operand)) {c:List Cell} {cs out:List SC},F2 (RC N) c cs->LY (std n) X e g d cs=some out->∃b,F2 (RC N) b out/\∀K,K b->tQ E t (pI E g) d c K
 | [],c,cs,out,hc,hk=>by simp only [LY,Option.some.injEq]at hk;subst hk;exact⟨_,hc,λK hK=>hK⟩
 | (i,x)::rest,c,cs,out,hc,hk=>by
  simp only [LY]at hk;rw [hX.ty]at hk;split at hk
  .rename_i off ft hf;split at hk
   .rename_i z v hz hv;split at hk
    .rename_i hcond;simp only [Bool.and_eq_true,beq_iff_eq,Bool.not_eq_true',beq_eq_false_iff_ne,ne_eq]at hcond;obtain⟨⟨u,o⟩,l⟩:=hcond;have l:=Nat.le_of_ble_eq_true l;obtain⟨pv,p,r⟩:=dx hX m hv;have a:=r.cells;have k:(aP pv).length=(bU (std n) v).length:=by rw [cB];exact a.length
     have s:c.length=cs.length:=hc.length;rw [cB]at hk;have f:F2 (RC N) (splice c (aP pv) off) (cs.take off++cellsS v++cs.drop (off+(cellsS v).length)):=by
      unfold splice;rw [show(aP pv).length=(cellsS v).length from a.length];exact((hc.take off).append a).append (hc.drop _)
     obtain⟨b,q,hK⟩:=TS hX m g rest f hk;refine⟨b,q,λK j=> ?_⟩;unfold tQ;have h:pI E g i=some (off,z.size):=by grind [pI]
     rw [h];simp only;rw [p];exact⟨ah,o,ah,hK K j⟩
    .cases hk
   .cases hk
  .cases hk
def XI(hX:XOK X E)(i:EvR X E n N t e){a:List (Nat×Operand)}{g:List Bool}
  (hk:Oj (std n) X e ty a=some (g,v)):Gv (AZ E t ty a) N v:=by
 unfold Oj at hk;split at hk
 .rename_i y hy;rw [hX.ty]at hy;split at hk
  .rename_i fs hd;split at hk
   .rename_i hall;split at hk
    .rename_i z hz;split at hk
     .rename_i cs hcs;cases hk;obtain⟨d,h,hK⟩:=TS hX i fs a (Bv hz) hcs;refine⟨_,.one (.agg rfl h),λK c=> ?_⟩;unfold AZ;rw [hy];simp only [aF];rw [hd];refine⟨λf b=> ?_,hK _ c⟩;have:=all_eq_true.1 hall f b;rw [hX.ty]at this;exact this
     .cases hk
    .cases hk
   .cases hk
  .cases hk
 .cases hk
def TT(hX:XOK X E)(a:EvR X E n N t e):
  ∀(b:List Operand) {cs:List (Nat×Nat)},LZ (std n) X e b=some cs->∀K,K (cs.map λp=>Cell.ptr p.1 p.2 0 0)->tT E t b K
 | [],cs,hk,K,hK=>by simp only [LZ,Option.some.injEq]at hk;subst hk;exact hK
 | x::r,cs,hk,K,hK=>by
  simp only [LZ]at hk;split at hk
  .rename_i l sz hx;split at hk
   .rename_i ys hys;cases hk;obtain⟨pv,f,d⟩:=dx hX a hx;obtain⟨c,rfl,hc⟩:=d.cell;cases hc;unfold tT;rw [f];exact TT hX a r hys _ hK
   .cases hk
  .cases hk
def Mf{q:Bool}{x y z:SVal}{px py:PV}(o:q=true->PVR N px x)(j:q=false->PVR N py y)(hk:Ol (std n) q x y=some z):PVR N (bif q then px else py) z:=by
 unfold Ol at hk;split at hk
 .rename_i a b;split at hk
  .rename_i c hc;cases hk;unfold Xv at hc;split at hc
   .rename_i f k m g k' m';split at hc
    .rename_i e;subst e;cases hc;cases q with
     | true=>obtain⟨g,rfl⟩:=(o rfl).int;exact .ofC (.d rfl λ_=> .inr rfl)
     | false=>obtain⟨g,rfl⟩:=(j rfl).int;exact .ofC (.d rfl λ_=> .inr rfl)
    .cases hc
   .cases hc;cases q with
    | true=>obtain⟨g,rfl⟩:=(o rfl).bool;exact .ofC (.d rfl λ_=> .inr rfl)
    | false=>obtain⟨g,rfl⟩:=(j rfl).bool;exact .ofC (.d rfl λ_=> .inr rfl)
   .rename_i f c xs g c' ys;split at hc
    .rename_i e;subst e;cases hc;cases q with
     | true=>
      obtain⟨u,rfl,h⟩:=(o rfl).cell;cases h with | d l i=>exact .ofC (.d l λh=> .inl ((i (by simp_all)).resolve_right (by simp [Leaf.scalar])))
     | false=>
      obtain⟨u,rfl,h⟩:=(j rfl).cell;cases h with | d l i=>exact .ofC (.d l λh=> .inl ((i (by simp_all)).resolve_right (by simp [Leaf.scalar])))
    .cases hc
   .cases hc
  .cases hk
 .cases hk
def Mg(hX:XOK X E){u:Heap}(d:EvR X E n (nmh h) t e){c:Call}{s:List Bool}
  (hk:Ep (std n) X e h c=some (s,v)):Gv (gK E (.call c) t u) (nmh h) v:=by
 unfold Ep at hk;split at hk
 .rename_i hb;split at hk
  .rename_i x ty hx hty;split at hk
   .rename_i y q hy hq;rw [hX.ty]at hy;split at hk
    .rename_i el hd;obtain⟨pv,b,a⟩:=dx hX d hq;obtain⟨i,z,A⟩:=ah0 a hk;refine⟨i,z,λK hK=> ?_⟩;show tV E t c K
     grind [tV,aF,iM]
    .cases hk
   .cases hk
  .cases hk
 .rename_i hb;split at hk
  .rename_i x ty hx hty;split at hk
   .rename_i y hy hq;rw [hX.ty]at hy;split at hk
    .rename_i el hd;cases hk;obtain⟨pv,b,a⟩:=dx hX d hq;obtain⟨B,rfl,hc⟩:=a.cell;cases hc;refine⟨_,.ci _ _ _,λK hK=> ?_⟩;show tV E t c K;unfold tV;rw [hb];simp only;rw [hx,hty];simp only;rw [hy];simp only [aF];rw [hd];exact⟨trivial,iM b _ hK⟩
    .cases hk
   .cases hk
  .cases hk
 .rename_i hb;split at hk
  .rename_i x y hx;split at hk
   .rename_i f k m g k' m' b a;cases hk;obtain⟨w,l,j⟩:=dx hX d b;obtain⟨r,p,o⟩:=dx hX d a;obtain⟨_,rfl⟩:=j.int;obtain⟨_,rfl⟩:=o.int;refine⟨_,.ci _ _ _,λK hK=> ?_⟩;show tV E t c K;unfold tV;rw [hb];simp only;rw [hx];simp only;rw [l];simp only [aT];rw [p];exact hK
   .cases hk
  .cases hk
 .rename_i hb;split at hk
  .rename_i x y hx;split at hk
   .rename_i f k m g k' m' b a;cases hk;obtain⟨w,l,j⟩:=dx hX d b;obtain⟨r,p,o⟩:=dx hX d a;obtain⟨_,rfl⟩:=j.int;obtain⟨_,rfl⟩:=o.int;refine⟨_,.ci _ _ _,λK hK=> ?_⟩;show tV E t c K;unfold tV;rw [hb];simp only;rw [hx];simp only;rw [l];simp only [aT];rw [p];exact hK
   .cases hk
  .cases hk
 .cases hk
def dN{v:Option SVal}{K:SVal->PR (std n)}{r:List Bool×SVal}(h:zV (std n) v K=some r):∃u,v=some u/\K u=some r:=by
 cases v with
 | none=>cases h
 | some u=>exact⟨u,rfl,h⟩
theorem XJ(hX:XOK X E){p:Heap}(H:eP p h)(f:EvR X E n (nmh h) t e){q:Op}{D:List Bool}
  (hk:TI (std n) X e h q=some (D,v)) (m:∀b∈D,b=true):Gv (gK E q t p) (nmh h) v:=by
 have j:∀ {x:Operand} {pv:PV} {T:PV->(PV->Prop)->Prop},ev E t x=some pv->Gv (T pv) (nmh h) v->(∀K,gK E q t p K=aT (ev E t x) λa=>T a K)->Gv (gK E q t p) (nmh h) v:=
  λd ⟨k,c,B⟩ A=>⟨k,c,λK hK=>by rw [A];exact iM d _ (B K hK)⟩
 have s:∀ {x y:Operand} {F C:PV} {T:PV->PV->(PV->Prop)->Prop},ev E t x=some F->ev E t y=some C->Gv (T F C) (nmh h) v->(∀K,gK E q t p K=aT (ev E t x) λa=>aT (ev E t y) λb=>T a b K)->Gv (gK E q t p) (nmh h) v:=
  λd l ⟨k,c,B⟩ A=>⟨k,c,λK hK=>by rw [A];exact iM d _ (iM l _ (B K hK))⟩
 unfold TI at hk;split at hk
 .obtain⟨u,hu,hk⟩:=dN hk;cases hk;obtain⟨pv,d,c⟩:=dx hX f hu;exact⟨pv,c,λK hK=>iM d _ hK⟩
 .obtain⟨u,hu,hk⟩:=dN hk;cases hk;obtain⟨pv,d,c⟩:=dx hX f hu;exact⟨pv,c,λK hK=>iM d _ hK⟩
 .obtain⟨u,hu,hk⟩:=dN hk;obtain⟨pv,d,c⟩:=dx hX f hu;exact j d (Mc hX H c hk m) λK=>rfl
 .obtain⟨u,hu,hk⟩:=dN hk;obtain⟨pv,d,c⟩:=dx hX f hu;exact j (T:=Ny) d (JH c hk) λK=>rfl
 .obtain⟨u,hu,hk⟩:=dN hk;obtain⟨w,r,hk⟩:=dN hk;obtain⟨pv,d,c⟩:=dx hX f hu;obtain⟨k,l,o⟩:=dx hX f r;exact s d l (ahZ hX (aek c) o hk m) λK=>rfl
 .obtain⟨u,hu,hk⟩:=dN hk;obtain⟨pv,d,c⟩:=dx hX f hu;exact j d (amo c hk) λK=>rfl
 .obtain⟨u,hu,hk⟩:=dN hk;obtain⟨pv,d,c⟩:=dx hX f hu;exact j d (aej hX c hk) λK=>rfl
 .obtain⟨u,hu,hk⟩:=dN hk;obtain⟨pv,d,c⟩:=dx hX f hu;exact j (T:=λa K=>jc E _ a _ K) d (JI hX c hk) λK=>rfl
 .obtain⟨u,hu,hk⟩:=dN hk;obtain⟨pv,d,c⟩:=dx hX f hu;exact j (T:=λa K=>uR E _ a _ K) d (XF hX c hk) λK=>rfl
 .obtain⟨u,hu,hk⟩:=dN hk;obtain⟨w,r,hk⟩:=dN hk;obtain⟨pv,d,c⟩:=dx hX f hu;obtain⟨k,l,o⟩:=dx hX f r;exact s d l (JK hX c o hk m) λK=>rfl
 .obtain⟨u,hu,hk⟩:=dN hk;obtain⟨pv,d,c⟩:=dx hX f hu;exact j (T:=λa K=>uS E t _ a _ _ _ K) d (XG hX f c hk m) λK=>rfl
 .obtain⟨u,hu,hk⟩:=dN hk;obtain⟨pv,d,c⟩:=dx hX f hu;rename_i x i;split at hk
  .rename_i vs;unfold LU at hk;split at hk
   .rename_i w r;cases hk;cases c with
    | one c=>cases c with
     | agg I _=>simp [bE]at I
    | tup G=>
     obtain⟨a,J,z⟩:=G.get r;exact⟨a,.one z,λK hK=>iM d _ (by unfold qN;simp only;rw [J];exact hK)⟩
   .cases hk
  .cases hk
 .exact XI hX f hk
 .rename_i fn first caps
  split at hk
  .rename_i g;split at hk
   .rename_i hf;split at hk
    .rename_i cs hcs;cases hk;refine⟨_,.ofC .fn,λK hK=> ?_⟩;exact⟨Array.ext' (by simpa using hf),TT hX f _ hcs _ hK⟩
    .cases hk
   .cases hk
  .cases hk
 .exact Mg hX f hk
 .cases hk
end Go.TX
namespace Go.TX
open Go Go.AE List
variable{h':Heap}{h:List aN}{l:Nat}{o:aN}{o':eD}{f:Bool}{n:Nat}
def Gone(h:List aN)(l:Nat):Prop:=∃c n,h[l]? =some (.gone c n)
def Same(h k:List aN):Prop:=∀l x,nmh h l=some x->nmh k l=some x
def Same.refl(h:List aN):Same h h:=λ_ _ h=>h
def Same.trans{a b c:List aN}(h:Same a b)(k:Same b c):Same a c:=λl x d=>k l x (h l x d)
def eP.set(H:eP h' h)(g:l<h.length)(d:Same h (h.set l o))(f:OR (nmh (h.set l o)) o' o):eP ((l,o')::h') (h.set l o) where
 old:=λk x a=>by
  by_cases e:l=k
  .grind [getElem?_set_self,aK]
  .rw [getElem?_set_ne e]at a;obtain⟨c,i,b⟩:=H.old k x a;exact⟨c,by grind [aB],b.mono d⟩
 new:=λk hk=>by
  rw [length_set]at hk;rw [aB _ _ ah];exact H.new k hk
def Bw(h:List aN)(o:aN):Same h (h++ [o]):=λl x a=>by grind [Nat.lt_or_ge,nmh,getElem?_eq_none,getElem?_append_left]
def eP.push(H:eP h' h)(d:OR (nmh (h++ [o])) o' o):eP ((h.length,o')::h') (h++ [o]) where
 old:=λk x a=>by
  by_cases e:h.length=k
  .grind [aK]
  .have hk:k<h.length:=by grind
   rw [getElem?_append_left hk]at a;obtain⟨c,f,b⟩:=H.old k x a;exact⟨c,by grind [aB],b.mono (Bw h o)⟩
 new:=λk hk=>by
  simp at hk;rw [aB _ _ ah];exact H.new k ah
theorem Oy{l k:Nat}(e:l≠k):nmh (h.set l o) k=nmh h k:=by simp only [nmh,getElem?_set_ne e]
theorem mg{o o':aN}(a:h[l]? =some o)(b:nmh [o] 0=nmh [o'] 0):nmh (h.set l o')=nmh h:=by grind [List.getElem?_eq_some_iff,nmh,getElem?_set_self,Oy]
def d9(h:List aN)(l:Nat):List aN:=match h[l]? with | some (.rows _ c a)=>h.set l (.gone c ((a:List c.den).length:Int)) | _=>h
def gq(n:Nat)(h:List aN)(l:Nat)(r:List Nat):bg (std n) h (l::r)=bg (std n) (d9 h l) r:=by
 rw [bg];unfold d9;split
 all_goals simp_all
def oL(n:Nat):∀(a b:List Nat) (h:List aN),bg (std n) h (a++b)=bg (std n) (bg (std n) h a) b
 | [],_,_=>rfl
 | l::r,b,h=>by simp only [cons_append,gq];exact oL n r b _
def Ij(h:List aN)(l:Nat):nmh (d9 h l)=nmh h:=by grind [d9,mg,nmh]
def vO(n:Nat):∀(a:List Nat) (h:List aN),nmh (bg (std n) h a)=nmh h
 | [],_=>rfl
 | l::r,h=>by rw [gq,vO n r,Ij]
theorem xq{l k:Nat}(e:l≠k):(d9 h l)[k]? =h[k]? :=by grind [d9,getElem?_set_ne]
def kE(n:Nat):∀(a:List Nat) (h:List aN) {k:Nat},k∉a->(bg (std n) h a)[k]? =h[k]?
 | [],_,_,_=>rfl
 | l::r,h,k,hk=>by
  rw [gq,kE n r _ (λh=>hk (mem_cons_of_mem _ h)),xq (λe=>hk (by simp [e]))]
theorem xu(h:List aN)(l:Nat):(d9 h l).length=h.length:=by grind [d9]
def pW(n:Nat):∀(a:List Nat) (h:List aN),(bg (std n) h a).length=h.length
 | [],_=>rfl
 | l::r,h=>by rw [gq,pW n r,xu]
theorem eP.d9(H:eP h' h){c:Co}{xs:List c.den}(a:h[l]? =some (.rows f c xs)):eP ((l,.gone)::h') (TX.d9 h l):=by
 have e:TX.d9 h l=h.set l (.gone c (xs.length:Int)):=by unfold TX.d9;rw [a]
 rw [e];exact H.set (List.getElem?_eq_some_iff.1 a).1 (λk x b=>by rw [mg a (by simp [nmh])];exact b) .gone
structure iN(h':Heap)(h:List aN)(h'':Heap)(k:List aN)(td:List Nat):Prop where
 same:Same h k
 len:h.length<=k.length
 gone:∀l,Gone h l->Gone k l
 keep:∀l,l<h.length->l∉td->k[l]? =h[l]? /\AE.look h'' l=AE.look h' l
def iN.refl(h':Heap)(h:List aN)(a:List Nat):iN h' h h' h a:=⟨.refl h,Nat.le_refl _,λ_ h=>h,λ_ _ _=>⟨rfl,rfl⟩⟩
def iN.trans{e f c':Heap}{a b c:List aN}{s t:List Nat}(x:iN e a f b s)(y:iN f b c' c t):iN e a c' c (s++t) where
 same:=x.same.trans y.same
 len:=Nat.le_trans x.len y.len
 gone:=λl h=>y.gone l (x.gone l h)
 keep:=λl d hn=>by
  obtain⟨j,g⟩:=x.keep l d (λh=>hn (mem_append_left _ h));obtain⟨k,i⟩:=y.keep l (Nat.lt_of_lt_of_le d x.len) (λh=>hn (mem_append_right _ h));simp_all
def iN.mono{c d:Heap}{a b:List aN}{s t:List Nat}(x:iN c a d b s)(h:∀l,l∈s->l∈t):iN c a d b t:=⟨x.same,x.len,x.gone,λl e hn=>x.keep l e (λf=>hn (h l f))⟩
theorem iN.d9(l:Nat):iN h' h ((l,o')::h') (TX.d9 h l) [l] where
 same:=λk x a=>by rw [Ij];exact a
 len:=by grind [xu]
 gone:=λk ⟨c,m,hk⟩=>by
  unfold TX.d9;split
  .rename_i f co xs hl;by_cases e:l=k
   .simp_all
   .exact⟨c,m,by simp_all⟩
  omega
 keep:=λk _ hn=>by grind [xq,aB]
def iN.push(o:aN)(o':eD)(a:List Nat):iN h' h ((h.length,o')::h') (h++ [o]) a where
 same:=Bw h o
 len:=by simp
 gone:=λk ⟨c,m,hk⟩=>⟨c,m,by grind⟩
 keep:=λl b _=>⟨getElem?_append_left b,aB _ _ ah⟩
def iN.set(a:Same h (h.set l o))(b:¬Gone h l):iN h' h ((l,o')::h') (h.set l o) [l] where
 same:=a
 len:=by simp
 gone:=λk ⟨c,m,hk⟩=>by
  by_cases e:l=k
  .simp_all
  .exact⟨c,m,by simp_all⟩
 keep:=λk _ hn=>by grind [getElem?_set_ne,aB]
theorem jw(y:Leaf aG):(oK y).nO=y.scalar:=by cases y<;>rfl
def EB(y:Leaf aG):lvD (jG y) y.lv=oK y:=by cases y<;>rfl
def Mh{b:Heap}{done:List Nat}(H:eP b (bg (std n) h done)){x:Cell}{y:SC}(o:RC (nmh h) x y){s:Sh}{v:LV aG}{j:List Nat}
  (hk:eO (std n) h s y=some (f,v,j)) (hd:∀l∈j,l∉done):
  ∃g a,(f=true->g=true)/\eP a (bg (std n) h (done++j))/\iN b (bg (std n) h done) a (bg (std n) h (done++j)) j/\∀K,K g (lvD s v) a->Cn b x K:=by
 unfold eO at hk;split at hk
 .rename_i f0 lf;split at hk
  .rename_i e;cases hk;cases o with | d u m=>
   rename_i p w;subst u;refine⟨p || (oK lf).nO,b,λh=> ?_,by simp_all,by rw [append_nil];exact .refl _ _ _,λK hK=> ?_⟩
   .rw [jw];cases lf with
    | rows c i=>grind [Leaf.flag,Leaf.scalar]
    | _=>simp [Leaf.scalar]
   .subst e;rw [EB]at hK;exact hK
  .cases hk
 .cases o;split at hk
  .rename_i c;cases hk;exact⟨true,b,λ_=>rfl,by simp_all,by rw [append_nil];exact .refl _ _ _,λK hK=>⟨c.size,hK⟩⟩
  .cases hk
 .rename_i f0 c i;cases o with | clip m=>
  split at hk
  .rename_i e;subst e;cases hk;exact⟨_,b,m,by simp_all,by rw [append_nil];exact .refl _ _ _,λK hK=>hK⟩
  .cases hk
 .rename_i l;cases o with | own r=>
  split at hk
  .rename_i f0 c i hl;split at hk
   .rename_i e;subst e;cases hk;rw [cO hl]at r;cases r;have k:(bg (std n) h done)[l]? =some (.rows f c i):=by rw [kE n _ _ (hd l (by simp))];exact hl
    obtain⟨z,q,t⟩:=H.old l _ k;cases t with | rows m=>
    rename_i p;refine⟨p,(l,.gone)::b,m,by rw [oL,gq];exact H.d9 k,by rw [oL,gq];exact iN.d9 l,λK hK=> ?_⟩;unfold Cn;simp only;rw [q];refine⟨rfl,by rw [aU];omega,?_⟩;have:((aM c i).drop 0).take i.length=aM c i:=by grind [take_of_length_le,aU]
    rw [this];exact hK
   .cases hk
  .cases hk
 .cases hk
def qD:∀ {k:List Sh} {r:List SC} {j:List Cell} {c:Heap} {done:List Nat} (_:eP c (bg (std n) h done)) (_:F2 (RC (nmh h)) j r) {f:Bool} {i:List (LV aG)} {a:List Nat},
  aL (std n) h k r=some (f,i,a)->(∀l∈a,l∉done)->
  ∃g b,(f=true->g=true)/\eP b (bg (std n) h (done++a))/\iN c (bg (std n) h done) b (bg (std n) h (done++a)) a/\∀K,K g (zipWith lvD k i) b->qy c j K
 | [],[],j,c,done,H,hF,f,i,a,hk,hd=>by
  simp [aL]at hk;obtain⟨rfl,rfl,rfl⟩:=hk;cases hF;exact⟨true,c,λ_=>rfl,by simp_all,by rw [append_nil];exact .refl _ _ _,λK hK=>hK⟩
 | [],_::_,_,_,_,_,_,_,_,_,hk,_=>by simp [aL]at hk
 | _::_,[],_,_,_,_,_,_,_,_,hk,_=>by simp [aL]at hk
 | s::k,y::r,j,c,done,H,hF,f,i,a,hk,hd=>by
  cases hF with | cons z v=>
  unfold aL at hk;split at hk
  .rename_i f1 v1 l1 hv1;split at hk
   .rename_i g2 vs2 ls2 hv2;split at hk
    .rename_i apE;cases hk;have apE:∀l∈ls2,l∉l1:=λl o C=>by simp_all
     obtain⟨u,D,B,t,p,q⟩:=Mh H z hv1 (λl o=>hd l (mem_append_left _ o));obtain⟨w,x,A,e,d,m⟩:=qD (done:=done++l1) t v hv2 (λl o hm=>by simp_all);rw [append_assoc]at e d;refine⟨u&&w,x,λh=>by simp_all,e,p.trans d,λK hK=> ?_⟩;exact q _ (m _ hK)
    .cases hk
   .cases hk
  .cases hk
theorem Ac(c:Co)(t:iD c.qY){a:List (LV aG)}(h:pack aG c.qY a=some t):zipWith lvD c.fields a=c.row (c.mk t):=by
 rw [XC,TQ,unpack_pack h]
def yj{N:NM}:∀ {b:List (Leaf aG)} {c:List Cell} {f:Bool},F2 (RC N) c (b.map (.d f))->∀(a:Heap),∃g,(f=true\/(∀y∈b,y.scalar=true)->g=true)/\∀K,K g (b.map oK) a->qy a c K
 | [],_,_,h,a=>by cases h;exact⟨true,λ_=>rfl,λK hK=>hK⟩
 | y::b,_,f,.cons h1 h2,a=>by
  obtain⟨g,m,i⟩:=yj h2 a;cases h1 with | d j l=>
  rename_i e k;subst j;refine⟨(e || (oK y).nO)&&g,λh=> ?_,λK hK=>i _ hK⟩
  grind [jw,mem_cons_of_mem]
theorem kF(c:Co)(h:c.flat=true)(x:c.den):∀y∈fD (std 0) c x 0 c.fields,y.scalar=true:=by
 intro y b;have d:=Bu 0 c x;have a:jG y∈c.fields:=by grind
 have e:=all_eq_true.1 h _ a;cases y<;>simp_all [jG,Leaf.scalar]
theorem XK{i:Heap}(H:eP i h){p:PV}{q:SVal}(w:PVR (nmh h) p q){c:Co}{x:c.den}{d:List Nat}(hk:toX (std n) h c q=some (f,x,d)):
  ∃g a,(f=true->g=true)/\eP a (bg (std n) h d)/\iN i h a (bg (std n) h d) d/\(aP p).length=c.size/\∀K,K g (c.row x) a->qy i (aP p) K:=by
 unfold toX at hk;split at hk
 .rename_i f' c' x';split at hk
  .rename_i e;subst e;cases hk;have b:=w.cells;have A:cellsS (.sv f' c' x')=(fD (std 0) c' x' 0 c'.fields).map (.d f'):=rfl;have k:(aP p).length=c'.size:=by
    rw [b.length,A,length_map];have:=congrArg List.length (Bu 0 c' x');simpa using this
   rw [A]at b;obtain⟨g,m,l⟩:=yj b i;refine⟨g,i,λh=>m ?_,H,.refl _ _ _,k,λK hK=>l K (by rw [l9];exact hK)⟩
   grind [kF]
  .cases hk
 .cases hk
 .split at hk
  .rename_i f1 ys ls1 j;split at hk
   .rename_i t ht;cases hk;have b:=w.cells;rw [cB]at j;obtain⟨g,a,m,l,u,y⟩:=qD (done:=[]) H b j (λ_ _=>by simp);rw [nil_append]at l u;refine⟨g,a,m,l,u,?_,λK hK=>y K (by grind [Ac])⟩;have B:=congrArg List.length (unpack_pack ht);have r:(cellsS q).length=c.fields.length:=by
     clear l u y b ht B m
     revert j
     generalize cellsS q=o;generalize c.fields=v;intro j
     induction v generalizing o f ys d with
     | nil=>grind [aL]
     | cons s v C=>cases o with
      | nil=>simp [aL]at j
      | cons z o=>grind [aL]
    rw [b.length,r]
   .cases hk
  .cases hk
end Go.TX
namespace Go.TX
open Go Go.AE List
variable{n:Nat}{c:Co}{f:Bool}{h':Heap}{h:List aN}
def Hv{m:Nat}(T:(PV->Heap->Nat->Prop)->Prop)(n:Nat)(h':Heap)(h:List aN)(r:HR (std m)):Prop:=
 ∃pv a b,PVR (nmh r.h) pv r.v/\eP a r.h/\iN h' h a r.h r.touched/\r.h.length=nm n b/\∀K,K pv a b->T K
def XL:∀ {l:List Cell},zdB l=true->∃a,ZD l a
 | [],_=>⟨[],.nil⟩
 | x::r,h=>by
  simp only [zdB,all_cons,Bool.and_eq_true]at h;obtain⟨a,hd⟩:=XL (l:=r) h.2;have b:=h.1;cases x with
  | d f y=>exact⟨y::a,.d f y hd⟩
  | nil=>exact⟨.rows 0 []::a,.nl 0 hd⟩
  | _=>simp at b
theorem EC{α:Type}(l:List α)(lo n:Nat):(l.drop lo).take n=(l.take (lo+n)).drop lo:=by
 rw [drop_take];congr 1;omega
def Cz:∀ {zc:List Cell} {d:List SC} {a:List Sh} {f:Bool} {b:List (LV aG)} {h:List Nat},jY (std n) zc=some d->aL (std n) [] a d=some (f,b,h)->ZD zc (zipWith lvD a b)
 | [],d,a,f,b,h,h1,h2=>by
  simp [jY]at h1;subst h1;cases a with
  | nil=>simp [aL]at h2;obtain⟨_,rfl,_⟩:=h2;exact .nil
  | cons s a=>simp [aL]at h2
 | x::zc,d,a,f,b,h,h1,h2=>by
  simp only [jY]at h1;split at h1
  .rename_i y ys hy hys;cases h1;cases a with
   | nil=>simp [aL]at h2
   | cons s a=>
    simp only [aL]at h2;split at h2
    .rename_i f1 v1 l1 hv;split at h2
     .rename_i g vs' ls' hvs;split at h2<;>cases h2
      have c:=Cz hys hvs;simp only [zipWith_cons_cons];unfold TH at hy;split at hy
      .cases hy;simp only [eO]at hv;split at hv
       .rename_i e;cases hv;subst e;exact .d _ _ c
       .cases hv
      .cases hy;simp only [eO]at hv;split at hv
       .rename_i e;cases hv;subst e;exact .d _ _ c
       .cases hv
      .cases hy;simp only [eO]at hv;split at hv
       .rename_i e;cases hv;subst e;exact .d _ _ c
       .cases hv
      .cases hy;simp only [eO]at hv;split at hv
       .cases hv;exact .nl _ c
       .cases hv
      .cases hy;simp [eO]at hv
      .cases hy
     .cases h2
    .cases h2
  .cases h1
def XM{zc:List Cell}{b:List SC}{x:c.den}{e:List Nat}(d:jY (std n) zc=some b)(a:toX (std n) [] c (.agg b)=some (f,x,e)):ZD zc (c.row x):=by
 simp only [toX]at a;split at a
 .rename_i f1 ys l1 hl;split at a
  .rename_i t ht;cases a;have:=Cz d (by simpa [bU]using hl);rw [Ac c t ht]at this;exact this
  .cases a
 .cases a
def ael(H:eP h' h){p:PV}{v:SVal}{u:List c.den}(r:PVR (nmh h) p v){z:Option c.den}{t:List D}(B:∀x,z=some x->t=c.row x)(hk:ahY (std n) h c z v=some (f,u))
  (a:∀b∈kU (std n) h v,b=true):∃g A,(f=true->g=true)/\(aM c u≠ []->A=c.size)/\∀K,K g A (aM c u)->NI h' t p K:=by
 unfold ahY at hk;split at hk
 .rename_i fq kq q;cases hxx:z with
  | none=>rw [hxx]at hk;cases hk
  | some x=>
   rw [hxx]at hk;cases hk;obtain⟨J,rfl⟩:=r.int;have e:=B x hxx;have F:(0:Int)<=q:=by simpa [bD]using a (bD .leq 0 q) (by simp [kU])
   have C:q<=jK:=by simpa [bD]using a (bD .leq q jK) (by simp [kU])
   obtain⟨q,rfl⟩:∃w:Int,w=q:=⟨q,rfl⟩;refine⟨true,t.length,λ_=>rfl,λ_=>by rw [e,sK],λK hK=> ?_⟩;unfold NI;simp only;refine⟨F,by simp only [jK,zJ]at C ⊢;omega,?_⟩;have E:aM c (replicate q.toNat x)=replicate q.toNat t:=by rw [e];simp [aM]
   rw [<-E];exact hK
 .cases hk;obtain⟨x,rfl,hc⟩:=r.cell;cases hc;exact⟨true,0,λ_=>rfl,λh=>absurd rfl h,λK hK=>hK⟩
 .rename_i f0 c' j;split at hk
  .rename_i e;subst e;cases hk;obtain⟨x,rfl,hc⟩:=r.cell;cases hc with | d I i=>
   subst I;exact⟨_,c'.size,λh=>(i h).resolve_right (by simp [Leaf.scalar]),λ_=>rfl,λK hK=>hK⟩
  .cases hk
 .rename_i f0 c' j;split at hk
  .rename_i e;subst e;cases hk;obtain⟨x,rfl,hc⟩:=r.cell;cases hc with | clip i=>
   exact⟨_,c'.size,i,λ_=>rfl,λK hK=>hK⟩
  .cases hk
 .rename_i l;split at hk
  .rename_i f0 c' j hl;split at hk
   .rename_i e;subst e;cases hk;obtain⟨x,rfl,hc⟩:=r.cell;cases hc with | own s=>
    rw [cO hl]at s;cases s;obtain⟨G,k,y⟩:=H.old l _ hl;cases y with | rows i=>
    refine⟨_,c'.size,i,λ_=>rfl,λK hK=> ?_⟩;unfold NI;simp only;rw [k];refine⟨rfl,by rw [aU];omega,?_⟩;rw [drop_zero,take_of_length_le (by rw [aU];exact Nat.le_refl _)];exact hK
   .cases hk
  .cases hk
 .rename_i l o m;split at hk
  .rename_i f0 c' j hl;split at hk
   .rename_i e;subst e;cases hk;obtain⟨x,rfl,hc⟩:=r.cell;cases hc with | os s=>
    rename_i A o m q;rw [cO hl]at s;cases s;obtain⟨G,k,y⟩:=H.old l _ hl;cases y with | rows i=>
    simp only [kU,hl]at a;have L:(o:Int)+(m:Int)<=(j:List c'.den).length:=by
     have:=a (bD .leq ((o:Int)+(m:Int)) ((j:List c'.den).length:Int)) (by simp);simpa [bD]using this
    refine⟨_,c'.size,i,λ_=>rfl,λK hK=> ?_⟩;unfold NI;simp only;rw [k];refine⟨rfl,by rw [aU];omega,?_⟩;have e:aM c' (((j:List c'.den).take ((o:Int)+(m:Int)).toNat).drop ((o:Int)).toNat)=((aM c' j).drop o).take m:=by
     rw [EC,<-xk]
     congr 2<;>omega
    rw [<-e];exact hK
   .cases hk
  .cases hk
 .cases hk
def Ik(c:Co)(a b:List c.den):aM c (a++b)=aM c a++aM c b:=by simp [aM]
def PVR.own{l sz n:Nat}(a:nmh h l=some (sz,n)):PVR (nmh h) (.c (.os l sz 0 n)) (.c (.own l)):= .ofC (.own a)
def q9(h:List aN)(f:Bool)(c:Co)(a:List c.den):nmh (h++ [.rows f c a]) h.length=some (c.size,a.length):=by
 simp [nmh]
def EF{l:Nat}{d:List c.den}(b:h[l]? =some (.rows f c d)):¬Gone h l:=λ⟨_,_,a⟩=>by rw [b]at a;cases a
def Wi{X:XT}{E:Tab}(hX:XOK X E){m:Nat}(H:eP h' h){n k:Nat}(hn:h.length=nm n k){ty t2:TypeId}{pa W:PV}{a b:SVal}(ha:PVR (nmh h) pa a)(F:PVR (nmh h) W b)
  {r:HR (std m)} (hk:JD (std m) X h ty t2 a b=some r) (s:∀b∈r.chk,b=true):
  Hv (λK=>aF (E.ty ty) λy=>match y.desc with
   | .slice e=>aF (E.ty e) λz=>(aF (E.ty t2) λy2=>qR y2.desc W)/\zK h' n k z pa W K
   | _=>False) n h' h r:=by
 unfold JD at hk;rw [hX.ty]at hk;split at hk
 .rename_i y hy;split at hk
  .rename_i e hd;split at hk
   .rename_i z c hz hco;split at hk
    .rename_i hcond;simp only [Bool.and_eq_true,Bool.not_eq_true',beq_eq_false_iff_ne,ne_eq]at hcond;obtain⟨⟨⟨⟨a3,a1⟩,N⟩,t⟩,I⟩:=hcond;have N:=Nat.le_of_ble_eq_true N;obtain⟨U,I,a6⟩:∃U,ZD z.zero U/\∀x,TJ (std m) z c=some x->U=c.row x:=by
      cases R:TJ (std m) z c with
      | none=>obtain⟨U,I⟩:=XL I;exact⟨U,I,λx h=>by cases h⟩
      | some x=>
       unfold TJ at R;split at R
       .rename_i zs w;split at R
        .rename_i fz x' lz hx;cases R;exact⟨_,XM w hx,λy h=>by cases h;rfl⟩
        .cases R
       .cases R
     obtain⟨z',a0,w⟩:=fV hX a3;rw [hz]at a0;cases a0;have a5:aF (E.ty t2) λy2=>qR y2.desc W:=by
      unfold Er at t;rw [hX.ty]at t;split at t
      .rename_i y2 hy2;rw [hy2];simp only [aF];split at t
       .cases t
       .rename_i e2 x hne2 C;obtain⟨x',rfl,hc⟩:=F.cell;unfold qR;cases hc with
        | d hx S=>
         rename_i f g x0 y0;subst hx;cases y0 with
         | int k q=>exact absurd rfl (hne2 _ _ _)
         | _=>rw [C];trivial
        | _=>rw [C];trivial
       .rename_i kk fq kq q C;obtain⟨g0,rfl⟩:=F.int;unfold qR;rw [C];trivial
       .cases t
      .cases t
     split at hk
     .rename_i f2 ds P;obtain⟨⟨f0,a9⟩,P,C⟩:=Option.map_eq_some_iff.1 P;simp only [Prod.mk.injEq]at C;obtain⟨a7,M⟩:=C;have M:=M.symm;subst M
      have D:(∀b'∈kU (std m) h b,b'=true)->∀(v:SVal) (V:List aN) (td:List Nat),(∀(g L:_),(f2=true->g=true)->(aM c ds≠ []->L=c.size)->∃pv G j,PVR (nmh V) pv v/\eP G V/\iN h' h G V td/\V.length=nm n j/\
        ∀K:PV->Heap->Nat->Prop,K pv G j->uX h' n k z pa g (aM c ds) K)->r.h=V->r.v=v->r.touched=td->Hv (λK=>aF (E.ty ty) λy=>match y.desc with
         | .slice e=>aF (E.ty e) λz=>(aF (E.ty t2) λy2=>qR y2.desc W)/\zK h' n k z pa W K
         | _=>False) n h' h r:=by
       intro a4 v V td hm e1 e2 e3;obtain⟨g,L,J,T,hK⟩:=ael H F a6 P a4;obtain⟨pv,G,j,q1,q2,q3,q4,q5⟩:=hm (g || DY (aM c ds)) L (λh=>by
        rw [<-a7]at h;rcases Bool.or_eq_true _ _▸h with h | h
        .simp [J h]
        .have:DY (aM c ds)=true:=by
          unfold DY aM;simp only [all_map,all_eq_true,Function.comp_apply];intro x _ d hd;rw [<-l9 0]at hd;obtain⟨y,hy,rfl⟩:=mem_map.1 hd;rw [jw];exact kF c h x y hy
         simp [this]) T
       subst e1;subst e2;subst e3;refine⟨pv,G,j,q1,q2,q3,q4,λK a8=> ?_⟩;rw [hy];simp only [aF];rw [hd];simp only;rw [hz];exact⟨a5,U,I,a1,N,hK _ ⟨λh=>(T h).trans w.symm,q5 K a8⟩⟩
      split at hk
      .cases hk;obtain⟨x,rfl,hc⟩:=ha.cell;cases hc;refine D (λb F=>s b (by simp [F])) _ _ _ (λg L J T=> ?_) rfl rfl rfl;have p:(ds.length:Int)<=jK:=by simpa [bD]using s (bD .leq (ds.length:Int) jK) (by simp)
       refine⟨_,(h.length,.rows g c.size (aM c ds))::h',k+1,.own (q9 h f2 c ds),H.push (.rows J),.push _ _ _,by simp [nm]at hn ⊢;omega,λK hK=> ?_⟩;refine⟨by rw [aU];simp [jK,zJ]at p ⊢;omega,?_⟩;rw [<-hn,w,aU];exact hK
      .rename_i l;split at hk
       .rename_i f1 c1 i hl;split at hk
        .rename_i q;subst q;cases hk;obtain⟨x,rfl,hc⟩:=ha.cell;cases hc with | own hN=>
         rw [cO hl]at hN;cases hN;obtain⟨o',O,hO⟩:=H.old l _ hl;cases hO with | rows S=>
         rename_i Q;refine D (λb F=>s b (by simp [F])) _ _ _ (λg L J T=> ?_) rfl rfl rfl;have p:((i:List c1.den).length:Int)+(ds.length:Int)<=jK:=by simpa [bD]using s (bD .leq ((i.length:Int)+(ds.length:Int)) jK) (by simp)
         have hG:=H.d9 hl;have Y:d9 h l=h.set l (.gone c1 (i.length:Int)):=by unfold d9;rw [hl]
         have A:(d9 h l).length=h.length:=xu h l;have hP:=hG.push (o:= .rows (f1&&f2) c1 (i++ds)) (o':= .rows (Q&&g) c1.size (aM c1 (i++ds))) (.rows (λh=>by simp at h;simp [S h.1,J h.2]));rw [A]at hP;have hE:=(iN.d9 (h':=h') (h:=h) l (o':= .gone)).trans (iN.push (h':=(l,.gone)::h') (h:=d9 h l) (.rows (f1&&f2) c1 (i++ds)) (.rows (Q&&g) c1.size (aM c1 (i++ds))) []);rw [A]at hE;refine⟨.c (.os h.length c1.size 0 (i++ds).length),_,k+1,?_,by rw [<-Y];exact hP,by rw [<-Y];exact hE,by simp [nm]at hn ⊢;omega,λK hK=> ?_⟩
         .have:=q9 (d9 h l) (f1&&f2) c1 (i++ds);rw [A]at this;rw [<-Y];exact .own this
         .unfold uX;simp only;rw [O];simp only [pG];refine⟨by rw [aU,Nat.zero_add];exact Nat.le_refl _,by trivial,w.symm,by rw [aU];simp [jK,zJ]at p ⊢;omega,?_⟩;rw [drop_zero,take_of_length_le (by rw [aU];exact Nat.le_refl _),<-hn,w,aU,<-Ik,<-length_append];exact hK
        .cases hk
       .cases hk
      .rename_i l lo u;split at hk
       .rename_i f1 c1 i hl;split at hk
        .rename_i q;subst q;cases hk;obtain⟨x,rfl,hc⟩:=ha.cell;cases hc with | os hN=>
         rename_i L lo u mm;rw [cO hl]at hN;cases hN;obtain⟨o',O,hO⟩:=H.old l _ hl;cases hO with | rows S=>
         rename_i Q;refine D (λb F=>s b (by simp [F])) _ _ _ (λg L J T=> ?_) rfl rfl rfl;have b0:(lo:Int)=0:=by simpa [bD]using s (bD .eql (lo:Int) 0) (by simp)
         have R:(u:Int)<=(i:List c1.den).length:=by simpa [bD]using s (bD .leq (u:Int) (i.length:Int)) (by simp)
         have p:(u:Int)+(ds.length:Int)<=jK:=by simpa [bD]using s (bD .leq ((u:Int)+(ds.length:Int)) jK) (by simp)
         have hG:=H.d9 hl;have Y:d9 h l=h.set l (.gone c1 (i.length:Int)):=by unfold d9;rw [hl]
         have A:(d9 h l).length=h.length:=xu h l;have es:(((i:List c1.den).take ((u:Int)).toNat).drop ((0:Int)).toNat)=i.take u:=by simp
         have hP:=hG.push (o:= .rows (f1&&f2) c1 (i.take u++ds)) (o':= .rows (Q&&g) c1.size (aM c1 (i.take u++ds))) (.rows (λh=>by simp at h;simp [S h.1,J h.2]));rw [A]at hP;have hE:=(iN.d9 (h':=h') (h:=h) l (o':= .gone)).trans (iN.push (h':=(l,.gone)::h') (h:=d9 h l) (.rows (f1&&f2) c1 (i.take u++ds)) (.rows (Q&&g) c1.size (aM c1 (i.take u++ds))) []);rw [A]at hE;have B:(h.set l (.gone c1 (i.length:Int))++ [dL.rows (f1&&f2) c1 ((((i:List c1.den).take ((u:Int)).toNat).drop ((0:Int)).toNat)++ds)])=d9 h l++ [.rows (f1&&f2) c1 (i.take u++ds)]:=by rw [es,Y]
         refine⟨.c (.os h.length c1.size 0 (i.take u++ds).length),_,k+1,?_,by show eP _ (h.set l (.gone c1 (i.length:Int))++ [dL.rows (f1&&f2) c1 ((((i:List c1.den).take ((u:Int)).toNat).drop ((0:Int)).toNat)++ds)]);rw [B];exact hP,
          by show iN _ _ _ (h.set l (.gone c1 (i.length:Int))++ [dL.rows (f1&&f2) c1 ((((i:List c1.den).take ((u:Int)).toNat).drop ((0:Int)).toNat)++ds)]) _;rw [B];exact hE,by simp [nm]at hn ⊢;omega,λK hK=> ?_⟩
         .have:=q9 (d9 h l) (f1&&f2) c1 (i.take u++ds);rw [A]at this;show PVR (nmh (h.set l (.gone c1 (i.length:Int))++ [dL.rows (f1&&f2) c1 ((((i:List c1.den).take ((u:Int)).toNat).drop ((0:Int)).toNat)++ds)])) _ _;rw [B];exact .own this
         .unfold uX;simp only;rw [O];simp only [pG];refine⟨by rw [aU];omega,by trivial,w.symm,by rw [aU];simp [jK,zJ]at p ⊢;omega,?_⟩;have a2:lo=0:=by omega
          subst a2;have e1:((aM c1 i).drop 0).take u++aM c1 ds=aM c1 (i.take u++ds):=by simp [aM,map_take]
          have e2:u+ds.length=(i.take u++ds).length:=by simp;omega
          rw [<-hn,w,aU,e1,e2];exact hK
        .cases hk
       .cases hk
      .rename_i f1 c1 i;split at hk
       .rename_i q;subst q;cases hk;obtain⟨x,rfl,hc⟩:=ha.cell;cases hc with | clip S=>
        rename_i Q;refine D (λb F=>s b (by simp [F])) _ _ _ (λg L J T=> ?_) rfl rfl rfl;have Z:(decide ((0:Int)< (ds.length:Int)) || decide (((i:List c1.den).length:Int)=0))=true:=by
         have:=s ((bD .lss 0 (ds.length:Int)) || (bD .eql (i.length:Int) 0)) (by simp);simpa [bD]using this
        have p:((i:List c1.den).length:Int)+(ds.length:Int)<=jK:=by simpa [bD]using s (bD .leq ((i.length:Int)+(ds.length:Int)) jK) (by simp)
        refine⟨.c (.os h.length c1.size 0 (i++ds).length),(h.length,.rows (Q&&g) c1.size (aM c1 (i++ds)))::h',k+1,.own (q9 h (f1&&f2) c1 (i++ds)),H.push (.rows (λh=>by simp at h;simp [S h.1,J h.2])),.push _ _ _,by simp [nm]at hn ⊢;omega,λK hK=> ?_⟩;refine⟨λ_=>w.symm,λhe=> ?_,by rw [aU,aU];simp [jK,zJ]at p ⊢;omega,?_⟩
        .simp only [Bool.or_eq_true,decide_eq_true_eq]at Z;rcases Z with h1 | h1
         .have:ds=[]:=by simpa [aM]using he
          subst this;simp at h1
         .have:i=[]:=length_eq_zero_iff.1 ah;subst this;rfl
        .rw [<-hn,w,aU,aU,<-Ik,<-length_append];exact hK
       .cases hk
      .cases hk
     .cases hk
    .cases hk
   .cases hk
  .cases hk
 .cases hk
end Go.TX
namespace Go.TX
open Go Go.AE List
variable{X:XT}{E:Tab}{m:Nat}{h:List aN}{h':Heap}{ty:TypeId}
def Hv2(T:(PV->Heap->Nat->Prop)->Prop)(n:Nat)(h':Heap)(h:List aN)(v:SVal)(k:List aN)(b:List Nat):Prop:=
 ∃pv a j,PVR (nmh k) pv v/\eP a k/\iN h' h a k b/\k.length=nm n j/\∀K,K pv a j->T K
theorem qV{k:IntKind}:∀ {a:List (List D)} {l:List Int},lW k a=some l->l.map (ic k)=a
 | [],l,h=>by grind [lW]
 | e::r,l,h=>by
  unfold lW at h;split at h
  .rename_i hh;cases hh
  .rename_i k' n r' hh;cases hh;split at h
   .rename_i e;subst e;split at h
    .rename_i l' hl;cases h;simp [ic,qV hl]
    .cases h
   .cases h
  .cases h
theorem Ls(d:lN)(a:List (List D)):ir d a=a:=by
 unfold ir
 grind [qV]
def Mi(hX:XOK X E){n:Nat}{t:Slots}{e:Nat->Option SVal}{c:Co}:∀ {a:List (Nat×Operand)} {h':Heap} {h:List aN} (_:eP h' h) (_:EvR X E n (nmh h) t e) {f:Bool} {d:List c.den} {k:List aN} {l:List Nat},
  sD (std n) X e c h a=some (f,d,k,l)->
  ∃g b,(f=true->g=true)/\eP b k/\iN h' h b k l/\nmh k=nmh h/\k.length=h.length/\d.length=a.length/\∀K,K g (aM c d) b->uW E t c.size h' a K
 | [],h',h,H,he,f,d,k,l,hk=>by
  simp only [sD,Option.some.injEq,Prod.mk.injEq]at hk;obtain⟨rfl,rfl,rfl,rfl⟩:=hk;exact⟨true,h',λ_=>rfl,H,.refl _ _ _,rfl,rfl,rfl,λK hK=>hK⟩
 | (i,x)::r,h',h,H,he,f,d,k,l,hk=>by
  simp only [sD]at hk;split at hk
  .rename_i v hv;split at hk
   .rename_i f1 y l1 hy;split at hk
    .rename_i g1 ys k1 l2 hys;cases hk;obtain⟨pv,D,p⟩:=dx hX he hv;obtain⟨m,M,L,I,A,F,C⟩:=XK H p hy;have j:nmh (bg (std n) h l1)=nmh h:=vO n l1 h;obtain⟨q,s,J,G,o,w,B,u,z⟩:=Mi hX I (by rw [j];exact he) hys;refine⟨m&&q,s,λh=>by simp_all,G,A.trans o,w.trans j,by rw [B,pW],by simp [u],λK hK=> ?_⟩;unfold uW;rw [D];exact⟨F,C _ (z _ hK)⟩
    .cases hk
   .cases hk
  .cases hk
def Oz(c:Co)(a:c.den){j n:Nat}{b:List (LV aG)}(i:j+n<=c.fields.length)(e:b.length=n){t:iD c.qY}(g:pack aG c.qY ((c.yY a).take j++b++(c.yY a).drop (j+b.length))=some t):
  c.row (c.mk t)=gN (c.row a) (zipWith lvD ((c.fields.drop j).take n) b) j:=by
 have f:=Ac c t g;have k:(c.yY a).length=c.fields.length:=XD c a;have d:c.fields=c.fields.take j++(c.fields.drop j).take n++c.fields.drop (j+n):=by
  rw [append_assoc,<-drop_drop,take_append_drop,take_append_drop]
 have h:(zipWith lvD ((c.fields.drop j).take n) b).length=n:=by simp;omega
 unfold gN;rw [<-f,XC c a,h,take_zipWith,drop_zipWith]
 conv=>lhs;rw [d]
 rw [zipWith_append (by simp;omega),zipWith_append (by simp;omega),e]
def EG:∀ {b:List Sh} {c:List SC} {f:Bool} {a:List (LV aG)} {d:List Nat},aL (std m) h b c=some (f,a,d)->a.length=b.length
 | [],[],_,_,_,hk=>by simp [aL]at hk;obtain⟨_,rfl,_⟩:=hk;rfl
 | [],_::_,_,_,_,hk=>by simp [aL]at hk
 | _::_,[],_,_,_,hk=>by simp [aL]at hk
 | s::b,y::c,f,a,d,hk=>by
  unfold aL at hk;split at hk
  .split at hk
   .rename_i hv2;split at hk
    .cases hk;simp [EG hv2]
    .cases hk
   .cases hk
  .cases hk
def Bz(h:Heap)(p v:PV)(K:Heap->Prop):Prop:=
 match p with
 | .c (.ptr l sz i j)=>pG (AE.look h l) λo=>match o with
  | .box cs=>i=0/\j+(aP v).length<=cs.length/\K ((l,.box (splice cs (aP v) j))::h)
  | .rows f a b=>sz=a/\i<b.length/\qy h (aP v) λg c d=>AE.look d l=some (.rows f a b)/\j+c.length<=sz/\
   ∀row,b[i]? =some row->K ((l,.rows (f&&g) sz (b.set i (if j=0/\c.length=sz then c else gN row c j)))::d)
  | .gone=>False
 | _=>False
def XO(hX:XOK X E)(H:eP h' h){n k:Nat}(hn:h.length=nm n k){W pv:PV}{p v:SVal}(hp:PVR (nmh h) W p)(hv:PVR (nmh h) pv v)
  {r:HR (std m)} (hk:vI (std m) X h ty p v=some r) (a8:∀b∈r.chk,b=true):
  Hv2 (λK=>aF (E.ty ty) λy=>Ba h' y W pv λa=>K (.tup []) a k) n h' h r.v r.h r.touched:=by
 have Wj:∀N,PVR N (.tup []) (.tup []):=λN=> .tup .nil
 unfold vI at hk;rw [hX.ty]at hk;have b0:∃y,E.ty ty=some y:=by grind
 obtain⟨y,hy⟩:=b0;rw [hy]at hk;simp only at hk;split at hk
 .cases hk
 .rename_i hc0;simp only [Bool.or_eq_true,beq_iff_eq,Bool.not_eq_true',beq_eq_false_iff_ne,ne_eq,not_or,Decidable.not_not]at hc0;obtain⟨a6,S⟩:=hc0;have e:=hv.cells;have T:(aP pv).length=(cellsS v).length:=e.length;rw [cB]at S;have pre:∀ {td:List Nat} {O:List aN} {a:Heap} {vv:SVal},PVR (nmh O) (.tup []) vv->eP a O->iN h' h a O td->O.length=h.length->(∀K:PV->Heap->Nat->Prop,K (.tup []) a k->Bz h' W pv λu=>K (.tup []) u k)->Hv2 (λK=>aF (E.ty ty) λy=>Ba h' y W pv λa=>K (.tup []) a k) n h' h vv O td:=by
   intro td O a vv a0 a1 a2 a3 a4;refine⟨.tup [],a,k,a0,a1,a2,by rw [a3,hn],λK hK=> ?_⟩;rw [hy];simp only [aF];exact⟨by rw [T,S],by simpa using a6,a4 K hK⟩
  split at hk
  .rename_i l sz j;split at hk
   .rename_i w hw;obtain⟨x,rfl,hc⟩:=hp.cell;cases hc;obtain⟨o',C,hO⟩:=H.old l _ hw;cases hO with | box hF=>
    rename_i cs;have aq6:cs.length=(cellsS w).length:=hF.length;have L:l<h.length:=(List.getElem?_eq_some_iff.1 hw).1;have a5:¬Gone h l:=λ⟨_,_,h2⟩=>by simp_all
    have apF:∀w2,F2 (RC (nmh h)) (splice cs (aP pv) j) (cellsS w2)->j+(aP pv).length<=cs.length->Hv2 (λK=>aF (E.ty ty) λy=>Ba h' y (.c (.ptr l sz 0 j)) pv λa=>K (.tup []) a k) n h' h (.tup []) (h.set l (.box w2)) [l]:=by
     intro w2 b2 a9;have M:nmh (h.set l (.box w2))=nmh h:=mg hw (by simp [nmh]);refine pre (Wj _) (H.set L (λk x B=>by rw [M];exact B) (.box (by rw [M];exact b2))) (.set (λk x B=>by rw [M];exact B) a5) (by simp) (λK hK=> ?_);unfold Bz;simp only;rw [C];exact⟨by trivial,a9,hK⟩
    split at hk
    .rename_i hcond;cases hk;simp_all [cB,Bool.and_eq_true,beq_iff_eq,splice,aP,take_zero,drop_of_length_le]
    .split at hk
     .rename_i hcond;cases hk;simp only [cB,Bool.and_eq_true,beq_iff_eq]at hcond;obtain⟨u,h2⟩:=hcond;have u:=Nat.le_of_ble_eq_true u;rw [show bU (std m) w=cellsS w from cB m w,show bU (std m) v=cellsS v from cB m v];refine apF (.agg _) ?_ ah;show F2 _ _ ((cellsS w).take j++cellsS v++(cellsS w).drop (j+(cellsS v).length));unfold splice;rw [T];exact((hF.take j).append e).append (hF.drop _)
     .cases hk
   .cases hk
  .rename_i l i j;split at hk
   .rename_i f c s hw;obtain⟨x,rfl,hc⟩:=hp.cell;cases hc with | pr hN=>
    rename_i sz i mm;rw [cO hw]at hN;cases hN;obtain⟨o',C,hO⟩:=H.old l _ hw;cases hO with | rows hf=>
    rename_i f';have L:l<h.length:=(List.getElem?_eq_some_iff.1 hw).1
    have A:∀(o:List Nat) (g G:Bool) (u:Heap) (z:c.den) (P:List D),l∉o->(g=true->G=true)->eP u (bg (std m) h o)->iN h' h u (bg (std m) h o) o->(i:Int)< (s:List c.den).length->j+P.length<=c.size->
      (∀K,K G P u->qy h' (aP pv) K)->(∀row,(aM c s)[i]? =some row->(if j=0/\P.length=c.size then P else gN row P j)=c.row z)->
      Hv2 (λK=>aF (E.ty ty) λy=>Ba h' y (.c (.ptr l c.size i j)) pv λa=>K (.tup []) a k) n h' h (.tup []) ((bg (std m) h o).set l (.rows (f&&g) c (s.set i z))) (l::o):=by
     intro o g G u z P d hg R1 R2 V a7 ams J;have I:(bg (std m) h o)[l]? =some (.rows f c s):=by rw [kE m o h d];exact hw
     have M:nmh ((bg (std m) h o).set l (.rows (f&&g) c (s.set i z)))=nmh (bg (std m) h o):=mg I (by simp [nmh]);have apG:l< (bg (std m) h o).length:=by grind
     have b3:aM c (s.set i z)=(aM c s).set i (c.row z):=by simp [aM,map_set]
     refine pre (Wj _) (R1.set (o':= .rows (f'&&G) c.size (aM c (s.set i z))) apG (λk x B=>by rw [M];exact B) (.rows (λh=>by simp_all)))
      ((R2.trans (.set (λk x B=>by rw [M];exact B) (EF I))).mono (λq hq=>by grind)) (by rw [length_set,pW]) (λK hK=> ?_)
     unfold Bz;simp only;rw [C];refine⟨by trivial,by rw [aU];omega,ams _ ⟨?_,a7,λrow Z=> ?_⟩⟩
     .rw [(R2.keep l L d).2];exact C
     simp_all
    split at hk
    .rename_i hcond;simp only [Bool.and_eq_true,beq_iff_eq]at hcond;obtain⟨rfl,b4⟩:=hcond;split at hk
     .rename_i g x o B;split at hk
      .cases hk
      .rename_i d;cases hk;have d:l∉o:=by simpa using d
       obtain⟨G,u,q1,Y,U,q4,q5⟩:=XK H hv B;have V:(i:Int)< (s:List c.den).length:=by simp_all [bD]
       exact A o g G u x (c.row x) d q1 Y U V (by rw [sK];omega) q5 (λrow Z=>by grind [sK])
     .cases hk
    .rename_i hcond;split at hk
     .rename_i g ys o hyl;split at hk
      .cases hk
      .rename_i d;simp only [Bool.or_eq_true,Bool.not_eq_true',not_or]at d;obtain⟨d,F⟩:=d;have d:l∉o:=by simpa using d
       have F:j+y.size<=c.fields.length:=Nat.le_of_ble_eq_true (by simpa using F);split at hk
       .rename_i z hz;cases hk;unfold L6 at hz;split at hz
        .rename_i t ht;cases hz;rw [Ih]at ht;rw [cB]at hyl;have b1:ys.length=y.size:=by rw [EG hyl,length_take,length_drop];omega
         have H0:eP h' (bg (std m) h []):=H;obtain⟨G,u,q1,Y,U,q4⟩:=qD (done:=[]) H0 e hyl (λ_ _=>by simp);rw [nil_append]at Y U;have V:(i:Int)< (s:List c.den).length:=by simpa [bD]using a8 (bD .lss (i:Int) ((s:List c.den).length:Int)) (by simp)
         have R:(zipWith lvD ((c.fields.drop j).take y.size) ys).length=y.size:=by simp;omega
         refine A o g G u _ (zipWith lvD ((c.fields.drop j).take y.size) ys) d q1 Y U V (by rw [R];exact F) q4 (λrow Z=> ?_);show _=c.row (c.mk t);rw [Oz c _ F b1 ht];have Q:i< (s:List c.den).length:=by omega
         have J:row=c.row ((s:List c.den).getD ((i:Int)).toNat default):=by
          simp only [aM,getElem?_map,getElem?_eq_getElem Q,Option.map_some,Option.some.injEq]at Z;subst Z;simp [getD,getElem?_eq_getElem Q]
         subst J;split
         .rename_i hh;rw [R]at hh;exact absurd (by simp only [Bool.and_eq_true,beq_iff_eq];exact hh) hcond
         .rfl
        .cases hz
       .cases hk
     .cases hk
   .cases hk
  .cases hk
def XP(hX:XOK X E)(H:eP h' h){n k:Nat}(hn:h.length=nm n k){pv:PV}{v:SVal}(I:PVR (nmh h) pv v)
  {r:HR (std m)} (hk:Om (std m) X h ty v=some r) (S:∀b∈r.chk,b=true):
  Hv2 (λK=>aF (E.ty ty) λy=>match y.desc with
   | .slice e=>aF (E.ty e) λz=>∃t,ZD z.zero t/\uY h' t z pv λd=>K (.tup []) d k
   | _=>False) n h' h r.v r.h r.touched:=by
 unfold Om at hk;rw [hX.ty]at hk;split at hk
 .rename_i y hy;split at hk
  .rename_i e hd;split at hk
   .rename_i z c hz hco;split at hk
    .rename_i zs hzs;split at hk
     .rename_i fx x lx j;split at hk
      .rename_i hcond;simp only [Bool.and_eq_true,Bool.not_eq_true',beq_eq_false_iff_ne,ne_eq]at hcond;obtain⟨C,s⟩:=hcond;obtain⟨W,w,aem⟩:=fV hX C;rw [hz]at w;cases w;have R:=XM hzs j;have Wj:∀N,PVR N (.tup []) (.tup []):=λN=> .tup .nil
       have pre:∀ {F:List Nat} {p:List aN} {d:Heap} {G:SVal},PVR (nmh p) (.tup []) G->eP d p->iN h' h d p F->p.length=h.length->(∀K:PV->Heap->Nat->Prop,K (.tup []) d k->uY h' (c.row x) z pv λO=>K (.tup []) O k)->
         Hv2 (λK=>aF (E.ty ty) λy=>match y.desc with
          | .slice e=>aF (E.ty e) λz=>∃t,ZD z.zero t/\uY h' t z pv λd=>K (.tup []) d k
          | _=>False) n h' h G p F:=by
        intro F p d G T U V P Q;refine⟨.tup [],d,k,T,U,V,by rw [P,hn],λK hK=> ?_⟩;rw [hy];simp only [aF];rw [hd];simp only;rw [hz];exact⟨_,R,Q K hK⟩
       split at hk
       .cases hk;obtain⟨J,rfl,hc⟩:=I.cell;cases hc;exact pre (Wj _) H (.refl _ _ _) rfl (λK hK=>hK)
       .rename_i l;split at hk
        .rename_i f c1 a hl;split at hk
         .rename_i q;subst q;cases hk;obtain⟨J,rfl,hc⟩:=I.cell;cases hc with | own A=>
          rw [cO hl]at A;cases A;obtain⟨o',o,B⟩:=H.old l _ hl;cases B with | rows D=>
          have u:nmh (h.set l (.rows f c1 (replicate ((a:List c1.den).length:Int).toNat x)))=nmh h:=mg hl (by simp [nmh]);refine pre (Wj _) (H.set (o':= .rows _ c1.size (aM c1 (replicate ((a:List c1.den).length:Int).toNat x))) (List.getElem?_eq_some_iff.1 hl).1 (λk x j=>by rw [u];exact j) (.rows D)) (.set (λk x j=>by rw [u];exact j) (EF hl)) (by simp) (λK hK=> ?_);unfold uY;simp only;rw [o];refine⟨by trivial,aem.symm,by simpa using s,by rw [aU];omega,?_⟩;simp_all [aM,replicate,take_zero,drop_of_length_le,aU]
         .cases hk
        .cases hk
       .rename_i l i g;split at hk
        .rename_i f c1 a hl;split at hk
         .rename_i q;subst q;cases hk;obtain⟨J,rfl,hc⟩:=I.cell;cases hc with | os A=>
          rename_i Y i g mm;rw [cO hl]at A;cases A;obtain⟨o',o,B⟩:=H.old l _ hl;cases B with | rows D=>
          have Z:(i:Int)+(g:Int)<=(a:List c1.den).length:=by simp_all [bD,kU]
          have M:((((a:List c1.den).take ((i:Int)).toNat).drop ((0:Int)).toNat++replicate ((g:Int)).toNat x)++(a.take ((a.length:Int)).toNat).drop ((i:Int)+(g:Int)).toNat)=a.take i++replicate g x++a.drop (i+g):=by
           rw [show((i:Int)+(g:Int)).toNat=i+g by omega,show((a.length:Int)).toNat=a.length by omega,take_length];simp
          show Hv2 _ _ _ _ _ (h.set l (.rows f c1 ((((a:List c1.den).take ((i:Int)).toNat).drop ((0:Int)).toNat++replicate ((g:Int)).toNat x)++(a.take ((a.length:Int)).toNat).drop ((i:Int)+(g:Int)).toNat))) _;rw [M];have L:(a.take i++replicate g x++a.drop (i+g)).length=a.length:=by simp;omega
          have u:nmh (h.set l (.rows f c1 (a.take i++replicate g x++a.drop (i+g))))=nmh h:=mg hl (by grind [nmh,getElem?_cons_zero]);refine pre (Wj _) (H.set (o':= .rows _ c1.size (aM c1 (a.take i++replicate g x++a.drop (i+g)))) (List.getElem?_eq_some_iff.1 hl).1 (λk x j=>by rw [u];exact j) (.rows D)) (.set (λk x j=>by rw [u];exact j) (EF hl)) (by simp) (λK hK=> ?_);unfold uY;simp only;rw [o];refine⟨by trivial,aem.symm,by simpa using s,by rw [aU];omega,?_⟩;simp_all [aM,replicate,map_take,map_drop]
         .cases hk
        .cases hk
       .cases hk
      .cases hk
     .cases hk
    .cases hk
   .cases hk
  .cases hk
 .cases hk
end Go.TX
namespace Go.TX
open Go Go.AE List
variable{h:List aN}
def aen(o:aN){p:PV}{v:SVal}(a:PVR (nmh h) p v):PVR (nmh (h++ [o])) p v:=a.mono (Bw h o)
def JL{X:XT}{E:Tab}(hX:XOK X E){m:Nat}{h':Heap}(H:eP h' h){n k:Nat}(hn:h.length=nm n k){t:Slots}{e:Nat->Option SVal}(I:EvR X E m (nmh h) t e){op:Op}
  {r:HR (std m)} (hk:Es (std m) X e h op=some r) (A:∀b∈r.chk,b=true):Hv2 (gP E op t h' n k) n h' h r.v r.h r.touched:=by
 have s:∀o:aN,(h++ [o]).length=nm n (k+1):=λo=>by simp [nm]at hn ⊢;omega
 unfold Es at hk;split at hk
 .rename_i ty;rw [hX.ty]at hk;split at hk
  .rename_i y hy;have F:∀(B:List SC) (w:SVal),jY (std m) y.zero=some B->B≠ []->cellsS w=B->r=⟨[],.c (.pb h.length y.size 0),h++ [.box w],[]⟩->Hv2 (gP E (.alloc ty) t h' n k) n h' h r.v r.h r.touched:=by
    intro B w d i hw hr;subst hr;have hF:F2 (RC (nmh (h++ [.box w]))) y.zero (cellsS w):=by rw [hw];exact Bv d
    refine⟨.c (.ptr h.length y.size 0 0),(h.length,.box y.zero)::h',k+1,.ofC .pb,H.push (.box hF),.push _ _ _,s _,λK hK=> ?_⟩;unfold gP;simp only;rw [hy];refine⟨λZ=>i ?_,by rw [<-hn];exact hK⟩;rw [Z]at d;simp [jY]at d;exact d
   split at hk
   .rename_i x d;split at hk<;>cases hk
    .exact F _ (.agg [x]) d (by simp) rfl rfl
    .exact F _ (.c x) d (by simp) rfl rfl
   .rename_i x r' hsd d;cases hk;exact F _ (.agg (x::r')) d (by simp) rfl rfl
   .cases hk
  .cases hk
 .split at hk
  .rename_i v hv;split at hk
   .cases hk
   .rename_i i;cases hk;obtain⟨pv,p1,Y⟩:=dx hX I hv;have R:(aP pv).length=(bU (std m) v).length:=by rw [cB];exact Y.len
    refine⟨.c (.ptr h.length (bU (std m) v).length 0 0),(h.length,.box (aP pv))::h',k+1,.ofC .pb,H.push (.box (aen _ Y).cells),.push _ _ _,s _,λK hK=> ?_⟩;unfold gP;simp only;rw [p1];exact⟨by simpa [R]using i,by rw [<-hn,R];exact hK⟩
  .cases hk
 .rename_i ty len parts;rw [hX.ty]at hk;split at hk
  .rename_i y hy;split at hk
   .rename_i el hd;split at hk
    .rename_i z c d hco;split at hk
     .rename_i hcond;simp only [Bool.and_eq_true,Bool.not_eq_true',beq_iff_eq,beq_eq_false_iff_ne,ne_eq]at hcond;obtain⟨⟨⟨L,i⟩,u⟩,G⟩:=hcond;have G:=Nat.le_of_ble_eq_true G;obtain⟨z',D,M⟩:=fV hX L;rw [d]at D;cases D;split at hk
      .rename_i f B k1 ls apH;cases hk;obtain⟨g,C,Q,P,J,S,O,q6,q7⟩:=Mi hX H I apH;have T:B.length=len:=by
        have:=congrArg List.length u;simp at this;rw [q6];simpa using this
       have hP:=P.push (o:= .rows f c B) (o':= .rows g c.size (aM c B)) (.rows Q);have hE:=(J.trans (iN.push (h':=C) (h:=k1) (.rows f c B) (.rows g c.size (aM c B)) [])).mono (λl R=>by simpa using R);refine⟨.c (.os k1.length c.size 0 B.length),_,k+1,.own (q9 k1 f c B),hP,hE,by simp [nm]at hn ⊢;omega,λK hK=> ?_⟩;unfold gP;simp only;rw [hy];simp only [aF];rw [hd];simp only;rw [d];refine⟨i,u,G,?_⟩;rw [M];refine q7 _ ?_;rw [Ls,<-hn,<-O,<-T];exact hK
      .cases hk
     .cases hk
    .cases hk
   .cases hk
  .cases hk
 .rename_i ty l cp;rw [hX.ty]at hk;split at hk
  .rename_i y hy;split at hk
   .rename_i el hd;split at hk
    .rename_i z c d hco;split at hk
     .rename_i zs fl kl q fc kc q' M R hc;split at hk
      .rename_i fx x lx hx;split at hk
       .rename_i hcond;cases hk;simp only [Bool.and_eq_true,Bool.not_eq_true',beq_eq_false_iff_ne,ne_eq]at hcond;obtain⟨⟨L,i⟩,N⟩:=hcond;have N:=Nat.le_of_ble_eq_true N;obtain⟨z',D,aem⟩:=fV hX L;rw [d]at D;cases D;obtain⟨pl,l1,l2⟩:=dx hX I R;obtain⟨pc,c1,c2⟩:=dx hX I hc;obtain⟨_,rfl⟩:=l2.int;obtain⟨_,rfl⟩:=c2.int;have W:q'=q:=by simpa [bD]using A (bD .eql q' q) (by simp)
        have V:(0:Int)<=q:=by simpa [bD]using A (bD .leq 0 q) (by simp)
        have U:q<=jK:=by simpa [bD]using A (bD .leq q jK) (by simp)
        obtain⟨q,rfl⟩:∃w:Int,w=q:=⟨q,rfl⟩;have hr:aM c (replicate q.toNat x)=replicate q.toNat (c.row x):=by simp [aM]
        refine⟨.c (.os h.length c.size 0 (replicate q.toNat x).length),(h.length,.rows true c.size (aM c (replicate q.toNat x)))::h',k+1,.own (q9 h true c (replicate q.toNat x)),H.push (.rows λh=>h),.push _ _ _,s _,λK hK=> ?_⟩;unfold gP;simp only;rw [hy];simp only [aF];rw [hd];simp only;rw [d];refine⟨_,XM M hx,?_⟩;rw [l1];simp only [aT];rw [c1];refine⟨i,N,W,V,by simp only [jK,zJ]at U ⊢;omega,?_⟩;rw [<-hr,<-hn,aem];have:q.toNat=(replicate q.toNat x).length:=by simp
        rw [show(PV.c (.os h.length c.size 0 q.toNat))= .c (.os h.length c.size 0 (replicate q.toNat x).length)from by rw [<-this]];exact hK
       .cases hk
      .cases hk
     .cases hk
    .cases hk
   .cases hk
  .cases hk
 .rename_i ty p x;split at hk
  .rename_i pv v hp hv;obtain⟨pp,p1,Y⟩:=dx hX I hp;obtain⟨a3,v1,v2⟩:=dx hX I hv;obtain⟨a,b,c,Q,P,J,S,O⟩:=XO hX H hn Y v2 hk A;refine⟨a,b,c,Q,P,J,S,λK hK=> ?_⟩;have:=O K hK;unfold gP;simp only;cases hy:E.ty ty with
   | none=>rw [hy]at this;exact this.elim
   | some y=>
    rw [hy]at this;simp only [aF]at this ⊢;rw [p1];simp only [aT];rw [v1];exact this
  .cases hk
 .rename_i c;split at hk
  .rename_i a b ty t2 W V U;split at hk
   .rename_i av bv ha hb;obtain⟨pa,a1,a2⟩:=dx hX I ha;obtain⟨pb,b1,b2⟩:=dx hX I hb;obtain⟨pv,C,j,Q,P,J,S,O⟩:=Wi hX H hn a2 b2 hk A;refine⟨pv,C,j,Q,P,J,S,λK hK=> ?_⟩;have:=O K hK;unfold gP;simp only;rw [W,V,U];simp only;cases hy:E.ty ty with
    | none=>rw [hy]at this;exact this.elim
    | some y=>
     rw [hy]at this;simp only [aF]at this ⊢;split at this
     .rename_i e hd;cases d:E.ty e with
      | none=>rw [d]at this;exact this.elim
      | some z=>
       rw [d]at this;simp only at this;rw [hd];simp only;rw [d];simp only;rw [a1];simp only [aT];rw [b1];exact this
     .exact this.elim
   .cases hk
  .rename_i a ty W V U;split at hk
   .rename_i av ha;obtain⟨pa,a1,a2⟩:=dx hX I ha;obtain⟨pv,C,j,Q,P,J,S,O⟩:=XP hX H hn a2 hk A;refine⟨pv,C,j,Q,P,J,S,λK hK=> ?_⟩;have:=O K hK;unfold gP;simp only;rw [W,V,U];simp only;cases hy:E.ty ty with
    | none=>rw [hy]at this;exact this.elim
    | some y=>
     rw [hy]at this;simp only [aF]at this ⊢;split at this
     .rename_i e hd;cases d:E.ty e with
      | none=>rw [d]at this;exact this.elim
      | some z=>
       rw [d]at this;simp only at this;obtain⟨zd,a0,this⟩:=this;rw [hd];simp only;rw [d];simp only;refine⟨zd,a0,?_⟩;rw [a1];exact this
     .exact this.elim
   .cases hk
  .cases hk
 .cases hk
end Go.TX
namespace Go.TX
open Go Go.AE List
variable{m:Nat}{i:Nat}{v:Value}{h:List aN}{w:World}{f:Bool}{K2:Nat->Prop}{y:SC}{x:LV aG}
structure ELe{m:Nat}(a b:ES (std m)):Prop where
 ren:∀(i:Nat) (v:Option Nat),a.ren[i]? =some (some v)->b.ren[i]? =some (some v)
 len:b.ren.length=a.ren.length
 fro:∀x,x∈a.fro->x∈b.fro
 ck:∀x,x∈a.ck->x∈b.ck
 tr:∀(i:Nat) (v:Option Nat),a.ren[i]? =some (some v)->jH (std m) b i=jH (std m) a i
def ELe.refl(a:ES (std m)):ELe a a:=⟨λ_ _ h=>h,rfl,λ_ h=>h,λ_ h=>h,λ_ _ _=>rfl⟩
def ELe.trans{a b c:ES (std m)}(h:ELe a b)(k:ELe b c):ELe a c:=
 ⟨λi v d=>k.ren i v (h.ren i v d),k.len.trans h.len,λx e=>k.fro x (h.fro x e),λx e=>k.ck x (h.ck x e),λi v d=>(k.tr i v (h.ren i v d)).trans (h.tr i v d)⟩
def ru{s a:ES (std m)}{v:Option Nat}(h:sF (std m) s i v=some a):
  a.ren[i]? =some (some v)/\ELe s a/\a.lv=s.lv/\a.tr=s.tr/\a.fro=s.fro/\a.ck=s.ck:=by
 unfold sF at h;split at h
 .rename_i hi;cases h;have b:=(List.getElem?_eq_some_iff.1 hi).1;refine⟨by simp [b],⟨λj w c=> ?_,by simp,λ_ h=>h,λ_ h=>h,λ_ _ _=>rfl⟩,rfl,rfl,rfl,rfl⟩
  grind
 .rename_i w hi;split at h
  .rename_i e;subst e;cases h;exact⟨hi,.refl _,rfl,rfl,rfl,rfl⟩
  .cases h
 .cases h
def WC(c:Ctx)(w:World)(N:NM)(v:Value)(y:SC):Prop:=∃x,bM c w v x/\RC N x y
def EH(k:Nat)(p:Option (Nat×Nat)):Option (Nat×Nat):=p.map λq=>(q.1,q.2+k)
def kG(p:Option (Nat×Nat)):EH 0 p=p:=by cases p<;>rfl
def TU(k:Nat)(p:Option (Nat×Nat)):(EH k p).map (·.1)=p.map (·.1):=by cases p<;>rfl
def trK(e:ES (std m))(h:List aN)(i l:Nat):Nat:=match jH (std m) e i,nmh h l with | some p,some q=>(p.1:Int).toNat*q.1 | _,_=>0
def oM{e:ES (std m)}{i l:Nat}(a:jH (std m) e i=none):trK e h i l=0:=by unfold trK;rw [a]
structure Ren{m:Nat}(e:ES (std m))(h:List aN)(c:Ctx)(nm:Nat->Nat)(fr:Bool)(c2:Ctx)(N2:NM):Prop where
 kt:∀b,c.K true b->c2.K true b
 kf:fr=false->∀b,c.K false b->c2.K false b
 sub:∀b,c.K true b->c.K false b
 amt:∀b,c2.K true b->c2.K false b
 fro:∀l f,(l,f)∈e.fro->(f=true\/fr=false)->∀b,c.μ l=some b->c2.K f b
 name:∀(i l:Nat),e.ren[i]? =some (some (some l))->nm i<c2.n/\c2.ν (nm i)=EH (trK e h i l) (c.ν l)
 names:∀(i l sz n:Nat),e.ren[i]? =some (some (some l))->nmh h l=some (sz,n)->N2 (nm i)=some (sz,match jH (std m) e i with | some p=>min ((p.1:Int)+(p.2:Int)).toNat n- (p.1:Int).toNat | none=>n)
 nil:∀(i:Nat),e.ren[i]? =some (some none)->nm i<c2.n/\c2.ν (nm i)=none/\∃sz,N2 (nm i)=some (sz,0)
def TW{c:Ctx}{r:Heap}(H:bH c w r){l k lo n:Nat}{g:List (List D)}(A:AE.look r l=some (.rows f k g))(s:lo+n<=g.length)(C:bM c w v (.os l k lo n))
   (hK:∀b,c.K f b->K2 b) (y:∀b,c.μ l=some b->K2 b):dh K2 w v (.rows k ((g.drop lo).take n)):=by
 have h:=(H.obj l _ A).2;cases C with
 | os0 a _ _ t hm=>rw [take_zero];exact .none _ _ _
 | osE a _ _ _ b t hm=>rw [take_zero];exact .none _ _ _
 | os _ _ _ _ o b B t hm hn m=>
  simp only [jr,hm]at h;obtain⟨cells,E,p,e⟩:=h;obtain⟨u,x⟩:=e.al7;have d:((g.drop lo).take n).length=n:=by simp;omega
  have q:∀i,i<n->((g.drop lo).take n).getD i []=g.getD (lo+i) []:=by grind
  refine .rows b (B+lo*k) o k n _ (λi j=>u (lo+i) j) (y b (j6 hm)) d.symm hn ?_ ?_ ?_
  .intro i j hi hj;rw [d]at hi;have z:=(x (lo+i) j ah hj).1;rw [qP p];simpa only [zH,Nat.add_mul,Nat.add_assoc]using z
  .intro i hi;rw [d]at hi;rw [q i hi];exact(e (lo+i) ah).1
  .intro i j hi hj;rw [d]at hi;unfold gd;rw [q i hi];exact((x (lo+i) j ah hj).2).mono' hK
def bM.apI{c j:Ctx}{l f i lo n:Nat}(h:bM c w v (.os l i lo n))(e:f<j.n)(g:j.ν f=c.ν l):bM j w v (.os f i lo n):=by
 have p:j.μ f=c.μ l:=by unfold Ctx.μ;rw [g]
 cases h with
 | os0 a _ _ m hm=>exact .os0 a f i e (p.trans hm)
 | osE a _ _ _ b m hm=>exact .osE a f i lo b e (p.trans hm)
 | os _ _ _ _ k b o m hm hn d=>exact .os f i lo n k b o e (g.trans hm) hn d
def bM.amu{c j:Ctx}{l i f lo n:Nat}(h:bM c w v (.os l f lo n))(g:i<j.n)(d:j.ν i=EH (lo*f) (c.ν l)):bM j w v (.os i f 0 n):=by
 have p:j.μ i=c.μ l:=by unfold Ctx.μ;rw [d,TU]
 cases h with
 | os0 a _ _ m hm=>exact .os0 a i f g (p.trans hm)
 | osE a _ _ _ b m hm=>exact .osE a i f 0 b g (p.trans hm)
 | os _ _ _ _ k b o m hm hn e=>
  rw [hm]at d;have:=bM.os (c:=j) (w:=w) i f 0 n k b (o+lo*f) g d hn (by simpa [Nat.add_mul,Nat.add_assoc]using e);simpa using this
def bM.XQ{c d:Ctx}{l a e i j:Nat}(h:bM c w v (.ptr l e i j))(g:a<d.n)(f:d.ν a=c.ν l):bM d w v (.ptr a e i j):=by
 cases h with | ptr _ _ _ _ b o k hm=>exact .ptr a e i j b o g (f.trans hm)
def T9{c:Ctx}{u:Heap}(H:bH c w u)(HR:eP u h){s:Sh}{g:Bool}{t:List Nat}(hk:eO (std m) h s y=some (g,x,t))
   (C:WC c w (nmh h) v y)   (p:f=true->g=true) (hK:∀b,c.K f b->K2 b) (k:∀l∈t,∀b,c.μ l=some b->K2 b):dh K2 w v (lvD s x):=by
 have r:∀j,(f=true->j=true)->∀b,c.K j b->K2 b:=λj i b k=>hK b (by
  cases f with
  | true=>simp_all
  | false=>cases j with
   | true=>exact H.sub b k
   | false=>exact k)
 obtain⟨D,o,hc⟩:=C;unfold eO at hk;split at hk
 .rename_i f0 lf;split at hk
  .rename_i e;subst e;cases hk;cases hc with | d B i=>
   rename_i j F;subst B;rw [EB];cases o with | d _ _ _ hd=>
   cases hs:lf.scalar with
   | true=>exact hd.nO _ (by rw [jw];exact hs)
   | false=>
    refine hd.mono' (r _ (λh=>(i ?_).resolve_right (by simp [hs])));have:=p h;cases lf<;>simp_all [Leaf.flag,Leaf.scalar]
  .cases hk
 .cases hc;split at hk
  .cases hk;cases o;exact .none _ _ _
  .cases hk
 .rename_i f0 co xs;cases hc with | clip i=>
  split at hk
  .rename_i e;subst e;cases hk;cases o with | clip _ a n _ _ hd=>
   exact hd.mono' (r _ λh=>i (p h))
  .cases hk
 .rename_i l;cases hc with | own z=>
  split at hk
  .rename_i f0 co xs hl;split at hk
   .rename_i e;subst e;cases hk;rw [cO hl]at z;cases z;obtain⟨E,q,A⟩:=HR.old l _ hl;cases A with | rows i=>
    have:=TW H q (by rw [aU];omega) o (r _ λh=>i (p h)) (k l (by simp));rw [drop_zero,take_of_length_le (by grind [aU])]at this;exact this
   .cases hk
  .cases hk
 .cases hk
def nS{a:Ctx}{b:NM}{y:Leaf aG}(h:dh (a.K f) w v (oK y)):WC a w b v (.d f y):=⟨.d f (oK y),.d f v _ h,.d rfl λh=> .inl h⟩
def Dq{s a:ES (std m)}(h:s.tr.any (·.1==i)=false)(e:a.tr=s.tr):jH (std m) a i=none:=by
 unfold jH;rw [e]
 grind [find?_eq_none,any_eq_true]
def XR{f b:Ctx}{nm:Nat->Nat}{c:List Value}{a pU:List (Nat×Nat)}(m:i<a.length)(d:i<pU.length)(g:a[i].2=pU[i].2)
  (k:bM f w (c.getD i undef) ((pU.map λp=>Cell.ptr p.1 p.2 0 0).getD i default)) (j:nm a[i].1<b.n) (l:b.ν (nm a[i].1)=f.ν pU[i].1):
  bM b w (c.getD i undef) (((a.map λp=>(nm p.1,p.2)).map λp=>Cell.ptr p.1 p.2 0 0).getD i default):=by
 have e:bM f w (c.getD i undef) (.ptr pU[i].1 pU[i].2 0 0):=by simpa [getD,getElem?_eq_getElem d]using k
 have h:=bM.XQ e j l;rw [<-g]at h;simpa [getD,getElem?_eq_getElem m]using h
def Mj:∀ {ps:List ((Nat×Nat)×(Nat×Nat))} {s a:ES (std m)},ps.foldlM (λs p=>sF (std m) s p.1.1 (some p.2.1)) s=some a->
  (∀p∈ps,a.ren[p.1.1]? =some (some (some p.2.1)))/\ELe s a/\a.lv=s.lv/\a.tr=s.tr
 | [],s,a,h=>by cases h;exact⟨λ_ h=>(by simp at h),.refl _,rfl,rfl⟩
 | p::ps,s,a,h=>by
  rw [foldlM_cons]at h;cases h1:sF (std m) s p.1.1 (some p.2.1)with
  | none=>simp_all
  | some l=>
   rw [h1]at h;obtain⟨j,c,k,g⟩:=Mj (ps:=ps) h;obtain⟨i,d,f,e,_⟩:=ru h1;refine⟨λx b=> ?_,d.trans c,k.trans f,g.trans e⟩;cases b with
   | head=>exact c.ren _ _ i
   | tail _ b=>exact j x b
def ELe.push(s:ES (std m))(x:LV aG):ELe s (s.push (std m) x):=⟨λ_ _ h=>h,rfl,λ_ h=>h,λ_ h=>h,λ_ _ _=>rfl⟩
def Wm{c:Co}{g:Bool}{d:List Nat}(a:eO (std m) h (.rows c) y=some (g,x,d)):∃b:List c.den,x= .l c b:=by
 unfold eO at a;split at a
 .rename_i f0 lf;split at a
  .rename_i e;cases a;cases lf with
   | rows f b=>simp only [jG,Sh.rows.injEq]at e;subst e;exact⟨b,rfl⟩
   | _=>simp [jG]at e
  .cases a
 .grind
 .split at a
  .rename_i e;cases a;simp only [Sh.rows.injEq]at e;subst e;exact⟨_,rfl⟩
  .cases a
 .split at a
  .split at a
   .rename_i e;cases a;simp only [Sh.rows.injEq]at e;subst e;exact⟨_,rfl⟩
   .cases a
  .cases a
 .cases a
def Ua(nm:Nat->Nat){k:SkC}{s s':ES (std m)}(hk:extC (std m) h k y s=some s'):
  ∃new y2,s'.lv=new.reverse++s.lv/\ELe s s'/\(∀o,Xx aG nm k (new++o)=some (y2,o))/\
   ∀ {c:Ctx} {w:World} {V:Heap} {e:ES (std m)} {E:Bool} {K:Ctx} {S:NM} {v:Value},bH c w V->eP V h->ELe s' e->(∀b∈e.ck,b=true)->Ren e h c nm E K S->(E=true->k.fresh=true)->
    WC c w (nmh h) v y->WC K w S v y2:=by
 cases k with
 | int k=>
  simp only [extC]at hk;split at hk
  .rename_i f k' x;split at hk
   .rename_i e;subst e;cases hk;refine⟨[.i x],.d true (.int k x),rfl,.push _ _,λo=>rfl,λH HR t r R q z=> ?_⟩;obtain⟨M,A,hc⟩:=z;obtain⟨g,rfl⟩:=RC.int hc;cases A with | d _ _ _ hd=>exact nS (hd.nO _ rfl)
   .cases hk
  .cases hk
 | bool=>
  simp only [extC]at hk;split at hk
  .rename_i f x;cases hk;refine⟨[.b x],.d true (.bool x),rfl,.push _ _,λo=>rfl,λH HR t r R q z=> ?_⟩;obtain⟨M,A,hc⟩:=z;obtain⟨g,rfl⟩:=RC.bool hc;cases A with | d _ _ _ hd=>exact nS (hd.nO _ rfl)
  .cases hk
 | str=>
  simp only [extC]at hk;split at hk
  .rename_i f x;cases hk;refine⟨[.s x],.d true (.str x),rfl,.push _ _,λo=>rfl,λH HR t r R q z=> ?_⟩;obtain⟨M,A,hc⟩:=z;cases hc with | d L _=>
   subst L;cases A with | d _ _ _ hd=>exact nS (y:= .str x) (hd.nO _ rfl)
  .cases hk
 | rows f c=>
  simp only [extC]at hk;split at hk
  .rename_i l lo n;split at hk
   .rename_i g c' D W;split at hk
    .rename_i hcond;cases hk;obtain⟨rfl,O⟩:=hcond
     refine⟨[.l c ((((D:List c.den).take ((lo:Int)+(n:Int)).toNat)).drop ((lo:Int)).toNat)],.d f (.rows c ((((D:List c.den).take ((lo:Int)+(n:Int)).toNat)).drop ((lo:Int)).toNat)),rfl,
      ⟨λ_ _ h=>h,rfl,λx L=>mem_cons_of_mem _ L,λx L=>mem_append_right _ L,λ_ _ _=>rfl⟩,λo=>rfl,λ{T w V e E K S v} H HR t r R q z=> ?_⟩
     obtain⟨M,A,hc⟩:=z;cases hc with | os X=>
     rename_i P lo n mm;rw [cO W]at X;cases X;obtain⟨o',a8,hO⟩:=HR.old l _ W;cases hO with | rows U=>
     rename_i f';have apJ:∀b∈kU (std m) h (.c (.os l (lo:Int) (n:Int))),b=true:=λb B=>r b (t.ck b (mem_append_left _ B))
     simp only [kU,W]at apJ;have h3:(lo:Int)+(n:Int)<=(D:List c.den).length:=by simp_all [bD]
     have vP:f=true\/E=false:=by
      cases E with
      | false=>exact .inr rfl
      | true=>exact .inl (q rfl)
     have F:∀b,T.K f b->K.K f b:=λb B=>by
      cases f with
      | true=>exact R.kt b B
      | false=>exact R.kf (vP.resolve_left (by simp)) b B
     have hd:=TW H a8 (lo:=lo) (n:=n) (by rw [aU];omega) A (K2:=K.K f) (λb B=>F b (by
      cases f with
      | true=>simp_all
      | false=>cases f' with
       | true=>exact R.sub b B
       | false=>exact B)) (λb B=>R.fro l f (t.fro _ (by simp)) vP b B)
     have e1:aM c (((D:List c.den).take ((lo:Int)+(n:Int)).toNat).drop ((lo:Int)).toNat)=((aM c D).drop lo).take n:=by grind [EC,xk]
     rw [<-e1]at hd;exact nS (y:= .rows c _) hd
    .cases hk
   .cases hk
  .split at hk
   .rename_i g x ls L;split at hk
    .rename_i O;cases hk;have a5:=Wm L;obtain⟨D,rfl⟩:=a5;refine⟨[.l c D],.d f (.rows c D),rfl,⟨λ_ _ h=>h,rfl,λx L=>mem_append_right _ L,λx L=>L,λ_ _ _=>rfl⟩,λo=>rfl,λ{T w V e E K S v} H HR t r R q z=> ?_⟩;have vP:f=true\/E=false:=by
      cases E with
      | false=>exact .inr rfl
      | true=>exact .inl (q rfl)
     have F:∀b,T.K f b->K.K f b:=λb B=>by
      cases f with
      | true=>exact R.kt b B
      | false=>exact R.kf (vP.resolve_left (by simp)) b B
     exact nS (y:= .rows c D) (T9 H HR L z (λh=>by simp_all) F (λl W b B=>R.fro l f (t.fro _ (mem_append_left _ (mem_map.2 ⟨l,W,rfl⟩))) vP b B))
    .cases hk
   .cases hk
 | nil=>
  simp only [extC]at hk;split at hk
  .cases hk;refine⟨[],.nil,rfl,.refl _,λo=>rfl,λH HR t r R q z=> ?_⟩;obtain⟨M,A,hc⟩:=z;cases hc;cases A;exact⟨.nil,.nil,.nil⟩
  .cases hk
 | own i=>
  simp only [extC]at hk;split at hk
  .rename_i l;split at hk
   .cases hk
   .rename_i I;obtain⟨J,r2,r3,r4,r5,r6⟩:=ru hk;refine⟨[],.own (nm i),by simpa using r3,r2,λo=>rfl,λH HR t r R q z=> ?_⟩;obtain⟨M,A,hc⟩:=z;cases hc with | own X=>
    rename_i P n;obtain⟨Q,G⟩:=R.name i l (t.ren _ _ J);have hn:=R.names i l P n (t.ren _ _ J) X;have N:jH (std m) s' i=none:=Dq (by cases hq:s.tr.any (·.1==i)with | true=>exact absurd hq I | false=>rfl) r4;rw [t.tr i _ J,N]at hn;rw [oM ((t.tr i _ J).trans N),kG]at G;exact⟨_,bM.apI A Q G,.own hn⟩
  .obtain⟨J,r2,r3,r4,r5,r6⟩:=ru hk;refine⟨[],.own (nm i),by simpa using r3,r2,λo=>rfl,λH HR t r R q z=> ?_⟩;obtain⟨M,A,hc⟩:=z;cases hc;cases A;obtain⟨Q,G,P,n3⟩:=R.nil i (t.ren _ _ J);exact⟨.os (nm i) P 0 0,.os0 none _ P Q (al5 G),.own n3⟩
  .rename_i l lo n;split at hk
   .rename_i f0 c D hri W;cases hk;have a4:=(List.getElem?_eq_some_iff.1 hri).1;refine⟨[],.own (nm i),rfl,⟨λj w hj=> ?_,by simp,λ_ h=>h,λx L=>mem_append_right _ L,λj w hj=> ?_⟩,λo=>rfl,λ{T w V e E K S v} H HR t r R q z=> ?_⟩
    .grind
    .grind [jH]
    .obtain⟨M,A,hc⟩:=z;cases hc with | os X=>
     rename_i P lo n mm;have J:=t.ren i (some l) (by simp [a4]);have N:=t.tr i (some l) (by simp [a4]);obtain⟨Q,G⟩:=R.name i l J;have hn:=R.names i l P mm J X;rw [N]at hn;have b1:(lo:Int)+(n:Int)<=(D:List c.den).length:=by
      have:=r (bD .leq ((lo:Int)+(n:Int)) ((D:List c.den).length:Int)) (t.ck _ (by simp));simpa [bD]using this
     have a3:=X;rw [cO W]at a3;cases a3;have a6:trK e h i l=lo*c.size:=by unfold trK;rw [N,cO W];simp [jH]
     rw [a6]at G;simp [jH]at hn;have a7:S (nm i)=some (c.size,n):=hn.trans (by show some (c.size,min ((lo:Int)+(n:Int)).toNat (List.length D)-lo)=some (c.size,n);congr 2;omega);exact⟨_,bM.amu A Q G,.own a7⟩
   .cases hk
  .cases hk
 | pb i P j=>
  simp only [extC]at hk;split at hk
  .rename_i l sz' j';split at hk
   .rename_i hcond;obtain⟨rfl,rfl,I⟩:=hcond;obtain⟨J,r2,r3,r4,r5,r6⟩:=ru hk;refine⟨[],.pb (nm i) P j,by simpa using r3,r2,λo=>rfl,λH HR t r R q z=> ?_⟩;obtain⟨M,A,hc⟩:=z;cases hc;obtain⟨Q,G⟩:=R.name i l (t.ren _ _ J);have N:jH (std m) s' i=none:=Dq (by simpa using I) r4;rw [oM ((t.tr i _ J).trans N),kG]at G;exact⟨_,bM.XQ A Q G,.pb⟩
   .cases hk
  .cases hk
 | pr i j=>
  simp only [extC]at hk;split at hk
  .rename_i l x j';split at hk
   .rename_i hcond;obtain⟨rfl,I⟩:=hcond;split at hk
    .rename_i s1 hs1;cases hk;obtain⟨J,r2,r3,r4,r5,r6⟩:=ru hs1;refine⟨[.i x],.pr (nm i) x j,by simp [ES.push,r3],r2.trans (.push _ _),λo=>rfl,λH HR t r R q z=> ?_⟩;obtain⟨M,A,hc⟩:=z;cases hc with | pr X=>
     rename_i P i0 mm;have a2:=t.ren i (some l) J;obtain⟨Q,G⟩:=R.name i l a2;have N:jH (std m) s1 i=none:=Dq (by simpa using I) r4;rw [oM ((t.tr i _ J).trans N),kG]at G;exact⟨_,bM.XQ A Q G,.pr (R.names i l P mm a2 X)⟩
    .cases hk
   .cases hk
  .cases hk
 | rp f c j=>
  simp only [extC]at hk;split at hk
  .rename_i g c' D x j';split at hk
   .rename_i hcond;cases hk;obtain⟨rfl,rfl,O⟩:=hcond;refine⟨[.l c D,.i x],.rp f c D x j,rfl,(ELe.push _ _).trans (.push _ _),λo=>rfl,λ{T w V e E K S v} H HR t r R q z=> ?_⟩;obtain⟨M,A,hc⟩:=z;cases hc with | rp U Y=>
    rename_i f' i0;have vP:f=true\/E=false:=by
     cases E with
     | false=>exact .inr rfl
     | true=>exact .inl (q rfl)
    have F:∀b,T.K f' b->K.K f b:=λb B=>by
     cases f with
     | true=>have:=U (by simpa using O);rw [this]at B;exact R.kt b B
     | false=>
      refine R.kf (vP.resolve_left (by simp)) b ?_;cases f' with
      | true=>exact R.sub b B
      | false=>exact B
    cases A with | rp _ b Z _ _ _ _ u B h1 h2 h3 h4=>
    exact⟨.rp f c.size (aM c D) i0 j,.rp f b Z _ _ _ _ u (F b B) h1 h2 (λi j Y hj=>(h3 i j Y hj).mono' F) h4,.rp (λh=>h) Y⟩
   .cases hk
  .cases hk
 | gp g c=>
  simp only [extC]at hk;split at hk
  .rename_i g' c';split at hk
   .rename_i hcond;cases hk;obtain⟨rfl,rfl⟩:=hcond;refine⟨[],.gp g c,rfl,.refl _,λo=>rfl,λ{T w V e E K S v} H HR t r R q z=> ?_⟩;obtain⟨M,A,hc⟩:=z;cases hc;have vP:E=false:=by grind [SkC.fresh]
    cases A with | rp _ b Z _ _ _ _ u B h1 h2 h3 h4=>
    exact⟨_,.rp false b Z _ _ _ _ u (R.kf vP b B) h1 h2 (λi j Y hj=>(h3 i j Y hj).mono' (R.kf vP)) h4,.gp⟩
   .cases hk
  .cases hk
 | fn g C=>
  simp only [extC]at hk;split at hk
  .rename_i g' pU;split at hk
   .rename_i hcond;obtain⟨rfl,a1,I⟩:=hcond;obtain⟨q1,q2,q3,q4⟩:=Mj hk;refine⟨[],.fn g (C.map λp=>(nm p.1,p.2)),by simpa using q3,q2,λo=>rfl,λ{T w V e E K S v} H HR t r R q z=> ?_⟩;obtain⟨M,A,hc⟩:=z;cases hc;cases A with | fn _ vs _ W a9=>
    have b0:C.length=pU.length:=by have:=congrArg List.length a1;simpa using this
    refine⟨.fn g ((C.map λp=>(nm p.1,p.2)).map λp=> .ptr p.1 p.2 0 0),.fn g vs _ (by simp_all) (λi Y=> ?_),.fn⟩;simp at Y;have a0:i<pU.length:=by omega
    have h1:=a9 i (by simp;exact a0);have hz:(C.zip pU)[i]? =some (C[i],pU[i]):=by simp_all
    have h2:=q1 _ (mem_of_getElem? hz);obtain⟨Q,G⟩:=R.name _ _ (t.ren _ _ h2);have N:jH (std m) s' C[i].1=none:=Dq (by simpa using all_eq_true.1 I C[i] (getElem_mem _)) q4;rw [oM ((t.tr _ _ h2).trans N),kG]at G;exact XR Y a0 (by have:=congrArg (λl=>l[i]?) a1;grind) h1 Q G
   .cases hk
  .cases hk
 | np=>
  simp only [extC]at hk;split at hk
  .cases hk;refine⟨[],.np,rfl,.refl _,λo=>rfl,λH HR t r R q z=> ?_⟩;obtain⟨M,A,hc⟩:=z;cases hc;cases A;exact⟨.np,.np,.np⟩
  .cases hk
 | clip f c=>
  simp only [extC]at hk;split at hk
  .rename_i g c' D;split at hk
   .rename_i hcond;cases hk;obtain⟨rfl,O⟩:=hcond;refine⟨[.l c D],.clip f c D,rfl,.push _ _,λo=>rfl,λ{T w V e E K S v} H HR t r R q z=> ?_⟩;obtain⟨M,A,hc⟩:=z;cases hc with | clip U=>
    rename_i f';have vP:f=true\/E=false:=by
     cases E with
     | false=>exact .inr rfl
     | true=>exact .inl (q rfl)
    have F:∀b,T.K f' b->K.K f b:=λb B=>by
     cases f with
     | true=>have:=U (by simpa using O);rw [this]at B;exact R.kt b B
     | false=>
      refine R.kf (vP.resolve_left (by simp)) b ?_;cases f' with
      | true=>exact R.sub b B
      | false=>exact B
    cases A with | clip _ a n _ _ hd=>exact⟨.clip f c.size (aM c D),.clip f a n _ _ (hd.mono' F),.clip λh=>h⟩
   .cases hk
  .cases hk
end Go.TX
namespace Go.TX
open Go Go.AE List
variable{m:Nat}{h:List aN}{w:World}{c:Ctx}{f:Bool}{us:List Value}
def Mk(nm:Nat->Nat):∀ {l:List SkC} {n:List SC} {s f:ES (std m)},Eu (std m) h l n s=some f->
  ∃new d,f.lv=new.reverse++s.lv/\ELe s f/\(∀a,JE aG nm l (new++a)=some (d,a))/\
   ∀ {c:Ctx} {w:World} {p:Heap} {e:ES (std m)} {q:Bool} {r:Ctx} {o:NM} {us:List Value},bH c w p->eP p h->ELe f e->(∀b∈e.ck,b=true)->Ren e h c nm q r o->(q=true->l.all SkC.fresh=true)->
    F2 (WC c w (nmh h)) us n->F2 (WC r w o) us d
 | [],[],s,f,hk=>by
  simp only [Eu,Option.some.injEq]at hk;subst hk;exact⟨[],[],rfl,.refl _,λa=>rfl,λ_ _ _ _ _ _ h=>by cases h;exact .nil⟩
 | [],_::_,s,f,hk=>by simp [Eu]at hk
 | _::_,[],s,f,hk=>by simp [Eu]at hk
 | k::l,y::n,s,f,hk=>by
  simp only [Eu]at hk;split at hk
  .rename_i s1 h1;obtain⟨i,y2,F,B,E,x⟩:=Ua nm h1;obtain⟨g,d,C,t,D,A⟩:=Mk nm hk;refine⟨i++g,y2::d,by simp_all,B.trans t,λa=> ?_,λH HR u j R v z=> ?_⟩
   .grind [JE,append_assoc]
   .cases z with | cons u1 u2=>
    exact .cons (x H HR (t.trans u) j R (λh=>by simp_all) u1) (A H HR u j R (λh=>by simp_all) u2)
  .cases hk
def Il{c i:Ctx}{N k:NM}{f j:Bool}(a:∀b,c.K true b->c.K false b)(hK:∀b,c.K f b->i.K f b):∀ {e:List (Leaf aG)} {us:List Value},(f=true->j=true\/∀y∈e,y.scalar=true)->
  F2 (WC c w N) us (e.map (.d j))->F2 (WC i w k) us (e.map (.d f))
 | [],us,_,h=>by cases h;exact .nil
 | y::e,us,hf,h=>by
  cases h with | cons n l=>
  refine .cons ?_ (Il a hK (λh=>(hf h).imp id λq y o=>q y (mem_cons_of_mem _ o)) l);obtain⟨x,p,hc⟩:=n;cases hc with | d r s=>
  rename_i m t;subst r;cases p with | d _ _ _ hd=>
  cases hs:y.scalar with
  | true=>exact nS (hd.nO _ (by rw [jw];exact hs))
  | false=>
   refine nS (hd.mono' λb g=>hK b ?_);cases f with
   | false=>cases m with
    | true=>exact a b g
    | false=>exact g
   | true=>simp_all
def EI{b:Ctx}{c:NM}:∀ {a:List (Leaf aG)} {us:List Value},F2 (dh (b.K f) w) us (a.map oK)->F2 (WC b w c) us (a.map (.d f))
 | [],us,h=>by cases h;exact .nil
 | y::a,us,h=>by cases h with | cons e d=>exact .cons (nS e) (EI d)
def uh{n:Heap}(H:bH c w n)(HR:eP n h){i:Nat->Prop}(hK:∀b,c.K f b->i b):
  ∀ {e:List Sh} {k:List SC} {us:List Value} {g:Bool} {d:List (LV aG)} {a:List Nat},aL (std m) h e k=some (g,d,a)->F2 (WC c w (nmh h)) us k->(f=true->g=true)->(∀l∈a,∀b,c.μ l=some b->i b)->
   F2 (dh i w) us (zipWith lvD e d)
 | [],[],us,g,d,a,hk,hu,hf,hb=>by simp [aL]at hk;obtain⟨_,rfl,_⟩:=hk;cases hu;exact .nil
 | [],_::_,_,_,_,_,hk,_,_,_=>by simp [aL]at hk
 | _::_,[],_,_,_,_,hk,_,_,_=>by simp [aL]at hk
 | s::e,y::k,us,g,d,a,hk,hu,hf,hb=>by
  cases hu with | cons p o=>
  unfold aL at hk;split at hk
  .rename_i f1 v1 l1 hv1;split at hk
   .rename_i g2 vs2 ls2 hv2;split at hk<;>cases hk
    refine .cons (T9 H HR hv1 p (λh=> ?_) hK λl j=>hb l (mem_append_left _ j)) (uh H HR hK hv2 o (λh=> ?_) λl j=>hb l (mem_append_right _ j))
    all_goals simp_all
   .cases hk
  .cases hk
def Ml{c a:Ctx}{i:Heap}{k:NM}(H:bH c w i)(HR:eP i h)(hK:∀b,c.K f b->a.K f b){co:Co}{q:SVal}{g:Bool}{x:co.den}{d:List Nat}
  (hk:toX (std m) h co q=some (g,x,d))  (j:F2 (WC c w (nmh h)) us (cellsS q)) (o:f=true->g=true) (n:∀l∈d,∀b,c.μ l=some b->a.K f b):F2 (WC a w k) us (cellsS (.sv f co x)):=by
 unfold toX at hk;split at hk
 .rename_i f' c' x';split at hk
  .rename_i e;subst e;cases hk;refine Il H.sub hK (λh=> ?_) j
   grind [kF]
  .cases hk
 .cases hk
 .split at hk
  .rename_i f1 ys ls1 h1;split at hk
   .rename_i t ht;cases hk;rw [cB]at h1;have:=uh H HR hK h1 j o n;rw [Ac co t ht,<-l9 0 co]at this;exact EI this
   .cases hk
  .cases hk
def pX:SVal->Bool | .tup _=>true | _=>false
theorem Ub(nm:Nat->Nat){k:SkV}{q:SVal}{s C:ES (std m)}(hk:GK (std m) h k q s=some C):
  pX q=false/\∃new u,C.lv=new.reverse++s.lv/\ELe s C/\(∀a,zY aG nm k (new++a)=some (u,a))/\pX u=false/\bE (std 0) u=bE (std 0) q/\
   ∀ {c:Ctx} {w:World} {E:Heap} {e:ES (std m)} {D:Bool} {t:Ctx} {B:NM} {us:List Value},bH c w E->eP E h->ELe C e->(∀b∈e.ck,b=true)->Ren e h c nm D t B->(D=true->k.fresh=true)->
    F2 (WC c w (nmh h)) us (cellsS q)->F2 (WC t w B) us (cellsS u):=by
 cases k with
 | c k=>
  simp only [GK]at hk;split at hk
  .rename_i x;obtain⟨new,y2,J,L,P,G⟩:=Ua nm hk;refine⟨rfl,new,.c y2,J,L,λa=>by grind [zY],rfl,rfl,λH HR z j R i o=> ?_⟩;cases o with | cons r N=>cases N;exact .cons (G H HR z j R i r) .nil
  .cases hk
 | agg V=>
  simp only [GK]at hk;split at hk
  .rename_i hst;rw [cB]at hk;obtain⟨new,y2,J,L,P,G⟩:=Mk nm hk;refine⟨by cases q<;>simp_all [bE,pX],new,.agg y2,J,L,λa=>by grind [zY],rfl,by rw [Cy m]at hst;rw [hst];rfl,λH HR z j R i o=>G H HR z j R i o⟩
  .cases hk
 | sv f co=>
  simp only [GK]at hk;split at hk
  .rename_i hst;split at hk
   .rename_i g x ls p;split at hk
    .rename_i hfg;cases hk;refine⟨by cases q<;>simp_all [bE,pX],[.x co x],.sv f co x,rfl,⟨λ_ _ h=>h,rfl,λx p=>mem_append_right _ p,λx p=>p,λ_ _ _=>rfl⟩,λa=>rfl,rfl,by rw [Cy m]at hst;rw [hst];rfl,λ{c w E e D t B us} H HR z j R i o=> ?_⟩;by_cases XU:co.flat=true
     ·
      have r:F2 (WC {t with K:=λg b=>t.K g b\/c.K g b\/∃l∈ls,c.μ l=some b} w B) us (cellsS (.sv f co x)):=Ml H HR (λb n=>Or.inr (Or.inl n)) p o (λh=>by simp_all) (λl I b n=>Or.inr (Or.inr ⟨l,I,n⟩));have A:=kF co XU x;have v:cellsS (.sv f co x)=(fD (std 0) co x 0 co.fields).map (.d f):=rfl;rw [v]at r ⊢
      clear o p v i hfg
      generalize fD (std 0) co x 0 co.fields=lv at r A
      induction lv generalizing us with
      | nil=>cases r;exact .nil
      | cons y lv T=>
       cases r with | cons O u=>
       refine .cons ?_ (T u λy Q=>A y (mem_cons_of_mem _ Q));obtain⟨U,S,hc⟩:=O;cases hc with | d M _=>
       subst M;cases S with | d _ _ _ hd=>exact nS (hd.nO _ (by grind [jw]))
     .have vP:f=true\/D=false:=by grind [SkV.fresh]
      have F:∀b,c.K f b->t.K f b:=λb n=>by
       cases f with
       | true=>exact R.kt b n
       | false=>exact R.kf (vP.resolve_left (by simp)) b n
      exact Ml H HR F p o (λh=>by simp_all) (λl I b n=>R.fro l f (z.fro _ (mem_append_left _ (mem_map.2 ⟨l,I,rfl⟩))) vP b n)
    .cases hk
   .cases hk
  .cases hk
def WV(c:Ctx)(w:World)(N:NM)(u:Value)(q:SVal):Prop:=∃p,bG c w u p/\PVR N p q
def F2.wc{N:NM}{cs:List Cell}{e:List SC}(g:F2 (bM c w) us cs)(d:F2 (RC N) cs e):F2 (WC c w N) us e:=by
 induction g generalizing e with
 | nil=>cases d;exact .nil
 | cons a _ f=>cases d with | cons b d=>exact .cons ⟨_,a,b⟩ (f d)
def F2.amv{N:NM}{d:List SC}(h:F2 (WC c w N) us d):∃cs,F2 (bM c w) us cs/\F2 (RC N) cs d:=by
 induction h with
 | nil=>exact⟨[],.nil,.nil⟩
 | cons g _ e=>
  obtain⟨x,a,b⟩:=g;obtain⟨cs,f,i⟩:=e;exact⟨x::cs,.cons a f,.cons b i⟩
def WV.conv{c j:Ctx}{N i:NM}{u:Value}{q e:SVal}(h:WV c w N u q)(l:pX q=false)(g:pX e=false)(k:bE (std 0) e=bE (std 0) q)
  (hc:∀us,F2 (WC c w N) us (cellsS q)->F2 (WC j w i) us (cellsS e)):WV j w i u e:=by
 obtain⟨p,d,f⟩:=h;cases f with
 | tup _=>simp [pX]at l
 | one f=>
  cases f with
  | c r=>
   cases d with | c _ _ d=>
   have:=hc [u] (.cons ⟨_,d,r⟩ .nil);cases e with
   | c y=>cases this with | cons n _=>obtain⟨x,a,b⟩:=n;exact⟨.c x,.c _ _ a,.ofC b⟩
   | agg _=>simp [bE]at k
   | sv _ _ _=>simp [bE]at k
   | tup _=>simp [pX]at g
  | agg m o=>
   cases d with | agg us _ d=>
   obtain⟨cs,a,b⟩:=F2.amv (hc us (F2.wc d o));exact⟨.agg cs,.agg _ _ a,.one (.agg (by simp_all) b)⟩
def vQ(nm:Nat->Nat):∀ {ks:List SkV} {t:List SVal} {s d:ES (std m)},pV (std m) h ks t s=some d->
  ∃new g,d.lv=new.reverse++s.lv/\ELe s d/\(∀a,sH aG nm ks (new++a)=some (g,a))/\
   ∀ {c:Ctx} {w:World} {p:Heap} {e:ES (std m)} {q:Bool} {r:Ctx} {o:NM} {us:List Value},bH c w p->eP p h->ELe d e->(∀b∈e.ck,b=true)->Ren e h c nm q r o->(q=true->ks.all SkV.fresh=true)->
    F2 (WV c w (nmh h)) us t->F2 (WV r w o) us g
 | [],[],s,d,hk=>by
  simp only [pV,Option.some.injEq]at hk;subst hk;exact⟨[],[],rfl,.refl _,λa=>rfl,λ_ _ _ _ _ _ h=>by cases h;exact .nil⟩
 | [],_::_,s,d,hk=>by simp [pV]at hk
 | _::_,[],s,d,hk=>by simp [pV]at hk
 | k::ks,y::ys,s,d,hk=>by
  simp only [pV]at hk;split at hk
  .rename_i s1 h1;obtain⟨A,i,y2,J,E,I,x,st2,B⟩:=Ub nm h1;obtain⟨f,l,F,u,G,D⟩:=vQ nm hk;refine⟨i++f,y2::l,by simp_all,E.trans u,λa=> ?_,λH HR v j R z C=> ?_⟩
   .grind [sH,append_assoc]
   .cases C with | cons u1 u2=>
    refine .cons (u1.conv A x st2 λus n=>B H HR (u.trans v) j R (λh=> ?_) n) (D H HR v j R (λh=> ?_) u2)
    all_goals simp_all
  .cases hk
end Go.TX
namespace Go.TX
open Go Go.AE List
variable{K:Nat->Prop}{w:World}{cells:Array Value}{a:List (List D)}{h:List aN}
structure OF{m:Nat}(e:ES (std m))(h:List aN)(nm:Nat->Nat)(i:Nat)(k:SkO)(old o2:aN):Prop where
 s1:∀(l sz n:Nat),k≠ .gone->e.ren[i]? =some (some (some l))->nmh h l=some (sz,n)->nmh [o2] 0=some (sz,match jH (std m) e i with | some p=>min ((p.1:Int)+(p.2:Int)).toNat n- (p.1:Int).toNat | none=>n)
 s2:k≠ .gone->e.ren[i]? =some (some none)->∃sz,nmh [o2] 0=some (sz,0)
 gone:k= .gone->o2=old
 live:k≠ .gone->∃v,e.ren[i]? =some (some v)
 ng:k≠ .gone->¬Gone [o2] 0
 rel:∀ {c:Ctx} {w:World} {h':Heap} {fr:Bool} {c2:Ctx} {N2:NM},bH c w h'->eP h' h->(∀b∈e.ck,b=true)->Ren e h c nm fr c2 N2->(fr=true->k.fresh=true)->
  ∃o2',OR N2 o2' o2/\jr c2 w (nm i) o2'/\(k= .gone->o2'= .gone)/\(∀l,k≠ .gone->e.ren[i]? =some (some (some l))->∃o',AE.look h' l=some o'/\o'.live)
def bQ.pre{b n:Nat}(h:bQ K w cells b a):bQ K w cells b (a.take n):=λi d=>by
 simp at d;have e:(a.take n).getD i []=a.getD i []:=by grind
 refine⟨by rw [e];exact(h i ah).1,λj c=> ?_⟩;obtain⟨v,f,hd⟩:=(h i ah).2 j c
 grind [gd]
def bQ.amw{o b k:Nat}(h:bQ K w (from_ cells o) b a):bQ K w (from_ cells (o+k*b)) b (a.drop k):=λi f=>by
 rw [length_drop]at f;have e:(a.drop k).getD i []=a.getD (k+i) []:=by grind
 refine⟨by rw [e];exact(h (k+i) ah).1,λj c=> ?_⟩;obtain⟨v,d,hd⟩:=(h (k+i) ah).2 j c;refine⟨v,by simpa only [zH,Nat.add_mul,Nat.add_assoc]using d,?_⟩;unfold gd;rw [e];exact hd
theorem XV{c:Co}(a:c.flat=true)(x:c.den):∀d∈c.row x,d.nO=true:=by
 intro d hd;rw [<-l9 0]at hd
 grind [jw,kF]
def bQ.flat{K f:Nat->Prop}{c:Co}(g:c.flat=true){a:List c.den}(h:bQ K w cells c.size (aM c a)):bQ f w cells c.size (aM c a):=λi b=>by
 refine⟨(h i b).1,λj d=> ?_⟩;obtain⟨v,e,hd⟩:=(h i b).2 j d;refine⟨v,e,hd.nO _ ?_⟩
 grind [aM,gd,getD,sK,default,XV,getElem_mem]
def Uc{m:Nat}(nm:Nat->Nat){i:Nat}{k:SkO}{s D:ES (std m)}(hk:Oo (std m) h i k s=some D)(z:aN)(M:Gone [z] 0):
  ∃new o2,D.lv=new.reverse++s.lv/\ELe s D/\(∀j,Xy aG nm z k (new++j)=some (o2,j))/\∀e,ELe D e->OF e h nm i k z o2:=by
 cases k with
 | gone=>
  have:D=s:=by simp_all [Oo]
  subst this;obtain⟨c,n,Z⟩:=M;simp at Z;subst Z;exact⟨[],_,rfl,.refl _,λj=>rfl,λe y=>⟨λ_ _ _ h=>absurd rfl h,λh=>absurd rfl h,λ_=>rfl,λh=>absurd rfl h,λh=>absurd rfl h,λ_ _ _ _ _=>⟨.gone,.gone,trivial,λ_=>rfl,λ_ h=>absurd rfl h⟩⟩⟩
 | box k=>
  rcases hr:s.ren[i]? with _ | _ | _ | l<;>simp only [Oo,hr,reduceCtorEq]at hk
  ·
   split at hk
   .rename_i v hl;obtain⟨ht,new,q2,a1,a2,a3,t2,st2,a4⟩:=Ub nm hk;refine⟨new,.box q2,a1,a2,λj=>by grind [Xy],λe y=> ?_⟩;have d:=y.ren i _ (a2.ren i _ hr);refine⟨λG Y n _ t h2=> ?_,λ_ t=> ?_,λh=>(by cases h),λ_=>⟨_,d⟩,λ_ ⟨c,n,I⟩=>by simp at I,λ{c w h' P X W} H HR A R C=> ?_⟩
    .grind [nmh]
    .simp_all
    .obtain⟨o',ho',hO⟩:=HR.old l _ hl;cases hO with | box hF=>
     obtain⟨b,vs,E,hm,x,T⟩:=(H.obj l _ ho').2;obtain⟨U,q1,V⟩:=F2.amv (a4 H HR y A R (λh=>C h) (F2.wc T hF));obtain⟨n1,B⟩:=R.name i l d;have k0:trK e h i l=0:=by unfold trK;simp [nmh,hl]
     rw [k0,kG]at B;exact⟨.box U,.box V,⟨b,vs,E,B.trans hm,x,q1⟩,λh=>(by cases h),λG _ t=>by rw [d]at t;cases t;exact⟨_,ho',trivial⟩⟩
   .cases hk
 | rows f c=>
  rcases hr:s.ren[i]? with _ | _ | _ | l<;>simp only [Oo,hr,reduceCtorEq]at hk
  .cases hk;refine⟨[.l c []],.rows f c [],rfl,.push _ _,λj=>rfl,λe y=> ?_⟩;have d:=y.ren i _ (by exact hr);refine⟨λG Y n _ t h2=> ?_,λ_ t=>⟨c.size,by simp [nmh]⟩,λh=>(by cases h),λ_=>⟨_,d⟩,λ_ ⟨c,n,I⟩=>by simp at I,λ{c0 w h' P X W} H HR A R C=> ?_⟩
   .simp_all
   .obtain⟨n1,B,_⟩:=R.nil i d;refine⟨.rows f c.size (aM c []),.rows λh=>h,?_,λh=>(by cases h),λG _ t=>by simp_all⟩;simp only [jr];rw [B];rfl
  ·
   split at hk
   .rename_i g c' u hl;split at hk
    .rename_i hcond;obtain⟨rfl,F⟩:=hcond;obtain⟨a,a0,a5,N⟩:∃a:List c.den,(match jH (std m) s i with | some p=>(std m).sub c u p.1 ((std m).addN p.1 p.2) | none=>u)=a/\a.length=(match jH (std m) s i with | some p=>min ((p.1:Int)+(p.2:Int)).toNat (u:List c.den).length- (p.1:Int).toNat | none=>(u:List c.den).length)/\∃q,a=((u:List c.den).take q).drop (match jH (std m) s i with | some p=>(p.1:Int).toNat | none=>0):=by
      cases jH (std m) s i with
      | none=>exact⟨u,rfl,rfl,(u:List c.den).length,by simp⟩
      | some p=>exact⟨((u:List c.den).take ((p.1:Int)+(p.2:Int)).toNat).drop (p.1:Int).toNat,rfl,by simp,_,rfl⟩
     have S:D=s.push (std m) (.l c a):=by grind
     subst S;refine⟨[.l c a],.rows f c a,rfl,.push _ _,λj=>rfl,λe y=> ?_⟩;have d:=y.ren i _ (by exact hr);have O:jH (std m) e i=jH (std m) s i:=y.tr i _ hr;refine⟨λG Y n _ t h2=> ?_,λ_ t=> ?_,λh=>(by cases h),λ_=>⟨_,d⟩,λ_ ⟨c,n,I⟩=>by simp at I,λ{c0 w h' P X W} H HR A R C=> ?_⟩
     .grind [cO,nmh,getElem?_cons_zero]
     .simp_all
     .obtain⟨o',ho',hO⟩:=HR.old l _ hl;cases hO with | rows Q=>
      rename_i g';have o:=(H.obj l _ ho').2;obtain⟨n1,B⟩:=R.name i l d;refine⟨.rows f c.size (aM c a),.rows λh=>h,?_,λh=>(by cases h),λG _ t=>by rw [d]at t;cases t;exact⟨_,ho',trivial⟩⟩;obtain⟨q,hq⟩:=N;have J:trK e h i l=(match jH (std m) s i with | some p=>(p.1:Int).toNat | none=>0)*c.size:=by
       unfold trK;rw [O,cO hl];cases jH (std m) s i<;>simp
      generalize (match jH (std m) s i with | some p=>(p.1:Int).toNat | none=>0)=kk at hq J;have K:aM c a=((aM c u).take q).drop kk:=by rw [hq];simp [aM,map_take]
      rw [J]at B;simp only [jr]at o ⊢;rw [B];cases hm:c0.ν l with
      | none=>rw [hm]at o;have o:aM c u=[]:=o;show aM c a=[];rw [K,o];simp
      | some p=>
       rw [hm]at o;obtain⟨cells,E,x,L⟩:=o;refine⟨cells,E,x,?_⟩;have r:=bQ.amw (k:=kk) (bQ.pre (n:=q) L);rw [<-K]at r;by_cases XU:c.flat=true
       .exact bQ.flat XU r
       .have F:f=true->g=true:=λh=>by simp_all
        refine r.mono (λb x=> ?_) λ_ _=>rfl
        cases f with
        | true=>have:=Q (F rfl);rw [this]at x;exact R.kt b x
        | false=>
         have vP:P=false:=by grind [SkO.fresh]
         refine R.kf vP b ?_;cases g' with
         | true=>exact R.sub b x
         | false=>exact x
    .cases hk
   .cases hk
def rz{m:Nat}(nm:Nat->Nat)(old:Nat->aN)(c:∀j,Gone [old j] 0):∀ {ks:List SkO} {i:Nat} {s d:ES (std m)},zW (std m) h i ks s=some d->
  ∃new b,d.lv=new.reverse++s.lv/\ELe s d/\(∀a,vJ aG nm old i ks (new++a)=some (b,a))/\b.length=ks.length/\
   ∀e,ELe d e->∀(j:Nat) (k:SkO),ks[j]? =some k->∃g,b[j]? =some g/\OF e h nm (i+j) k (old (i+j)) g
 | [],i,s,d,hk=>by
  simp only [zW,Option.some.injEq]at hk;subst hk;exact⟨[],[],rfl,.refl _,λa=>rfl,rfl,λe p j k n=>by simp at n⟩
 | k::ks,i,s,d,hk=>by
  simp only [zW]at hk;split at hk
  .rename_i s1 h1;obtain⟨l,g,z,t,x,q⟩:=Uc nm h1 (old i) (c i);obtain⟨f,b,u,o,w,r,v⟩:=rz nm old c hk;refine⟨l++f,g::b,by simp_all,t.trans o,λa=> ?_,by simp [r],λe p j y n=> ?_⟩
   .grind [vJ,append_assoc]
   .cases j with
    | zero=>simp at n;subst n;exact⟨g,rfl,q e (o.trans p)⟩
    | succ j=>grind
  .cases hk
end Go.TX
namespace Go.TX
open Go Go.AE List
variable{m:Nat}{nm:Nat->Nat}{f:Nat->eD}
def Ad:∀ {r:List (Option (Option Nat))},distinct (bI r)=true->∀ {i j l:Nat},r[i]? =some (some (some l))->r[j]? =some (some (some l))->i=j
 | [],_,i,j,l,h,_=>by simp at h
 | x::r,hd,i,j,l,hi,hj=>by
  have mem:∀ {r:List (Option (Option Nat))} {i l:Nat},r[i]? =some (some (some l))->l∈bI r:=by
   intro r
   induction r with
   | nil=>simp_all
   | cons x r a=>
    intro i l h;cases i with
    | zero=>grind [bI]
    | succ i=>
     have:=a (by simpa using h)
     match x with
     | some (some y)=>simp [bI,this]
     | some none=>simpa [bI]using this
     | none=>simpa [bI]using this
  have b:distinct (bI r)=true:=by
   match x with
   | some (some y)=>grind [bI,distinct]
   | some none=>simpa [bI]using hd
   | none=>simpa [bI]using hd
  cases i with
  | zero=>grind [bI,distinct,absurd]
  | succ i=>
   cases j with
   | zero=>grind [bI,distinct,absurd]
   | succ j=>
    have:=Ad b (i:=i) (j:=j) (l:=l) (by simpa using hi) (by simpa using hj);omega
theorem rA:∀ {r:List (Option (Option Nat))} {i l:Nat},r[i]? =some (some (some l))->l∈bI r
 | [],i,l,h=>by simp at h
 | x::r,i,l,h=>by
  cases i with
  | zero=>grind [bI]
  | succ i=>
   have:=rA (r:=r) (i:=i) (l:=l) (by simpa using h)
   match x with
   | some (some y)=>simp [bI,this]
   | some none=>simpa [bI]using this
   | none=>simpa [bI]using this
def xw:∀ {r:List (Option (Option Nat))} {l:Nat},l∈bI r->∃i:Nat,r[i]? =some (some (some l))
 | [],l,h=>by simp [bI]at h
 | x::r,l,h=>by
  have b:l∈bI r->∃i:Nat,(x::r)[i]? =some (some (some l)):=λh=>let⟨i,a⟩:=xw h;⟨i+1,by simpa using a⟩
  match x with
  | some (some y)=>
   simp only [bI,mem_cons]at h;rcases h with rfl | h
   .exact⟨0,rfl⟩
   .exact b h
  | some none=>grind [bI]
  | none=>grind [bI]
def CB:∀ {a:List SkO} {r:List (Option (Option Nat))},qZ a r=true->∀ {i:Nat} {v:Option Nat},r[i]? =some (some v)->a[i]? ≠some .gone
 | [],_,_,i,v,_=>by simp
 | o::a,[],_,i,v,h=>by simp at h
 | o::a,x::r,hg,i,v,h=>by
  have b:qZ a r=true:=by
   cases o<;>cases x<;>simp_all [qZ]
  cases i with
  | zero=>grind [qZ]
  | succ i=>simpa using CB b (i:=i) (v:=v) (by simpa using h)
structure amx{m:Nat}(h:List aN)(e:ES (std m))(os:List SkO):Prop where
 dist:∀ {i j l:Nat},e.ren[i]? =some (some (some l))->e.ren[j]? =some (some (some l))->i=j
 fro:∀l f,(l,f)∈e.fro->(∀i:Nat,e.ren[i]? ≠some (some (some l)))/\∃g c xs,h[l]? =some (.rows g c xs)
 gone:∀ {i:Nat} {v:Option Nat},e.ren[i]? =some (some v)->os[i]? ≠some .gone
def JM{h:List aN}{e:ES (std m)}{os:List SkO}(a:ES.fine (std m) h e os=true):amx h e os:=by
 unfold ES.fine at a;simp only [Bool.and_eq_true]at a;obtain⟨⟨d,c⟩,g⟩:=a;refine⟨Ad d,λl f b=> ?_,CB g⟩;have:=all_eq_true.1 c _ b;simp only [Bool.and_eq_true,Bool.not_eq_true']at this;refine⟨λi j=> ?_,?_⟩
 .grind [rA]
 .have h4:=this.2;unfold Xw at h4;split at h4
  all_goals simp_all
def KX(e:ES (std m))(a:Ctx)(c:Bool)(f:Bool)(b:Nat):Prop:=a.K (f || c) b\/∃l g,(l,g)∈e.fro/\a.μ l=some b/\((f || c)=true->g=true)
def uj(nm:Nat->Nat)(f:Nat->eD):List Nat->Heap->Heap
 | [],h=>h
 | i::r,h=>(nm i,f i)::uj nm f r h
def Mq{l:Nat}:∀ {a:List Nat} {h:Heap},(∀i∈a,nm i≠l)->AE.look (uj nm f a h) l=AE.look h l
 | [],_,_=>rfl
 | i::r,h,hn=>by simp only [uj];rw [aB _ _ (hn i (by simp))];exact Mq λj b=>hn j (mem_cons_of_mem _ b)
def Mr(P:Nat->Prop)(a:∀i j,P i->P j->nm i=nm j->i=j):∀ {c:List Nat} {h:Heap},(∀i∈c,P i)->∀i∈c,AE.look (uj nm f c h) (nm i)=some (f i)
 | [],_,_,i,b=>by simp at b
 | j::r,h,hp,i,b=>by
  simp only [uj];by_cases e:nm j=nm i
  .grind [aK]
  .rw [aB _ _ e];cases b with
   | head=>exact absurd rfl e
   | tail _ b=>exact Mr P a (λj d=>hp j (mem_cons_of_mem _ d)) i b
set_option maxHeartbeats 2000000 in
def yZ{w:World}{C:Ctx}{B:Heap}{W:List aN}(Q:bH C w B)(U:eP B W){e:ES (std m)}(a7:∀b∈e.ck,b=true){ks:List SkO}(jE:amx W e ks)(b5:e.ren.length=ks.length)
   {old:Nat->aN} {F:List aN} (b4:F.length=ks.length) (V:∀(j:Nat) (k:SkO),ks[j]? =some k->∃u,F[j]? =some u/\OF e W nm j k (old j) u)
  {cb:Ctx} {hb':Heap} (X:bH cb w hb') (I:Bool) (N:I=true->ks.all SkO.fresh=true)
  {ν2:Nat->Option (Nat×Nat)} {n2:Nat} (a6:cb.n<=n2) (hν:∀l,l<cb.n->ν2 l=cb.ν l) (a8:∀i,i<ks.length->nm i<n2) (a0:∀i j,i<ks.length->j<ks.length->nm i=nm j->i=j)
  (E:∀(i l:Nat),e.ren[i]? =some (some (some l))->ν2 (nm i)=EH (trK e W i l) (C.ν l)) (Z:∀(i:Nat),e.ren[i]? =some (some none)->ν2 (nm i)=none)
  {h2:List aN} (P:∀i,i<ks.length->h2[nm i]? =F[i]?) (a9:∀l o,(∀i,i<ks.length->nm i≠l)->h2[l]? =some o->∃x,AE.look hb' l=some x/\OR (nmh h2) x o) (b0:∀l,h2.length<=l->AE.look hb' l=none)
  (a5:∀b,eH cb hb' b->eH C B b->False) (apK:∀f b,cb.K f b->eH C B b->False) (ah1:∀f b,eH cb hb' b->KX e C I f b->False):
  ∃(x:Nat->eD),let c2:Ctx:={K:=λf b=>cb.K f b\/KX e C I f b,ν:=ν2,n:=n2};let L:Heap:=uj nm x (range ks.length) hb'
   bH c2 w L/\eP L h2/\Ren e W C nm I c2 (nmh h2)/\(∀b,eH c2 L b->eH cb hb' b\/∃(i t:Nat) (q:eD),e.ren[i]? =some (some (some t))/\AE.look B t=some q/\q.live/\C.μ t=some b)/\CLe cb c2/\(∀l,(∀i,i<ks.length->nm i≠l)->AE.look L l=AE.look hb' l):=by
 have hμ:∀l,l<cb.n->(ν2 l).map (·.1)=cb.μ l:=λl d=>by rw [hν l d];rfl
 have aq7:∀(i l:Nat),e.ren[i]? =some (some (some l))->(ν2 (nm i)).map (·.1)=C.μ l:=λi l a=>by rw [E i l a,TU];rfl
 have aq1:∀(i:Nat),e.ren[i]? =some (some none)->(ν2 (nm i)).map (·.1)=none:=λi a=>by rw [Z i a];rfl
 have apL:∀(i:Nat) (u:aN),i<ks.length->F[i]? =some u->nmh h2 (nm i)=nmh [u] 0:=λi u a ho=>by grind [nmh,getElem?_cons_zero]
 have T:∀(i:Nat) (v:Option (Option Nat)),e.ren[i]? =some v->i<ks.length:=λi v h=>by grind
 have G:∀i,i<ks.length->∃k,ks[i]? =some k:=λi a=>⟨ks[i],getElem?_eq_getElem a⟩
 have R:Ren e W C nm I {K:=λf b=>cb.K f b\/KX e C I f b,ν:=ν2,n:=n2} (nmh h2):={
  kt:=λb p=> .inr (.inl (by simpa using p))
  kf:=λhf b p=> .inr (.inl (by simp_all))
  sub:=Q.sub
  amt:=λb p=>by
   rcases p with p | p | ⟨l,g,h1,h2,h3⟩
   .exact .inl (X.sub b p)
   .refine .inr (.inl ?_);cases I with
    | true=>simpa using p
    | false=>exact Q.sub b (by simpa using p)
   .exact .inr (.inr ⟨l,g,h1,h2,λ_=>h3 (by simp)⟩)
  fro:=λl f d hf b p=> .inr (.inr ⟨l,f,d,p,λh=>by grind⟩)
  name:=λi l a=>⟨a8 i (T i _ a),E i l a⟩
  names:=λi l sz n a d=>by
   have J:=T i _ a;obtain⟨k,hk⟩:=G i J;obtain⟨u,O,M⟩:=V i k hk;rw [apL i u J O];exact M.s1 l sz n (λe=>jE.gone a (by rw [hk,e])) a d
  nil:=λi a=>by
   have J:=T i _ a;obtain⟨k,hk⟩:=G i J;obtain⟨u,O,M⟩:=V i k hk;obtain⟨sz,hs⟩:=M.s2 (λe=>jE.gone a (by rw [hk,e])) a;simp_all}
 have b1:∀i,∃x,∀k,ks[i]? =some k->∃u,F[i]? =some u/\OR (nmh h2) x u/\jr {K:=λf b=>cb.K f b\/KX e C I f b,ν:=ν2,n:=n2} w (nm i) x/\
   (x.live->k≠ .gone/\∃v,e.ren[i]? =some (some v)/\∀l,v=some l->∃q,AE.look B l=some q/\q.live):=by
  intro i;cases hk:ks[i]? with
  | none=>simp_all
  | some k=>
   obtain⟨u,O,M⟩:=V i k hk;obtain⟨x,r1,r2,r3,r4⟩:=M.rel Q U a7 R (λh=>all_eq_true.1 (N h) k (mem_of_getElem? hk));refine⟨x,λk' h=> ?_⟩;cases h;refine⟨u,O,r1,r2,λd=> ?_⟩;have Y:k≠ .gone:=λe=>by rw [r3 e]at d;exact d
   obtain⟨v,hv⟩:=M.live Y
   grind
 obtain⟨x,ah2⟩:=Classical.axiomOfChoice b1;refine⟨x,?_⟩;have Ms:∀i,i<ks.length->AE.look (uj nm x (range ks.length) hb') (nm i)=some (x i):=λi a=>
  Mr (λi=>i<ks.length) a0 (λi a=>List.mem_range.1 a) i (List.mem_range.2 a)
 have vR:∀l,(∀i,i<ks.length->nm i≠l)->AE.look (uj nm x (range ks.length) hb') l=AE.look hb' l:=λl d=>Mq λi a=>d i (List.mem_range.1 a)
 have a4:CLe cb {K:=λf b=>cb.K f b\/KX e C I f b,ν:=ν2,n:=n2}:=⟨λf b h=> .inl h,a6,hν⟩;have b3:∀f b,KX e C I f b->b<w.heap.size:=by
  rintro f b (h | ⟨l,g,h1,h2,h3⟩)
  .exact Q.low _ b h
  .obtain⟨_,g',c,xs,d⟩:=jE.fro l g h1;obtain⟨q,s,hO⟩:=U.old l _ d;cases hO with | rows _=>
   exact(Q.obj l _ s).2.lt trivial h2
 have y:∀l o,AE.look (uj nm x (range ks.length) hb') l=some o->o.live->∀b,(ν2 l).map (·.1)=some b->
   (∃i q t,i<ks.length/\nm i=l/\e.ren[i]? =some (some (some t))/\AE.look B t=some q/\q.live/\C.μ t=some b)\/((∀i,i<ks.length->nm i≠l)/\AE.look hb' l=some o/\cb.μ l=some b):=by
  intro l o d A b p;by_cases H:∃i,i<ks.length/\nm i=l
  .obtain⟨i,a,rfl⟩:=H;rw [Ms i a]at d;cases d;obtain⟨k,hk⟩:=G i a;obtain⟨u,O,M,q3,q4⟩:=ah2 i k hk;obtain⟨Y,v,hv,s⟩:=q4 A;cases v with
   | none=>simp_all
   | some t=>grind
  .have hx':∀i,i<ks.length->nm i≠l:=λi a h=>H ⟨i,a,h⟩
   rw [vR l hx']at d;exact .inr ⟨hx',d,by rw [<-hμ l (X.obj l o d).1];exact p⟩
 refine⟨?_,?_,R,?_,a4,vR⟩
 .refine⟨λl o d=> ?_,λl o l' o1 b h1 S h2 D b2 a3=> ?_,?_,?_,λb p=>R.amt b p⟩
  .by_cases H:∃i,i<ks.length/\nm i=l
   .grind
   .rw [vR l (λi a h=>H ⟨i,a,h⟩)]at d;obtain⟨a1,a2⟩:=X.obj l o d;exact⟨Nat.lt_of_lt_of_le a1 a6,a2.mono a4 (λ_ _ _=>rfl) (.refl w) a1 (λ_ _ _=>rfl)⟩
  .rcases y l o h1 S b b2 with⟨i,q,t,a,rfl,hr,s,z,hm⟩ | ⟨H,s,hm⟩
   .rcases y l' o1 h2 D b a3 with⟨j,q',lq',hj,rfl,hr',r,ah3,hm'⟩ | ⟨hx',r,hm'⟩
    .have:=Q.inj t q lq' q' b s z r ah3 hm hm';subst this;rw [jE.dist hr hr']
    .exact(a5 b ⟨l',o1,r,D,hm'⟩ ⟨t,q,s,z,hm⟩).elim
   .rcases y l' o1 h2 D b a3 with⟨j,q',lq',hj,rfl,hr',r,ah3,hm'⟩ | ⟨hx',r,hm'⟩
    .exact(a5 b ⟨l,o,s,S,hm⟩ ⟨lq',q',r,ah3,hm'⟩).elim
    .exact X.inj l o l' o1 b s S r D hm hm'
  .rintro f b ⟨l,o,d,A,p⟩ hk;rcases y l o d A b p with⟨i,q,t,a,rfl,hr,s,z,hm⟩ | ⟨H,s,hm⟩
   .rcases hk with hk | hk | ⟨l2,g,k1,k2,k3⟩
    .exact apK f b hk ⟨t,q,s,z,hm⟩
    .exact Q.own _ b ⟨t,q,s,z,hm⟩ hk
    .obtain⟨hnn,g',c,xs,D⟩:=jE.fro l2 g k1;obtain⟨q',r,hO⟩:=U.old l2 _ D;cases hO with | rows _=>
     have:=Q.inj t q l2 _ b s z r trivial hm k2;simp_all
   .rcases hk with hk | hk
    .exact X.own f b ⟨l,o,s,A,hm⟩ hk
    .exact ah1 f b ⟨l,o,s,A,hm⟩ hk
  .rintro f b (hk | hk)
   .exact X.low f b hk
   grind
 .refine⟨λl o d=> ?_,λl d=> ?_⟩
  .by_cases H:∃i,i<ks.length/\nm i=l
   .obtain⟨i,a,rfl⟩:=H;obtain⟨k,hk⟩:=G i a;obtain⟨u,O,M,q3,q4⟩:=ah2 i k hk;rw [P i a,O]at d;cases d;exact⟨x i,Ms i a,M⟩
   .have hx':∀i,i<ks.length->nm i≠l:=λi a h=>H ⟨i,a,h⟩
    obtain⟨q,a1,a2⟩:=a9 l o hx' d;exact⟨q,by rw [vR l hx'];exact a1,a2⟩
  .have hx':∀i,i<ks.length->nm i≠l:=λi a h=>by
    obtain⟨k,hk⟩:=G i a;obtain⟨u,O,_⟩:=ah2 i k hk;have:=P i a;rw [O,h]at this;have:=(List.getElem?_eq_some_iff.1 this).1;omega
   rw [vR l hx'];exact b0 l d
 .rintro b ⟨l,o,d,A,p⟩;rcases y l o d A b p with⟨i,q,t,a,rfl,hr,s,z,hm⟩ | ⟨H,s,hm⟩
  .exact .inr ⟨i,t,q,hr,s,z,hm⟩
  .exact .inl ⟨l,o,s,A,hm⟩
end Go.TX
namespace Go.TX
open Go Go.AE List
variable{m:Nat}{h:List aN}{X:XT}{E:Tab}{t:Slots}{e:Nat->Option SVal}{C:Calls aG}
def cZ{s:Sig}(i:Ct aG s):Trans:=λc e g K=>∃(m:Nat) (f:List SVal) (h:List aN),F2 (PVR (nmh h)) c f/\eP e h/\h.length=g/\
 ∃d,sI (std m) h s i f=some d/\(∀b∈d.ck,b=true)/\∃v k,d.k d.y=some (v,k)/\
  ∀r a j,PVR (nmh k) r v->eP a k->iN e h a k d.touched->k.length=nm g j->K r a j
def kW(C:Calls aG):oG:=λf=>match C f with | []=>none | l=>some λa h n K=>∃b∈l,cZ b.2 a h n K
def Mu(T:(PV->Heap->Nat->Prop)->Prop)(n:Nat)(c:Heap)(h:List aN)(b:CR (std m)):Prop:=
 ∃v k,b.k b.y=some (v,k)/\(b.pure=true->k=h/\b.touched=[])/\
  ∀K,(∀pv a j,PVR (nmh k) pv v->eP a k->iN c h a k b.touched->k.length=nm n j->K pv a j)->T K
def OA(E:Tab)(G:oG)(a:Op)(t:Slots)(s:St)(K:PV->Heap->Nat->Prop):Prop:=
 match iT a with
 | 1=>gP E a t s.h s.n s.k K
 | _=>vk E G a {s with t:=t} K
def Mu.amy{T:(PV->Heap->Nat->Prop)->Prop}{n:Nat}{c:Heap}{a:CR (std m)}{v:SVal}{k:List aN}{d:List Nat}(H:Hv2 T n c h v k d)(g:a.k a.y=some (v,k))(e:a.touched=d)(p:a.pure=false):Mu T n c h a:=by
 obtain⟨pv,b,j,f,q,i,o,l⟩:=H;exact⟨v,k,g,λh=>(by rw [p]at h;cases h),λK hK=>l K (hK pv b j f q (by rw [e];exact i) o)⟩
def Ud(hX:XOK X E){n:Nat}{N:NM}(c:EvR X E n N t e):∀ {d:List Operand} {b:List SVal},L8 (std n) X e d=some b->
  ∃a,F2 (PVR N) a b/\∀K,K a->H9 E t d K
 | [],b,h=>by simp only [L8,Option.some.injEq]at h;subst h;exact⟨[],.nil,λK hK=>hK⟩
 | x::r,b,h=>by
  simp only [L8]at h;split at h
  .rename_i v hv;split at h
   .rename_i vs' hvs;cases h;obtain⟨pv,f,g⟩:=dx hX c hv;obtain⟨a,i,j⟩:=Ud hX c hvs;exact⟨pv::a,.cons g i,λK hK=>by unfold H9;rw [f];exact j _ hK⟩
   .cases h
  .cases h
def Ae{b:List SVal}{c:CR (std m)}:∀ {l:List (Sigma (Ct aG))},Aa (std m) h b l=some c->∃a∈l,sI (std m) h a.1 a.2 b=some c
 | [],hk=>by simp [Aa]at hk
 | ⟨s,a⟩::r,hk=>by
  simp only [Aa]at hk;split at hk
  .rename_i x hx;cases hk;exact⟨⟨s,a⟩,by simp,hx⟩
  .obtain⟨ct',h1,h2⟩:=Ae hk;exact⟨ct',mem_cons_of_mem _ h1,h2⟩
def XW{s:Sig}{q:Ct aG s}{j:List SVal}{c:CR (std m)}(hk:sI (std m) h s q j=some c):c.pure=true->(∀v k,c.k c.y=some (v,k)->k=h)/\c.touched=[]:=by
 unfold sI at hk;split at hk
 .rename_i e1 he1;split at hk
  .rename_i e he;split at hk
   .split at hk
    .rename_i x hx;simp only [Option.some.injEq]at hk;subst hk;intro g;simp only [Bool.and_eq_true,isEmpty_iff,Bool.or_eq_true]at g;obtain⟨⟨n,f⟩,d⟩:=g;have apM:e.ren=[]:=by
      obtain⟨_,_,_,o,_⟩:=vQ (m:=m) (λi=>i) he1;obtain⟨_,_,_,p,_⟩:=rz (m:=m) (λi=>i) (λ_=> .gone .i64 0) (λ_=>⟨.i64,0,rfl⟩) he;have:=p.len.trans o.len;simp [es0,n]at this;exact this
     refine⟨λv k a=> ?_,?_⟩
     .simp only [f]at a;split at a
      .rename_i vs' r hvs;simp only [vJ,length_nil]at a;simp only [Option.some.injEq,Prod.mk.injEq]at a;obtain⟨_,rfl⟩:=a;have:∀(h:List aN) (l:List Nat),iC (std m) h l []=h:=λh l=>by cases l<;>rfl
       rw [this];split
       .rfl
       .rename_i hnb;rcases d with b | b
        .exact absurd (by rw [Bool.and_eq_true];exact b) hnb
        .rw [b];rfl
      .cases a
     .simp only [apM,bI,nil_append];split
      .rfl
      .rename_i hnb;rcases d with b | b
       .exact absurd (by rw [Bool.and_eq_true];exact b) hnb
       .rw [b];rfl
    .cases hk
   .cases hk
  .cases hk
 .cases hk
def XY(hX:XOK X E){s:St}(H:eP s.h h)(hn:h.length=nm s.n s.k)(G:EvR X E m (nmh h) t e){F:Op}
  {u:CR (std m)} (hk:TL (std m) X C e h F=some u) (A:∀b∈u.ck,b=true) (i:∃v k,u.k u.y=some (v,k)):Mu (λK=>vk E (kW C) F {s with t:=t} K) s.n s.h h u:=by
 unfold TL at hk;split at hk
 .rename_i c;split at hk
  .rename_i f hf;split at hk
   .rename_i g d vs hfv hvs;obtain⟨S,D,B⟩:=dx hX G hfv;obtain⟨x,rfl,hc⟩:=B.cell;cases hc;obtain⟨T,J,R⟩:=Ud hX G hvs;obtain⟨⟨U,I⟩,o,q⟩:=Ae hk;obtain⟨v,k,l⟩:=i;refine⟨v,k,l,λN=> ?_,λK hK=> ?_⟩
    .obtain⟨a,b⟩:=XW q N;exact⟨a v k l,b⟩
    .unfold vk;simp only;rw [hf];simp only;unfold afK;simp only;rw [D];refine R _ ?_;have y:kW C g=some λw h n K=>∃I∈C g,cZ I.2 w h n K:=by
      unfold kW;split
      .rename_i hnil;rw [hnil]at o;cases o
      .rfl
     rw [y];refine⟨_,o,m,vs++d.map λp=> .c (.pb p.1 p.2 0),h,?_,H,hn,u,q,A,v,k,l,λr z j O P L M=>hK r z _ O P L (by rw [M,Xb])⟩;refine J.append ?_
     clear hvs hk q hfv D B
     induction d with
     | nil=>exact .nil
     | cons p d Q=>exact .cons (.ofC .pb) Q
   .cases hk
  .cases hk
 .cases hk
def BA(hX:XOK X E){s:St}(H:eP s.h h)(hn:h.length=nm s.n s.k)(G:EvR X E m (nmh h) t e){q:Op}
  {o:CR (std m)} (hk:V5 (std m) X C e h q=some o) (z:∀b∈o.ck,b=true) (u:∃v k,o.k o.y=some (v,k)):Mu (OA E (kW C) q t s) s.n s.h h o:=by
 unfold V5 at hk;by_cases n:iT q=1
 .have hT:OA E (kW C) q t s=gP E q t s.h s.n s.k:=by
   funext K;unfold OA;split
   .rfl
   .rename_i y;exact absurd n y
  rw [hT]
  clear hT
  split at hk
  case h_2=>rename_i y;exact absurd n y
  clear n
  split at hk
  .rename_i ty p x _;split at hk
   .rename_i pv v hpv hv;split at hk
    .rename_i r hr;have j:∀g:CR (std m),g.ck=r.chk->g.k g.y=some (r.v,r.h)->g.touched=r.touched->g.pure=false->g=o->Mu (gP E (.store ty p x) t s.h s.n s.k) s.n s.h h o:=by
      intro g A D F I B;subst B;have w:Es (std m) X e h (.store ty p x)=some r:=by simp only [Es,hpv,hv];exact hr
      exact .amy (JL hX H hn G w (by rw [<-A];exact z)) D F I
     split at hk
     .cases hk;exact j _ rfl (by simp only;rw [hr]) rfl rfl rfl
     .cases hk;exact j _ rfl (by simp only;rw [hr]) rfl rfl rfl
     .cases hk;exact j _ rfl (by simp only;rw [hr]) rfl rfl rfl
     .cases hk;exact j _ rfl (by simp only;rw [hr]) rfl rfl rfl
     .cases hk;exact j _ rfl rfl rfl rfl rfl
    .cases hk
   .cases hk
  .split at hk
   .rename_i r hr;have j:∀g:CR (std m),g.ck=r.chk->g.k g.y=some (r.v,r.h)->g.touched=r.touched->g.pure=false->g=o->Mu (gP E q t s.h s.n s.k) s.n s.h h o:=by
     intro g A D F I B;subst B;exact .amy (JL hX H hn G hr (by rw [<-A];exact z)) D F I
    split at hk
    .rename_i l hrv;split at hk
     .rename_i f c xs hl;cases hk;refine j _ rfl ?_ rfl rfl rfl;simp only;have:r.h.set l (.rows f c xs)=r.h:=by
       apply ext_getElem?;intro i;rw [getElem?_set];split
       .rename_i A;subst A;rw [hl];split
        .rfl
        .rename_i hh;exact absurd (List.getElem?_eq_some_iff.1 hl).1 hh
       .rfl
      rw [this]
     .cases hk
    .cases hk;exact j _ rfl rfl rfl rfl rfl
   .cases hk
 .have hT:OA E (kW C) q t s=λK=>vk E (kW C) q {s with t:=t} K:=by
   funext K;unfold OA;split
   .rename_i y;exact absurd y n
   .rfl
  have hk:TL (std m) X C e h q=some o:=by
   revert hk;split
   .rename_i y;exact absurd y n
   .exact id
  obtain⟨a,b,c,d,e⟩:=XY hX H hn G hk z u;rw [hT];exact⟨a,b,c,d,e⟩
end Go.TX
namespace Go.TX
open Go Go.AE List
section
variable {n:Nat}
def Af(gs:List (GE (std n)))(t':Slots)(N:NM)(i:Nat)(a:SV (std n)):Prop:=match a.tag with
 | none=>∃pv,aW t' i=some pv/\PVR N pv a.v
 | some t=>∃e,gs[t]? =some e/\(e.g=true->∃pv,aW t' i=some pv/\PVR N pv a.v)/\(e.g=false->aW t' i=some lZ)
structure GOK(gs:List (GE (std n)))(t':Slots)(e:GE (std n)):Prop where
 yes:∀d,e.slot=some d->e.g=true->∃f,aW t' d=some (.c (.d f (.bool e.want)))
 no:∀d,e.slot=some d->e.g=false->(∃f,aW t' d=some (.c (.d f (.bool (!e.want)))))\/aW t' d=some lZ
 dead:e.dead=true->e.g=false
 par:∀p,e.par=some p->∃q,gs[p]? =some q/\(e.g=true->q.g=true)
structure SR(s':St)(s:RSt (std n)):Prop where
 heap:eP s'.h s.h
 len:s.h.length=nm s'.n s'.k
 m:s'.m=s.m
 val:∀i sv,cu (std n) s.t i=some sv->Af s.gs s'.t (nmh s.h) i sv
 gs:∀(t:Nat) (e:GE (std n)),s.gs[t]? =some e->GOK s.gs s'.t e
def Keep(k:Nat)(h0 h:List aN):Prop:=∀i,i<k->(Gone h0 i->Gone h i)/\∀x,nmh h0 i=some x->Gone h i\/nmh h i=some x
theorem Keep.refl(k:Nat)(h:List aN):Keep k h h:=λ_ _=>⟨id,λ_ h=> .inr h⟩
theorem Keep.trans{k:Nat}{a b c:List aN}(x:Keep k a b)(y:Keep k b c):Keep k a c:=λi d=>
 ⟨λh=>(y i d).1 ((x i d).1 h),λv e=>((x i d).2 v e).elim (λh=> .inl ((y i d).1 h)) λh=>(y i d).2 v h⟩
theorem iN.Mv{e f:Heap}{a b:List aN}{c:List Nat}(x:iN e a f b c)(k:Nat):Keep k a b:=λi _=>⟨x.gone i,λv d=> .inr (x.same i v d)⟩
theorem oN{d i:Nat}{a:SV (std n)}{t:List (Nat×SV (std n))}:cu (std n) ((d,a)::t) i=if d=i then some a else cu (std n) t i:=by
 simp only [cu,beq_iff_eq]
theorem Af.mono{gs a:List (GE (std n))}{g t2:Slots}{N M:NM}{i:Nat}{f:SV (std n)}(h:Af gs g N i f)(m:∀(t:Nat) (e:GE (std n)),gs[t]? =some e->∃b,a[t]? =some b/\b.g=e.g)(j:aW t2 i=aW g i)(k:∀l x,N l=some x->M l=some x):Af a t2 M i f:=by
 unfold Af at h ⊢;cases hs:f.tag with
 | none=>
  rw [hs]at h;simp only at h ⊢;obtain⟨pv,d,c⟩:=h;exact⟨pv,by rw [j];exact d,c.mono k⟩
 | some t=>
  rw [hs]at h;simp only at h ⊢;obtain⟨e,d,c,s⟩:=h;obtain⟨b,o,q⟩:=m t e d;refine⟨b,o,λh=> ?_,λh=>by simp_all⟩;obtain⟨pv,p,r⟩:=c (q▸h);exact⟨pv,by rw [j];exact p,r.mono k⟩
theorem mJ(d:Nat)(e:GE (std n)):(nJ (std n) d e).g=e.g:=by grind [nJ]
theorem sN{d:Nat}{e:GE (std n)}{x:Nat}(h:(nJ (std n) d e).slot=some x):e.slot=some x/\x≠d:=by grind [nJ]
theorem jd(d:Nat)(e:GE (std n)):(nJ (std n) d e).want=e.want/\(nJ (std n) d e).par=e.par/\(nJ (std n) d e).dead=e.dead:=by grind [nJ]
theorem SR.put{g:St}{s:RSt (std n)}(S:SR g s){d:Option Nat}{tag:Option Nat}{v:SVal}{c:Option PV}
  (y:match tag with
   | none=>∃pv,c=some pv/\PVR (nmh s.h) pv v
   | some t=>∃e,s.gs[t]? =some e/\(e.g=true->∃pv,c=some pv/\PVR (nmh s.h) pv v)/\(e.g=false->c=some lZ)):SR (g.put d c) (s.put (std n) d tag v):=by
 cases d with
 | none=>exact S
 | some d=>
  have r:∀(t:Nat) (e:GE (std n)),s.gs[t]? =some e->∃k,(s.gs.map (nJ (std n) d))[t]? =some k/\k.g=e.g:=λt e h=>⟨nJ (std n) d e,by simp [h],mJ d e⟩
  refine⟨S.heap,S.len,S.m,λi E f=> ?_,λt e w=> ?_⟩
  .simp only [RSt.put]at f;rw [oN]at f;split at f
   .rename_i e;subst e;cases f;unfold Af;cases tag with
    | none=>
     obtain⟨pv,o,j⟩:=y;exact⟨pv,by grind [St.put,iQ],j⟩
    | some t=>
     obtain⟨e,o,j,H⟩:=y;obtain⟨k,C,D⟩:=r t e o;refine⟨k,C,λh=> ?_,λh=> ?_⟩
     .obtain⟨pv,q1,q2⟩:=j (D▸h);exact⟨pv,by grind [St.put,iQ],q2⟩
     grind [St.put,iQ]
   .rename_i e;exact(S.val i E f).mono r (by grind [St.put,iQ]) (λ_ _ h=>h)
  .simp only [RSt.put,getElem?_map,Option.map_eq_some_iff]at w;obtain⟨m,A,rfl⟩:=w;have G:=S.gs t m A;have u:∀x,x≠d->aW (St.put g (some d) c).t x=aW g.t x:=λx l=>by grind [St.put,iQ]
   refine⟨λx l B=> ?_,λx l z=> ?_,λhd=> ?_,λp F=> ?_⟩
   .obtain⟨a,b⟩:=sN l;rw [u x b,(jd d m).1];exact G.yes x a (by grind [mJ])
   .obtain⟨a,b⟩:=sN l;rw [u x b,(jd d m).1];exact G.no x a (by grind [mJ])
   .rw [mJ];exact G.dead (by grind [jd])
   .obtain⟨q,o,j⟩:=G.par p (by grind [jd])
    grind [nJ,RSt.put,mJ]
theorem sO{d i:Nat}:∀ {t:List (Nat×SV (std n))} {a:SV (std n)},cu (std n) (t.filter λp=> !(p.1==d)) i=some a->i≠d/\cu (std n) t i=some a
 | [],_,h=>by cases h
 | (j,x)::r,a,h=>by
  by_cases c:j=d
  .subst c;rw [filter_cons_of_neg (by simp)]at h;obtain⟨f,b⟩:=sO h
   grind [oN]
  .rw [filter_cons_of_pos (by simpa using c),oN]at h;rw [oN];split at h
   .simp_all
   .rename_i e;rw [if_neg e];exact sO h
theorem SR.del{c:St}{s:RSt (std n)}(S:SR c s){d:Option Nat}:SR (c.put d none) (s.del (std n) d):=by
 cases d with
 | none=>exact S
 | some d=>
  have u:∀(t:Nat) (e:GE (std n)),s.gs[t]? =some e->∃k,(s.gs.map (nJ (std n) d))[t]? =some k/\k.g=e.g:=λt e h=>⟨nJ (std n) d e,by simp [h],mJ d e⟩
  refine⟨S.heap,S.len,S.m,λi w f=> ?_,λt e m=> ?_⟩
  .simp only [RSt.del]at f;obtain⟨e,f⟩:=sO f;exact(S.val i w f).mono u (by grind [St.put,iQ]) (λ_ _ h=>h)
  .simp only [RSt.del,getElem?_map,Option.map_eq_some_iff]at m;obtain⟨j,r,rfl⟩:=m;have G:=S.gs t j r;have l:∀x,x≠d->aW (St.put c (some d) none).t x=aW c.t x:=λx g=>by grind [St.put,iQ]
   refine⟨λx g v=> ?_,λx g o=> ?_,λhd=> ?_,λp y=> ?_⟩
   .obtain⟨a,b⟩:=sN g;rw [l x b,(jd d j).1];exact G.yes x a (by grind [mJ])
   .obtain⟨a,b⟩:=sN g;rw [l x b,(jd d j).1];exact G.no x a (by grind [mJ])
   .rw [mJ];exact G.dead (by grind [jd])
   .obtain⟨q,h1,h2⟩:=G.par p (by grind [jd])
    grind [nJ,RSt.del,mJ]
theorem amA{s:RSt (std n)}{d:Option Nat}:(s.del (std n) d).h=s.h/\(s.del (std n) d).m=s.m:=by cases d<;>exact⟨rfl,rfl⟩
theorem SR.y7{b:St}{s:RSt (std n)}(S:SR b s){a:Heap}{k:List aN}{j:Nat}(g:Same s.h k)(d:eP a k)(c:k.length=nm b.n j):SR {b with h:=a,k:=j} {s with h:=k}:=
 ⟨d,c,S.m,λi f l=>(S.val i f l).mono (λ_ e h=>⟨e,h,rfl⟩) rfl g,S.gs⟩
theorem EJ:∀ {a:List (GE (std n))} {d:Nat} {w:Bool} {i t:Nat},dS (std n) a d w i=some t->∃e,i<=t/\a[t-i]? =some e/\e.slot=some d/\e.want=w
 | [],_,_,_,_,h=>by simp [dS]at h
 | e::r,d,w,i,t,h=>by
  simp only [dS]at h;split at h
  .simp_all
  .obtain⟨e',h1,h2,h3⟩:=EJ h
   grind
theorem vS{gs:List (GE (std n))}{d:Nat}{w:Bool}{t:Nat}(h:dS (std n) gs d w 0=some t):∃e,gs[t]? =some e/\e.slot=some d/\e.want=w:=by
 obtain⟨e,_,a,b⟩:=EJ h;simp_all
theorem nU{gs:List (GE (std n))}{t':Slots}(b:∀(t:Nat) (e:GE (std n)),gs[t]? =some e->GOK gs t' e):∀ {f:Nat} {o:Option Nat},(∀t,o=some t->∃e,gs[t]? =some e/\e.g=true)->∀t∈Oq (std n) gs f o,∃e,gs[t]? =some e/\e.g=true
 | 0,_,_,t,a=>by simp [Oq]at a
 | _+1,none,_,t,a=>by simp [Oq]at a
 | f+1,some x,h,t,a=>by
  simp only [Oq,mem_cons]at a;rcases a with rfl | a
  .exact h t rfl
  .obtain⟨e,h1,h2⟩:=h x rfl;rw [h1]at a;refine nU b (o:=e.par) (λp c=> ?_) t a;obtain⟨q,d,g⟩:=(b x e h1).par p c;simp_all
theorem rC{X:XT}{E:Tab}{gs:List (GE (std n))}{t' tt:Slots}{N:NM}{lk:Nat->Option (SV (std n))}(b:∀d,(lk d).isSome->aW tt d=aW t' d)(g:∀i f,lk i=some f->Af gs t' N i f){al:List Nat}(c:∀t∈al,∃e,gs[t]? =some e/\e.g=true):
  EvR X E n N tt (fZ (std n) lk al):=by
 intro i v a;unfold fZ at a;split at a
 .rename_i v' hl;cases a;rw [b i (by rw [hl];rfl)];exact g i _ hl
 .rename_i t v' hl;split at a
  .rename_i hc;cases a;obtain⟨e,k,h⟩:=c t (by simpa using hc);obtain⟨l,m,j,_⟩:=g i _ hl;simp_all
  .cases a
 .cases a
theorem eY{ρ:Type}{Q:ρ->Prop}:∀ {ps:List Bool} {a:(ρ->Prop)->Prop},gY (std n) ps a Q->(∀b∈ps,b=true)/\a Q
 | [],a,h=>⟨λ_ h=>by simp at h,h⟩
 | b::ps,a,h=>by
  obtain⟨e,h⟩:b=true/\gY (std n) ps a Q:=h;obtain⟨d,c⟩:=eY (ps:=ps) h;simp_all
theorem Ag{g:Bool}{a:List Bool}(h:∀b∈under (std n) g a,b=true)(d:g=true):∀b∈a,b=true:=λb c=>by
 have:=h (!g || b) (mem_map.2 ⟨b,c,rfl⟩);simp_all
theorem Dr{ρ:Type}(a:Op)(v:SVal)(K:SVal->(ρ->Prop)->Prop):TM (std n) a v K=K v:=by
 unfold TM;split
 .split<;>rfl
 .rfl
theorem BD{ρ:Type}{c:CR (std n)}{K:SVal->List aN->(ρ->Prop)->Prop}{Q:ρ->Prop}(h:tZ (std n) c K Q):∃v k,c.k c.y=some (v,k)/\K v k Q:=by
 obtain⟨f,d,y,k,e,p⟩:=c;unfold tZ at h;cases d with
 | nil=>
  simp only at h ⊢;cases hk:k y with
  | none=>simp_all
  | some x=>rw [hk]at h;grind
 | cons a b=>
  simp only at h ⊢;cases hk:k y with
  | none=>simp_all
  | some x=>rw [hk]at h;grind
theorem xA{X:XT}{E:Tab}(hX:XOK X E){C:Heap}{h:List aN}(H:eP C h){gs:List (GE (std n))}{t' tt:Slots}(B:∀(t:Nat) (e:GE (std n)),gs[t]? =some e->GOK gs t' e)
  {lk:Nat->Option (SV (std n))} (l:∀d,(lk d).isSome->aW tt d=aW t' d) (G:∀i P,lk i=some P->Af gs t' (nmh h) i P) {cur:Option Nat} (r:∀t,cur=some t->∃e,gs[t]? =some e/\e.g=true) {Q:Op} {v:SVal} {L:List Bool}
  (hk:vK (std n) X lk gs h cur Q=some (L,v)) (F:∀b∈L,b=true):Gv (gK E Q tt C) (nmh h) v:=by
 have m:=nU B r (f:=gs.length+1);have S:EvR X E n (nmh h) tt (fZ (std n) lk (dM (std n) gs cur)):=rC l G m;unfold vK at hk;split at hk
 .rename_i c a b;simp only at hk;split at hk
  .rename_i fq q hc;obtain⟨pc,M,Y⟩:=dx hX S hc;obtain⟨g,rfl⟩:=Y.bool;have o:∀w,q=w->∀t∈(match c with | .tmp d=>(match dS (std n) gs d w 0 with | some t=>dM (std n) gs (some t)++dM (std n) gs cur | none=>dM (std n) gs cur) | _=>dM (std n) gs cur),∃e,gs[t]? =some e/\e.g=true:=by
    intro w hw t k;split at k
    .rename_i d;split at k
     .rename_i t0 hf;obtain⟨e,R,W,e3⟩:=vS hf;rcases mem_append.1 k with k | k
      .refine nU B (λx s=> ?_) t k;cases s;refine⟨e,R,?_⟩;cases hgg:e.g with
       | true=>rfl
       | false=>
        have I:(lk d).isSome:=by
         have U:fZ (std n) lk (dM (std n) gs cur) d=some (.c (.d fq (.bool q))):=hc
         grind [fZ]
        have hd:aW t' d=some (.c (.d g (.bool q))):=by rw [<-l d I];exact M
        rcases(B t0 e R).no d W hgg with⟨f,hh⟩ | hh
        all_goals grind [Option.some.injEq,PV.c.injEq,Cell.d.injEq,D.bool.injEq,lZ]
      .exact m t k
     .exact m t k
    .exact m t k
   have A:q=true->∀ {v},evX (std n) X (fZ (std n) lk (match c with | .tmp d=>(match dS (std n) gs d true 0 with | some t=>dM (std n) gs (some t)++dM (std n) gs cur | none=>dM (std n) gs cur) | _=>dM (std n) gs cur)) a=some v->∃pv,ev E tt a=some pv/\PVR (nmh h) pv v:=
    λj v p=>dx hX (rC l G (o true j)) p
   have J:q=false->∀ {v},evX (std n) X (fZ (std n) lk (match c with | .tmp d=>(match dS (std n) gs d false 0 with | some t=>dM (std n) gs (some t)++dM (std n) gs cur | none=>dM (std n) gs cur) | _=>dM (std n) gs cur)) b=some v->∃pv,ev E tt b=some pv/\PVR (nmh h) pv v:=
    λj v p=>dx hX (rC l G (o false j)) p
   have fin:∀pv,PVR (nmh h) pv v->(q=true->ev E tt a=some pv)->(q=false->ev E tt b=some pv)->Gv (gK E (.pick c a b) tt C) (nmh h) v:=by
    intro pv V T Z;refine⟨pv,V,λK hK=> ?_⟩;unfold gK;simp only;rw [M];exact⟨λj=>iM (T j) _ hK,λj=>iM (Z j) _ hK⟩
   split at hk
   .rename_i y s hy;cases hk;have j:q=false:=by simp_all
    grind
   .rename_i x s hy;cases hk;have j:q=true:=by simp_all
    grind
   .rename_i x y s hy _ _;unfold LU at hk;split at hk
    .rename_i z hz;cases hk;cases j:q with
     | true=>
      obtain⟨pv,O,u⟩:=A j ‹_›;have:=Mf (N:=nmh h) (px:=pv) (py:=pv) (q:=q) (λ_=>u) (λh=>by simp_all) hz
      grind
     | false=>
      obtain⟨pv,O,u⟩:=J j ‹_›;have:=Mf (N:=nmh h) (px:=pv) (py:=pv) (q:=q) (λh=>by simp_all) (λ_=>u) hz;rw [j]at this;exact fin pv this (λh=>by rw [j]at h;cases h) λ_=>O
    .cases hk
   .cases hk
  .cases hk
 .exact XJ hX H S hk F
inductive GM (s':St) (s:RSt (std n)) (tt:Slots) (d:Nat) (want:Bool):GR (std n)->Prop
 | skip:(∀T F:Prop,F->kP (aW tt d) want T F)->GM s' s tt d want .skip
 | run {gs:List (GE (std n))} {t:Nat} {g:Bool} {e:GE (std n)}:SR s' {s with gs:=gs}->gs[t]? =some e->e.g=g->(∀i sv,cu (std n) s.t i=some sv->Af gs s'.t (nmh s.h) i sv)->
  (g=true->∀T F:Prop,T->kP (aW tt d) want T F)->(g=false->∀T F:Prop,F->kP (aW tt d) want T F)->GM s' s tt d want (.run gs t g)
theorem Ah{k:St}{s:RSt (std n)}(S:SR k s){lk:Nat->Option (SV (std n))}(X:∀i A,lk i=some A->cu (std n) s.t i=some A){tt:Slots}{d:Nat}{want:Bool}(Y:(lk d).isSome->aW tt d=aW k.t d){r:GR (std n)}(j:Br (std n) lk s.gs d want=r)(Q:r≠ .bad):
    GM k s tt d want r:=by
  unfold Br at j;split at j
  · exact absurd j.symm Q
  · rename_i tg v hd;have C:=Y (by rw [hd];rfl);have w:=S.val d _ (X d _ hd);split at j
    · rename_i t hf;obtain⟨e,e1,e2,e3⟩:=vS hf;rw [e1]at j;simp only at j;have G:=S.gs t e e1;have E:e.g=true->∀T F:Prop,T->kP (aW tt d) want T F:=λa T F E=>by
        obtain⟨f,M⟩:=G.yes d e2 a;rw [C,M,e3];exact dz (λ_=>E) (λh=>absurd rfl h)
      have o:e.g=false->∀T F:Prop,F->kP (aW tt d) want T F:=λa T F o=>by
        rcases G.no d e2 a with⟨f,M⟩ | M
        · rw [C,M,e3];exact dz (λh=>by cases want<;>simp at h) (λ_=>o)
        · rw [C,M];exact o
      split at j
      · rename_i amB;subst j;exact .skip (o (G.dead amB))
      · subst j;exact .run S e1 rfl S.val E o
    · split at j
      · rename_i f b;obtain⟨b,rfl⟩:∃b':Bool,b'=b:=⟨b,rfl⟩;have m:(if want then b else !b)=(b==want):=by cases want<;>cases b<;>rfl
        simp only at j;have ext:∀(e:GE (std n)) (gs:List (GE (std n))),gs=s.gs++ [e]->GOK gs k.t e->SR k {s with gs:=gs}/\(∀i A,cu (std n) s.t i=some A->Af gs k.t (nmh s.h) i A)/\gs[s.gs.length]? =some e:=by
          intro e gs Z N;subst Z;have y:∀(t:Nat) (x:GE (std n)),s.gs[t]? =some x->(s.gs++ [e])[t]? =some x:=λt x c=>by rw [getElem?_append_left (List.getElem?_eq_some_iff.1 c).1];exact c
          have pY:∀i A,cu (std n) s.t i=some A->Af (s.gs++ [e]) k.t (nmh s.h) i A:=λi A hi=>(S.val i A hi).mono (λt x c=>⟨x,y t x c,rfl⟩) rfl (λ_ _ h=>h)
          refine⟨⟨S.heap,S.len,S.m,pY,λt x c=> ?_⟩,pY,by simp⟩;by_cases R:t<s.gs.length
          · simp only at c;rw [getElem?_append_left R]at c;have G:=S.gs t x c;exact⟨G.yes,G.no,G.dead,λp L=>let⟨q,K,P⟩:=G.par p L;⟨q,y p q K,P⟩⟩
          · simp only at c;rw [getElem?_append_right ah]at c;have:t-s.gs.length=0:=by
              have:=(List.getElem?_eq_some_iff.1 c).1;simp at this;omega
            rw [this]at c;simp at c;subst c;exact N
        split at j
        · subst j;obtain⟨pv,H,J⟩:=w;obtain⟨g,rfl⟩:=J.bool;have N:GOK (s.gs++ [⟨some d,want,none,if want then b else !b,false⟩]) k.t ⟨some d,want,none,if want then b else !b,false⟩:=by
            refine⟨λx c l=> ?_,λx c u=> ?_,λh=>(by cases h),λp L=>(by cases L)⟩
            · cases c;have l:(if want then b else !b)=true:=l;rw [m]at l
              exact ⟨g, by rw [H]; have : b = want := by simpa using l
                           rw [this]⟩
            · cases c;have u:(if want then b else !b)=false:=u;rw [m]at u;refine .inl ⟨g,?_⟩;rw [H];have:b= !want:=by cases b<;>cases want<;>simp_all
              rw [this]
          obtain⟨K,P,W⟩:=ext ⟨some d,want,none,if want then b else !b,false⟩ _ rfl N;refine .run K W rfl P (λa T F E=> ?_) (λa T F o=> ?_)
          · rw [C,H];refine dz (λ_=>E) (λh=> ?_);have a:(if want then b else !b)=true:=a;rw [m]at a;exact absurd (by simpa using a) h
          · rw [C,H];refine dz (λh=> ?_) (λ_=>o);have a:(if want then b else !b)=false:=a;rw [m,h]at a;simp at a
        · rename_i U;split at j
          · rename_i B I;subst j;obtain⟨a0,h3,h4,h5⟩:=w;rw [I]at h3;cases h3;have z:B.g=true->∃g,aW k.t d=some (.c (.d g (.bool b))):=λa=>by
              obtain⟨pv,H,J⟩:=h4 a;obtain⟨g,rfl⟩:=J.bool;exact⟨g,H⟩
            have E:(B.g&& (if want then b else !b))=true->∃g,aW k.t d=some (.c (.d g (.bool want))):=λh=>by
              simp only [Bool.and_eq_true]at h;obtain⟨g,D⟩:=z h.1;have:=h.2;rw [m]at this
              exact ⟨g, by rw [D]; have : b = want := by simpa using this
                           rw [this]⟩
            have o:(B.g&& (if want then b else !b))=false->(∃g,aW k.t d=some (.c (.d g (.bool (!want)))))\/aW k.t d=some lZ:=λh=>by
              cases a:B.g with
              | false=>exact .inr (h5 a)
              | true=>
                rw [a]at h;simp only [Bool.true_and]at h;rw [m]at h;obtain⟨g,D⟩:=z a;refine .inl ⟨g,?_⟩;rw [D];have:b= !want:=by cases b<;>cases want<;>simp_all
                rw [this]
            have N:GOK (s.gs++ [⟨some d,want,some U,B.g&& (if want then b else !b),false⟩]) k.t ⟨some d,want,some U,B.g&& (if want then b else !b),false⟩:=by
              refine⟨λx c l=> ?_,λx c u=> ?_,λh=>(by cases h),λp L=> ?_⟩
              · cases c;exact E l
              · cases c;exact o u
              · cases L;refine⟨B,by rw [getElem?_append_left (List.getElem?_eq_some_iff.1 I).1];exact I,λh=> ?_⟩;have h:(B.g&& (if want then b else !b))=true:=h;simp only [Bool.and_eq_true]at h;exact h.1
            obtain⟨K,P,W⟩:=ext ⟨some d,want,some U,B.g&& (if want then b else !b),false⟩ _ rfl N;refine .run K W rfl P (λa T F V=> ?_) (λa T F O=> ?_)
            · obtain⟨g,D⟩:=E a;rw [C,D];exact dz (λ_=>V) (λh=>absurd rfl h)
            · rcases o a with⟨g,D⟩ | D
              · rw [C,D];exact dz (λh=>by cases want<;>simp at h) (λ_=>O)
              · rw [C,D];exact O
          · exact absurd j.symm Q
      · split at j
        · subst j;obtain⟨pv,H,J⟩:=w;have:pv=lZ:=by
            cases J with
            | one h=>cases h with
              | agg hs _=>simp [bE]at hs
            | tup h=>cases h;rfl
          subst this;exact .skip λT F o=>by rw [C,H];exact o
        · exact absurd j.symm Q
      · exact absurd j.symm Q
end
end Go.TX
namespace Go.TX
open Go Go.AE List
section
variable {n:Nat}
theorem SR.kill{f:St}{s:RSt (std n)}(S:SR f s){t:Nat}{e:GE (std n)}(d:s.gs[t]? =some e)(l:e.g=false):SR f {s with gs:=zZ (std n) s.gs t}:=by
 have hk:zZ (std n) s.gs t=s.gs.set t {e with dead:=true}:=by unfold zZ;rw [d]
 have g:=(List.getElem?_eq_some_iff.1 d).1;have a:∀(i:Nat) (x:GE (std n)),s.gs[i]? =some x->∃j,(s.gs.set t {e with dead:=true})[i]? =some j/\j.g=x.g:=λi x b=>by
  by_cases h:t=i
  .subst h;rw [d]at b;cases b;exact⟨_,getElem?_set_self g,rfl⟩
  .exact⟨x,by rw [getElem?_set_ne h];exact b,rfl⟩
 rw [hk];refine⟨S.heap,S.len,S.m,λi r u=>(S.val i r u).mono a rfl (λ_ _ h=>h),λi x b=> ?_⟩;have c:∀ {x:GE (std n)},(∀p,x.par=some p->∃q,s.gs[p]? =some q/\(x.g=true->q.g=true))->∀p,x.par=some p->∃q,(s.gs.set t {e with dead:=true})[p]? =some q/\(x.g=true->q.g=true):=λh p o=>by
  obtain⟨q,m,y⟩:=h p o;obtain⟨w,k,v⟩:=a p q m;exact⟨w,k,λh=>by rw [v];exact y h⟩
 by_cases h:t=i
 .subst h;simp only [getElem?_set_self g,Option.some.injEq]at b;subst b;have G:=S.gs t e d;exact⟨G.yes,G.no,λ_=>l,c G.par⟩
 .simp only [getElem?_set_ne h]at b;have G:=S.gs i x b;exact⟨G.yes,G.no,G.dead,c G.par⟩
theorem EK{E:Tab}{G:oG}{o:Oper}{s:St}{K:St->Prop}(h:iT o.op≠0)(hd:dOK s.m o.dst)(hm:OA E G o.op s.t s λv h k=>K (St.put {s with h:=h,k:=k} o.dst (some v))):Xf E G o s K:=by
 refine⟨hd,?_⟩;unfold OA at hm;split
 .rename_i h0;exact absurd h0 h
 .rename_i h1;rw [h1]at hm;exact hm
 .rename_i h0 h1;split at hm
  .rename_i h2;exact absurd h2 h1
  .exact hm
theorem Im{E:Tab}{G:oG}{o:Oper}{s:St}{K:St->Prop}(h:iT o.op=0)(hd:dOK s.m o.dst)(hm:gK E o.op s.t s.h λv=>K (s.put o.dst (some v))):Xf E G o s K:=by
 refine⟨hd,?_⟩;rw [h];exact hm
theorem XZ{m:Nat}{d:Option Nat}(h:TK m d=true):dOK m d:=by
 cases d with
 | none=>trivial
 | some d=>unfold TK at h;exact(by simpa using h:d<m)
theorem afS{s:RSt (std n)}{d tag:Option Nat}{v:SVal}:(s.put (std n) d tag v).h=s.h/\(s.put (std n) d tag v).m=s.m:=by cases d<;>exact⟨rfl,rfl⟩
theorem Wn{N:NM}:PVR N lZ (.tup []):= .tup .nil
theorem Io{X:XT}{E:Tab}(hX:XOK X E){C:Calls aG}{q:List Oper}{ρ:Type}{K:RSt (std n)->(ρ->Prop)->Prop}{r:ρ->Prop}{h0:List aN}{m0:Nat}:∀ {rest:List Oper} {x:St} {s:RSt (std n)},SR x s->(∀k,Keep k h0 s.h)->s.m=m0->dZ (std n) X C q rest K s r->
  yQ E (kW C) q rest (λD=>∃z,SR D z/\(∀k,Keep k h0 z.h)/\z.m=m0/\K z r) x
 | [],x,s,S,hK0,hm0,hk=>⟨s,S,hK0,hm0,hk⟩
 | o::rest,x,s,S,hK0,hm0,hk=>by
  generalize b:dZ (std n) X C q (o::rest) K s=M at hk;unfold dZ at b;split at b
  .rename_i hdst;have hd:dOK x.m o.dst:=by rw [S.m];exact XZ hdst
   have A:∀ {F:St} {s2:RSt (std n)} {tag:Option Nat} {v:SVal},SR F (s2.put (std n) o.dst tag v)->(∀k,Keep k s.h s2.h)->s2.m=s.m->dZ (std n) X C q rest K (s2.put (std n) o.dst tag v) r->
     yQ E (kW C) q rest (λD=>∃z,SR D z/\(∀k,Keep k h0 z.h)/\z.m=m0/\K z r) F:=by
    intro F s2 tag v y H W Q;have w:=afS (n:=n) (s:=s2) (d:=o.dst) (tag:=tag) (v:=v);exact Io hX (rest:=rest) y (λk=>by rw [w.1];exact(hK0 k).trans (H k)) (by rw [w.2,W,hm0]) Q
   have G:∀ {gs:List (GE (std n))},SR x {s with gs:=gs}->∀ {al:List Nat},(∀t∈al,∃e,gs[t]? =some e/\e.g=true)->EvR X E n (nmh s.h) x.t (fZ (std n) (cu (std n) s.t) al):=λS _ a0=>rC (λ_ _=>rfl) S.val a0
   unfold yQ Bf;split at b
   .rename_i hguard;rw [hguard];simp only;split at b
    .rename_i a;have a:iT o.op=0:=by simpa using a
     split at b
     .rename_i ps v hv;subst b;obtain⟨l,hk⟩:=eY hk;rw [Dr]at hk;obtain⟨pv,p1,R⟩:=xA hX S.heap S.gs (tt:=x.t) (λ_ _=>rfl) S.val (cur:=none) (λt h=>by cases h) hv l;refine Im a hd (R _ (A (S.put (tag:=none) ⟨pv,rfl,p1⟩) (λ_=> .refl _ _) rfl hk))
     ·(subst b;exact hk.elim)
    .rename_i a;have a:iT o.op≠0:=by simpa using a
     split at b
     .rename_i cr hcr;subst b;obtain⟨l,hk⟩:=eY hk;obtain⟨v,k,m,hk⟩:=BD hk;obtain⟨v',k',w,_,N⟩:=BA hX S.heap S.len (G S (al:=[]) (λt h=>by simp at h)) hcr l ⟨v,k,m⟩;rw [m]at w;cases w;refine EK a hd (N _ λpv J j O P I L=> ?_);have y:=S.y7 I.same P L;exact A (s2:={s with h:=k}) (y.put (tag:=none) ⟨pv,rfl,O⟩) I.Mv rfl hk
     ·(subst b;exact hk.elim)
   .rename_i j want hguard;rw [hguard];simp only;refine⟨hd,?_⟩;split at b
    .rename_i d hgs;rw [hgs];simp only [tX];have B:=λhb=>Ah S (lk:=cu (std n) s.t) (λ_ _ h=>h) (tt:=x.t) (d:=d) (want:=want) (λ_=>rfl) rfl hb
     split at b
     .rename_i hr;rw [hr]at B;subst b;cases B (by simp)with | skip h=>
      refine h _ _ (A (s2:=s) (S.put (tag:=none) ⟨lZ,rfl,Wn⟩) (λ_=> .refl _ _) rfl hk)
     .rename_i gs t g hr;rw [hr]at B;cases B (by simp)with | run p i c pY V Y=>
      rename_i e;subst c;have u:e.g=true->∀Z,some t=some Z->∃e,gs[Z]? =some e/\e.g=true:=λh Z ht=>by cases ht;exact⟨e,i,h⟩
      split at b
      .rename_i a;have a:iT o.op=0:=by simpa using a
       split at b
       .rename_i ps v hv;subst b;obtain⟨l,hk⟩:=eY hk;cases c:e.g with
        | true=>
         obtain⟨pv,p1,R⟩:=xA hX p.heap p.gs (tt:=x.t) (λ_ _=>rfl) pY (u c) hv (Ag l c);refine V c _ _ (Im a hd (R _ (A (s2:={s with gs:=gs}) (p.put (tag:=some t) ⟨e,i,λ_=>⟨pv,rfl,p1⟩,λh=>by rw [c]at h;cases h⟩) (λ_=> .refl _ _) rfl hk)))
        | false=>
         exact Y c _ _ (A (s2:={s with gs:=gs}) (p.put (tag:=some t) ⟨e,i,λh=>(by rw [c]at h;cases h),λ_=>rfl⟩) (λ_=> .refl _ _) rfl hk)
       ·(subst b;exact hk.elim)
      .rename_i a;have a:iT o.op≠0:=by simpa using a
       split at b
       .rename_i cr hcr;split at b
        .rename_i hpure;subst b;obtain⟨l,hk⟩:=eY hk;obtain⟨v,k,m,hk⟩:=BD hk;cases c:e.g with
         | true=>
          obtain⟨v',k',w,e2,N⟩:=BA hX p.heap p.len (G p (nU p.gs (u c) (f:=gs.length+1))) hcr (Ag l c) ⟨v,k,m⟩;rw [m]at w;cases w;obtain⟨rfl,a5⟩:=e2 hpure;refine V c _ _ (EK a hd (N _ λpv J j O P I L=> ?_));have y:=p.y7 (Same.refl _) P L;exact A (s2:={s with gs:=gs}) (y.put (tag:=some t) ⟨e,i,λ_=>⟨pv,rfl,O⟩,λh=>by rw [c]at h;cases h⟩) (λ_=> .refl _ _) rfl hk
         | false=>
          exact Y c _ _ (A (s2:={s with gs:=gs}) (p.put (tag:=some t) ⟨e,i,λh=>(by rw [c]at h;cases h),λ_=>rfl⟩) (λ_=> .refl _ _) rfl hk)
        .subst b;obtain⟨T,U⟩:(e.g=true->gY (std n) cr.ck (tZ (std n) cr λv h=>dZ (std n) X C q rest K (RSt.put (std n) {s with h:=h,gs:=gs} o.dst none v)) r)/\(e.g=false->dZ (std n) X C q rest K (RSt.put (std n) {s with gs:=zZ (std n) gs t} o.dst none (.tup [])) r):=hk;cases c:e.g with
         | true=>
          obtain⟨l,hk⟩:=eY (T c);obtain⟨v,k,m,hk⟩:=BD hk;obtain⟨v',k',w,e2,N⟩:=BA hX p.heap p.len (G p (nU p.gs (u c) (f:=gs.length+1))) hcr l ⟨v,k,m⟩;rw [m]at w;cases w;refine V c _ _ (EK a hd (N _ λpv J j O P I L=> ?_));have y:=p.y7 I.same P L;exact A (s2:={s with h:=k,gs:=gs}) (y.put (tag:=none) ⟨pv,rfl,O⟩) I.Mv rfl hk
         | false=>
          have hk:=U c;have y:=p.kill i c;exact Y c _ _ (A (s2:={s with gs:=zZ (std n) gs t}) (y.put (tag:=none) ⟨lZ,rfl,Wn⟩) (λ_=> .refl _ _) rfl hk)
       ·(subst b;exact hk.elim)
     ·(subst b;exact hk.elim)
    ·(subst b;exact hk.elim)
  ·(subst b;exact hk.elim)
end
end Go.TX
namespace Go.TX
open Go Go.AE List
variable [aD]
section
variable {n:Nat}
theorem X0{t:Slots}{r:Nat}:∀ {a:List Nat},r∈a->aW (cut t a) r=aW t r
 | [],h=>by simp at h
 | x::a,h=>by
  simp only [cut,aW];split
  .rename_i e;rw [e]
  .rename_i e;cases h with
   | head=>exact absurd rfl e
   | tail _ h=>exact X0 h
theorem ah4{h:List aN}{x:Cell}{y:SC}(a:RC (nmh h) x y){s:Sh}{f:Bool}{v:LV aG}(hk:eO (std n) h s y=some (f,v,[])):∃g,(f=true->g=true)/\ZC x g (lvD s v):=by
 unfold eO at hk;split at hk
 .rename_i f0 lf;split at hk
  .rename_i e;subst e;cases hk;cases a with | d k b=>
   rename_i i l;subst k;rw [EB];refine⟨i || (oK lf).nO,λh=> ?_,.d _ _⟩;rw [jw];cases lf with
   | rows c j=>grind [Leaf.flag,Leaf.scalar]
   | _=>simp [Leaf.scalar]
  .cases hk
 .cases a;split at hk
  .cases hk;exact⟨true,λ_=>rfl,.nil _⟩
  .cases hk
 .rename_i f0 c j;cases a with | clip b=>
  split at hk
  .rename_i e;subst e;cases hk;exact⟨_,b,.clip _ _ _⟩
  .cases hk
 .split at hk
  all_goals simp_all
 .cases hk
theorem Mw{h:List aN}:∀ {d:List Sh} {c:List SC} {b:List Cell} (_:F2 (RC (nmh h)) b c) {f:Bool} {a:List (LV aG)},aL (std n) h d c=some (f,a,[])->∃g,(f=true->g=true)/\ZCs b g (zipWith lvD d a)
 | [],[],b,hF,f,a,hk=>by simp [aL]at hk;obtain⟨rfl,rfl⟩:=hk;cases hF;exact⟨true,λ_=>rfl,.nil⟩
 | [],_::_,_,_,_,_,hk=>by simp [aL]at hk
 | _::_,[],_,_,_,_,hk=>by simp [aL]at hk
 | s::d,y::c,b,hF,f,a,hk=>by
  cases hF with | cons k j=>
  unfold aL at hk;split at hk
  .rename_i f1 v1 l1 hv1;split at hk
   .rename_i g2 vs2 ls2 hv2;split at hk
    .simp only [Option.some.injEq,Prod.mk.injEq,append_eq_nil_iff]at hk;obtain⟨rfl,rfl,rfl,rfl⟩:=hk;obtain⟨e,p,i⟩:=ah4 k hv1;obtain⟨l,o,m⟩:=Mw j hv2;exact⟨e&&l,λh=>by simp_all,.cons i m⟩
    .cases hk
   .cases hk
  .cases hk
theorem Ip{N:NM}:∀ {a:List (Leaf aG)} {b:List Cell} {f:Bool},F2 (RC N) b (a.map (.d f))->∃g,(f=true\/(∀y∈a,y.scalar=true)->g=true)/\ZCs b g (a.map oK)
 | [],_,_,h=>by cases h;exact⟨true,λ_=>rfl,.nil⟩
 | y::a,_,f,.cons h1 h2=>by
  obtain⟨g,l,e⟩:=Ip h2;cases h1 with | d i k=>
  rename_i c j;subst i;refine⟨(c || (oK y).nO)&&g,λh=> ?_,.cons (.d _ _) e⟩
  grind [jw,mem_cons_of_mem]
theorem amC{h:List aN}{p:PV}{q:SVal}(a:PVR (nmh h) p q){c:Co}{f:Bool}{x:c.den}(hk:toX (std n) h c q=some (f,x,[])):∃g,(f=true->g=true)/\ZCs (aP p) g (c.row x):=by
 unfold toX at hk;split at hk
 .rename_i f' c' x';split at hk
  .rename_i e;subst e;cases hk;have d:=a.cells;have j:cellsS (.sv f' c' x')=(fD (std 0) c' x' 0 c'.fields).map (.d f'):=rfl;rw [j]at d;obtain⟨g,i,b⟩:=Ip d;rw [l9]at b
   grind [kF]
  .cases hk
 .cases hk
 .split at hk
  .rename_i f1 ys ls1 h1;split at hk
   .rename_i t ht;simp only [Option.some.injEq,Prod.mk.injEq]at hk;obtain⟨rfl,rfl,rfl⟩:=hk;rw [cB]at h1;obtain⟨g,i,b⟩:=Mw a.cells h1
    grind [Ac]
   .cases hk
  .cases hk
theorem Ue{X:XT}{E:Tab}(hX:XOK X E){t:Slots}{e:Nat->Option SVal}{c:Co}{h:List aN}(l:EvR X E n (nmh h) t e):∀ {a:List (Nat×Operand)} {f:Bool} {b:List c.den} {k:List aN},sD (std n) X e c h a=some (f,b,k,[])->
  ∃g,(f=true->g=true)/\b.length=a.length/\ZPs E t c.size a g (aM c b)
 | [],f,b,k,hk=>by
  simp only [sD,Option.some.injEq,Prod.mk.injEq]at hk;obtain⟨rfl,rfl,_⟩:=hk;exact⟨true,λ_=>rfl,rfl,.nil⟩
 | (i,x)::r,f,b,k,hk=>by
  simp only [sD]at hk;split at hk
  .rename_i v hv;split at hk
   .rename_i f1 y l1 hy;split at hk
    .rename_i g1 ys k1 l2 hys;simp only [Option.some.injEq,Prod.mk.injEq,append_eq_nil_iff]at hk;obtain⟨rfl,rfl,_,rfl,rfl⟩:=hk;obtain⟨pv,u,o⟩:=dx hX l hv;obtain⟨m,C,j⟩:=amC o hy;obtain⟨p,B,z,q⟩:=Ue hX l (h:=h) hys;have w:(aP pv).length=c.size:=by
      have:∀ {cs:List Cell} {g:Bool} {d:List D},ZCs cs g d->cs.length=d.length:=by
       intro cs g d s
       induction s with
       | nil=>rfl
       | cons _ _ A=>simp [A]
      rw [this j,sK]
     exact⟨m&&p,λh=>by simp_all,by simp [z],.cons u w j q⟩
    .cases hk
   .cases hk
  .cases hk
theorem apN{X:XT}{E:Tab}(hX:XOK X E){t:Slots}{e:Nat->Option SVal}{h:List aN}(r:EvR X E n (nmh h) t e){l:Op}{o:List Bool}{v:SVal}(hk:zX (std n) X e h l=some (o,v)):Gv (zA E l t) (nmh h) v:=by
 unfold zX at hk;split at hk
 .rename_i ty len parts;rw [hX.ty]at hk;split at hk
  .rename_i y hy;split at hk
   .rename_i el hd;split at hk
    .rename_i z c hz hco;split at hk
     .rename_i hcond;simp only [Bool.and_eq_true,Bool.not_eq_true',beq_iff_eq,beq_eq_false_iff_ne,ne_eq]at hcond;obtain⟨⟨⟨i,m⟩,a⟩,b⟩:=hcond;have b:=Nat.le_of_ble_eq_true b;obtain⟨s,d,q⟩:=fV hX i;rw [hz]at d;cases d;split at hk
      .rename_i f xs k hps;cases hk;obtain⟨g,p,w,u⟩:=Ue hX r hps;have j:xs.length=len:=by
        have:=congrArg List.length a
        grind
       refine⟨.c (.clip g c.size (aM c xs)),.ofC (.clip p),λK hK=> ?_⟩
       grind [zA,aF,aM,aU]
      .cases hk
     .cases hk
    .cases hk
   .cases hk
  .cases hk
 .cases hk
theorem Mx{E:Tab}{N:NM}{d a:Heap}{ty:TypeId}{pv:PV}{q:SVal}(b:PVR N pv q)(h:∀l∈vM (std n) q,AE.look a l=AE.look d l)(K:PV->Prop):lQ E a ty pv K=lQ E d ty pv K:=by
 have g:∀l f i j,pv= .c (.ptr l f i j)->AE.look a l=AE.look d l:=by
  intro l f i j e;subst e;cases b with | one b=>cases b with | c hc=>
  cases hc with
  | pb=>simp_all [vM]
  | pr _=>simp_all [vM]
 grind [lQ,aF]
theorem stable{X:XT}{E:Tab}(hX:XOK X E){N:NM}{d b:Heap}{t:Slots}{e:Nat->Option SVal}(j:EvR X E n N t e){a:Op}(g:∀l∈gQ (std n) X e a,AE.look b l=AE.look d l)(c:isLoad a=true->∃ty x q,a= .load ty x/\evX (std n) X e x=some q)(K:PV->Prop):
  gK E a t b K=gK E a t d K:=by
 cases hL:isLoad a with
 | false=>rw [yT hL]
 | true=>
  obtain⟨ty,x,q,rfl,f⟩:=c hL;obtain⟨pv,i,h⟩:=dx hX j f;simp only [gQ,f]at g;unfold gK;simp only;rw [i];simp only [aT];exact Mx h g K
def HI(E:Tab)(ops:List Oper)(c:Heap)(h:List aN)(b:List Held)(e:List (Nat×List Nat)):Prop:=∀p∈e,(∀l∈p.2,l<h.length)/\∃o t v,pR b p.1=some (o,t,v)/\
 ∀a,(∀l∈p.2,AE.look a l=AE.look c l)->iL E ops o t a (λd=>d=v)
theorem HI.turn{E:Tab}{ops:List Oper}{f b:Heap}{h k:List aN}{a:List Held}{j:List (Nat×List Nat)}(H:HI E ops f h a j){i:List Nat}(x:iN f h b k i):HI E ops b k a (oJ j i):=by
 intro p d;simp only [oJ,mem_filter]at d;obtain⟨d,hn⟩:=d;obtain⟨g,o,t,v,m,q⟩:=H p d;refine⟨λl c=>Nat.lt_of_lt_of_le (g l c) x.len,o,t,v,m,λe n=>q e λl c=> ?_⟩;have:=all_eq_true.1 hn l c;rw [n l c,(x.keep l (g l c) (by simpa using this)).2]
theorem Ai(a:List (Nat×List Nat)):oJ a []=a:=by grind [oJ,filter_eq_self]
theorem Dt{E:Tab}{ops:List Oper}{d a:Heap}{h k:List aN}{b:List Held}{f:List (Nat×List Nat)}(H:HI E ops d h b f){e:List Nat}(x:iN d h a k e):∀ {cs:List Nat},cs.all (JF f e)=true->N9 E ops a b cs
 | [],_=>trivial
 | j::r,hc=>by
  simp only [all_cons,Bool.and_eq_true]at hc;refine⟨?_,Dt H x hc.2⟩;have i:=hc.1;simp only [JF,any_eq_true,Bool.and_eq_true,beq_iff_eq]at i;obtain⟨p,q,c,g⟩:=i;obtain⟨n,o,t,v,m,u⟩:=H p q;rw [<-c,m];refine u a λl s=>(x.keep l (n l s) ?_).2
  simp_all
theorem HI.push{E:Tab}{ops:List Oper}{h':Heap}{h:List aN}{a:List Held}{j:List (Nat×List Nat)}(H:HI E ops h' h a j){i:Nat}(n:¬(j.any λp=>p.1==i)=true){d:List Nat}{o:Oper}{t:Slots}{v:Option PV}
  (g:∀l∈d,l<h.length) (f:∀b,(∀l∈d,AE.look b l=AE.look h' l)->iL E ops o t b (λk=>k=v)):HI E ops h' h ((i,o,t,v)::a) ((i,d)::j):=by
 intro p c;cases c with
 | head=>exact⟨g,o,t,v,by simp [pR],f⟩
 | tail _ c=>
  obtain⟨s,w,r,k,q,u⟩:=H p c;have m:i≠p.1:=λe=>n (by rw [any_eq_true];exact⟨p,c,by simp [e]⟩)
  grind [LK]
theorem Iq{E:Tab}{X:XT}{N:NM}{t:Slots}{e:Nat->Option SVal}(d:EvR X E n N t e){k:Int}:∀ {l:List (Int×Nat)} {b:Bool},Dp (std n) e k l=some b->∀K:Bool->Prop,K b->Ec t k l K
 | [],b,h,K,a=>by cases h;exact a
 | (k',r)::rest,b,h,K,a=>by
  unfold Dp at h;split at h
  .rename_i f b1 hr;split at h
   .rename_i q hq;cases h;obtain⟨pv,j,i⟩:=d r _ hr;obtain⟨g,rfl⟩:=i.bool;refine⟨g,b1,j,?_⟩;have a:K (bif decide (k=k')then b1 else q):=a;by_cases c:k=k'
    .simp_all
    .rw [if_neg c];rw [decide_eq_false c]at a;exact Iq d hq K a
   .cases h
  .cases h
theorem OB{X:XT}{g:List Oper}{e:Nat->Option SVal}{h:List aN}{f:Op}(c:su f=true):L9 (std n) X g e h f=match zX (std n) X e h f with | some r=>some (some r) | none=>none:=by
 cases f
 case makeMap=>cases c
 case insert=>cases c
 case move=>cases c
 case lookup a b q d=>cases q<;>first | rfl | cases c
 all_goals grind [L9,zX]
theorem map_ok{X:XT}{E:Tab}(hX:XOK X E){ops:List Oper}{t:Slots}{e:Nat->Option SVal}{h:List aN}(k:EvR X E n (nmh h) t e){i:Op}{r:Option (List Bool×SVal)}(hk:L9 (std n) X ops e h i=some r):
  match r with | none=>∀K:Option PV->Prop,K none->zM E ops i t K | some (_,v)=>∃pv,PVR (nmh h) pv v/\∀K:Option PV->Prop,K (some pv)->zM E ops i t K:=by
 by_cases l:su i=true
 .rw [OB l]at hk;split at hk
  .rename_i q hq;cases hk;obtain⟨p,v⟩:=q;obtain⟨pv,j,o⟩:=apN hX k hq
   grind [zP]
  .cases hk
 .cases i
  case makeMap=>cases hk;exact λK h=>h
  case insert a b c v=>
   cases v with
   | tmp r=>
    simp only [L9]at hk;cases hq:e r with
    | some q=>
     rw [hq]at hk;cases hk;obtain⟨pv,j,_⟩:=k _ _ hq;exact λK h=>⟨⟨pv,j⟩,h⟩
    | none=>grind
   | _=>cases hk
  case move x=>
   simp only [L9]at hk;split at hk
   .rename_i hs;cases hk;exact λK h=>⟨hs,h⟩
   .cases hk
  case lookup a b q d=>
   cases q with
   | tmp q=>
    simp only [L9]at hk;split at hk
    .rename_i f m hq;split at hk
     .rename_i bb hb;cases hk;obtain⟨pv,j,o⟩:=k _ _ hq;obtain⟨g,rfl⟩:=o.int;exact⟨_,.ofC (.d rfl λ_=> .inl rfl),λK hK=>⟨g,m,j,Iq k hb _ hK⟩⟩
     .cases hk
    .cases hk
   | _=>exact absurd rfl l
  all_goals exact absurd rfl l
theorem y8{X:XT}{gs:List (GE (std n))}{lk:Nat->Option (SV (std n))}{h:List aN}{cur:Option Nat}{a:Op}{d:List Bool}{v:SVal}(hk:vK (std n) X lk gs h cur a=some (d,v))(b:isLoad a=true):
  (∃ty x q,a= .load ty x/\evX (std n) X (fZ (std n) lk (dM (std n) gs cur)) x=some q)/\∀l∈gQ (std n) X (fZ (std n) lk (dM (std n) gs cur)) a,l<h.length:=by
 cases a<;>simp only [isLoad,Bool.false_eq_true]at b
 rename_i ty x;simp only [vK,TI]at hk;obtain⟨q,c,hk⟩:=dN hk;refine⟨⟨ty,x,q,rfl,c⟩,λl b=> ?_⟩;simp only [gQ,c]at b;unfold LW at hk;split at hk
 .cases hk
 .unfold vM at b;split at b
  all_goals grind
end
end Go.TX
namespace Go.TX
open Go Go.AE List
variable [aD]
section
variable {n:Nat}
theorem BF(gs:List (GE (std n))):dM (std n) gs none=[]:=by unfold dM;rw [Oq];simp
theorem EL{E:Tab}{ops:List Oper}{o:Oper}(a:o.guard=none)(t:Slots)(h:Heap)(K:Option PV->Prop):iL E ops o t h K=gK E o.op t h λv=>K (some v):=by unfold iL;rw [a]
theorem sP{E:Tab}{ops:List Oper}{o:Oper}{j d:Nat}{w:Bool}(a:o.guard=some (j,w))(hd:gslot ops j=some d)(t:Slots)(h:Heap)(K:Option PV->Prop):
 iL E ops o t h K=kP (aW t d) w (gK E o.op t h λv=>K (some v)) (K (some lZ)):=by unfold iL;rw [a];simp only;rw [hd];rfl
theorem JN{X:XT}{E:Tab}(hX:XOK X E){C:Calls aG}{ops:List Oper}{ρ:Type}{K:RSt (std n)->(ρ->Prop)->Prop}{r:ρ->Prop}{h0:List aN}{m0:Nat}:∀ {rest:List eF} {hs:List (Nat×List Nat)} {hs':List Held} {x:St} {s:RSt (std n)},SR x s->(∀k,Keep k h0 s.h)->s.m=m0->
    HI E ops x.h s.h hs' hs->ig (std n) X C ops rest hs K s r->
    dW E (kW C) ops rest hs' (λJ=>∃A,SR J A/\(∀k,Keep k h0 A.h)/\A.m=m0/\K A r) x
  | [],hs,hs',x,s,S,hK0,hm0,HH,hk=>⟨s,S,hK0,hm0,hk⟩
  | (i,rs,cs)::rest,hs,hs',x,s,S,hK0,hm0,HH,hk=>by
    generalize b:ig (std n) X C ops ((i,rs,cs)::rest) hs K s=M at hk;unfold ig at b;unfold dW;split at b
    · (subst b;exact hk.elim)
    · rename_i o ho;rw [ho];simp only [afM];split at b
      · rename_i b4;have hd:dOK x.m o.dst:=by rw [S.m];exact XZ b4
        refine⟨hd,?_⟩;simp only at b;have Q:∀i N,(if rs.contains i then cu (std n) s.t i else none)=some N->cu (std n) s.t i=some N:=λi N h=>by
          split at h
          · exact h
          · cases h
        have Wp:∀d,(if rs.contains d then cu (std n) s.t d else none).isSome->aW (cut x.t rs) d=aW x.t d:=λd h=>by
          split at h
          · rename_i hc;exact X0 (by simpa using hc)
          · cases h
        have F:∀ {gs:List (GE (std n))},SR x {s with gs:=gs}->∀ {al:List Nat},(∀t∈al,∃e,gs[t]? =some e/\e.g=true)->EvR X E n (nmh s.h) (cut x.t rs) (fZ (std n) (λi=>if rs.contains i then cu (std n) s.t i else none) al):=
          λw _ b9=>rC (t':=x.t) Wp (λi N h=>w.val i N (Q i N h)) b9
        have I:∀ {Z:St} {s2:RSt (std n)} {tag:Option Nat} {v:SVal} {b0:List (Nat×List Nat)} {ah5:List Held},SR Z (s2.put (std n) o.dst tag v)->(∀k,Keep k s.h s2.h)->s2.m=s.m->HI E ops Z.h s2.h ah5 b0->ig (std n) X C ops rest b0 K (s2.put (std n) o.dst tag v) r->
            dW E (kW C) ops rest ah5 (λJ=>∃A,SR J A/\(∀k,Keep k h0 A.h)/\A.m=m0/\K A r) Z:=by
          intro Z s2 tag v b0 ah5 V b1 c2 L a0;have H:=afS (n:=n) (s:=s2) (d:=o.dst) (tag:=tag) (v:=v);exact JN hX (rest:=rest) V (λk=>by rw [H.1];exact(hK0 k).trans (b1 k)) (by rw [H.2,c2,hm0]) (by rw [H.1];exact L) a0
        have CY:∀(d:Option Nat) (v:Option PV),(x.put d v).h=x.h:=λd v=>by cases d<;>rfl
        split at b
        ·
          rename_i c;split at b
          · (subst b;exact hk.elim)
          rename_i O;split at b
          · rename_i a;rw [c];split at b
            · rename_i ps v y;subst b;obtain⟨u,hk⟩:=eY hk;rw [Dr]at hk;have pY:∀i N,(if rs.contains i then cu (std n) s.t i else none)=some N->Af s.gs x.t (nmh s.h) i N:=λi N h=>S.val i N (Q i N h)
              obtain⟨pv,p1,U⟩:=xA hX S.heap S.gs Wp pY (cur:=none) (λt h=>by cases h) y u;simp only;rw [EL a];have a5:=F S (al:=dM (std n) s.gs none) (λt h=>by rw [BF]at h;simp at h);rw [BF]at a5;have a9:=λR=>y8 y R
              rw [BF]at a9;have c1:∀z,(∀l∈gQ (std n) X (fZ (std n) (λi=>if rs.contains i then cu (std n) s.t i else none) []) o.op,AE.look z l=AE.look x.h l)->iL E ops o (cut x.t rs) z (λv'=>v'=some pv):=λz hh=>by
                rw [EL a,stable hX a5 hh (λR=>(a9 R).1)];exact U _ rfl
              have a7:∀l∈gQ (std n) X (fZ (std n) (λi=>if rs.contains i then cu (std n) s.t i else none) []) o.op,l<s.h.length:=λl W=>by
                cases R:isLoad o.op with
                | true=>exact(a9 R).2 l W
                | false => unfold gQ at W; split at W
                           · rename_i Y;rw [Y]at R;simp [isLoad]at R
                           · simp at W
              exact U _ (I (s2:=s) (S.put (tag:=none) ⟨pv,rfl,p1⟩) (λ_=> .refl _ _) rfl (by rw [CY];exact HH.push O a7 c1) hk)
            · (subst b;exact hk.elim)
          · rename_i j want a;rw [c];split at b
            · rename_i d B;have q:=λhb=>Ah S (lk:=λi=>if rs.contains i then cu (std n) s.t i else none) Q (tt:=cut x.t rs) (d:=d) (want:=want) (Wp d) rfl hb
              simp only;rw [sP a B];split at b
              · rename_i P;rw [P]at q;subst b;cases q (by simp)with | skip h=>
                refine h _ _ (I (s2:=s) (S.put (tag:=none) ⟨lZ,rfl,Wn⟩) (λ_=> .refl _ _) rfl (by rw [CY];exact HH.push O (λl W=>by simp at W) (λz _=>by rw [sP a B];exact h _ _ rfl)) hk)
              · rename_i gs t g P;rw [P]at q;cases q (by simp)with | run w m p pY hT hF=>
                rename_i e;subst p;split at b
                · rename_i ps v y;subst b;obtain⟨u,hk⟩:=eY hk;have a7:∀l∈gQ (std n) X (fZ (std n) (λi=>if rs.contains i then cu (std n) s.t i else none) (dM (std n) gs (some t))) o.op,l<s.h.length:=λl W=>by
                    cases R:isLoad o.op with
                    | true=>exact(y8 y R).2 l W
                    | false => unfold gQ at W; split at W
                               · rename_i Y;rw [Y]at R;simp [isLoad]at R
                               · simp at W
                  cases p:e.g with
                  | true=>
                    have G:∀t0,some t=some t0->∃e,gs[t0]? =some e/\e.g=true:=λt0 ht=>by cases ht;exact⟨e,m,p⟩
                    obtain⟨pv,p1,U⟩:=xA hX w.heap w.gs Wp (λi N h=>pY i N (Q i N h)) G y (Ag u p);have a5:EvR X E n (nmh s.h) (cut x.t rs) (fZ (std n) (λi=>if rs.contains i then cu (std n) s.t i else none) (dM (std n) gs (some t))):=F w (nU w.gs G (f:=gs.length+1));refine hT p _ _ (U _ (I (s2:={s with gs:=gs}) (w.put (tag:=some t) ⟨e,m,λ_=>⟨pv,rfl,p1⟩,λh=>by rw [p]at h;cases h⟩) (λ_=> .refl _ _) rfl (by
                      rw [CY];refine HH.push O a7 (λz hh=> ?_);rw [sP a B,stable hX a5 hh (λR=>(y8 y R).1)];exact hT p _ _ (U _ rfl)) hk))
                  | false=>
                    exact hF p _ _ (I (s2:={s with gs:=gs}) (w.put (tag:=some t) ⟨e,m,λh=>(by rw [p]at h;cases h),λ_=>rfl⟩) (λ_=> .refl _ _) rfl (by
                      rw [CY];refine HH.push O a7 (λz hh=> ?_);rw [sP a B];exact hF p _ _ rfl) hk)
                · (subst b;exact hk.elim)
              · (subst b;exact hk.elim)
            · (subst b;exact hk.elim)
        · rename_i c;rw [c];simp only;unfold zN;split at b
          · rename_i a;rw [a];simp only;split at b
            · rename_i ps v y;subst b;obtain⟨u,hk⟩:=eY hk;obtain⟨pv,p1,U⟩:=map_ok hX (ops:=ops) (F S (al:=[]) (λt h=>by simp at h)) y;exact U _ (I (s2:=s) (S.put (tag:=none) ⟨pv,rfl,p1⟩) (λ_=> .refl _ _) rfl (by rw [CY];exact HH) hk)
            · rename_i y;subst b;have U:=map_ok hX (ops:=ops) (F S (al:=[]) (λt h=>by simp at h)) y;refine U _ ?_;have H:=amA (n:=n) (s:=s) (d:=o.dst);exact JN hX (rest:=rest) S.del (λk=>by rw [H.1];exact hK0 k) (by rw [H.2,hm0]) (by rw [H.1,CY];exact HH) hk
            · (subst b;exact hk.elim)
          · rename_i j want a;rw [a];simp only;split at b
            · rename_i d B;rw [B];simp only [tX];have q:=λhb=>Ah S (lk:=λi=>if rs.contains i then cu (std n) s.t i else none) Q (tt:=cut x.t rs) (d:=d) (want:=want) (Wp d) rfl hb
              split at b
              · rename_i P;rw [P]at q;subst b;cases q (by simp)with | skip h=>
                exact h _ _ (I (s2:=s) (S.put (tag:=none) ⟨lZ,rfl,Wn⟩) (λ_=> .refl _ _) rfl (by rw [CY];exact HH) hk)
              · rename_i gs t g P;rw [P]at q;cases q (by simp)with | run w m p pY hT hF=>
                rename_i e;subst p;split at b
                · rename_i ps v y;subst b;obtain⟨u,hk⟩:=eY hk;cases p:e.g with
                  | true=>
                    obtain⟨pv,p1,U⟩:=map_ok hX (ops:=ops) (F w (nU w.gs (λt0 ht=>by cases ht;exact⟨e,m,p⟩) (f:=gs.length+1))) y;exact hT p _ _ (U _ (I (s2:={s with gs:=gs}) (w.put (tag:=some t) ⟨e,m,λ_=>⟨pv,rfl,p1⟩,λh=>by rw [p]at h;cases h⟩) (λ_=> .refl _ _) rfl (by rw [CY];exact HH) hk))
                  | false=>
                    exact hF p _ _ (I (s2:={s with gs:=gs}) (w.put (tag:=some t) ⟨e,m,λh=>(by rw [p]at h;cases h),λ_=>rfl⟩) (λ_=> .refl _ _) rfl (by rw [CY];exact HH) hk)
                · (subst b;exact hk.elim)
              · (subst b;exact hk.elim)
            · (subst b;exact hk.elim)
        · rename_i c;rw [c];split at b
          · rename_i P y;subst b;obtain⟨u,hk⟩:=eY hk;have b8:EvR X E n (nmh s.h) [] (λ_=>none):=λi v h=>by cases h
            obtain⟨pv,z,j,q1,q2,q3,q4,q5⟩:=JL hX S.heap S.len b8 y u;simp only;have V:=S.y7 q3.same q2 q4;have b2:P.touched=[]:=by
              unfold kindOf at c;split at c
              · rename_i ty Y;rw [Y]at y;simp only [Es]at y;split at y
                · split at y
                  · split at y<;>(cases y;rfl)
                  · cases y;rfl
                  · cases y
                · cases y
              all_goals first | cases c | (split at c<;>cases c)
            have L:=HH.turn q3;rw [b2,Ai]at L;exact q5 _ (I (s2:={s with h:=P.h}) (V.put (tag:=none) ⟨pv,rfl,q1⟩) q3.Mv rfl (by cases o.dst<;>exact L) hk)
          · (subst b;exact hk.elim)
        · rename_i b5 b7 a0;split at b
          · rename_i a;split at b
            · rename_i cr a8;split at b
              · rename_i a6;subst b;obtain⟨u,hk⟩:=eY hk;obtain⟨v,k,D,hk⟩:=BD hk;obtain⟨v',k',H,_,e3⟩:=BA hX S.heap S.len (F S (al:=[]) (λt h=>by simp at h)) a8 u ⟨v,k,D⟩;rw [D]at H;cases H;split
                · rename_i h;exact absurd h b5
                · rename_i h;exact absurd h b7
                · rename_i h;exact absurd h a0
                · rw [a];refine e3 _ λpv z j a1 a2 T a4=>⟨Dt HH T a6,?_⟩
                  have V:=S.y7 T.same a2 a4;exact I (s2:={s with h:=k}) (V.put (tag:=none) ⟨pv,rfl,a1⟩) T.Mv rfl (by cases o.dst<;>exact HH.turn T) hk
              · (subst b;exact hk.elim)
            · (subst b;exact hk.elim)
          · rename_i j want a;split at b
            · rename_i d B;have q:=λhb=>Ah S (lk:=λi=>if rs.contains i then cu (std n) s.t i else none) Q (tt:=cut x.t rs) (d:=d) (want:=want) (Wp d) rfl hb
              have b6:kP (aW (cut x.t rs) d) want
                  (VQ E (kW C) o (cut x.t rs) x λv h k=>N9 E ops h hs' cs/\dW E (kW C) ops rest hs' (λJ=>∃A,SR J A/\(∀k,Keep k h0 A.h)/\A.m=m0/\K A r) (St.put {x with h:=h,k:=k} o.dst (some v)))
                  (dW E (kW C) ops rest hs' (λJ=>∃A,SR J A/\(∀k,Keep k h0 A.h)/\A.m=m0/\K A r) (x.put o.dst (some lZ))):=by
                split at b
                · rename_i P;rw [P]at q;subst b;cases q (by simp)with | skip h=>
                  exact h _ _ (I (s2:=s) (S.put (tag:=none) ⟨lZ,rfl,Wn⟩) (λ_=> .refl _ _) rfl (by rw [CY];exact HH) hk)
                · rename_i gs t g P;rw [P]at q;cases q (by simp)with | run w m p pY hT hF=>
                  rename_i e;subst p;have G:e.g=true->∀t0,some t=some t0->∃e,gs[t0]? =some e/\e.g=true:=λh t0 ht=>by cases ht;exact⟨e,m,h⟩
                  split at b
                  · rename_i cr a8;split at b
                    · rename_i a6;split at b
                      · rename_i b3;subst b;obtain⟨u,hk⟩:=eY hk;obtain⟨v,k,D,hk⟩:=BD hk;cases p:e.g with
                        | true=>
                          obtain⟨v',k',H,e2,e3⟩:=BA hX w.heap w.len (F w (nU w.gs (G p) (f:=gs.length+1))) a8 (Ag u p) ⟨v,k,D⟩;rw [D]at H;cases H;obtain⟨rfl,b2⟩:=e2 b3;refine hT p _ _ (e3 _ λpv z j a1 a2 T a4=>⟨Dt HH T a6,?_⟩);have V:=w.y7 (Same.refl _) a2 a4;have L:=HH.turn T;rw [b2,Ai]at L;exact I (s2:={s with gs:=gs}) (V.put (tag:=some t) ⟨e,m,λ_=>⟨pv,rfl,a1⟩,λh=>by rw [p]at h;cases h⟩) (λ_=> .refl _ _) rfl (by cases o.dst<;>exact L) hk
                        | false=>
                          exact hF p _ _ (I (s2:={s with gs:=gs}) (w.put (tag:=some t) ⟨e,m,λh=>(by rw [p]at h;cases h),λ_=>rfl⟩) (λ_=> .refl _ _) rfl (by rw [CY];exact HH) hk)
                      · subst b;obtain⟨c3,c0⟩:(e.g=true->gY (std n) cr.ck (tZ (std n) cr λv h=>ig (std n) X C ops rest (oJ hs cr.touched) K (RSt.put (std n) {s with h:=h,gs:=gs} o.dst none v)) r)/\(e.g=false->ig (std n) X C ops rest hs K (RSt.put (std n) {s with gs:=zZ (std n) gs t} o.dst none (.tup [])) r):=hk;cases p:e.g with
                        | true=>
                          obtain⟨u,hk⟩:=eY (c3 p);obtain⟨v,k,D,hk⟩:=BD hk;obtain⟨v',k',H,e2,e3⟩:=BA hX w.heap w.len (F w (nU w.gs (G p) (f:=gs.length+1))) a8 u ⟨v,k,D⟩;rw [D]at H;cases H;refine hT p _ _ (e3 _ λpv z j a1 a2 T a4=>⟨Dt HH T a6,?_⟩);have V:=w.y7 T.same a2 a4;exact I (s2:={s with h:=k,gs:=gs}) (V.put (tag:=none) ⟨pv,rfl,a1⟩) T.Mv rfl (by cases o.dst<;>exact HH.turn T) hk
                        | false=>
                          have hk:=c0 p;have V:=w.kill m p;exact hF p _ _ (I (s2:={s with gs:=zZ (std n) gs t}) (V.put (tag:=none) ⟨lZ,rfl,Wn⟩) (λ_=> .refl _ _) rfl (by rw [CY];exact HH) hk)
                    · (subst b;exact hk.elim)
                  · (subst b;exact hk.elim)
                · (subst b;exact hk.elim)
              split
              · rename_i h;exact absurd h b5
              · rename_i h;exact absurd h b7
              · rename_i h;exact absurd h a0
              · rw [a];simp only;rw [B];exact b6
            · (subst b;exact hk.elim)
      · (subst b;exact hk.elim)
end
end Go.TX
namespace Go.TX
open Go Go.AE List
variable [aD]
section
variable {n:Nat}
theorem Ir{s:RSt (std n)}:∀ {l:List (Nat×SkV)} {a e:ES (std n)},vN (std n) s.t s.h l a=some e->
  ∃b,F2 (λi v=>cu (std n) s.t i=some ⟨none,v⟩) (l.map (·.1)) b/\pV (std n) s.h (l.map (·.2)) b a=some e
 | [],a,e,h=>by simp only [vN,Option.some.injEq]at h;subst h;exact⟨[],.nil,rfl⟩
 | p::l,a,e,h=>by
  simp only [vN]at h;split at h
  .rename_i v hl;split at h
   .rename_i e1 h1;obtain⟨b,c,d⟩:=Ir (l:=l) h;exact⟨v::b,.cons hl c,by grind [pV]⟩
   .cases h
  .cases h
theorem JO{k:Nat}{os:List SkO}{i:Nat}(a:i<k)(b:i<os.length):(es0 (std n) k os).ren[i]? =some (if sG os[i]? then none else some (some i)):=by
 have c:Nat.blt i k=true:=by simpa using a
 grind [es0,getElem?_range,sG]
theorem JQ(k:Nat)(os:List SkO):(es0 (std n) k os).ren.length=os.length:=by simp [es0]
theorem JR{c:Ctx}{w:World}{N:NM}{us:List Value}{e:List SVal}(h:F2 (WV c w N) us e):∃d,F2 (bG c w) us d/\F2 (PVR N) d e:=by
 induction h with
 | nil=>exact⟨[],.nil,.nil⟩
 | cons i _ f=>
  obtain⟨p,a,b⟩:=i;obtain⟨d,g,j⟩:=f;exact⟨p::d,.cons a g,.cons b j⟩
theorem EM{N:NM}:∀ {b:List Nat} {d:List SVal} {a:List PV},F2 (PVR N) a d->∀i c,cu (std n) (b.zip (d.map λv=>(⟨none,v⟩:SV (std n)))) i=some c->c.tag=none/\∃pv,aW (b.zip (a.map some)) i=some pv/\PVR N pv c.v
 | [],d,a,_,i,c,h=>by simp [cu]at h
 | j::b,[],a,hF,i,c,h=>by simp [cu]at h
 | j::b,v::d,a,hF,i,c,h=>by
  cases hF with | cons f h2=>
  simp only [map_cons,zip_cons_cons,oN]at h ⊢;simp only [aW];split at h
  .grind
  .rename_i e;rw [if_neg e];exact EM h2 i c h
theorem EN{c:Ctx}{w:World}{a:Act}:∀ {d:List Nat} {us:List Value} {b:List PV},F2 (bG c w) us b->F2 (λi u=>a.tmps[i]? =some u) d us->∀i v,aW (d.zip (b.map some)) i=some v->∃u,a.tmps[i]? =some u/\bG c w u v
 | [],us,b,_,_,i,v,h=>by simp [aW]at h
 | j::d,us,b,hF,hI,i,v,h=>by
  cases hI with | cons g e=>
  cases hF with | cons f h2=>
  simp only [map_cons,zip_cons_cons,aW]at h;split at h
  .simp_all
  .exact EN h2 e i v h
theorem EO{E:Tab}{d:St}{s:RSt (std n)}(S:SR d s){c:Ctx}{w:World}{a:Act}(A:mQ E d c w a):∀ {b:List Nat} {e:List SVal},F2 (λi v=>cu (std n) s.t i=some ⟨none,v⟩) b e->∃us,F2 (λi u=>a.tmps[i]? =some u) b us/\F2 (WV c w (nmh s.h)) us e
 | [],_,h=>by cases h;exact⟨[],.nil,.nil⟩
 | i::b,_,.cons h1 h2=>by
  obtain⟨us,g,m⟩:=EO S A h2;obtain⟨pv,j,f⟩:=S.val i _ h1;obtain⟨u,l,k⟩:=A.abs.slot i pv j;exact⟨u::us,.cons l g,.cons ⟨pv,k,f⟩ m⟩
def νX(e:ES (std n))(h:List aN)(c:Ctx)(i:Nat):Option (Nat×Nat):=match e.ren[i]? with | some (some (some l))=>EH (trK e h i l) (c.ν l) | some (some none)=>none | _=>c.ν i
theorem MB(w:World)(K:Bool->Nat->Prop)(ν:Nat->Option (Nat×Nat))(k:Nat)(a:∀f b,K f b->b<w.heap.size)(c:∀b,K true b->K false b):bH {K:=K,ν:=ν,n:=k} w []:=
 ⟨λl o h=>by simp [AE.look]at h,λl o e g b h=>by simp [AE.look]at h,λf b ⟨l,o,d,_⟩=>by simp [AE.look]at d,a,c⟩
theorem JU{E:Tab}{k:Nat}{p:gL}{s:RSt (std n)}{ck:List Bool}{x:iD p.tys}(y:Ew (std n) k p s=some (ck,x))(J:∀b∈ck,b=true){s':St}(S:SR s' s){c:Ctx}{w:World}{a:Act}(A:mQ E s' c w a)
  {V:Ctx} {w0:World} {r:Heap} (b8:V.n=k) (g:Grow V w0 r c w s'.h) {m:Nat} (hm:s.m=m):
  ∃c2 I,Grow V w0 r c2 w I.h/\mQ E I c2 w a/\SR I (uf (std n) p m x)/\Keep k s.h (uf (std n) p m x).h/\(uf (std n) p m x).m=m:=by
 unfold Ew at y;split at y
 .cases y
 rename_i F;have F:k<=p.objs.length:=by simp_all
 split at y
 .rename_i e1 he1;split at y
  .rename_i e he;split at y
   .rename_i jE;split at y
    .rename_i x' hx';cases y;have jE:=JM jE;obtain⟨vs,v1,v2⟩:=Ir he1;obtain⟨us,u1,u2⟩:=EO S A v1;obtain⟨T,a8,a1,M,a3,a4⟩:=vQ (λi=>i) v2;obtain⟨Q,D,b1,O,b3,b4,b5⟩:=rz (λi=>i) (λ_=>(.gone .i64 0:aN)) (λ_=>⟨.i64,0,rfl⟩) he;have b6:e.lv.reverse=T++Q:=by grind [es0]
     have X:=unpack_pack hx';rw [b6]at X;have a5:e.ren.length=p.objs.length:=by rw [O.len,M.len,JQ]
     have U:∀(j:Nat) (kk:SkO),p.objs[j]? =some kk->∃R,D[j]? =some R/\OF e s.h (λi=>i) j kk (.gone .i64 0) R:=λj kk hj=>by
      obtain⟨R,G,C⟩:=b5 e (.refl _) j kk hj;simp_all
     have Cr:uf (std n) p m x={t:=(p.slots.map (·.1)).zip (a8.map λv=>(⟨none,v⟩:SV (std n))),gs:=[],h:=D,m:=m}:=by
      unfold uf;rw [X,a3];simp only;have:=b3 [];simp_all
     have H:=A.abs.heap
     obtain⟨o',m1,m2,m3,m4,m5,_⟩:=yZ (ks:=p.objs) (nm:=λi=>i) (old:=λ_=>(.gone .i64 0:aN)) H S.heap J jE a5 b4 U (cb:={K:=λ_ _=>False,ν:=νX e s.h c,n:=k}) (hb':=[])
      (MB w _ _ _ (λ_ _ h=>h.elim) (λ_ h=>h)) false (λh=>by cases h) (ν2:=νX e s.h c) (n2:=p.objs.length) F (λ_ _=>rfl) (λi L=>L) (λi j _ _ h=>h)
      (λi l L=>by grind [νX]) (λi L=>by grind [νX]) (h2:=D) (λi _=>rfl)
      (λl o z ho=>by grind) (λ_ _=>rfl)
      (λb ⟨l,o,z,_⟩ _=>by simp [AE.look]at z) (λf b h _=>h) (λf b ⟨l,o,z,_⟩ _=>by simp [AE.look]at z)
     have a9:∀l,l<k->νX e s.h c l=c.ν l:=λl z=>by
      have r:=JO (n:=n) z (Nat.lt_of_lt_of_le z F) (os:=p.objs);unfold νX;by_cases P:sG p.objs[l]? =true
      .have N:p.objs[l]? =some .gone:=by grind [sG]
       cases hr:e.ren[l]? with
       | none=>rfl
       | some q=>
        cases q with
        | none=>rfl
        | some v=>exact absurd N (jE.gone hr)
      .rw [if_neg P]at r;have:=O.ren l _ (M.ren l _ r);rw [this];have ht:jH (std n) e l=none:=by rw [O.tr l _ (M.ren l _ r),M.tr l _ r];rfl
       show EH (trK e s.h l l) (c.ν l)=c.ν l;rw [oM ht,kG]
     have b0:Grow V w0 r {K:=λf b=>False\/KX e c false f b,ν:=νX e s.h c,n:=p.objs.length} w (uj (λi=>i) o' (range p.objs.length) []):=by
      refine⟨⟨λf b B=> .inr (.inl (by simpa using g.le.K f b B)),by simp_all,λl z=> ?_⟩,g.size,g.stays,g.kept,λf b B=> ?_,λb B=> ?_,g.os,g.tape,g.output⟩
      .show νX e s.h c l=V.ν l;rw [a9 l ah];exact g.le.ν l z
      .rcases B with B | B | ⟨l,f',G,C,Z⟩
       .exact B.elim
       .exact g.xK f b (by simpa using B)
       .obtain⟨_,g',cc,xs,z⟩:=jE.fro l f' G;obtain⟨R,a7,hO⟩:=S.heap.old l _ z;cases hO with | rows _=>
        exact .inr ((g.qx b ⟨l,_,a7,trivial,C⟩).elim .inr .inl)
      .rcases m4 b B with⟨l,o,z,_⟩ | ⟨i,lq,q,_,G,C,Z⟩
       .simp [AE.look]at z
       .exact g.qx b ⟨lq,q,G,C,Z⟩
     obtain⟨a6,p1,p2⟩:=JR (a4 H S.heap (O) J m3 (λh=>by cases h) u2);refine⟨_,{t:=(p.slots.map (·.1)).zip (a6.map some),h:=uj (λi=>i) o' (range p.objs.length) [],n:=p.objs.length,k:=0,m:=m},b0,⟨⟨λi v hv=>EN p1 u1 i v hv,m1,?_⟩,rfl,A.defers,by rw [A.size,S.m,hm]⟩,?_,?_,by rw [Cr]⟩
     .intro gg d hd;obtain⟨G,u,C,Z⟩:=A.abs.glob gg d hd;exact⟨.inr (.inl (by simpa using G)),u,C,Z.mono' λb B=> .inr (.inl (by simpa using B))⟩
     .rw [Cr];refine⟨m2,by simp [nm,b4],rfl,λi sv L=> ?_,λt e he=>by simp at he⟩
      grind [EM,Af]
     .rw [Cr];intro i L;have W:i<p.objs.length:=Nat.lt_of_lt_of_le L F;have a0:p.objs[i]? =some p.objs[i]:=getElem?_eq_getElem W;obtain⟨R,G,C⟩:=U i _ a0;have r:=JO (n:=n) L W;by_cases P:p.objs[i]= .gone
      .have:Gone D i:=⟨.i64,0,by rw [G,C.gone P]⟩;simp_all
      .have hig:sG p.objs[i]? =false:=by grind [sG,absurd,Option.some.inj]
       rw [hig]at r;have r:(es0 (std n) k p.objs).ren[i]? =some (some (some i)):=by simpa using r
       have Y:=O.ren i _ (M.ren i _ r);have b7:jH (std n) e i=none:=by rw [O.tr i _ (M.ren i _ r),M.tr i _ r];rfl
       refine⟨λ⟨cc,nn,N⟩=> ?_,λx y=> .inr ?_⟩
       .obtain⟨oo,r1,r2,r3,r4⟩:=C.rel H S.heap J m3 (λh=>by cases h);obtain⟨o3,h3,h4⟩:=r4 i P Y;obtain⟨o4,h5,h6⟩:=S.heap.old i _ N;rw [h3]at h5;cases h5;cases h6;exact h4.elim
       .have:=C.s1 i x.1 x.2 P Y (by rw [y])
        grind [nmh]
    .cases y
   .cases y
  .cases y
 .cases y
end
end Go.TX
namespace Go.TX
open Go Go.AE List
variable [aD]
section
variable {n:Nat}
def LX(E:Tab)(g:Ctx)(f:World)(h0:Heap)(k:Nat)(d:List aN)(m0:Nat){ρ:Type}(K:Exit->RSt (std n)->(ρ->Prop)->Prop)(r:ρ->Prop):Exit->Act->World->Prop
 | .outgrown,_,_=>False
 | .panic _,_,_=>False
 | .goto _,_,_=>False
 | e,a,w=>∃c b s,Grow g f h0 c w b.h/\mQ E b c w a/\SR b s/\Keep k d s.h/\s.m=m0/\K e s r
theorem OC{E:Tab}{B:Ctx}{F:World}{D:Heap}{k:Nat}{C:List aN}{z:Nat}(G:B.n=k){v:Code}{a:Act}{w:World}{x:gL}{pl:Bool}{s:RSt (std n)}(hs:s.m=z){ρ:Type}{K:Exit->RSt (std n)->(ρ->Prop)->Prop}{r:ρ->Prop}
  {W: {σ:Type}->(Exit->RSt (std n)->(σ->Prop)->Prop)->(σ->Prop)->Prop} (N:∀ {σ:Type} {P:Exit->RSt (std n)->(σ->Prop)->Prop} {M:σ->Prop},W P M->v.wp E.P (LX E B F D k C z P M) a w)
  (h:Ou (std n) k x pl s K W r):v.wp E.P (LX E B F D k C z K r) a w:=by
 have step:∀ {t:iD x.tys} {f:RSt (std n)} {y:List Bool},Ew (std n) k x f=some (y,t)->(∀b∈y,b=true)->K .normal (uf (std n) x s.m t) r->∀ {c l a w},Grow B F D c w l.h->mQ E l c w a->SR l f->Keep k C f.h->f.m=z->LX E B F D k C z K r .normal a w:=by
  intro t f y Y R O c l a w g A S hK hm;obtain⟨c2,H,V,A2,Z,U,J⟩:=JU Y R S A G g hm;rw [hs]at O;exact⟨c2,H,_,V,A2,Z,hK.trans U,J,O⟩
 unfold Ou at h;split at h
 .refine wp_mono (N h) ?_;intro e X Q j;cases e with
  | outgrown=>exact j.elim
  | panic _=>exact j
  | goto _=>exact j
  | normal=>
   obtain⟨c,l,f,q,u,m,p,o,d⟩:=j;simp only at d;rcases hx:Ew (std n) k x f with _ | ⟨y,T⟩
   .rw [hx]at d;exact d.elim
   .rw [hx]at d;obtain⟨I,L⟩:=eY d;exact step hx I L q u m p o
  | ret=>obtain⟨c,l,f,q,u,m,p,o,d⟩:=j;exact d.elim
  | exit i=>obtain⟨c,l,f,q,u,m,p,o,d⟩:=j;exact d.elim
 .refine wp_mono (N h) ?_;intro e X Q j;cases e with
  | outgrown=>exact j.elim
  | panic _=>exact j
  | goto _=>exact j
  | normal=>
   obtain⟨c,l,f,q,u,m,p,o,d⟩:=j;simp only at d;rcases hx:Ew (std n) k x f with _ | ⟨y,T⟩
   .rw [hx]at d;exact d.elim
   .rw [hx]at d;obtain⟨I,L⟩:=eY d;exact step hx I L q u m p o
  | ret=>obtain⟨c,l,f,q,u,m,p,o,d⟩:=j;exact⟨c,l,f,q,u,m,p,o,d⟩
  | exit i=>obtain⟨c,l,f,q,u,m,p,o,d⟩:=j;exact⟨c,l,f,q,u,m,p,o,d⟩
section
variable {X:XT} {E:Tab} (hE:aH E) (hX:XOK X E) {C:Calls aG} (hG:qz E (kW C)) (hm:E.P.follows .mixedOrders=true) {ord:Nat->List eF} {chk:Nat->Array Oper->Nat->Bool} (MC:∀id ops m,chk id ops m=true->Static E ord id ops m)
 {c0:Ctx} {w0:World} {h0:Heap} {k:Nat} {H0:List aN} {m0:Nat} (hc0:c0.n=k)
include hE hX hG hm MC
theorem ah6{id:Nat}{d:Array Oper}{draw:Bool}{s:RSt (std n)}{ρ:Type}{K:Exit->RSt (std n)->(ρ->Prop)->Prop}{r:ρ->Prop}
  (h:(if draw then(if chk id d s.m then ig (std n) X C d.toList (ord id) [] (λs=>K .normal s) s else(std n).fail)else dZ (std n) X C d.toList d.toList (λs=>K .normal s) s:(std n).M ρ) r)
  {l:St} {c:Ctx} {w:World} {a:Act} (A:mQ E l c w a) (g:Grow c0 w0 h0 c w l.h) (S:SR l s) (hK:Keep k H0 s.h) (v:s.m=m0):(Code.region id d draw).wp E.P (LX E c0 w0 h0 k H0 m0 K r) a w:=by
 have fin:∀ {e:Exit} {a:Act} {w:World},x9 E c0 w0 h0 (λe b=>e= .normal/\∃f,SR b f/\(∀k,Keep k s.h f.h)/\f.m=m0/\K .normal f r) e a w->LX E c0 w0 h0 k H0 m0 K r e a w:=by
  intro e a w j;cases e with
  | outgrown=>exact j.elim
  | panic _=>exact j
  | goto _=>exact j
  | normal=>obtain⟨c,b,t,u,_,f,x,z,y,D⟩:=j;exact⟨c,b,f,t,u,x,hK.trans (z k),y,D⟩
  | ret=>obtain⟨c,b,t,u,q,_⟩:=j;cases q
  | exit i=>obtain⟨c,b,t,u,q,_⟩:=j;cases q
 split at h
 .rename_i hd;subst hd;split at h
  .rename_i hc;have m:=MC _ _ _ hc;have o:=JN hX (h0:=s.h) (m0:=m0) (hs':=[]) S (λ_=> .refl _ _) v (λp B=>by simp at B) h;refine wp_mono (ahR hE hG hm ord id d (λe b=>e= .normal/\∃f,SR b f/\(∀k,Keep k s.h f.h)/\f.m=m0/\K .normal f r) l c0 w0 h0 c w a A g ⟨by rw [S.m];exact m,?_⟩) λe a w=>fin
   simpa using o
  .exact h.elim
 .rename_i hd;have:draw=false:=by simpa using hd
  subst this;have o:=Io hX (h0:=s.h) (m0:=m0) S (λ_=> .refl _ _) v h;refine wp_mono (wp_region_list (zO hE hG (Q:=λe b=>e= .normal/\∃f,SR b f/\(∀k,Keep k s.h f.h)/\f.m=m0/\K .normal f r) d d.toList A g ?_)) λe a w=>fin
  simpa using o
end
end
end Go.TX
namespace Go.TX
open Go Go.AE List
variable [aD]
section
variable {n:Nat}
variable {X:XT} {E:Tab} (hE:aH E) (hX:XOK X E) {C:Calls aG} (hG:qz E (kW C)) (hm:E.P.follows .mixedOrders=true) {ord:Nat->List eF} {chk:Nat->Array Oper->Nat->Bool} (MC:∀id ops m,chk id ops m=true->Static E ord id ops m)
 {c0:Ctx} {w0:World} {h0:Heap} {k:Nat} {H0:List aN} {m0:Nat} (hc0:c0.n=k)
include hE hX hG hm MC hc0
theorem nW:∀(Q:Code) {ρ:Type} {m:Ann} {s:RSt (std n)} {K:Exit->RSt (std n)->(ρ->Prop)->Prop} {r:ρ->Prop},bK (std n) X C ord chk k m Q s K r->∀ {d:St} {c:Ctx} {w:World} {a:Act},mQ E d c w a->Grow c0 w0 h0 c w d.h->SR d s->Keep k H0 s.h->s.m=m0->
  Q.wp E.P (LX E c0 w0 h0 k H0 m0 K r) a w
 | .skip,ρ,m,s,K,r,h,d,c,w,a,A,g,S,hK,hs=>by
  have h:K .normal s r:=by cases m<;>exact h
  exact wp_skip ⟨c,d,s,g,A,S,hK,hs,h⟩
 | .region id ops draw,ρ,m,s,K,r,h,d,c,w,a,A,g,S,hK,hs=>by
  have R:∀ {σ:Type} {F:Exit->RSt (std n)->(σ->Prop)->Prop} {H:σ->Prop},(if draw then(if chk id ops s.m then ig (std n) X C ops.toList (ord id) [] (λs=>F .normal s) s else(std n).fail)else dZ (std n) X C ops.toList ops.toList (λs=>F .normal s) s:(std n).M σ) H->
    (Code.region id ops draw).wp E.P (LX E c0 w0 h0 k H0 m0 F H) a w:=λh=>ah6 hE hX hG hm MC h A g S hK hs
  generalize p:bK (std n) X C ord chk k m (.region id ops draw) s K=M at h;simp only [bK]at p;split at p
  .subst p;exact OC hc0 hs R h
  .subst p;exact R h
 | .seq x y,ρ,m,s,K,r,h,d,c,w,a,A,g,S,hK,hs=>by
  have l:∀(G O:Ann) (J:Exit->RSt (std n)->(ρ->Prop)->Prop),(∀d,J .normal d=bK (std n) X C ord chk k O y d K)->(∀d,J .ret d=K .ret d)->(∀i d,J (.exit i) d=K (.exit i) d)->bK (std n) X C ord chk k G x s J r->
    (Code.seq x y).wp E.P (LX E c0 w0 h0 k H0 m0 K r) a w:=by
   intro G O J e1 e2 e3 h;refine wp_seq (wp_mono (nW x h A g S hK hs) ?_);intro e W V o;cases e with
   | outgrown=>exact o.elim
   | panic _=>exact o
   | goto _=>exact o
   | normal=>obtain⟨c,d,L,v,B,q,D,z,j⟩:=o;rw [e1]at j;exact nW y j B v q D z
   | ret=>obtain⟨c,d,L,v,B,q,D,z,j⟩:=o;rw [e2]at j;exact⟨c,d,L,v,B,q,D,z,j⟩
   | exit i=>obtain⟨c,d,L,v,B,q,D,z,j⟩:=o;rw [e3]at j;exact⟨c,d,L,v,B,q,D,z,j⟩
  cases m with
  | seq G O=>rw [bK]at h;refine l G O _ ?_ ?_ ?_ h<;>intros<;>rfl
  | u=>rw [bK]at h;refine l .u .u _ ?_ ?_ ?_ h<;>intros<;>rfl
  | _=>simp [bK]at h
 | .cond cd x y,ρ,m,s,K,r,h,d,c,w,a,A,g,S,hK,hs=>by
  have o:EvR X E n (nmh s.h) d.t (fZ (std n) (cu (std n) s.t) []):=rC (λ_ _=>rfl) S.val (λt h=>by simp at h);generalize p:bK (std n) X C ord chk k m (.cond cd x y) s K=M at h;simp only [bK]at p;split at p
  .rename_i f b hb;obtain⟨pv,p1,p2⟩:=dx hX o hb;obtain⟨gf,rfl⟩:=p2.bool;have a7:=jJ (Lb A.abs p1);have l:∀(G O:Ann) {σ:Type} {F:Exit->RSt (std n)->(σ->Prop)->Prop} {H:σ->Prop},((b=true->bK (std n) X C ord chk k G x s F H)/\(b=false->bK (std n) X C ord chk k O y s F H))->(Code.cond cd x y).wp E.P (LX E c0 w0 h0 k H0 m0 F H) a w:=by
    intro G O σ F H h;refine wp_cond a7 ?_;obtain⟨b,rfl⟩:∃b':Bool,b'=b:=⟨b,rfl⟩;cases b with
    | true=>exact nW x (h.1 rfl) A g S hK hs
    | false=>exact nW y (h.2 rfl) A g S hK hs
   split at p
   .subst p;exact l _ _ h
   .subst p;exact l _ _ h
   .rename_i T G O;subst p;exact OC hc0 hs (λ{σ F H} h=>l G O h) h
   .subst p;exact h.elim
  .subst p;exact h.elim
 | .block id b,ρ,m,s,K,r,h,d,c,w,a,A,g,S,hK,hs=>by
  have l:∀(G:Ann) {σ:Type} {F:Exit->RSt (std n)->(σ->Prop)->Prop} {H:σ->Prop} (J:Exit->RSt (std n)->(σ->Prop)->Prop),(∀d,J .normal d=F .normal d)->(∀d,J .ret d=F .ret d)->(∀i d,J (.exit i) d=if i==id then F .normal d else F (.exit i) d)->
    bK (std n) X C ord chk k G b s J H->(Code.block id b).wp E.P (LX E c0 w0 h0 k H0 m0 F H) a w:=by
   intro G σ F H J e1 e2 e3 h;refine wp_block (wp_mono (nW b h A g S hK hs) ?_);intro e W V o;cases e with
   | outgrown=>exact o.elim
   | panic _=>exact o
   | goto _=>exact o
   | normal=>obtain⟨c,d,L,v,B,q,D,z,j⟩:=o;rw [e1]at j;exact⟨c,d,L,v,B,q,D,z,j⟩
   | ret=>obtain⟨c,d,L,v,B,q,D,z,j⟩:=o;rw [e2]at j;exact⟨c,d,L,v,B,q,D,z,j⟩
   | exit i=>
    obtain⟨c,d,L,v,B,q,D,z,j⟩:=o;rw [e3]at j;simp only [Exit.inBlock];simp only [beq_iff_eq]at j;split
    .rename_i e;rw [if_pos e]at j;exact⟨c,d,L,v,B,q,D,z,j⟩
    .rename_i e;rw [if_neg e]at j;exact⟨c,d,L,v,B,q,D,z,j⟩
  generalize p:bK (std n) X C ord chk k m (.block id b) s K=M at h;simp only [bK]at p;split at p
  .subst p;refine l _ _ ?_ ?_ ?_ h<;>intros<;>rfl
  .subst p;refine l _ _ ?_ ?_ ?_ h<;>intros<;>rfl
  .rename_i T G;subst p;exact OC hc0 hs (λ{σ F H} h=>by refine l G _ ?_ ?_ ?_ h<;>intros<;>rfl) h
  .subst p;exact h.elim
 | .loop b,ρ,m,s,K,r,h,d,c,w,a,A,g,S,hK,hs=>by
  cases m with
  | loop T G=>
   rw [bK]at h;rcases hx0:Ew (std n) k T s with _ | ⟨ck,x0⟩
   .rw [hx0]at h;exact h.elim
   .rw [hx0]at h;obtain⟨a0,h⟩:=eY h;obtain⟨I,μ,a5,h⟩:=h;obtain⟨c1,a6,g1,A1,S1,J,a9⟩:=JU hx0 a0 S A hc0 g hs;rw [hs]at h;refine wp_loop_ghost (λN W V=>∃c d x,Grow c0 w0 h0 c V d.h/\mQ E d c V W/\SR d (uf (std n) T m0 x)/\Keep k H0 (uf (std n) T m0 x).h/\(uf (std n) T m0 x).m=m0/\I x/\μ x=N) (μ x0) ⟨c1,a6,x0,g1,A1,S1,hK.trans J,a9,a5,rfl⟩ ?_;rintro N W V ⟨c2,b0,x,g2,A2,S2,K2,a4,hi,rfl⟩;have hq:=h x hi;refine wp_mono (nW b hq A2 g2 S2 K2 a4) ?_;intro e a3 w3 o;cases e with
    | outgrown=>exact o.elim
    | panic _=>exact o
    | goto _=>exact o
    | normal=>
     obtain⟨Y,P,U,v,B,q,D,z,j⟩:=o;simp only at j;rcases hx4:Ew (std n) k T U with _ | ⟨b7,t4⟩
     .rw [hx4]at j;exact j.elim
     .rw [hx4]at j;obtain⟨apO,j⟩:=eY j;obtain⟨c5,a8,g5,A5,S5,K5,Z⟩:=JU hx4 apO q B hc0 v z;exact⟨μ t4,j.2,c5,a8,_,g5,A5,S5,D.trans K5,Z,j.1,rfl⟩
    | ret=>obtain⟨Y,P,U,v,B,q,D,z,j⟩:=o;exact⟨Y,P,U,v,B,q,D,z,j⟩
    | exit i=>obtain⟨Y,P,U,v,B,q,D,z,j⟩:=o;exact⟨Y,P,U,v,B,q,D,z,j⟩
  | _=>simp [bK]at h
 | .exit i,ρ,m,s,K,r,h,d,c,w,a,A,g,S,hK,hs=>by
  have h:K (.exit i) s r:=by cases m<;>exact h
  exact wp_exit ⟨c,d,s,g,A,S,hK,hs,h⟩
 | .ret,ρ,m,s,K,r,h,d,c,w,a,A,g,S,hK,hs=>by
  have h:K .ret s r:=by cases m<;>exact h
  exact wp_ret ⟨c,d,s,g,A,S,hK,hs,h⟩
 | .rangeFunc ..,ρ,m,s,K,r,h,_,_,_,_,_,_,_,_,_=>by cases m<;>simp [bK]at h
 | .scope _,ρ,m,s,K,r,h,_,_,_,_,_,_,_,_,_=>by cases m<;>simp [bK]at h
 | .label _,ρ,m,s,K,r,h,_,_,_,_,_,_,_,_,_=>by cases m<;>simp [bK]at h
 | .goto _,ρ,m,s,K,r,h,_,_,_,_,_,_,_,_,_=>by cases m<;>simp [bK]at h
 | .refuse _,ρ,m,s,K,r,h,_,_,_,_,_,_,_,_,_=>by cases m<;>simp [bK]at h
end
end Go.TX
namespace Go.TX
open Go Go.AE List
variable [aD]
section
variable {n:Nat}
theorem iE:∀(r:List (Option (Option Nat))) (m k:Nat),(newNames r m k).length=k
 | _,_,0=>by simp [newNames]
 | [],m,k+1=>by simp [newNames,iE [] (m+1) k]
 | some (some l)::r,m,k+1=>by simp [newNames,iE r m k]
 | some none::r,m,k+1=>by simp [newNames,iE r (m+1) k]
 | none::r,m,k+1=>by simp [newNames,iE r (m+1) k]
structure X3(r:List (Option (Option Nat)))(h:List aN)(os:List aN)(nms:List Nat)(kT:List aN):Prop where
 len:h.length<=kT.length
 at_:∀(i:Nat),i<os.length->∃l,nms[i]? =some l/\kT[l]? =os[i]? /\(r[i]? =some (some (some l))\/(h.length<=l/\∀q:Nat,r[i]? ≠some (some (some q))))
 old:∀l,l<h.length->(∀i:Nat,i<os.length->r[i]? ≠some (some (some l)))->kT[l]? =h[l]?
 inj:∀(i j l:Nat),nms[i]? =some l->nms[j]? =some l->i=j
 new:∀l,h.length<=l->l<kT.length->∃i:Nat,i<os.length/\nms[i]? =some l
theorem OD:∀(c:List aN) (r:List (Option (Option Nat))) (h:List aN),(∀i l:Nat,r[i]? =some (some (some l))->i<c.length->l<h.length)->(∀i j l:Nat,r[i]? =some (some (some l))->r[j]? =some (some (some l))->i=j)->
  X3 r h c (newNames r h.length c.length) (iC (std n) h (newNames r h.length c.length) c)
 | [],r,h,h1,h2=>by
  refine⟨?_,λi f=>by simp at f,λl _ _=> ?_,λi j l f=>by simp [newNames]at f,λl a b=> ?_⟩<;>simp only [length_nil,newNames,iC]at* <;>first | exact Nat.le_refl _ | rfl | omega
 | o::c,r,h,h1,h2=>by
  have fresh:∀d,(∀(i:Nat),d[i]? =r[i+1]?)->(∀q:Nat,r[0]? ≠some (some (some q)))->newNames r h.length (c.length+1)=h.length::newNames d (h.length+1) c.length->X3 r h (o::c) (newNames r h.length (c.length+1)) (iC (std n) h (newNames r h.length (c.length+1)) (o::c)):=by
   intro d F E e;rw [e];have x:(h++ [o]).length=h.length+1:=by simp
   have P:=OD c d (h++ [o]) (λi l f B=>by grind) (λi j l f p=>by grind);rw [x]at P;have m:iC (std n) h (h.length::newNames d (h.length+1) c.length) (o::c)=iC (std n) (h++ [o]) (newNames d (h.length+1) c.length) c:=by
    simp [iC]
   rw [m];have t:(iC (std n) (h++ [o]) (newNames d (h.length+1) c.length) c)[h.length]? =some o:=by
    rw [P.old h.length (by simp) (λi f y=>by grind)];simp
   refine⟨by grind,λi f=> ?_,λl A hn=> ?_,λi j l f p=> ?_,λl D z=> ?_⟩
   .cases i with
    | zero=>simp_all
    | succ i=>
     obtain⟨l,s,u,k⟩:=P.at_ i (by simpa using f)
     grind
   .rw [P.old l (by simp;omega) (λi f y=>hn (i+1) (by simp;omega) (by simp_all))]
    grind
   .have ne:∀(j:Nat),(newNames d (h.length+1) c.length)[j]? =some h.length->False:=by
     intro j p;have w:j<c.length:=by grind [List.getElem?_eq_some_iff,iE]
     obtain⟨l,s,u,k⟩:=P.at_ j w
     grind
    cases i with
    | zero=>grind
    | succ i=>
     cases j with
     | zero=>simp_all
     | succ j=>rw [P.inj i j l (by simpa using f) (by simpa using p)]
   .by_cases e:l=h.length
    .subst e;exact⟨0,by simp,rfl⟩
    .obtain⟨i,s,u⟩:=P.new l (by simp;omega) z;exact⟨i+1,by simp;omega,by simpa using u⟩
  match r,h1,h2,fresh with
  | [],h1,h2,fresh=>exact fresh [] (λi=>by simp) (λq=>by simp) rfl
  | none::d,h1,h2,fresh=>exact fresh d (λi=>by simp) (λq=>by simp) rfl
  | some none::d,h1,h2,fresh=>exact fresh d (λi=>by simp) (λq=>by simp) rfl
  | some (some g)::d,h1,h2,_=>
   have v:g<h.length:=h1 0 g rfl (by simp);have e:newNames (some (some g)::d) h.length (c.length+1)=g::newNames d h.length c.length:=rfl;show X3 _ _ _ (newNames (some (some g)::d) h.length (c.length+1)) (iC (std n) h (newNames (some (some g)::d) h.length (c.length+1)) (o::c));rw [e];have x:(h.set g o).length=h.length:=by simp
   have P:=OD c d (h.set g o) (λi l f B=>by rw [x];exact h1 (i+1) l (by simpa using f) (by simp;omega)) (λi j l f p=>by have:=h2 (i+1) (j+1) l (by simpa using f) (by simpa using p);omega);rw [x]at P;have m:iC (std n) h (g::newNames d h.length c.length) (o::c)=iC (std n) (h.set g o) (newNames d h.length c.length) c:=by
    have:Nat.blt g h.length=true:=by simpa using v
    simp [iC,v]
   rw [m];have t:(iC (std n) (h.set g o) (newNames d h.length c.length) c)[g]? =some o:=by
    rw [P.old g (by simpa using v) (λi f y=>by have:=h2 0 (i+1) g rfl (by simpa using y);omega)];simp_all
   refine⟨by have:=P.len;omega,λi f=> ?_,λl A hn=> ?_,λi j l f p=> ?_,λl D z=> ?_⟩
   .cases i with
    | zero=>exact⟨g,rfl,by rw [t];rfl,.inl rfl⟩
    | succ i=>
     obtain⟨l,s,u,k⟩:=P.at_ i (by simpa using f);refine⟨l,by simpa using s,by rw [u];simp,?_⟩;simp only [getElem?_cons_succ];rcases k with k | ⟨k,C⟩
     .exact .inl k
     .exact .inr ⟨by rw [x]at k;exact k,C⟩
   .rw [P.old l ah (λi f y=>hn (i+1) (by simp;omega) (by simpa using y))];have:g≠l:=λe=>hn 0 (by simp) (by rw [e];rfl)
    exact getElem?_set_ne this
   .have ne:∀(j:Nat),(newNames d h.length c.length)[j]? =some g->False:=by
     intro j p;have w:j<c.length:=by grind [List.getElem?_eq_some_iff,iE]
     obtain⟨l,s,u,k⟩:=P.at_ j w;rw [p]at s;cases s;rcases k with k | ⟨k,C⟩
     .have:=h2 0 (j+1) g rfl (by simpa using k);omega
     omega
    cases i with
    | zero=>grind
    | succ i=>
     cases j with
     | zero=>grind
     | succ j=>rw [P.inj i j l (by simpa using f) (by simpa using p)]
   .obtain⟨i,s,u⟩:=P.new l (by rw [x];exact D) z;exact⟨i+1,by simp;omega,by simpa using u⟩
theorem Wq{nm:Nat->Nat}{k:SkV}{r a:List (LV aG)}{v:SVal}(h:zY aG nm k r=some (v,a)):pX v=false:=by
 cases k with
 | c k=>simp only [zY]at h;split at h<;>cases h;rfl
 | agg b=>simp only [zY]at h;split at h<;>cases h;rfl
 | sv f c=>
  unfold zY at h;split at h<;>first | (cases h;rfl) | simp_all | cases h
theorem EP{nm:Nat->Nat}:∀ {ks:List SkV} {r b:List (LV aG)} {a:List SVal},sH aG nm ks r=some (a,b)->∀v∈a,pX v=false
 | [],r,b,a,h=>by grind [sH,Option.some.injEq,Prod.mk.injEq]
 | k::ks,r,b,a,h=>by
  simp only [sH]at h;split at h
  .rename_i x r1 hx;split at h
   .rename_i xs r2 hxs;cases h;intro v c;cases c with
    | head=>exact Wq hx
    | tail _ c=>exact EP hxs v c
   .cases h
  .cases h
theorem Aj:∀ {d:List Nat} {h:List aN} {l:Nat} {g:Bool} {c:Co} {xs:List c.den},l∈d->h[l]? =some (.rows g c xs)->Gone (bg (std n) h d) l
 | [],_,_,_,_,_,hm,_=>by simp at hm
 | a::d,h,l,g,c,xs,hm,hl=>by
  rw [gq];have f:∀(d:List Nat) (h:List aN),Gone h l->Gone (bg (std n) h d) l:=by
   intro d
   induction d with
   | nil=>intro h i;exact i
   | cons b d j=>
    intro h ⟨k,m,i⟩;rw [gq];refine j _ ⟨k,m,?_⟩
    grind [d9,xq]
  by_cases e:a=l
  .subst e;refine f d _ ⟨c,(xs.length:Int),?_⟩
   grind [d9,getElem?_set_self,List.getElem?_eq_some_iff]
  .refine Aj (g:=g) (c:=c) (xs:=xs) ?_ (by rw [xq e];exact hl)
   grind
theorem Iu{h:List aN}:∀ {ks:List SkO} {j:Nat} {s b:ES (std n)},zW (std n) h j ks s=some b->∀ {i:Nat} {k:SkO},ks[i]? =some k->k≠ .gone->∀ {l:Nat} (_:b.ren[j+i]? =some (some (some l))),∃o,h[l]? =some o/\¬Gone [o] 0
 | [],_,_,_,_,i,k,hk,_,_,_=>by simp at hk
 | q::ks,j,s,b,hx,i,k,hk,hg,l,h5=>by
  simp only [zW]at hx;split at hx
  .rename_i s1 h1;cases i with
   | succ i=>
    have:=Iu hx (i:=i) (k:=k) (by simpa using hk) hg (l:=l) (by grind);exact this
   | zero=>
    simp at hk;subst hk;rw [Nat.add_zero]at h5;have d:ELe s b:=by
     obtain⟨_,_,_,r,_⟩:=Uc (m:=n) (λi=>i) h1 (.gone .i64 0) ⟨.i64,0,rfl⟩;obtain⟨_,_,_,p,_⟩:=rz (m:=n) (λi=>i) (λ_=> .gone .i64 0) (λ_=>⟨.i64,0,rfl⟩) hx;exact r.trans p
    cases q with
    | gone=>exact absurd rfl hg
    | box t=>
     rcases hr:s.ren[j]? with _ | _ | _ | e<;>simp only [Oo,hr,reduceCtorEq]at h1
     have:=d.ren j _ hr;rw [h5]at this;cases this;split at h1
     .rename_i v hv;exact⟨_,hv,λ⟨c,m,a⟩=>by simp at a⟩
     .cases h1
    | rows f c=>
     rcases hr:s.ren[j]? with _ | _ | _ | e<;>simp only [Oo,hr,reduceCtorEq]at h1
     .have:=d.ren j _ hr;simp_all
     .have:=d.ren j _ hr;rw [h5]at this;cases this;split at h1
      .rename_i g c' xs hv;exact⟨_,hv,λ⟨c,m,a⟩=>by simp at a⟩
      .cases h1
  .cases hx
end
end Go.TX
namespace Go.TX
open Go Go.AE List
variable [aD]
section
variable {n:Nat}
theorem JV{X:XT}{E:Tab}(hX:XOK X E){f:St}{s:RSt (std n)}(S:SR f s):∀ {g:List ResultVar} {c:List SVal},Ov (std n) X s g=some c->∃a,F2 (PVR (nmh s.h)) a c/\∀K,K a->LA E f g K
 | [],c,h=>by simp only [Ov,Option.some.injEq]at h;subst h;exact⟨[],.nil,λK hK=>hK⟩
 | .tmp t::r,c,h=>by
  simp only [Ov]at h;split at h
  .rename_i v hv;split at h
   .rename_i vs hvs;cases h;obtain⟨pv,l,d⟩:=S.val t _ hv;obtain⟨a,e,m⟩:=JV hX S hvs;exact⟨pv::a,.cons d e,λK hK=>by grind [LA,iM]⟩
   .cases h
  .cases h
 | .cell t ty::r,c,h=>by
  simp only [Ov]at h;split at h
  .rename_i p hp;split at h
   .rename_i v hv;split at h
    .rename_i vs hvs;cases h;obtain⟨pv,l,d⟩:=S.val t _ hp;obtain⟨k,i,o⟩:=Mc hX S.heap d hv (λb j=>by simp at j);obtain⟨a,e,m⟩:=JV hX S hvs;exact⟨k::a,.cons i e,λK hK=>by grind [LA,iM]⟩
    .cases h
   .cases h
  .cases h
theorem ah7{N:NM}:∀ {c:List PV} {b:List SVal},F2 (PVR N) c b->(∀v∈b,pX v=false)->PVR N (one c) (amh (std n) b)
 | [],_,h,_=>by cases h;exact .tup .nil
 | [p],_,.cons h1 h2,_=>by cases h2;exact h1
 | p::q::c,_,.cons h1 (.cons h2 h3),d=>by
  have g:∀ {p v},PVR N p v->pX v=false->PV0 N p v:=λh e=>by
   cases h with
   | one h=>exact h
   | tup _=>simp [pX]at e
  have all:∀ {c:List PV} {b:List SVal},F2 (PVR N) c b->(∀v∈b,pX v=false)->F2 (PV0 N) c b:=by
   intro c b h
   induction h with
   | nil=>intro _;exact .nil
   | cons a _ f=>intro d;exact .cons (g a (d _ (by simp))) (f λv e=>d v (mem_cons_of_mem _ e))
  exact .tup (all (.cons h1 (.cons h2 h3)) d)
theorem aeo{c:Ctx}{w:World}{us:List Value}{b:List PV}(h:F2 (bG c w) us b):bG c w (if h:us.toArray.size=1 then us.toArray[0]else .tuple us.toArray) (one b):=by
 cases h with
 | nil=>exact Jp _ _
 | cons a g=>
  cases g with
  | nil=>simpa [one]using a
  | cons f d=>
   have e:=(F2.cons a (F2.cons f d)).length;rw [dif_neg (by simp)];refine .tup _ _ e (λi j=> ?_);have k:∀(l:List PV),i<l.length->l[i]? =some (l.getD i default):=λl e=>by simp_all
   obtain⟨u,n,m⟩:=(F2.cons a (F2.cons f d)).get (k _ j);simp_all
theorem ME(h:List aN)(l:Nat):Gone [vL (std n) h l] 0:=by
 unfold vL;split
 .exact⟨_,_,rfl⟩
 .exact⟨_,_,rfl⟩
 .exact⟨_,_,rfl⟩
def Ak(D:List Nat)(h:Heap):Heap:=D.map (λl=>(l,eD.gone))++h
theorem ER{D:List Nat}{h:Heap}{l:Nat}(a:l∈D):AE.look (Ak D h) l=some .gone:=by
 induction D with
 | nil=>simp at a
 | cons d D b=>grind [AE.look,Ak,aK,aB,absurd]
theorem rD{D:List Nat}{h:Heap}{l:Nat}(a:l∉D):AE.look (Ak D h) l=AE.look h l:=by
 induction D with
 | nil=>rfl
 | cons d D b=>grind [AE.look,Ak,aB,mem_cons_of_mem]
section
variable {X:XT} {E:Tab} (hE:aH E) (hX:XOK X E) {C:Calls aG} (hG:qz E (kW C)) (hm:E.P.follows .mixedOrders=true) {ord:Nat->List eF} {chk:Nat->Array Oper->Nat->Bool} (MC:∀id ops m,chk id ops m=true->Static E ord id ops m)
include hE hX hG hm MC
theorem amD{f:FuncId}{fn:Func}{b9:Code}(hf:E.P.funcs[f]? =some fn)(a:fn.body=some b9)(f4:Enters E.P f){G:Sig}{an:Ann}{ct:Ct aG G}
  (Q:∀x,ct.pre x=true->kV (std 0) X C ord chk an G fn b9 x (λy=>y=ct.fn x)):dA E f (cZ ct) where
 enters:=f4
 calls:=by
  rintro j0 h nn K ⟨m,qs,S,c8,HR,e7,cr,J,aep,v,kT,a6,hK⟩ c w vs d5 pY H Gl;subst e7;unfold sI at J;split at J
  .rename_i e1 he1;split at J
   .rename_i e he;split at J
    .rename_i jE;simp only [Bool.and_eq_true,isEmpty_iff]at jE;obtain⟨jE,e9⟩:=jE;have jE:=JM jE;split at J
     .rename_i x hx;simp only [Option.some.injEq]at J;subst J;have d6:∀b∈e.ck,b=true:=λb a=>aep b (mem_append_left _ a)
      have h1:ct.pre x=true:=aep _ (mem_append_right _ (by simp));obtain⟨N,Q⟩:∃N:Nat,kV (std N) X C ord chk an G fn b9 x (λy=>y=ct.fn x):=⟨0,Q x h1⟩;simp only at a6 hK;obtain⟨d3,a0,a1,a2,a3,a4⟩:=vQ (λi=>i) he1;obtain⟨c7,a9,b1,b2,b3,b4,b5⟩:=rz (λi=>i) (λ_=>(.gone .i64 0:aN)) (λ_=>⟨.i64,0,rfl⟩) he;have F:e.lv.reverse=d3++c7:=by rw [b1,a1];simp [es0]
      have i0:=unpack_pack hx;rw [F]at i0;have f2:e.ren.length=G.objs.length:=by rw [b2.len,a2.len,JQ]
      have e5:∀(j:Nat) (kk:SkO),G.objs[j]? =some kk->∃o2,a9[j]? =some o2/\OF e S (λi=>i) j kk (.gone .i64 0) o2:=λj kk hj=>by
       obtain⟨o2,I,L⟩:=b5 e (.refl _) j kk hj;exact⟨o2,I,by simpa using L⟩
      obtain⟨o1,m1,m2,m3,m4,_,_⟩:=yZ (ks:=G.objs) (nm:=λi=>i) (old:=λ_=>(.gone .i64 0:aN)) H HR d6 jE f2 b4 e5 (cb:={K:=λ_ _=>False,ν:=νX e S c,n:=0}) (hb':=[])
       (MB w _ _ _ (λ_ _ h=>h.elim) (λ_ h=>h)) false (λh=>by cases h) (ν2:=νX e S c) (n2:=G.objs.length) (Nat.zero_le _) (λ_ _=>rfl) (λi A=>A) (λi j _ _ h=>h)
       (λi l A=>by simp only [νX];rw [A]) (λi A=>by simp only [νX];rw [A]) (h2:=a9) (λi _=>rfl)
       (λl o s Y=>by
        have:G.objs.length<=l:=by
         rcases Nat.lt_or_ge l G.objs.length with h | h
         .exact absurd rfl (s l h)
         .exact h
        rw [getElem?_eq_none ah]at Y;cases Y) (λ_ _=>rfl)
       (λb ⟨l,o,s,_⟩ _=>by simp [AE.look]at s) (λf b h _=>h) (λf b ⟨l,o,s,_⟩ _=>by simp [AE.look]at s)
      generalize e6:({K:=λf b=>False\/KX e c false f b,ν:=νX e S c,n:=G.objs.length}:Ctx)=c1 at m1 m2 m3 m4;generalize j1:uj (λi=>i) o1 (range G.objs.length) []=c2 at m1 m2 m4;have d7:c1.n=G.objs.length:=by rw [<-e6]
      have f0:∀f b,c1.K f b->c.K f b\/∃l g,(l,g)∈e.fro/\c.μ l=some b/\(f=true->g=true):=λf b a=>by
       rw [<-e6]at a;rcases a with a | a | ⟨l,g,I,L,W⟩
       .exact a.elim
       .exact .inl (by simpa using a)
       .exact .inr ⟨l,g,I,L,λh=>W (by simp [h])⟩
      have ah8:∀f b,c.K f b->c1.K f b:=λf b a=>by rw [<-e6];exact .inr (.inl (by simpa using a))
      have amE:∀b,eH c1 c2 b->∃(i lq:Nat) (q:eD),e.ren[i]? =some (some (some lq))/\AE.look h lq=some q/\q.live/\c.μ lq=some b:=λb a=>by
       rcases m4 b a with⟨l,o,s,_⟩ | a
       .simp [AE.look]at s
       .exact a
      have amF:F2 (WV c w (nmh S)) vs qs:=by
       clear he1 a1 a2 a3 a4 a6 Q
       induction pY generalizing qs with
       | nil=>cases c8;exact .nil
       | cons I _ ih=>cases c8 with | cons W q4=>exact .cons ⟨_,I,W⟩ (ih _ q4)
      obtain⟨amG,p1,p2⟩:=JR (a4 H HR b2 d6 m3 (λh=>by cases h) amF);unfold kV at Q;split at Q
      .exact Q.elim
      rename_i c0;have c0:G.objs.length<=G.dJ.length:=by
       have:Nat.ble G.objs.length G.dJ.length=true:=by simpa using c0
       exact Nat.le_of_ble_eq_true this
      rw [show unpack (std N).aA G.inp x=d3++c7 from i0,a3]at Q;simp only at Q;have f3:=b3 [];rw [append_nil]at f3;rw [show vJ (std N).aA (λi=>i) (λ_=>dL.gone Co.i64 ((std N).lit 0)) 0 G.objs c7=some (a9,[])from f3]at Q;simp only at Q;have g0:a0.length=vs.length:=by rw [<-p2.length,<-p1.length]
      refine calls_of_wp hf a ?_;have A1:mQ E {t:=(range a0.length).zip (amG.map some),h:=c2,n:=G.objs.length,k:=0,m:=a0.length+(fn.ntmps-a0.length)} c1 w {tmps:=vs.toArray++Array.replicate (fn.ntmps-vs.toArray.size) undef,defers:=[]}:=by
       refine⟨⟨λi u hu=>EN p1 ?_ i u hu,m1,?_⟩,d7,rfl,by simp [g0]⟩
       .refine F2.DF (by simp [g0]) λj i u hj hu=> ?_
        have:i=j:=by
         have h3:=(List.getElem?_eq_some_iff.1 hj).1;simp at h3;rw [getElem?_range h3]at hj;cases hj;rfl
        subst this;have i2:i<vs.length:=(List.getElem?_eq_some_iff.1 hu).1;simp only;rw [Array.getElem?_append_left (by simpa using i2)];simpa using hu
       .intro gg d hd;obtain⟨I,u,L,W⟩:=Gl gg d hd;exact⟨ah8 _ _ I,u,L,W.mono' λb a=>ah8 _ _ a⟩
      have S1:SR {t:=(range a0.length).zip (amG.map some),h:=c2,n:=G.objs.length,k:=0,m:=a0.length+(fn.ntmps-a0.length)}
        ({t:=(range a0.length).zip (a0.map λv=>⟨none,v⟩),gs:=[],h:=a9,m:=a0.length+(fn.ntmps-a0.length)}:RSt (std N)):=by
       refine⟨m2,by simp [nm,b4],rfl,λi sv A=> ?_,λt e he=>by simp at he⟩;obtain⟨I,L⟩:=EM p2 i sv A;unfold Af;rw [I];exact L
      refine wp_mono (nW hE hX hG hm MC d7 b9 Q A1 (.refl _ _ _) S1 (.refl _ a9) rfl) ?_
      have fin:∀ {c3:Ctx} {a5:St} {s3:RSt (std N)} {e4:Act} {w3:World},Grow c1 w c2 c3 w3 a5.h->mQ E a5 c3 w3 e4->SR a5 s3->Keep G.objs.length a9 s3.h->
        V6 (std N) X G fn s3 (λy=>y=ct.fn x)->
        e4.defers=[]/\∃v,(results fn e4.tmps).run E.P w3= .ok v w3/\
         Post (λv w'=>∃c' r h' j,Grow c w h c' w' h'/\bH c' w' h'/\c'.n=nm S.length j/\bG c' w' v r/\K r h' j) (.returned v) w3:=by
       intro c3 a5 s3 aq8 w3 g3 A3 S3 K3 R;refine⟨A3.defers,?_⟩;generalize hM:V6 (std N) X G fn s3=M at R;unfold V6 at hM;split at hM
       .rename_i rs hrs;split at hM
        .rename_i e2 he2;split at hM
         .rename_i e3 he3;split at hM
          .rename_i ET;have ET:=JM ET;split at hM
           .rename_i y hy;subst hM;obtain⟨amH,R⟩:=eY R;have R:y=ct.fn x:=R;subst R;obtain⟨ps,f8,f1⟩:=JV (E:=E) hX S3 hrs;obtain⟨us,j4,u1,u2,u3⟩:=Bg hE A3 _ (λq=>q=ps) (f1 _ rfl);subst u3;refine⟨_,LB u1,?_⟩;generalize e0:(G.fresh&&e.fro.all λp=> !p.2)=br at a6 hK;generalize Ws:(if br=true then S else bg (std m) S (e.fro.map (·.1)))=h1T at a6;have EU:h1T.length=S.length:=by
             rw [<-Ws];split
             .rfl
             .exact pW _ _ _
            have amI:nmh h1T=nmh S:=by
             rw [<-Ws];split
             .rfl
             .exact vO _ _ _
            obtain⟨B,ah9⟩:∃B,newNames e.ren h1T.length G.dJ.length=B:=⟨_,rfl⟩;rw [ah9]at a6;have amJ:B.length=G.dJ.length:=by rw [<-ah9];exact iE _ _ _
            obtain⟨amK,j2,x1,x2,x3,x4⟩:=vQ (λi=>B.getD i 0) he2;obtain⟨aia,d0,y1,y2,y3,y4,y5⟩:=rz (λi=>B.getD i 0) (λi=>vL (std m) h1T (B.getD i 0)) (λj=>ME h1T _) he3;have f7:e3.lv.reverse=amK++aia:=by rw [y1,x1];simp [es0]
            have amL:=unpack_pack hy;rw [f7]at amL;rw [show unpack (std m).aA G.out (ct.fn x)=amK++aia from amL,x3]at a6;simp only at a6;have g8:=y3 [];rw [append_nil]at g8;rw [g8]at a6;simp only [Option.some.injEq,Prod.mk.injEq]at a6;obtain⟨hv,i5⟩:=a6;have c4:e3.ren.length=G.dJ.length:=by rw [y2.len,x2.len,JQ]
            have Iw:∀(i l:Nat),e.ren[i]? =some (some (some l))->i<G.objs.length:=λi l A=>by rw [<-f2];exact(List.getElem?_eq_some_iff.1 A).1
            have V:∀(i l:Nat),e.ren[i]? =some (some (some l))->∃U,AE.look h l=some U/\U.live:=λi l A=>by
             have T:=Iw i l A;obtain⟨o2,I,L⟩:=e5 i _ (getElem?_eq_getElem T);obtain⟨_,_,_,_,W⟩:=L.rel H HR d6 m3 (λh=>by cases h);exact W l (λhg=>jE.gone A (by rw [getElem?_eq_getElem T,hg])) A
            have d2:∀l U,AE.look h l=some U->l<S.length:=λl U s=>by rw [<-d5];exact(H.obj l U s).1
            have P:=OD (n:=m) d0 e.ren h1T (λi l A _=>by rw [EU];obtain⟨U,q,_⟩:=V i l A;exact d2 l U q) (λi j l A hj=>jE.dist A hj);rw [y4,ah9,i5]at P;have aer:∀i,i<G.dJ.length->B[i]? =some (B.getD i 0):=λi A=>by
             have:i<B.length:=by rw [amJ];exact A
             simp [getD,getElem?_eq_getElem this]
            have a8:∀i,i<G.dJ.length->kT[B.getD i 0]? =d0[i]? /\(e.ren[i]? =some (some (some (B.getD i 0)))\/(S.length<=B.getD i 0/\∀q:Nat,e.ren[i]? ≠some (some (some q)))):=λi A=>by
             obtain⟨l,I,L,W⟩:=P.at_ i (by rw [y4];exact A);rw [aer i A]at I;have I:=Option.some.inj I;subst I;rw [EU]at W;exact⟨L,W⟩
            have X4:∀i j,i<G.dJ.length->j<G.dJ.length->B.getD i 0=B.getD j 0->i=j:=λi j A hj i3=>P.inj i j _ (aer i A) (by rw [i3];exact aer j hj)
            have apP:∀i,i<G.dJ.length->B.getD i 0<kT.length:=λi A=>by
             have h3:=(a8 i A).1;rw [getElem?_eq_getElem (show i<d0.length by rw [y4];exact A)]at h3;exact(List.getElem?_eq_some_iff.1 h3).1
            have Uf:∀(i l:Nat),e.ren[i]? =some (some (some l))->B.getD i 0=l:=λi l A=>by
             have T:=Nat.lt_of_lt_of_le (Iw i l A) c0;rcases(a8 i T).2 with q | ⟨_,q⟩
             .rw [A]at q;cases q;rfl
             .exact absurd A (q l)
            have hD:∀l,l∈bI e.ren->∃i,i<G.dJ.length/\B.getD i 0=l/\e.ren[i]? =some (some (some l)):=λl s=>by
             obtain⟨i,A⟩:=xw s;exact⟨i,Nat.lt_of_lt_of_le (Iw i l A) c0,Uf i l A,A⟩
            obtain⟨D,afT⟩:∃D,bI e.ren++(if br=true then []else e.fro.map (·.1))=D:=⟨_,rfl⟩;rw [afT]at hK;have MF:∀l,l∈D↔l∈bI e.ren\/(br=false/\∃f,(l,f)∈e.fro):=λl=>by
             rw [<-afT];cases br<;>simp
            have xB:∀l f,(l,f)∈e.fro->(∃g cc xs,S[l]? =some (.rows g cc xs))/\∃U,AE.look h l=some U/\U.live:=λl f s=>by
             obtain⟨_,g,cc,xs,q⟩:=jE.fro l f s;obtain⟨U,I,L⟩:=HR.old l _ q;cases L with | rows _=>exact⟨⟨g,cc,xs,q⟩,_,I,trivial⟩
            have Iy:∀l o,AE.look (Ak D h) l=some o->o.live->l∉D/\AE.look h l=some o:=λl o s F=>by
             by_cases hd:l∈D
             .rw [ER hd]at s;cases s;exact F.elim
             .rw [rD hd]at s;exact⟨hd,s⟩
            have JW:∀l o b,l∉D->AE.look h l=some o->o.live->c.μ l=some b->¬eH c1 c2 b:=λl o b hd s F a Y=>by
             obtain⟨i,lq,q,I,L,W,q4⟩:=amE b Y;have:=H.inj l o lq q b s F L W a q4;subst this;exact hd ((MF l).2 (.inl (rA I)))
            have Ug:∀b,eH c1 c2 b->eH c h b:=λb a=>by
             obtain⟨i,lq,q,_,L,W,q4⟩:=amE b a;exact⟨lq,q,L,W,q4⟩
            have f9:∀f b,c.K f b->w3.heap[b]? =w.heap[b]? :=λf b a=>g3.kept b (H.low f b a) (λY=>H.own f b (Ug b Y) a)
            have Hb:bH c w3 (Ak D h):=by
             refine⟨λl o s=> ?_,λl o l' U b I L W q4 q5 q6=> ?_,?_,λf b a=>Nat.lt_of_lt_of_le (H.low f b a) g3.size,H.sub⟩
             .by_cases hd:l∈D
              .rw [ER hd]at s;cases s;refine⟨?_,trivial⟩;rcases(MF l).1 hd with h3 | ⟨_,f,h3⟩
               .obtain⟨i,A⟩:=xw h3;obtain⟨U,q,_⟩:=V i l A;exact(H.obj l U q).1
               .obtain⟨_,U,q,_⟩:=xB l f h3;exact(H.obj l U q).1
              .rw [rD hd]at s;obtain⟨I,L⟩:=H.obj l o s;exact⟨I,L.mono (.refl c) f9 g3.stays I (λb F a=>g3.kept b (L.lt F a) (JW l o b hd s F a))⟩
             .obtain⟨_,r1⟩:=Iy l o I L;obtain⟨_,r2⟩:=Iy l' U W q4;exact H.inj l o l' U b r1 L r2 q4 q5 q6
             .rintro f b ⟨l,o,s,F,a⟩ hk;obtain⟨_,r1⟩:=Iy l o s F;exact H.own f b ⟨l,o,r1,F,a⟩ hk
            have X5:∀l o b,AE.look h l=some o->o.live->c.μ l=some b->b<w.heap.size:=λl o b s F a=>(H.obj l o s).2.lt F a
            have afU:∀l o b,l∉D->AE.look h l=some o->o.live->c.μ l=some b->¬eH c3 a5.h b:=λl o b hd s F a Y=>by
             rcases g3.qx b Y with h3 | h3
             .exact JW l o b hd s F a h3
             .have:=X5 l o b s F a;omega
            have Uh:∀q g b,(q,g)∈e3.fro->c3.μ q=some b->eH c3 a5.h b:=λq g b hq a=>by
             obtain⟨_,g',cc,xs,s⟩:=ET.fro q g hq;obtain⟨U,I,L⟩:=S3.heap.old q _ s;cases L with | rows _=>exact⟨q,_,I,trivial,a⟩
            have amM:br=true->∀l f,(l,f)∈e.fro->f=false:=λa l f s=>by
             rw [<-e0]at a;simp only [Bool.and_eq_true]at a;have:=all_eq_true.1 a.2 _ s;simpa using this
            have ah1:∀f b,eH c (Ak D h) b->KX e3 c3 br f b->False:=by
             rintro f b ⟨l,o,s,F,a⟩ hk;obtain⟨hd,s⟩:=Iy l o s F;rcases hk with hk | ⟨q,g,I,L,_⟩
             .rcases g3.xK _ b hk with h3 | h3 | h3
              .rcases f0 _ b h3 with h3 | ⟨l2,g2,I,L,W⟩
               .exact H.own _ b ⟨l,o,s,F,a⟩ h3
               .obtain⟨_,o2,r1,r2⟩:=xB l2 g2 I;have:=H.inj l o l2 o2 b s F r1 r2 a L;subst this;cases hbb:br with
                | false=>exact hd ((MF l).2 (.inr ⟨hbb,g2,I⟩))
                | true=>
                 have Z:=W (by rw [hbb];simp);have h6:=amM hbb l g2 I;rw [Z]at h6;cases h6
              .have:=X5 l o b s F a;omega
              .exact JW l o b hd s F a h3
             .exact afU l o b hd s F a (Uh q g b I L)
            have apQ:∃μ2:Nat->Option (Nat×Nat),(∀l,l<S.length->μ2 l=c.ν l)/\(∀(i q:Nat),i<G.dJ.length->S.length<=B.getD i 0->e3.ren[i]? =some (some (some q))->μ2 (B.getD i 0)=EH (trK e3 s3.h i q) (c3.ν q))/\
              (∀i:Nat,i<G.dJ.length->S.length<=B.getD i 0->e3.ren[i]? =some (some none)->μ2 (B.getD i 0)=none):=by
             have i8:∀l,∃ob:Option (Nat×Nat),(l<S.length->ob=c.ν l)/\(∀(i q:Nat),i<G.dJ.length->S.length<=l->B.getD i 0=l->e3.ren[i]? =some (some (some q))->ob=EH (trK e3 s3.h i q) (c3.ν q))/\
               (∀i:Nat,i<G.dJ.length->S.length<=l->B.getD i 0=l->e3.ren[i]? =some (some none)->ob=none):=by
              intro l;by_cases s:l<S.length
              .exact⟨c.ν l,λ_=>rfl,λi q _ O=>by omega,λi _ O=>by omega⟩
              .by_cases hx:∃i q:Nat,i<G.dJ.length/\B.getD i 0=l/\e3.ren[i]? =some (some (some q))
               .obtain⟨i,q,O,Z,h6⟩:=hx;refine⟨EH (trK e3 s3.h i q) (c3.ν q),λh=>absurd h s,λj q' h7 _ h9 b0=> ?_,λj h7 _ h9 b0=> ?_⟩
                .have:=X4 i j O h7 (Z.trans h9.symm);subst this;rw [h6]at b0;cases b0;rfl
                .have:=X4 i j O h7 (Z.trans h9.symm);subst this;rw [h6]at b0;cases b0
               .exact⟨none,λh=>absurd h s,λj q' h7 _ h9 b0=>absurd ⟨j,q',h7,h9,b0⟩ hx,λ_ _ _ _ _=>rfl⟩
             obtain⟨μ2,aib⟩:=Classical.axiomOfChoice i8;exact⟨μ2,λl s=>(aib l).1 s,λi q O Z h6=>(aib _).2.1 i q O Z rfl h6,λi O Z h6=>(aib _).2.2 i O Z rfl h6⟩
            obtain⟨μ2,μa,μb,μc⟩:=apQ;have OE:∀(i:Nat) (v:Option Nat),i<G.objs.length->e3.ren[i]? =some (some v)->v=some i/\(es0 (std N) G.objs.length G.dJ).ren[i]? =some (some (some i)):=λi v A hv=>by
             have T:=Nat.lt_of_lt_of_le A c0;have h0:=JO (n:=N) A T;have hg:sG G.dJ[i]? =false:=by
              unfold sG;split
              .rename_i hh;exact absurd hh (ET.gone hv)
              .rfl
             rw [hg]at h0;have h0:(es0 (std N) G.objs.length G.dJ).ren[i]? =some (some (some i)):=by simpa using h0
             have:=y2.ren i _ (x2.ren i _ h0);rw [hv]at this;cases this;exact⟨rfl,h0⟩
            have d8:∀(i q:Nat),e3.ren[i]? =some (some (some q))->μ2 (B.getD i 0)=EH (trK e3 s3.h i q) (c3.ν q):=λi q A=>by
             have T:i<G.dJ.length:=by rw [<-c4];exact(List.getElem?_eq_some_iff.1 A).1
             rcases(a8 i T).2 with O | ⟨O,_⟩
             .have a7:=Iw i _ O;obtain⟨Z,f5⟩:=OE i _ a7 A;cases Z;obtain⟨U,h6,_⟩:=V i _ O;have i6:jH (std N) e3 i=none:=by rw [y2.tr i _ (x2.ren i _ f5),x2.tr i _ f5];rfl
              have i7:jH (std m) e i=none:=by simp [jH,e9]
              rw [μa _ (d2 _ U h6),oM i6,kG,g3.le.ν i (by rw [d7];exact a7)];have:=(m3.name i _ O).2;rw [oM i7,kG]at this;exact this.symm
             .exact μb i q T O A
            have e8:∀(i:Nat),e3.ren[i]? =some (some none)->μ2 (B.getD i 0)=none:=λi A=>by
             have T:i<G.dJ.length:=by rw [<-c4];exact(List.getElem?_eq_some_iff.1 A).1
             rcases Nat.lt_or_ge i G.objs.length with O | O
             .obtain⟨Z,_⟩:=OE i _ O A;cases Z
             .rcases(a8 i T).2 with Z | ⟨Z,_⟩
              .have:=Iw i _ Z;omega
              .exact μc i T Z A
            have c6:Same S kT:=λl z hz=>by
             have b7:l<S.length:=by
              rcases Nat.lt_or_ge l S.length with s | s
              .exact s
              .simp [nmh,getElem?_eq_none s]at hz
             by_cases hp:∃i:Nat,e.ren[i]? =some (some (some l))
             .obtain⟨i,A⟩:=hp;have a7:=Iw i l A;have T:=Nat.lt_of_lt_of_le a7 c0;have hn:=Uf i l A;have g7:=(a8 i T).1;rw [hn]at g7;obtain⟨k3,f6⟩:∃k3,G.dJ[i]? =some k3:=⟨_,getElem?_eq_getElem T⟩;obtain⟨o3,r1,r2⟩:=y5 e3 (.refl _) i k3 f6;rw [Nat.zero_add]at r2;have d4:nmh [o3] 0=some z->nmh kT l=some z:=λhh=>by
               simp only [nmh,g7,r1];simpa [nmh]using hh
              by_cases hg:k3= .gone
              .refine d4 ?_;rw [r2.gone hg];show nmh [vL (std m) h1T (B.getD i 0)] 0=some z;rw [hn];rw [<-amI]at hz;unfold vL;simp only [nmh]at hz ⊢;split at hz
               .rename_i hh;rw [hh];simpa using hz
               .rename_i hh;rw [hh];simpa using hz
               .cases hz
              .obtain⟨v3,c9⟩:=r2.live hg;obtain⟨Z,h6⟩:=OE i _ a7 c9;subst Z;obtain⟨j7,s1,s2⟩:=e5 i _ (getElem?_eq_getElem a7);have apR:G.objs[i]≠ .gone:=λhh=>jE.gone A (by rw [getElem?_eq_getElem a7,hh])
               have t1:=s2.s1 l z.1 z.2 apR A (by rw [hz]);have apS:jH (std m) e i=none:=by simp [jH,e9]
               rw [apS]at t1;have t2:nmh a9 i=some z:=by simp only [nmh,s1];simpa [nmh]using t1
               rcases(K3 i a7).2 z t2 with⟨cc,nn,b8⟩ | t3
               .exfalso;obtain⟨j5,aq9⟩:=r2.live hg;have:=Iu he3 (i:=i) f6 hg (l:=i) (by rw [Nat.zero_add];exact c9);obtain⟨o4,g9,apT⟩:=this;rw [b8]at g9;cases g9;exact apT ⟨_,_,rfl⟩
               .have apU:jH (std N) e3 i=none:=by rw [y2.tr i _ (x2.ren i _ h6),x2.tr i _ h6];rfl
                have t4:=r2.s1 i z.1 z.2 hg c9 (by rw [t3]);rw [apU]at t4;exact d4 t4
             .have hp':∀i:Nat,i<d0.length->e.ren[i]? ≠some (some (some l)):=λi _ A=>hp ⟨i,A⟩
              have:=P.old l (by rw [EU];exact b7) hp';rw [<-amI]at hz;simp only [nmh,this];exact hz
            have apV:∀(j:Nat) (kk:SkO),G.dJ[j]? =some kk->∃o2,d0[j]? =some o2/\OF e3 s3.h (λi=>B.getD i 0) j kk (vL (std m) h1T (B.getD j 0)) o2:=λj kk hj=>by
             obtain⟨o2,I,L⟩:=y5 e3 (.refl _) j kk hj;exact⟨o2,I,by simpa using L⟩
            have apW:br=true->G.dJ.all SkO.fresh=true:=λa=>by
             rw [<-e0]at a;simp only [Bool.and_eq_true,Sig.fresh]at a;exact a.1.2
            have apX:br=true->G.res.all SkV.fresh=true:=λa=>by
             rw [<-e0]at a;simp only [Bool.and_eq_true,Sig.fresh]at a;exact a.1.1
            obtain⟨j3,z1,z2,z3,z4,z5,z6⟩:=yZ (ks:=G.dJ) (nm:=λi=>B.getD i 0) (old:=λi=>vL (std m) h1T (B.getD i 0)) A3.abs.heap S3.heap amH ET c4 y4 apV (cb:=c) (hb':=Ak D h)
             Hb br apW (ν2:=μ2) (n2:=kT.length) (by rw [d5,<-EU];exact P.len) (λl s=>μa l (by rw [<-d5];exact s)) apP X4 d8 e8 (h2:=kT) (λi A=>(a8 i A).1)
             (λl o s Y=>by
              have b7:l<S.length:=by
               rcases Nat.lt_or_ge l S.length with O | O
               .exact O
               .obtain⟨i,I,L⟩:=P.new l (by rw [EU];exact O) (List.getElem?_eq_some_iff.1 Y).1;rw [y4]at I;rw [aer i I]at L;exact absurd (Option.some.inj L) (s i I)
              have b6:l∉bI e.ren:=λhp=>by
               obtain⟨i,I,L,_⟩:=hD l hp;exact s i I L
              have Z:=P.old l (by rw [EU];exact b7) (λi A hh=>b6 (rA hh));rw [Z]at Y;by_cases hd:l∈D
              .rcases(MF l).1 hd with h6 | ⟨hb0,f,h6⟩
               .exact absurd h6 b6
               .rw [<-Ws,hb0]at Y;simp only [Bool.false_eq_true,if_false]at Y;obtain⟨⟨g,cc,xs,h7⟩,_⟩:=xB l f h6;have:Gone (bg (std m) S (e.fro.map (·.1))) l:=Aj (mem_map.2 ⟨_,h6,rfl⟩) h7;obtain⟨c5,n5,h8⟩:=this;rw [h8]at Y;cases Y;exact⟨.gone,ER hd,.gone⟩
              .have h7:S[l]? =some o:=by
                rw [<-Ws]at Y;split at Y
                .exact Y
                .rename_i hb0;rw [kE m _ _ (λh8=>hd ((MF l).2 (.inr ⟨by simpa using hb0,by
                  obtain⟨p,hp,rfl⟩:=mem_map.1 h8;exact⟨p.2,hp⟩⟩)))]at Y
                 exact Y
               obtain⟨U,r1,r2⟩:=HR.old l _ h7;exact⟨U,by rw [rD hd];exact r1,r2.mono c6⟩)
             (λl s=>by
              have b7:S.length<=l:=by have:=P.len;rw [EU]at this;omega
              have d1:l∉D:=λhd=>by
               rcases(MF l).1 hd with O | ⟨_,f,O⟩
               .obtain⟨i,A⟩:=xw O;obtain⟨U,q,_⟩:=V i l A;have:=d2 l U q;omega
               .obtain⟨_,U,q,_⟩:=xB l f O;have:=d2 l U q;omega
              rw [rD d1];exact HR.new l b7)
             (λb ⟨l,o,s,F,a⟩ Y=>by
              obtain⟨hd,s⟩:=Iy l o s F;exact afU l o b hd s F a Y)
             (λf b hk Y=>A3.abs.heap.own f b Y (g3.le.K f b (ah8 f b hk))) ah1
            have i9:F2 (WV c3 w3 (nmh s3.h)) us rs:=by
             clear he2 x1 x2 x3 x4 hrs u1 f1
             induction u2 generalizing rs with
             | nil=>cases f8;exact .nil
             | cons I _ ih=>cases f8 with | cons W q4=>exact .cons ⟨_,I,W⟩ (ih _ q4)
            obtain⟨apY,w1,w2⟩:=JR (x4 A3.abs.heap S3.heap y2 amH z3 apX i9);have c9:PVR (nmh kT) (one apY) v:=by rw [<-hv];exact ah7 w2 (EP (x3 aia))
            have g5:kT.length=nm S.length (kT.length-S.length):=by have:=P.len;rw [EU]at this;simp [nm];omega
            have apZ:∀b,eH c (Ak D h) b->eH c h b:=λb ⟨l,o,s,F,a⟩=>⟨l,o,(Iy l o s F).2,F,a⟩
            have afV:∀b,eH c3 a5.h b->eH c h b\/w.heap.size<=b:=λb a=>(g3.qx b a).imp (Ug b) id
            refine⟨_,_,_,kT.length-S.length,?_,z1,g5,aeo w1,hK _ _ _ c9 z2 ?_ g5⟩
            .refine⟨z5,g3.size,g3.stays,λb a i1=>g3.kept b a (λY=>i1 (Ug b Y)),λf b a=> ?_,λb a=> ?_,g3.os,g3.tape,g3.output⟩
             .rcases a with a | a | ⟨q,g,I,L,_⟩
              .exact .inl a
              .rcases g3.xK _ b a with O | O | O
               .rcases f0 _ b O with Z | ⟨l2,g2,I,L,W⟩
                .left;cases f with
                 | true=>simpa using Z
                 | false=>cases br with
                  | true=>exact H.sub b (by simpa using Z)
                  | false=>simpa using Z
                .obtain⟨_,o2,r1,r2⟩:=xB l2 g2 I;exact .inr (.inr ⟨l2,o2,r1,r2,L⟩)
               .exact .inr (.inl O)
               .exact .inr (.inr (Ug b O))
              .rcases afV b (Uh q g b I L)with O | O
               .exact .inr (.inr O)
               .exact .inr (.inl O)
             .rcases z4 b a with O | ⟨i,lq,q,_,L,W,q4⟩
              .exact .inl (apZ b O)
              .exact afV b ⟨lq,q,L,W,q4⟩
            .refine⟨c6,by have:=P.len;rw [EU]at this;exact this,λl ⟨cc,nn,b8⟩=> ?_,λl s d1=> ?_⟩
             .have b7:=(List.getElem?_eq_some_iff.1 b8).1;have b6:∀i:Nat,e.ren[i]? ≠some (some (some l)):=λi A=>by
               obtain⟨U,I,L⟩:=V i l A;obtain⟨o2,W,q4⟩:=HR.old l _ b8;rw [I]at W;cases W;cases q4;exact L.elim
              have i4:∀f,(l,f)∉e.fro:=λf hf=>by
               obtain⟨⟨g,c5,xs,h7⟩,_⟩:=xB l f hf;rw [b8]at h7;cases h7
              refine⟨cc,nn,?_⟩;rw [P.old l (by rw [EU];exact b7) (λi _=>b6 i),<-Ws];split
              .exact b8
              .rw [kE m _ _ (λh8=>by
                obtain⟨p,hp,rfl⟩:=mem_map.1 h8;exact i4 p.2 hp)]
               exact b8
             .have b6:∀i:Nat,e.ren[i]? ≠some (some (some l)):=λi A=>d1 ((MF l).2 (.inl (rA A)))
              refine⟨?_,?_⟩
              .rw [P.old l (by rw [EU];exact s) (λi _=>b6 i),<-Ws];split
               .rfl
               .rename_i hb0;exact kE m _ _ (λh8=>d1 ((MF l).2 (.inr ⟨by simpa using hb0,by
                 obtain⟨p,hp,rfl⟩:=mem_map.1 h8;exact⟨p.2,hp⟩⟩)))
              .rw [z6 l (λi A hh=>by
                rcases(a8 i A).2 with O | ⟨O,_⟩
                .rw [hh]at O;exact b6 i O
                .omega),rD d1]
           ·(subst hM;exact R.elim)
          ·(subst hM;exact R.elim)
         ·(subst hM;exact R.elim)
        ·(subst hM;exact R.elim)
       ·(subst hM;exact R.elim)
      intro ex a' w' he;cases ex with
      | outgrown=>exact he.elim
      | panic _=>exact he.elim
      | goto _=>exact he.elim
      | normal=>obtain⟨c3,a5,s3,g1,g2,g3,g4,_,g6⟩:=he;exact fin g1 g2 g3 g4 g6
      | ret=>obtain⟨c3,a5,s3,g1,g2,g3,g4,_,g6⟩:=he;exact fin g1 g2 g3 g4 g6
      | exit i=>obtain⟨c3,a5,s3,g1,g2,g3,g4,_,g6⟩:=he;exact g6.elim
     .cases J
    .cases J
   .cases J
  .cases J
end
end
end Go.TX
