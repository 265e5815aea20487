/- Part 2 of a proof: what the last part needs. No condition. -/
import Derived.Test.YtkilhdbfkcffcaaGreatDoorZa
set_option maxHeartbeats 1000000
set_option linter.all false
set_option linter.unusedSectionVars false
set_option linter.unusedVariables false
set_option linter.unusedSimpArgs false
namespace Go.TX
open Go Go.AE List
variable [aB]
inductive SkC where
 | int (k:IntKind) | bool | str | rows (f:Bool) (c:Co) | nil | own (l:Nat) | pb (l sz j:Nat) | pr (l j:Nat) | rp (f:Bool) (c:Co) (j:Nat) | gp (g:Nat) (c:Co)
 | fn (g:FuncId) (caps:List (Nat×Nat)) | np | clip (f:Bool) (c:Co)
 deriving DecidableEq,Inhabited,Repr
inductive SkV where
 | c (x:SkC) | agg (cs:List SkC) | sv (f:Bool) (c:Co)
 deriving DecidableEq,Inhabited,Repr
inductive SkO where
 | box (v:SkV) | rows (f:Bool) (c:Co) | gone
 deriving DecidableEq,Inhabited,Repr
structure dM where
 slots:List (Nat×SkV)
 objs:List SkO
 deriving DecidableEq,Inhabited
abbrev SkC.tys:SkC->List LTy
 | .int _=> [.i] | .bool=> [.b] | .str=> [.s] | .rows _ c=> [.l c] | .pr _ _=> [.i] | .rp _ c _=> [.l c,.i] | .clip _ c=> [.l c] | _=> []
abbrev SkC.Gs:List SkC->List LTy
 | []=> []
 | x::r=>x.tys++SkC.Gs r
abbrev SkV.tys:SkV->List LTy
 | .c x=>x.tys | .agg cs=>SkC.Gs cs | .sv _ q=> [.x q]
abbrev SkV.Gs:List SkV->List LTy
 | []=> []
 | x::r=>x.tys++SkV.Gs r
abbrev SkO.tys:SkO->List LTy
 | .box v=>v.tys | .rows _ c=> [.l c] | .gone=> []
abbrev SkO.Gs:List SkO->List LTy
 | []=> []
 | x::r=>x.tys++SkO.Gs r
abbrev dM.tys(k:dM):List LTy:=SkV.Gs (k.slots.map (·.2))++SkO.Gs k.objs
structure Sig where
 args:List SkV
 objs:List SkO
 res:List SkV
 dW:List SkO
 deriving DecidableEq,Inhabited
abbrev Sig.inp(s:Sig):List LTy:=SkV.Gs s.args++SkO.Gs s.objs
abbrev Sig.out(s:Sig):List LTy:=SkV.Gs s.res++SkO.Gs s.dW
def SkC.fresh:SkC->Bool | .rows f _=>f | .clip f _=>f | .rp f _ _=>f | .gp _ _=>false | _=>true
def SkV.fresh:SkV->Bool | .c x=>x.fresh | .agg cs=>cs.all SkC.fresh | .sv f q=>f || q.flat
def SkO.fresh:SkO->Bool | .box v=>v.fresh | .rows f _=>f | .gone=>true
def Sig.fresh(s:Sig):Bool:=s.res.all SkV.fresh&&s.dW.all SkO.fresh
structure Ct(A:Car)(s:Sig) where
 pre:Tup A s.inp->A.B
 fn:Tup A s.inp->Tup A s.out
abbrev Calls(A:Car):=FuncId->List (Sigma (Ct A))
inductive Ann where
 | u | seq (a b:Ann) | cond (a b:Ann) | block (a:Ann) | loop (k:dM) (a:Ann) | cut (k:dM) (a:Ann)
 deriving Inhabited
section
variable (A:Alg)
structure ES where
 ren:List (Option (Option Nat))
 fro:List (Nat×Bool)
 tr:List (Nat×A.I×A.I)
 ck:List A.B
 lv:List (LV A.aA)
def ES.push(s:ES A)(x:LV A.aA):ES A:={s with lv:=x::s.lv}
def vJ(s:ES A)(i:Nat)(v:Option Nat):Option (ES A):=
 match s.ren[i]? with
 | some none=>some {s with ren:=s.ren.set i (some v)}
 | some (some w)=>if w=v then some s else none
 | none=>none
def extC(h:List (eD A.aA))(k:SkC)(v:TC A.aA)(s:ES A):Option (ES A):=
 match k with
 | .int k=>match v with | .d _ (.int k' x)=>if k=k' then some (s.push A (.i x))else none | _=>none
 | .bool=>match v with | .d _ (.bool x)=>some (s.push A (.b x)) | _=>none
 | .str=>match v with | .d _ (.str x)=>some (s.push A (.s x)) | _=>none
 | .rows f c=>match v with
  | .os l e n=>match h[l]? with
   | some (.rows g a d)=>if c=a/\(!f || g)then some {(s.push A (.l a (A.sub a d e (A.addN e n))))with fro:=(l,f)::s.fro,ck:=nK A h (.c v)++s.ck}else none
   | _=>none
  | v=>match gu A h (.rows c) v with
   | some (g,x,ls)=>if !f || g then some {(s.push A x)with fro:=ls.map (λl=>(l,f))++s.fro}else none
   | none=>none
 | .nil=>match v with | .nil=>some s | _=>none
 | .own i=>match v with
  | .own l=>if s.tr.any (·.1==i)then none else vJ A s i (some l)
  | .nil=>vJ A s i none
  | .os l e n=>match s.ren[i]?,h[l]? with
   | some none,some (.rows _ c d)=>some {s with ren:=s.ren.set i (some (some l)),tr:=(i,e,n)::s.tr,ck:=[A.cmp .leq (A.lit 0) e,A.cmp .leq (A.lit 0) n,A.cmp .leq (A.addN e n) (A.len c d)]++s.ck}
   | _,_=>none
  | _=>none
 | .pb i r j=>match v with | .pb l q m=>if r=q/\j=m/\ !(s.tr.any (·.1==i))then vJ A s i (some l)else none | _=>none
 | .pr i j=>match v with | .pr l x m=>if j=m/\ !(s.tr.any (·.1==i))then(match vJ A s i (some l)with | some s=>some (s.push A (.i x)) | none=>none)else none | _=>none
 | .rp f c j=>match v with | .rp g a d x m=>if c=a/\j=m/\(!f || g)then some ((s.push A (.l a d)).push A (.i x))else none | _=>none
 | .gp g c=>match v with | .gp o a=>if g=o/\c=a then some s else none | _=>none
 | .fn g b=>match v with
  | .fn o sQ=>if g=o/\b.map (·.2)=sQ.map (·.2)/\b.all (λp=> !(s.tr.any (·.1==p.1)))then
    (b.zip sQ).foldlM (λs p=>vJ A s p.1.1 (some p.2.1)) s else none
  | _=>none
 | .np=>match v with | .np=>some s | _=>none
 | .clip f c=>match v with | .clip g a d=>if c=a/\(!f || g)then some (s.push A (.l a d))else none | _=>none
def I9(h:List (eD A.aA)):List SkC->List (TC A.aA)->ES A->Option (ES A)
 | [],[],s=>some s
 | k::r,v::vs,s=>match extC A h k v s with | some s=>I9 h r vs s | none=>none
 | _,_,_=>none
def LU(h:List (eD A.aA))(k:SkV)(v:TV A.aA)(s:ES A):Option (ES A):=
 match k with
 | .c k=>match v with | .c x=>extC A h k x s | _=>none
 | .agg a=>if bK A v then I9 A h a (dh A v) s else none
 | .sv f c=>if bK A v then match toX A h c v with
  | some (g,x,ls)=>if !f || g then some {(s.push A (.x c x))with fro:=ls.map (λl=>(l,f))++s.fro}else none
  | none=>none
  else none
def sS(h:List (eD A.aA)):List SkV->List (TV A.aA)->ES A->Option (ES A)
 | [],[],s=>some s
 | k::r,v::vs,s=>match LU A h k v s with | some s=>sS h r vs s | none=>none
 | _,_,_=>none
def lu(s:ES A)(i:Nat):Option (A.I×A.I):=match s.tr.find? (·.1==i)with | some x=>some x.2 | none=>none
def Vk(h:List (eD A.aA))(i:Nat)(k:SkO)(s:ES A):Option (ES A):=
 match k,s.ren[i]? with
 | .gone,_=>some s
 | .box k,some (some (some l))=>match h[l]? with | some (.box v)=>LU A h k v s | _=>none
 | .rows f c,some (some (some l))=>match h[l]? with
  | some (.rows g c' xs)=>if c=c'/\(!f || g || c.flat)then some (s.push A (.l c' (match lu A s i with | some p=>A.sub c' xs p.1 (A.addN p.1 p.2) | none=>xs)))else none
  | _=>none
 | .rows _ c,some (some none)=>some (s.push A (.l c (A.I5 c)))
 | _,_=>none
def C9(h:List (eD A.aA)):Nat->List SkO->ES A->Option (ES A)
 | _,[],s=>some s
 | i,k::r,s=>match Vk A h i k s with | some s=>C9 h (i+1) r s | none=>none
def bO:List (Option (Option Nat))->List Nat
 | []=> []
 | some (some l)::r=>l::bO r
 | _::r=>bO r
def distinct:List Nat->Bool
 | []=>true
 | x::r=> !r.contains x&&distinct r
def vK:Option SkO->Bool | some .gone=>true | _=>false
def uO:List SkO->List (Option (Option Nat))->Bool
 | .gone::os,some _::_=>false
 | _::os,_::r=>uO os r
 | _,_=>true
def afg(h:List (eD A.aA))(l:Nat):Bool:=match h[l]? with | some (.rows ..)=>true | _=>false
def ES.fine(h:List (eD A.aA))(s:ES A)(a:List SkO):Bool:=distinct (bO s.ren)&& (s.fro.all λp=> !(bO s.ren).contains p.1&&afg A h p.1)&&uO a s.ren
def es0(k:Nat)(os:List SkO):ES A:={ren:=(range os.length).map λi=>if Nat.blt i k&& !vK os[i]? then some (some i)else none,fro:=[],tr:=[],ck:=[],lv:=[]}
end
section
variable (A:Car)
def afh(nm:Nat->Nat):SkC->List (LV A)->Option (TC A×List (LV A))
 | .int k,.i x::r=>some (.d true (.int k x),r)
 | .bool,.b x::r=>some (.d true (.bool x),r)
 | .str,.s x::r=>some (.d true (.str x),r)
 | .rows f _,.l c x::r=>some (.d f (.rows c x),r)
 | .nil,r=>some (.nil,r)
 | .own i,r=>some (.own (nm i),r)
 | .pb i sz j,r=>some (.pb (nm i) sz j,r)
 | .pr i j,.i x::r=>some (.pr (nm i) x j,r)
 | .rp f _ j,.l c x:: .i y::r=>some (.rp f c x y j,r)
 | .gp g c,r=>some (.gp g c,r)
 | .fn g caps,r=>some (.fn g (caps.map λp=>(nm p.1,p.2)),r)
 | .np,r=>some (.np,r)
 | .clip f _,.l c x::r=>some (.clip f c x,r)
 | _,_=>none
def OM(nm:Nat->Nat):List SkC->List (LV A)->Option (List (TC A)×List (LV A))
 | [],r=>some ([],r)
 | k::ks,r=>match afh A nm k r with
  | some (x,r)=>match OM nm ks r with | some (xs,r)=>some (x::xs,r) | none=>none
  | none=>none
def Da(nm:Nat->Nat):SkV->List (LV A)->Option (TV A×List (LV A))
 | .c k,r=>match afh A nm k r with | some (x,r)=>some (.c x,r) | none=>none
 | .agg ks,r=>match OM A nm ks r with | some (xs,r)=>some (.agg xs,r) | none=>none
 | .sv f _,.x c x::r=>some (.sv f c x,r)
 | _,_=>none
def vL(nm:Nat->Nat):List SkV->List (LV A)->Option (List (TV A)×List (LV A))
 | [],r=>some ([],r)
 | k::ks,r=>match Da A nm k r with
  | some (x,r)=>match vL nm ks r with | some (xs,r)=>some (x::xs,r) | none=>none
  | none=>none
def afi(nm:Nat->Nat)(a:eD A):SkO->List (LV A)->Option (eD A×List (LV A))
 | .box k,r=>match Da A nm k r with | some (v,r)=>some (.box v,r) | none=>none
 | .rows f _,.l c x::r=>some (.rows f c x,r)
 | .gone,r=>some (a,r)
 | _,_=>none
def yL(nm:Nat->Nat)(old:Nat->eD A):Nat->List SkO->List (LV A)->Option (List (eD A)×List (LV A))
 | _,[],r=>some ([],r)
 | i,k::ks,r=>match afi A nm (old i) k r with
  | some (x,r)=>match yL nm old (i+1) ks r with | some (xs,r)=>some (x::xs,r) | none=>none
  | none=>none
end
section
variable (A:Alg)
structure SV where
 tag:Option Nat
 v:TV A.aA
structure GE where
 slot:Option Nat
 want:Bool
 par:Option Nat
 g:A.B
 dead:Bool
structure RSt where
 t:List (Nat×SV A)
 gs:List (GE A)
 h:List (eD A.aA)
 m:Nat
 deriving Inhabited
def dN:List (Nat×SV A)->Nat->Option (SV A)
 | [],_=>none
 | (i,v)::r,j=>if i==j then some v else dN r j
def qg(d:Nat)(e:GE A):GE A:=match e.slot with | some x=>if x==d then {e with slot:=none}else e | none=>e
def RSt.put(s:RSt A)(d:Option Nat)(tag:Option Nat)(v:TV A.aA):RSt A:=
 match d with | none=>s | some d=> {s with t:=(d,⟨tag,v⟩)::s.t,gs:=s.gs.map (qg A d)}
def RSt.del(s:RSt A)(d:Option Nat):RSt A:=
 match d with | none=>s | some d=> {s with t:=s.t.filter λp=> !(p.1==d),gs:=s.gs.map (qg A d)}
def acC(m:Nat):Option Nat->Bool | none=>true | some d=>Nat.blt d m
def Vm(a:List (GE A)):Nat->Option Nat->List Nat
 | 0,_=> []
 | _,none=> []
 | f+1,some t=>t::(match a[t]? with | some e=>Vm a f e.par | none=> [])
def fG(gs:List (GE A))(t:Option Nat):List Nat:=Vm A gs (gs.length+1) t
def dH:List (GE A)->Nat->Bool->Nat->Option Nat
 | [],_,_,_=>none
 | e::r,d,w,i=>if(e.slot==some d)&& (e.want==w)then some i else dH r d w (i+1)
def iT(lk:Nat->Option (SV A))(al:List Nat)(i:Nat):Option (TV A.aA):=
 match lk i with
 | some ⟨none,v⟩=>some v
 | some ⟨some t,v⟩=>if al.contains t then some v else none
 | none=>none
inductive GR where
 | bad | skip | run (gs:List (GE A)) (t:Nat) (g:A.B)
def Ja(g:Nat->Option (SV A))(gs:List (GE A))(d:Nat)(a:Bool):GR A:=
 match g d with
 | none=> .bad
 | some ⟨tg,v⟩=>match dH A gs d a 0 with
  | some t=>match gs[t]? with | some e=>if e.dead then .skip else .run gs t e.g | none=> .bad
  | none=>match v with
   | .c (.d _ (.bool b))=>
    let c:=if a then b else A.BL b
    match tg with
    | none=> .run (gs++ [⟨some d,a,none,c,false⟩]) gs.length c
    | some f=>match gs[f]? with
     | some e=> .run (gs++ [⟨some d,a,some f,A.Sn e.g c,false⟩]) gs.length (A.Sn e.g c)
     | none=> .bad
   | .tup []=>match tg with | none=> .skip | some _=> .bad
   | _=> .bad
def Db(gs:List (GE A))(t:Nat):List (GE A):=match gs[t]? with | some e=>gs.set t {e with dead:=true} | none=>gs
def yM(X:XT)(f:Nat->Option (SV A))(gs:List (GE A))(h:List (eD A.aA))(g:Option Nat)(i:Op):PR A:=
 let al:=fG A gs g
 match i with
 | .pick c a b=>match evX A X (iT A f al) c with
  | some (.c (.d _ (.bool q)))=>
   let e (w:Bool):List Nat:=match c with
    | .tmp d=>(match dH A gs d w 0 with | some t=>fG A gs (some t)++al | none=>al)
    | _=>al
   match evX A X (iT A f (e true)) a,evX A X (iT A f (e false)) b with
   | some (.tup []),some y=>some ([A.BL q],y)
   | some x,some (.tup [])=>some ([q],x)
   | some x,some y=>Sq A (Vi A q x y)
   | _,_=>none
  | _=>none
 | i=>acA A X (iT A f al) h i
def SA(X:XT)(e:Nat->Option (TV A.aA)):List Operand->Option (List (TV A.aA))
 | []=>some []
 | x::r=>match evX A X e x with | some v=>(match SA X e r with | some a=>some (v::a) | none=>none) | none=>none
def newNames:List (Option (Option Nat))->Nat->Nat->List Nat
 | _,_,0=> []
 | [],n,k+1=>n::newNames [] (n+1) k
 | some (some l)::r,n,k+1=>l::newNames r n k
 | _::r,n,k+1=>n::newNames r (n+1) k
def yN(h:List (eD A.aA))(l:Nat):eD A.aA:=
 match h[l]? with | some (.rows _ c xs)=> .gone c (A.len c xs) | some (.gone c n)=> .gone c n | _=> .gone .i64 (A.lit 0)
def jv(h:List (eD A.aA)):List Nat->List (eD A.aA)->List (eD A.aA)
 | l::ls,o::os=>jv (if Nat.blt l h.length then h.set l o else h++ [o]) ls os
 | _,_=>h
def awJ:List (TV A.aA)->TV A.aA | [v]=>v | vs=> .tup vs
structure CR where
 ck:List A.B
 ts:List LTy
 y:Tup A.aA ts
 k:Tup A.aA ts->Option (TV A.aA×List (eD A.aA))
 touched:List Nat
 pure:Bool
def vM(h:List (eD A.aA))(s:Sig)(d:Ct A.aA s)(args:List (TV A.aA)):Option (CR A):=
  match sS A h s.args args (es0 A 0 s.objs)with
  | some e=>match C9 A h 0 s.objs e with
    | some e=>if ES.fine A h e s.objs&&e.tr.isEmpty then match pack A.aA s.inp e.lv.reverse with
      | some x=>
        let b:=s.fresh&&e.fro.all λp=> !p.2
        some { ck := e.ck ++ [d.pre x], ts := s.out, y := d.fn x, touched := bO e.ren ++ (if b then [] else e.fro.map (·.1)), pure := s.objs.isEmpty && s.dW.isEmpty && (b || e.fro.isEmpty)
               k:=λy=>
                 let c:=if b then h else bG A h (e.fro.map (·.1))
                 let a:=newNames e.ren c.length s.dW.length
                 let nm:=λi=>a.getD i 0
                 match vL A.aA nm s.res (unpack A.aA s.out y)with
                 | some (vs,r)=>match yL A.aA nm (λi=>yN A c (nm i)) 0 s.dW r with
                   | some (os,_)=>some (awJ A vs,jv A c a os)
                   | none=>none
                 | none=>none}
      | none=>none
      else none
    | none=>none
  | none=>none
def Dc(h:List (eD A.aA))(a:List (TV A.aA)):List (Sigma (Ct A.aA))->Option (CR A)
 | []=>none
 | ⟨s,ct⟩::r=>match vM A h s ct a with | some x=>some x | none=>Dc h a r
def acD(X:XT)(C:Calls A.aA)(e:Nat->Option (TV A.aA))(h:List (eD A.aA))(a:Op):Option (CR A):=
 match a with
 | .call c=>match c.callee with
  | .value f=>match evX A X e f,SA A X e c.args.toList with
   | some (.c (.fn g caps)),some vs=>Dc A h (vs++caps.map λp=> .c (.pb p.1 p.2 0)) (C g)
   | _,_=>none
  | _=>none
 | _=>none
def aem(X:XT)(C:Calls A.aA)(e:Nat->Option (TV A.aA))(h:List (eD A.aA))(a:Op):Option (CR A):=
 match jR a with
 | 1=>match a with
  | .store ty p x=>match evX A X e p,evX A X e x with
   | some pv,some v=>match yK A X h ty pv v with
    | some r=>match v with
     | .c (.d f (.int q n))=>some {ck:=r.chk,ts:=[.i],y:=(n,()),k:=λy=>(match yK A X h ty pv (.c (.d f (.int q y.1)))with | some r=>some (r.v,r.h) | none=>none),touched:=r.touched,pure:=false}
     | .c (.d f (.bool n))=>some {ck:=r.chk,ts:=[.b],y:=(n,()),k:=λy=>(match yK A X h ty pv (.c (.d f (.bool y.1)))with | some r=>some (r.v,r.h) | none=>none),touched:=r.touched,pure:=false}
     | .c (.d f (.rows c n))=>some {ck:=r.chk,ts:=[.l c],y:=(n,()),k:=λy=>(match yK A X h ty pv (.c (.d f (.rows c y.1)))with | some r=>some (r.v,r.h) | none=>none),touched:=r.touched,pure:=false}
     | .sv f c n=>some {ck:=r.chk,ts:=[.x c],y:=(n,()),k:=λy=>(match yK A X h ty pv (.sv f c y.1)with | some r=>some (r.v,r.h) | none=>none),touched:=r.touched,pure:=false}
     | _=>some {ck:=r.chk,ts:=[],y:=(),k:=λ_=>some (r.v,r.h),touched:=r.touched,pure:=false}
    | none=>none
   | _,_=>none
  | _=>match I8 A X e h a with
   | some r=>match r.v with
    | .c (.own l)=>match r.h[l]? with
     | some (.rows f c xs)=>some {ck:=r.chk,ts:=[.l c],y:=(xs,()),k:=λy=>some (r.v,r.h.set l (.rows f c y.1)),touched:=r.touched,pure:=false}
     | _=>none
    | _=>some {ck:=r.chk,ts:=[],y:=(),k:=λ_=>some (r.v,r.h),touched:=r.touched,pure:=false}
   | none=>none
 | _=>acD A X C e h a
def acE{ρ:Type}(a:Op)(v:TV A.aA)(K:TV A.aA->A.M ρ):A.M ρ:=
 match a with
 | .assign _=>match v with
  | .c (.d f (.int k x))=>A.xM [.i] (x,()) λy=>K (.c (.d f (.int k y.1)))
  | .c (.d f (.bool x))=>A.xM [.b] (x,()) λy=>K (.c (.d f (.bool y.1)))
  | .c (.d f (.rows c x))=>A.xM [.l c] (x,()) λy=>K (.c (.d f (.rows c y.1)))
  | v=>K v
 | _=>K v
def jw{ρ:Type}:List A.B->A.M ρ->A.M ρ
 | [],m=>m
 | b::r,m=>A.chk b (jw r m)
def under(g:A.B)(a:List A.B):List A.B:=a.map λp=>A.orB (A.BL g) p
def wW{ρ:Type}(r:CR A)(K:TV A.aA->List (eD A.aA)->A.M ρ):A.M ρ:=
 match r.ts,r.y,r.k with
 | [],y,k=>(match k y with | some (v,h)=>K v h | none=>A.fail)
 | ts,y,k=>A.xM ts y λy=>match k y with | some (v,h)=>K v h | none=>A.fail
def fP{ρ:Type}(X:XT)(C:Calls A.aA)(ops:List Oper):List Oper->(RSt A->A.M ρ)->RSt A->A.M ρ
 | [],K,s=>K s
 | o::r,K,s=>if acC s.m o.dst then match o.guard with
  | none=>if jR o.op==0 then match yM A X (dN A s.t) s.gs s.h none o.op with
    | some (ps,v)=>jw A ps (acE A o.op v λv=>fP X C ops r K (s.put A o.dst none v))
    | none=>A.fail
   else match aem A X C (iT A (dN A s.t) []) s.h o.op with
    | some a=>jw A a.ck (wW A a λv h=>fP X C ops r K (RSt.put A {s with h:=h} o.dst none v))
    | none=>A.fail
  | some (j,want)=>match gslot ops j with
   | some d=>match Ja A (dN A s.t) s.gs d want with
    | .skip=>fP X C ops r K (s.put A o.dst none (.tup []))
    | .run gs t g=>if jR o.op==0 then match yM A X (dN A s.t) gs s.h (some t) o.op with
      | some (ps,v)=>jw A (under A g ps) (fP X C ops r K (RSt.put A {s with gs:=gs} o.dst (some t) v))
      | none=>A.fail
     else match aem A X C (iT A (dN A s.t) (fG A gs (some t))) s.h o.op with
      | some a=>if a.pure then jw A (under A g a.ck) (wW A a λv _=>fP X C ops r K (RSt.put A {s with gs:=gs} o.dst (some t) v))
       else A.cond g (jw A a.ck (wW A a λv h=>fP X C ops r K (RSt.put A {s with h:=h,gs:=gs} o.dst none v)))
        (fP X C ops r K (RSt.put A {s with gs:=Db A gs t} o.dst none (.tup [])))
      | none=>A.fail
    | .bad=>A.fail
   | none=>A.fail
  else A.fail
def yO:TV A.aA->List Nat
 | .c (.pb l _ _)=> [l] | .c (.pr l _ _)=> [l] | _=> []
def iY(X:XT)(e:Nat->Option (TV A.aA)):Op->List Nat
 | .load _ x=>match evX A X e x with | some v=>yO A v | none=> []
 | _=> []
def OO(b:List (Nat×List Nat))(a:List Nat)(j:Nat):Bool:=b.any λp=>(p.1==j)&&p.2.all λl=> !a.contains l
def qX(b:List (Nat×List Nat))(a:List Nat):List (Nat×List Nat):=b.filter λp=>p.2.all λl=> !a.contains l
def zX(X:XT)(e:Nat->Option (TV A.aA))(h:List (eD A.aA))(d:Op):PR A:=
 match d with
 | .buildSlice ty len a=>match X.ty ty with
  | some y=>match y.desc with
   | .slice b=>match X.ty b,X.co b with
    | some z,some c=>if nJ X b c&& !(z.size==0)&& (a.toList.map (·.1)==range len)&&Nat.ble (len*z.size) 16777216 then
      match vI A X e c h a.toList with
      | some (f,xs,_,[])=>some ([],.c (.clip f c (A.lst c xs)))
      | _=>none
     else none
    | _,_=>none
   | _=>none
  | none=>none
 | _=>none
def G7(e:Nat->Option (TV A.aA))(k:A.I):List (Int×Nat)->Option A.B
 | []=>some (A.bl false)
 | (k',r)::rest=>match e r with
  | some (.c (.d _ (.bool b)))=>(match G7 e k rest with | some q=>some (A.OH (A.cmp .eql k (A.lit k')) b q) | none=>none)
  | _=>none
def Vn(X:XT)(c:List Oper)(e:Nat->Option (TV A.aA))(h:List (eD A.aA))(a:Op):Option (Option (List A.B×TV A.aA)):=
 match a with
 | .makeMap .. =>some none
 | .insert _ _ _ v=>(match v with | .tmp r=>(match e r with | some _=>some none | none=>none) | _=>none)
 | .move x=>if oV x then some none else none
 | .lookup _ _ (.tmp q) _=>(match e q with
  | some (.c (.d _ (.int .i64 n)))=>(match G7 A e n (oK c)with | some b=>some (some ([],.c (.d true (.bool b)))) | none=>none)
  | _=>none)
 | a=>(match zX A X e h a with | some r=>some (some r) | none=>none)
def jS{ρ:Type}(X:XT)(C:Calls A.aA)(ops:List Oper):List fU->List (Nat×List Nat)->(RSt A->A.M ρ)->RSt A->A.M ρ
 | [],_,K,s=>K s
 | (i,rs,cs)::r,hs,K,s=>match ops[i]? with
  | none=>A.fail
  | some o=>if acC s.m o.dst then
   let lk:=λi=>if rs.contains i then dN A s.t i else none
   match kindOf o.op with
   | 0=>if hs.any λp=>p.1==i then A.fail else match o.guard with
    | none=>match yM A X lk s.gs s.h none o.op with
     | some (ps,v)=>jw A ps (acE A o.op v λv=>jS X C ops r ((i,iY A X (iT A lk []) o.op)::hs) K (s.put A o.dst none v))
     | none=>A.fail
    | some (j,want)=>match gslot ops j with
     | some d=>match Ja A lk s.gs d want with
      | .skip=>jS X C ops r ((i,[])::hs) K (s.put A o.dst none (.tup []))
      | .run gs t g=>match yM A X lk gs s.h (some t) o.op with
       | some (ps,v)=>jw A (under A g ps) (jS X C ops r ((i,iY A X (iT A lk (fG A gs (some t))) o.op)::hs) K (RSt.put A {s with gs:=gs} o.dst (some t) v))
       | none=>A.fail
      | .bad=>A.fail
     | none=>A.fail
   | 1=>match Vn A X ops (iT A lk []) s.h o.op with
    | some (some (ps,v))=>jw A ps (jS X C ops r hs K (s.put A o.dst none v))
    | some none=>jS X C ops r hs K (s.del A o.dst)
    | none=>A.fail
   | 2=>match I8 A X (λ_=>none) s.h o.op with
    | some b=>jw A b.chk (jS X C ops r hs K (RSt.put A {s with h:=b.h} o.dst none b.v))
    | none=>A.fail
   | _=>match o.guard with
    | none=>match aem A X C (iT A lk []) s.h o.op with
     | some a=>
      if cs.all (OO hs a.touched)then jw A a.ck (wW A a λv h=>jS X C ops r (qX hs a.touched) K (RSt.put A {s with h:=h} o.dst none v))else A.fail
     | none=>A.fail
    | some (j,want)=>match gslot ops j with
     | some d=>match Ja A lk s.gs d want with
      | .skip=>jS X C ops r hs K (s.put A o.dst none (.tup []))
      | .run gs t g=>match aem A X C (iT A lk (fG A gs (some t))) s.h o.op with
       | some a=>if cs.all (OO hs a.touched)then
         if a.pure then jw A (under A g a.ck) (wW A a λv _=>jS X C ops r hs K (RSt.put A {s with gs:=gs} o.dst (some t) v))
         else A.cond g (jw A a.ck (wW A a λv h=>jS X C ops r (qX hs a.touched) K (RSt.put A {s with h:=h,gs:=gs} o.dst none v)))
          (jS X C ops r hs K (RSt.put A {s with gs:=Db A gs t} o.dst none (.tup [])))
        else A.fail
       | none=>A.fail
      | .bad=>A.fail
     | none=>A.fail
   else A.fail
def yQ(t:List (Nat×SV A))(h:List (eD A.aA)):List (Nat×SkV)->ES A->Option (ES A)
 | [],e=>some e
 | p::r,e=>match dN A t p.1 with
  | some ⟨none,v⟩=>(match LU A h p.2 v e with | some e=>yQ t h r e | none=>none)
  | _=>none
def Jb(k:Nat)(a:dM)(s:RSt A):Option (List A.B×Tup A.aA a.tys):=
 if !Nat.ble k a.objs.length then none else match yQ A s.t s.h a.slots (es0 A k a.objs)with
 | some e=>match C9 A s.h 0 a.objs e with
  | some e=>if ES.fine A s.h e a.objs then(match pack A.aA a.tys e.lv.reverse with | some x=>some (e.ck,x) | none=>none)else none
  | none=>none
 | none=>none
def wX(a:dM)(m:Nat)(x:Tup A.aA a.tys):RSt A:=
 match vL A.aA (λi=>i) (a.slots.map (·.2)) (unpack A.aA a.tys x)with
 | some (vs,r)=>match yL A.aA (λi=>i) (λ_=> .gone .i64 (A.lit 0)) 0 a.objs r with
  | some (os,_)=> {t:=(a.slots.map (·.1)).zip (vs.map λv=>⟨none,v⟩),gs:=[],h:=os,m:=m}
  | none=>default
 | none=>default
def plain:Code->Bool
 | .skip=>true | .region .. =>true | .seq a b=>plain a&&plain b | .cond _ x y=>plain x&&plain y
 | _=>false
def Vo{ρ:Type}(k:Nat)(a:dM)(c:Bool)(s:RSt A)(K:Exit->RSt A->A.M ρ)(W: {σ:Type}->(Exit->RSt A->A.M σ)->A.M σ):A.M ρ:=
 if c then A.bind a.tys (W λe b=>match e with
  | .normal=>(match Jb A k a b with | some (ck,t)=>jw A ck (A.ret a.tys t) | none=>A.fail)
  | _=>A.fail) λt=>K .normal (wX A a s.m t)
 else A.yJ a.tys (W λe b=>match e with
  | .normal=>(match Jb A k a b with | some (ck,t)=>jw A ck (A.inl a.tys t) | none=>A.fail)
  | e=>A.inr a.tys (K e b)) λt=>K .normal (wX A a s.m t)
def bS(X:XT)(C:Calls A.aA)(d:Nat->List fU)(chk:Nat->Array Oper->Nat->Bool)(k:Nat): {ρ:Type}->Ann->Code->RSt A->(Exit->RSt A->A.M ρ)->A.M ρ
 | _,_,.skip,s,K=>K .normal s
 | _,an,.region id ops draw,s,K=>
  let W: {σ:Type}->(Exit->RSt A->A.M σ)->A.M σ:=λK=>
   if draw then(if chk id ops s.m then jS A X C ops.toList (d id) [] (λs=>K .normal s) s else A.fail)
   else fP A X C ops.toList ops.toList (λs=>K .normal s) s
  match an with
  | .cut sk .u=>Vo A k sk true s K W
  | _=>W K
 | _,an,.seq x y,s,K=>match an with
  | .seq a b=>bS X C d chk k a x s λe f=>match e with | .normal=>bS X C d chk k b y f K | e=>K e f
  | .u=>bS X C d chk k .u x s λe f=>match e with | .normal=>bS X C d chk k .u y f K | e=>K e f
  | _=>A.fail
 | _,an,.cond c x y,s,K=>match evX A X (iT A (dN A s.t) []) c with
  | some (.c (.d _ (.bool b)))=>match an with
   | .cond h j=>A.cond b (bS X C d chk k h x s K) (bS X C d chk k j y s K)
   | .u=>A.cond b (bS X C d chk k .u x s K) (bS X C d chk k .u y s K)
   | .cut sk (.cond h j)=>Vo A k sk (plain x&&plain y) s K λg=>A.cond b (bS X C d chk k h x s g) (bS X C d chk k j y s g)
   | _=>A.fail
  | _=>A.fail
 | _,an,.block id b,s,K=>match an with
  | .block a=>bS X C d chk k a b s λe f=>match e with | .exit i=>if i==id then K .normal f else K (.exit i) f | e=>K e f
  | .u=>bS X C d chk k .u b s λe f=>match e with | .exit i=>if i==id then K .normal f else K (.exit i) f | e=>K e f
  | .cut sk (.block a)=>Vo A k sk false s K λg=>bS X C d chk k a b s λe f=>match e with | .exit i=>if i==id then g .normal f else g (.exit i) f | e=>g e f
  | _=>A.fail
 | _,.loop sk a,.loop b,s,K=>match Jb A k sk s with
  | some (ck,x0)=>jw A ck (A.iter sk.tys (λx=>bS X C d chk k a b (wX A sk s.m x) λe f=>match e with
    | .normal=>(match Jb A k sk f with | some (ck,t)=>jw A ck (A.inl sk.tys t) | none=>A.fail)
    | e=>A.inr sk.tys (K e f)) x0)
  | none=>A.fail
 | _,_,.exit id,s,K=>K (.exit id) s
 | _,_,.ret,s,K=>K .ret s
 | _,_,_,_,_=>A.fail
def Vp(X:XT)(s:RSt A):List ResultVar->Option (List (TV A.aA))
 | []=>some []
 | .tmp t::r=>match dN A s.t t with
  | some ⟨none,v⟩=>(match Vp X s r with | some a=>some (v::a) | none=>none)
  | _=>none
 | .cell t ty::r=>match dN A s.t t with
  | some ⟨none,p⟩=>match Sv A X s.h ty p with
   | some ([],v)=>(match Vp X s r with | some a=>some (v::a) | none=>none)
   | _=>none
  | _=>none
def aen(X:XT)(a:Sig)(c:Func)(s:RSt A):A.M (Tup A.aA a.out):=
 match Vp A X s c.results.toList with
  | some b=>match sS A s.h a.res b (es0 A a.objs.length a.dW)with
   | some e=>match C9 A s.h 0 a.dW e with
    | some e=>if ES.fine A s.h e a.dW then(match pack A.aA a.out e.lv.reverse with | some y=>jw A e.ck (A.ret a.out y) | none=>A.fail)else A.fail
    | none=>A.fail
   | none=>A.fail
  | none=>A.fail
def lZ(X:XT)(C:Calls A.aA)(ord:Nat->List fU)(chk:Nat->Array Oper->Nat->Bool)(an:Ann)(a:Sig)(c:Func)(b:Code)(x:Tup A.aA a.inp):A.M (Tup A.aA a.out):=
 if !Nat.ble a.objs.length a.dW.length then A.fail else match vL A.aA (λi=>i) a.args (unpack A.aA a.inp x)with
 | some (vs,r)=>match yL A.aA (λi=>i) (λ_=> .gone .i64 (A.lit 0)) 0 a.objs r with
  | some (os,_)=>
   bS A X C ord chk a.objs.length an b {t:=(range vs.length).zip (vs.map λv=>⟨none,v⟩),gs:=[],h:=os,m:=vs.length+(c.ntmps-vs.length)} λe s=>
    match e with
    | .ret | .normal=>aen A X a c s
    | _=>A.fail
  | none=>A.fail
 | none=>A.fail
end
end Go.TX
namespace Go.TX
open Go Go.AE List
abbrev aH:Car:={I:=Int,B:=Bool,S:=ByteArray,L:=λc=>List c.den,X:=Co.den}
def amU(b:Blk):List (LV aH):=[.i b.pc,.i b.len,.l .iop b.ops,.i b.fin,.i b.x,.i b.y,.i b.k]
def aou(m:aC):List (LV aH):=[.l .i64 m.regs,.i m.pc,.l .i64 m.mem,.i m.save,.b m.aL,.b m.waits,.i m.halt,.l .i64 m.ins,.l .i64 m.outs,.i m.count]
def Co.BO:(c:Co)->c.den->List (LV aH)
 | .i64,n=> [.i n] | .u8,n=> [.i n] | .bool,b=> [.b b] | .str,s=> [.s s]
 | .ins,i=> [.i i.op,.i i.d,.i i.a,.i i.k]
 | .form,f=> [.b f.d,.b f.a,.i f.most,.l .str f.words]
 | .mono,m=> [.i m.bD,.l .i64 m.atoms]
 | .poly,p=> [.l .mono p]
 | .atom,a=> [.i a.kind,.i a.k,.l .mono a.x,.l .mono a.y]
 | .tab,t=> [.l .atom t]
 | .iop,o=> [.i o.kind,.i o.x,.i o.y,.i o.k,.i o.at_]
 | .blk,b=>amU b
 | .aj,m=>aou m
 | .ev,e=> [.i e.kind,.i e.at_,.l .mono e.x,.l .mono e.y,.l .poly e.regs]
 | .sym,s=> [.l .ev s.events,.l .poly s.regs,.i s.fin,.l .mono s.x,.l .mono s.y,.i s.k]
 | .cac,c=> .l .i64 c.words::amU c.blk
 | .cer,c=>amU c.base++amU c.made
 | .ask,a=> [.b a.own,.l .u8 a.bytes]
 | .eng,e=>aou e.aj++ [.l .cac e.cache,.l .cer e.aQ]
 | .ints,t=> [.l .i64 t]
abbrev jy:=Tup aH
def Co.mk:(c:Co)->jy c.uN->c.den
 | .i64,t=>t.1 | .u8,t=>t.1 | .bool,t=>t.1 | .str,t=>t.1
 | .ins,t=>⟨t.1,t.2.1,t.2.2.1,t.2.2.2.1⟩
 | .form,t=>⟨t.1,t.2.1,t.2.2.1,t.2.2.2.1⟩
 | .mono,t=>⟨t.1,t.2.1⟩
 | .poly,t=>t.1
 | .atom,t=>⟨t.1,t.2.1,t.2.2.1,t.2.2.2.1⟩
 | .tab,t=>t.1
 | .iop,t=>⟨t.1,t.2.1,t.2.2.1,t.2.2.2.1,t.2.2.2.2.1⟩
 | .blk,t=>⟨t.1,t.2.1,t.2.2.1,t.2.2.2.1,t.2.2.2.2.1,t.2.2.2.2.2.1,t.2.2.2.2.2.2.1⟩
 | .aj,t=>⟨t.1,t.2.1,t.2.2.1,t.2.2.2.1,t.2.2.2.2.1,t.2.2.2.2.2.1,t.2.2.2.2.2.2.1,t.2.2.2.2.2.2.2.1,t.2.2.2.2.2.2.2.2.1,t.2.2.2.2.2.2.2.2.2.1⟩
 | .ev,t=>⟨t.1,t.2.1,t.2.2.1,t.2.2.2.1,t.2.2.2.2.1⟩
 | .sym,t=>⟨t.1,t.2.1,t.2.2.1,t.2.2.2.1,t.2.2.2.2.1,t.2.2.2.2.2.1⟩
 | .cac,t=>⟨t.1,⟨t.2.1,t.2.2.1,t.2.2.2.1,t.2.2.2.2.1,t.2.2.2.2.2.1,t.2.2.2.2.2.2.1,t.2.2.2.2.2.2.2.1⟩⟩
 | .cer,t=>⟨⟨t.1,t.2.1,t.2.2.1,t.2.2.2.1,t.2.2.2.2.1,t.2.2.2.2.2.1,t.2.2.2.2.2.2.1⟩,
  ⟨t.2.2.2.2.2.2.2.1,t.2.2.2.2.2.2.2.2.1,t.2.2.2.2.2.2.2.2.2.1,t.2.2.2.2.2.2.2.2.2.2.1,t.2.2.2.2.2.2.2.2.2.2.2.1,t.2.2.2.2.2.2.2.2.2.2.2.2.1,t.2.2.2.2.2.2.2.2.2.2.2.2.2.1⟩⟩
 | .ask,t=>⟨t.1,t.2.1⟩
 | .eng,t=>⟨⟨t.1,t.2.1,t.2.2.1,t.2.2.2.1,t.2.2.2.2.1,t.2.2.2.2.2.1,t.2.2.2.2.2.2.1,t.2.2.2.2.2.2.2.1,t.2.2.2.2.2.2.2.2.1,t.2.2.2.2.2.2.2.2.2.1⟩,t.2.2.2.2.2.2.2.2.2.2.1,t.2.2.2.2.2.2.2.2.2.2.2.1⟩
 | .ints,t=>t.1
def bytesOf(l:List UInt8):ByteArray:=⟨l.toArray⟩
def vN:List Form:=[
 ⟨false,false,3,[bytesOf [115,116,111,112],bytesOf [114,101,116,117,114,110],bytesOf [108,101,116],bytesOf [107,101,101,112]]⟩,
 ⟨true,false,255,[bytesOf [115,101,116]]⟩,⟨true,true,0,[bytesOf [109,111,118,101]]⟩,⟨true,true,3,[bytesOf [97,100,100]]⟩,⟨true,true,3,[bytesOf [115,117,98]]⟩,
 ⟨true,true,3,[bytesOf [109,117,108]]⟩,⟨true,true,3,[bytesOf [97,110,100]]⟩,⟨true,true,3,[bytesOf [120,111,114]]⟩,⟨true,true,15,[bytesOf [115,104,105,102,116]]⟩,
 ⟨true,true,255,[bytesOf [108,111,97,100]]⟩,⟨true,true,255,[bytesOf [115,116,111,114,101]]⟩,⟨true,true,255,[bytesOf [115,97,109,101]]⟩,⟨true,true,255,[bytesOf [108,101,115,115]]⟩,
 ⟨false,true,0,[bytesOf [103,111]]⟩,⟨true,false,0,[bytesOf [111,117,116]]⟩,⟨true,false,0,[bytesOf [105,110]]⟩]
def acF:(c:Co)->List c.den
 | .form=>vN
 | _=> []
def Gu{α ρ:Type}(k:α->(ρ->Prop)->Prop)(Q:ρ->Prop):α ⊕ ρ->Prop
 | .inl x=>k x Q
 | .inr r=>Q r
def itW{α ρ:Type}:Nat->(α->(α ⊕ ρ->Prop)->Prop)->α->(ρ->Prop)->Prop
 | 0,_,_,_=>False
 | n+1,f,x,Q=>f x (Gu (itW n f) Q)
def acG{α ρ:Type}(f:α->(α ⊕ ρ->Prop)->Prop)(x:α)(Q:ρ->Prop):Prop:=
 ∃(I:α->Prop) (μ:α->Nat),I x/\∀y,I y->f y (Gu (λz _=>I z/\μ z<μ y) Q)
def gH(a:BinOp)(k:IntKind)(x y:Int):Int:=
 match a with
 | .add=>k.wrap (x+y) | .sub=>k.wrap (x-y) | .mul=>k.wrap (x*y) | .quo=>k.wrap (x.tdiv y) | .rem=>x.tmod y
 | .and=>fF .and k x y | .or=>fF .or k x y | .xor=>fF .xor k x y
 | .shl=>k.wrap (x*2^ (min y.toNat k.bits)) | .shr=>x.fdiv (2^ (min y.toNat k.bits))
 | _=>0
def bJ(a:BinOp)(x y:Int):Bool:=
 match a with
 | .eql=>decide (x=y) | .neq=> !decide (x=y) | .lss=>decide (x<y) | .leq=>decide (x<=y) | .gtr=>decide (y<x) | .geq=>decide (y<=x)
 | _=>false
def afj(x y:Ins):Bool:=decide (x=y)
def afk(x y:IOp):Bool:=decide (x=y)
def awK:(c:Co)->c.den->c.den->Bool
 | .ins,x,y=>afj x y | .iop,x,y=>afk x y | _,_,_=>false
def cO(c:Co)(j:Nat)(x:c.den):Int:=match (c.BO x)[j]? with | some (.i n)=>n | _=>0
def LW(c:Co)(j:Nat)(x:c.den):Bool:=match (c.BO x)[j]? with | some (.b n)=>n | _=>false
def aAz(c:Co)(j:Nat)(x:c.den):ByteArray:=match (c.BO x)[j]? with | some (.s n)=>n | _=>default
def jN(c:Co)(j:Nat)(a:Co)(x:c.den):List a.den:=match (c.BO x)[j]? with | some (.l q xs)=>if e:q=a then e▸xs else [] | _=> []
abbrev std(N:Nat):Alg where
 aA:=aH
 M:=fun ρ=>(ρ->Prop)->Prop
 lit:=λn=>(n:Int)
 bl:=λb=>(b:Bool)
 st:=λs=>(s:ByteArray)
 arith:=gH
 cmp:=bJ
 addN:=λ(x y:Int)=>x+y
 Sl:=λ(x y:Int)=>x-y
 neg:=λk (x:Int)=>k.wrap (0-x)
 conv:=λk (x:Int)=>k.wrap x
 Va:=λ(m n:Int)=>if n<m then n else m
 lF:=λ(m n:Int)=>if m<n then n else m
 BL:=λ(b:Bool)=> !b
 Sn:=λ(a b:Bool)=>a&&b
 orB:=λ(a b:Bool)=>a || b
 eqB:=λ(a b:Bool)=>a==b
 eqS:=λ(a b:ByteArray)=>a.toList==b.toList
 Vb:=λ(d:List Int)=>strOfNums d
 Vd:=λ(b:Bool) (x y:Int)=>bif b then x else y
 OH:=λ(b:Bool) (x y:Bool)=>bif b then x else y
 Ve:=λ(b:Bool) c (x y:List c.den)=>(bif b then x else y:List c.den)
 ael:=λ(b:Bool) _ x y=>bif b then x else y
 len:=λc (d:List c.den)=>(d.length:Int)
 I5:=λc=>([]:List c.den)
 get:=λc (d:List c.den) (i:Int)=>d.getD i.toNat default
 set:=λc (d:List c.den) (i:Int) x=>d.set i.toNat x
 app:=λc (d g:List c.den)=>d++g
 sub:=λc (d:List c.den) (h e:Int)=>(d.take e.toNat).drop h.toNat
 rep:=λc (n:Int) x=>replicate n.toNat x
 lst:=λc (d:List c.den)=>d
 glob:=λ_ c=>acF c
 fI:=cO
 fB:=LW
 fS:=aAz
 fL:=jN
 mkX:=Co.mk
 eqX:=awK
 ret:=λ_ t Q=>Q t
 fail:=λ_=>False
 xM:=λ_ t k=>k t
 chk:=λ(b:Bool) m Q=>b=true/\m Q
 cond:=λ(b:Bool) x y Q=>(b=true->x Q)/\(b=false->y Q)
 bind:=λ_ m k Q=>m λt=>k t Q
 yJ:=λ_ m k Q=>m (Gu k Q)
 inl:=λ_ t Q=>Q (.inl t)
 inr:=λ_ m Q=>m λr=>Q (.inr r)
 iter:=λ_ f x Q=>acG f x Q
abbrev Co.size(c:Co):Nat:=c.fields.length
def awL(n:Int):List D:=[.int .i64 n]
def Jd(a:List Int):D:= .rows 1 (a.map awL)
def aov(m:au):List D:=[.int .i64 m.bD,Jd m.atoms]
def Je(p:List au):D:= .rows 2 (p.map aov)
def afl(p:List au):List D:=[Je p]
def aow(a:Atom):List D:=[.int .i64 a.kind,.int .i64 a.k,Je a.x,Je a.y]
def awM(o:IOp):List D:=[.int .i64 o.kind,.int .i64 o.x,.int .i64 o.y,.int .i64 o.k,.int .i64 o.at_]
def awN(s:ByteArray):List D:=[.str s]
def u8R(n:Int):List D:=[.int .u8 n]
def amV(b:Blk):List D:=[.int .i64 b.pc,.int .i64 b.len,.rows 5 (b.ops.map awM),.int .i64 b.fin,.int .i64 b.x,.int .i64 b.y,.int .i64 b.k]
def aox(m:aC):List D:=[Jd m.regs,.int .i64 m.pc,Jd m.mem,.int .i64 m.save,.bool m.aL,.bool m.waits,.int .i64 m.halt,Jd m.ins,Jd m.outs,.int .i64 m.count]
def evR(e:Ev):List D:=[.int .i64 e.kind,.int .i64 e.at_,Je e.x,Je e.y,.rows 1 (e.regs.map afl)]
def awO(c:Cac):List D:=Jd c.words::amV c.blk
def awP(c:Cer):List D:=amV c.base++amV c.made
def Co.row:(c:Co)->c.den->List D
 | .i64,n=>awL n | .u8,n=>u8R n | .bool,b=> [.bool b] | .str,s=>awN s
 | .ins,i=> [.int .i64 i.op,.int .i64 i.d,.int .i64 i.a,.int .i64 i.k]
 | .form,f=> [.bool f.d,.bool f.a,.int .i64 f.most,.rows 1 (f.words.map awN)]
 | .mono,m=>aov m | .poly,p=>afl p | .atom,a=>aow a | .tab,t=> [.rows 4 (t.map aow)] | .iop,o=>awM o
 | .blk,b=>amV b | .aj,m=>aox m | .ev,e=>evR e
 | .sym,s=> [.rows 5 (s.events.map evR),.rows 1 (s.regs.map afl),.int .i64 s.fin,Je s.x,Je s.y,.int .i64 s.k]
 | .cac,c=>awO c | .cer,c=>awP c | .ask,a=> [.bool a.own,.rows 1 (a.bytes.map u8R)]
 | .eng,e=>aox e.aj++ [.rows 8 (e.cache.map awO),.rows 14 (e.aQ.map awP)]
 | .ints,t=> [Jd t]
def aR(c:Co)(a:List c.den):List (List D):=a.map c.row
def qY:Leaf aH->D
 | .int k x=> .int k x | .bool b=> .bool b | .str s=> .str s | .rows c a=> .rows c.size (aR c a)
def lvD:Sh->LV aH->D
 | .int k,.i n=> .int k n
 | _,.i n=> .int .i64 n
 | _,.b b=> .bool b
 | _,.s s=> .str s
 | _,.l c xs=> .rows c.size (aR c xs)
 | _,.x _ _=> .bool false
def afm(c:Co)(x:c.den):c.row x=zipWith lvD c.fields (c.BO x):=by cases c<;>rfl
theorem vO(c:Co)(x:c.den):(c.row x).length=c.size:=by cases c<;>rfl
def afn(c:Co)(x:c.den):(c.BO x).length=c.size:=by cases c<;>rfl
def oL(N:Nat)(c:Co)(x:c.den):(gM (std N) c x 0 c.fields).map qY=c.row x:=by cases c<;>rfl
def Eu(N:Nat)(c:Co)(x:c.den):(gM (std N) c x 0 c.fields).map lg=c.fields:=by cases c<;>rfl
def Nq(N:Nat)(c:Co)(x:c.den):(gM (std N) c x 0 c.fields).map Leaf.lv=c.BO x:=by cases c<;>rfl
def aeo{t:LTy}{v:LV aH}{a:LT aH t}(h:aqd aH t v=some a):awI aH t a=v:=by
 cases t<;>cases v<;>simp only [aqd,reduceCtorEq]at h<;>(try (cases h;rfl))
 all_goals
  split at h
  .rename_i e;subst e;cases h;rfl
  .cases h
def unpack_pack:∀ {c:List LTy} {d:List (LV aH)} {t:jy c},pack aH c d=some t->unpack aH c t=d
 | [],[],_,_=>rfl
 | [],_::_,_,h=>by simp [pack]at h
 | _::_,[],_,h=>by simp [pack]at h
 | t::r,v::d,x,h=>by
  unfold pack at h;split at h
  .rename_i a ha;split at h
   .rename_i b hb;cases h;simp only [unpack];rw [aeo ha,unpack_pack hb]
   .cases h
  .cases h
def acH(c:Co)(t:jy c.uN):c.BO (c.mk t)=unpack aH c.uN t:=by cases c<;>rfl
variable{x:Cell}{p:PV}{f:Bool}{k:IntKind}
abbrev SC:=TC aH
abbrev SVal:=TV aH
abbrev aT:=eD aH
abbrev NM:=Nat->Option (Nat×Nat)
def Leaf.scalar:Leaf aH->Bool | .rows _ _=>false | _=>true
inductive RC (N:NM):Cell->SC->Prop
 | d {f g:Bool} {x:D} {y:Leaf aH}:x=qY y->(g=true->f=true\/y.scalar=true)->RC N (.d f x) (.d g y)
 | nil:RC N .nil .nil
 | clip {f g:Bool} {c:Co} {xs:List c.den}:(g=true->f=true)->RC N (.clip f c.size (aR c xs)) (.clip g c xs)
 | own {l sz n:Nat}:N l=some (sz,n)->RC N (.os l sz 0 n) (.own l)
 | os {l sz lo n m:Nat}:N l=some (sz,m)->RC N (.os l sz lo n) (.os l (lo:Int) (n:Int))
 | pb {l sz j:Nat}:RC N (.ptr l sz 0 j) (.pb l sz j)
 | pr {l sz i j m:Nat}:N l=some (sz,m)->RC N (.ptr l sz i j) (.pr l (i:Int) j)
 | rp {f g:Bool} {c:Co} {xs:List c.den} {i j:Nat}:(g=true->f=true)->i<xs.length->RC N (.rp f c.size (aR c xs) i j) (.rp g c xs (i:Int) j)
 | gp {g:Nat} {c:Co}:RC N (.rp false 1 [[.rows c.size (aR c (acF c))]] 0 0) (.gp g c)
 | fn {g:FuncId} {caps:List (Nat×Nat)}:RC N (.fn g (caps.map λp=> .ptr p.1 p.2 0 0)) (.fn g caps)
 | np:RC N .np .np
def cellsS(v:SVal):List SC:=dh (std 0) v
def Vq(n:Nat)(c:Co)(x:c.den):∀(l:List Sh) (j:Nat),gM (std n) c x j l=gM (std 0) c x j l
 | [],_=>rfl
 | s::r,j=>by simp_all
def SB(n:Nat)(f:Bool)(c:Co)(x:c.den):tV (std n) f c x=tV (std 0) f c x:=congrArg (List.map (TC.d f)) (Vq n c x _ _)
def dI(n:Nat)(v:SVal):dh (std n) v=cellsS v:=by
 cases v with
 | sv f c x=>exact SB n f c x
 | _=>rfl
inductive PV0 (N:NM):PV->SVal->Prop
 | c {x:Cell} {y:SC}:RC N x y->PV0 N (.c x) (.c y)
 | agg {cs:List Cell} {v:SVal}:bK (std 0) v=true->F2 (RC N) cs (cellsS v)->PV0 N (.agg cs) v
inductive PVR (N:NM):PV->SVal->Prop
 | one {p:PV} {v:SVal}:PV0 N p v->PVR N p v
 | tup {ps:List PV} {vs:List SVal}:F2 (PV0 N) ps vs->PVR N (.tup ps) (.tup vs)
def nmh(h:List aT):NM:=λl=>match h[l]? with
 | some (.rows _ c a)=>some (c.size,(a:List c.den).length)
 | some (.gone c n)=>some (c.size,(n:Int).toNat)
 | _=>none
inductive OR (N:NM):fT->aT->Prop
 | box {cs:List Cell} {v:SVal}:F2 (RC N) cs (cellsS v)->OR N (.box cs) (.box v)
 | rows {f g:Bool} {c:Co} {xs:List c.den}:(g=true->f=true)->OR N (.rows f c.size (aR c xs)) (.rows g c xs)
 | gone {c:Co} {n:Int}:OR N .gone (.gone c n)
structure gy(h':Heap)(h:List aT):Prop where
 old:∀l o,h[l]? =some o->∃o',AE.look h' l=some o'/\OR (nmh h) o' o
 new:∀l,h.length<=l->AE.look h' l=none
def RC.mono{N M:NM}(a:∀l x,N l=some x->M l=some x){y:SC}(h:RC N x y):RC M x y:=by
 cases h with
 | d e c=>exact .d e c
 | nil=>exact .nil
 | clip h=>exact .clip h
 | own h=>exact .own (a _ _ h)
 | os h=>exact .os (a _ _ h)
 | pb=>exact .pb
 | pr h=>exact .pr (a _ _ h)
 | rp h b=>exact .rp h b
 | gp=>exact .gp
 | fn=>exact .fn
 | np=>exact .np
def PV0.mono{N M:NM}(a:∀l x,N l=some x->M l=some x){x:PV}{y:SVal}(h:PV0 N x y):PV0 M x y:=by
 cases h with
 | c h=>exact .c (h.mono a)
 | agg d b=>exact .agg d (b.mono λ_ _ h=>h.mono a)
def PVR.mono{N M:NM}(a:∀l x,N l=some x->M l=some x){x:PV}{y:SVal}(h:PVR N x y):PVR M x y:=by
 cases h with
 | one h=>exact .one (h.mono a)
 | tup h=>exact .tup (h.mono λ_ _ h=>h.mono a)
def OR.mono{N M:NM}(a:∀l x,N l=some x->M l=some x){x:fT}{y:aT}(h:OR N x y):OR M x y:=by
 cases h with
 | box h=>exact .box (h.mono λ_ _ h=>h.mono a)
 | rows h=>exact .rows h
 | gone=>exact .gone
def PVR.cell{N:NM}{y:SC}(h:PVR N p (.c y)):∃x,p= .c x/\RC N x y:=by
 cases h with | one h=>cases h with
  | c h=>exact⟨_,rfl,h⟩
  | agg h _=>simp [bK]at h
def PVR.ofC{N:NM}{y:SC}(h:RC N x y):PVR N (.c x) (.c y):= .one (.c h)
theorem RC.int{N:NM}{n:Int}(h:RC N x (.d f (.int k n))):∃g,x= .d g (.int k n):=by
 cases h with | d a b=>exact⟨_,by rw [a];rfl⟩
theorem RC.bool{N:NM}{b:Bool}(h:RC N x (.d f (.bool b))):∃g,x= .d g (.bool b):=by
 cases h with | d a c=>exact⟨_,by rw [a];rfl⟩
theorem PVR.int{N:NM}{n:Int}(h:PVR N p (.c (.d f (.int k n)))):∃g,p= .c (.d g (.int k n)):=by
 obtain⟨x,rfl,hc⟩:=h.cell;grind [RC.int]
theorem PVR.bool{N:NM}{b:Bool}(h:PVR N p (.c (.d f (.bool b)))):∃g,p= .c (.d g (.bool b)):=by
 obtain⟨x,rfl,hc⟩:=h.cell;grind [RC.bool]
def PVR.ci{N:NM}(k:IntKind)(n:Int)(f:Bool):PVR N (ci k n) (.c (.d f (.int k n))):= .ofC (.d rfl λ_=> .inl rfl)
def PVR.cb{N:NM}(b f:Bool):PVR N (AE.cb b) (.c (.d f (.bool b))):= .ofC (.d rfl λ_=> .inl rfl)
def PVR.cells{N:NM}{v:SVal}(h:PVR N p v):F2 (RC N) (aX p) (cellsS v):=by
 cases h with
 | one h=>cases h with
  | c h=>exact .cons h .nil
  | agg _ h=>exact h
 | tup h=>exact .nil
def PVR.len{N:NM}{v:SVal}(h:PVR N p v):(aX p).length=(cellsS v).length:=h.cells.length
def F2.aoy{N:NM}{f g:Bool}(b:g=true->f=true):∀(a:List (Leaf aH)),F2 (RC N) ((a.map qY).map (.d f)) (a.map (.d g))
 | []=> .nil
 | _::a=> .cons (.d rfl λh=> .inl (b h)) (F2.aoy b a)
def aep{N:NM}(n:Nat){f g:Bool}(a:g=true->f=true)(c:Co)(x:c.den):F2 (RC N) ((c.row x).map (.d f)) (tV (std n) g c x):=by
 unfold tV;rw [<-oL n c x];exact F2.aoy a _
structure XOK(X:XT)(E:Tab):Prop where
 ty:X.ty=E.ty
 glob:∀g c,X.glob g=some c->E.glob g=some (.rows c.size (aR c (acF c)))
 ieq:∀t c,X.ieq t=some c->(c= .ins/\E.ieq t=some 4)\/(c= .iop/\E.ieq t=some 5)
def Gv(T:(PV->Prop)->Prop)(N:NM)(v:SVal):Prop:=∃pv,PVR N pv v/\∀K,K pv->T K
def EvR(X:XT)(E:Tab)(n:Nat)(N:NM)(t:Slots)(e:Nat->Option SVal):Prop:=∀i v,e i=some v->∃pv,bq t i=some pv/\PVR N pv v
def dO{X:XT}{E:Tab}(hX:XOK X E){n:Nat}{N:NM}{t:Slots}{e:Nat->Option SVal}(a:EvR X E n N t e){x:Operand}{v:SVal}(h:evX (std n) X e x=some v):
  ∃pv,ev E t x=some pv/\PVR N pv v:=by
 cases x with
 | tmp i=>exact a i v h
 | const c=>
  simp only [evX]at h;split at h<;>cases h
  .exact⟨_,rfl,.ci _ _ _⟩
  .exact⟨_,rfl,.cb _ _⟩
  .exact⟨_,rfl,.ofC (.d rfl λ_=> .inl rfl)⟩
  .exact⟨_,rfl,.ofC .nil⟩
  .exact⟨_,rfl,.ofC .np⟩
 | global g=>
  simp only [evX]at h;split at h
  .rename_i c hc;cases h;refine⟨_,by simp only [ev,hX.glob g c hc,Option.map_some],.ofC .gp⟩
  .cases h
 | func f=>cases h;exact⟨_,rfl,.ofC (RC.fn (caps:=[]))⟩
theorem jH{o:Option PV}{pv:PV}(h:o=some pv)(K:PV->Prop):K pv->aY o K:=by rw [h];exact id
end Go.TX
namespace Go.TX
open Go Go.AE List
variable{n:Nat}{N:NM}{c:List Bool}{y:TY}{v:SVal}{X:XT}{E:Tab}{p:PV}{s:TypeId}
def Vr{d:ou}(h:d.agg=true):∃a,d= .struct a:=by cases d<;>simp [ou.agg]at h;exact⟨_,rfl⟩
def Gb(n:Nat)(w:SVal):bK (std n) w=bK (std 0) w:=by cases w<;>rfl
def afo{f g:Bool}(u:g=true->f=true){c:Co}{x:c.den}{j:Nat}
  (h:mU (std n) y j (.sv g c x) (tV (std n) g c x)=some v):Gv (xW f y (c.row x) j) N v:=by
 have b:=aep (N:=N) n u c x;have z:(tV (std n) g c x).length=(c.row x).length:=by have:=b.length;simp_all
 unfold mU at h;split at h
 .rename_i hagg;obtain⟨A,t⟩:=Vr hagg;have l:∀v,F2 (RC N) ((((c.row x).drop j).take y.size).map (.d f)) (cellsS v)->bK (std 0) v=true->j+y.size<=(c.row x).length->Gv (xW f y (c.row x) j) N v:=by
   intro v o s B;refine⟨_,.one (.agg s o),λK hk=> ?_⟩
   grind [xW]
  split at h
  .rename_i h0;simp only [Bool.and_eq_true,beq_iff_eq]at h0;obtain⟨⟨rfl,C⟩,_⟩:=h0;cases h;refine l _ ?_ rfl ah;have:((c.row x).drop 0).take y.size=c.row x:=by simp_all
   rw [this];have:=b;rw [SB]at this;exact this
  .split at h
   .rename_i o;cases h;have o:=Nat.le_of_ble_eq_true o;refine l _ ?_ rfl ah;rw [map_take,map_drop];exact(b.drop j).take y.size
   .cases h
 .rename_i hagg;split at h
  .rename_i q hq;obtain⟨a,p,i⟩:=b.get hq;rw [getElem?_map]at p;cases hd:(c.row x)[j]? with
   | none=>simp_all
   | some d=>
   rw [hd]at p;simp at p;subst p;split at h
   .rename_i k hk;split at h
    .rename_i f' k' m;split at h
     .rename_i e;subst e;cases h;obtain⟨w,r⟩:=RC.int i;cases r;exact⟨_,.ci k m _,λK hK=>by grind [xW]⟩
     .cases h
    .cases h
   .rename_i hni;cases h;refine⟨_,.ofC i,λK hK=> ?_⟩
    grind [List.getElem?_eq_some_iff,xW,ou.agg,absurd,bool]
  .cases h
def acI{f g:Bool}(d:g=true->f=true){c:Co}{a:List c.den}{i j:Nat}(e:i<a.length)
  (h:mU (std n) y j (.sv g c (a.getD i default)) (tV (std n) g c (a.getD i default))=some v):Gv (aeR f (aR c a) i j y) N v:=by
 obtain⟨pv,b,k⟩:=afo (N:=N) d h;refine⟨pv,b,λK hK=>⟨by simpa [aR]using e,λrow l=> ?_⟩⟩
 grind [aR,getElem?_eq_getElem,Option.some.injEq,default,getD]
def amW{cs:List Cell}{w v:SVal}{j:Nat}(hc:F2 (RC N) cs (cellsS w))(h:mU (std n) y j w (dh (std n) w)=some v):Gv (Oq cs j y) N v:=by
 have g:(dh (std n) w).length=cs.length:=by rw [dI];exact hc.length.symm
 unfold mU at h;split at h
 .rename_i hagg;split at h
  .rename_i h0;simp only [Bool.and_eq_true,beq_iff_eq]at h0;obtain⟨⟨rfl,i⟩,f⟩:=h0;cases h;refine⟨.agg ((cs.drop 0).take y.size),.one (.agg ah ?_),λK hK=> ?_⟩
   all_goals grind [take_of_length_le,Oq]
  .split at h
   .rename_i c;cases h;have c:=Nat.le_of_ble_eq_true c;refine⟨.agg ((cs.drop j).take y.size),.one (.agg rfl ?_),λK hK=>by grind [Oq]⟩;have:=(hc.drop j).take y.size;rw [<-dI n]at this;exact this
   .cases h
 .rename_i hagg;split at h
  .rename_i q hq;rw [dI]at hq;obtain⟨a,e,b⟩:=hc.get hq;have d:v= .c q:=by
    split at h
    .split at h
     all_goals simp_all
    .cases h;rfl
   subst d;exact⟨_,.ofC b,λK hK=>by unfold Oq;rw [dY hagg,e];exact hK⟩
  .cases h
def SE(hX:XOK X E){o:Heap}{h:List aT}(H:gy o h){ty:TypeId}{q v:SVal}{D:List Bool}(r:PVR (nmh h) p q)
  (hk:Sv (std n) X h ty q=some (D,v)) (B:∀b∈D,b=true):Gv (oC E o ty p) (nmh h) v:=by
 unfold Sv at hk;rw [hX.ty]at hk;cases hy:E.ty ty with
 | none=>simp_all
 | some y=>
 rw [hy]at hk;simp only at hk;have a:∀ {T:(PV->Prop)->Prop},Gv T (nmh h) v->(∀K,T K->oC E o ty p K)->Gv (oC E o ty p) (nmh h) v:=λ⟨pv,J,C⟩ f=>⟨pv,J,λK hK=>f K (C K hK)⟩
 split at hk
 .rename_i l F j;obtain⟨x,rfl,hc⟩:=r.cell;cases hc;split at hk
  .rename_i w hw;split at hk
   .obtain⟨N,d,s⟩:=H.old l _ hw;cases s with | box L=>
    unfold Sq at hk;split at hk
    .rename_i u hu;cases hk;refine a (amW L hu) λK k=> ?_
     unfold oC;rw [hy];simp only [aG];rw [d];exact⟨rfl,k⟩
    .cases hk
   .cases hk
  .cases hk
 .rename_i l i j;obtain⟨x,rfl,hc⟩:=r.cell;cases hc with | pr O=>
  rename_i F i m;split at hk
  .rename_i f c z hw;obtain⟨N,d,s⟩:=H.old l _ hw;cases s with | rows t=>
   split at hk
   .rename_i u hu;cases hk;have C:=B ((std n).cmp .lss (i:Int) ((std n).len c z)) (by simp);have A:i< (z:List c.den).length:=by grind [bJ]
    have M:F=c.size:=by grind [nmh,Option.some.injEq,Prod.mk.injEq]
    refine a (acI (n:=n) t A (by simpa [std]using hu)) λK k=> ?_
    unfold oC;rw [hy];simp only [aG];rw [d];exact⟨M,k⟩
   .cases hk
  .cases hk
 .rename_i f c z i j;obtain⟨x,rfl,hc⟩:=r.cell;cases hc with | rp t A=>
  unfold Sq at hk;split at hk
  .rename_i u hu;cases hk;refine a (acI (n:=n) t A (by simpa [std]using hu)) λK k=> ?_
   unfold oC;rw [hy];exact k
  .cases hk
 .rename_i g c;obtain⟨x,rfl,hc⟩:=r.cell;cases hc;split at hk
  .rename_i e he;cases hk;refine⟨_,.ofC (.d (f:=false) rfl (λh=>by cases h)),λK hK=> ?_⟩;unfold oC;rw [hy];simp only [aG];refine⟨by simp,λrow G=> ?_⟩;simp at G;subst G;unfold xW;rw [he];exact⟨by simp,λx I=>by simp at I;subst I;exact hK⟩
  .cases hk
 .cases hk
def afp{q v:SVal}{b:List Bool}(a:PVR N p q)(hk:aqi (std n) q=some (b,v)):Gv (Uu p) N v:=by
 unfold aqi at hk;split at hk
 .cases hk;obtain⟨x,rfl,hc⟩:=a.cell;cases hc;exact⟨_,.ofC .pb,λK hK=>hK⟩
 .cases hk;obtain⟨x,rfl,hc⟩:=a.cell;cases hc with | pr h=>exact⟨_,.ofC (.pr h),λK hK=>hK⟩
 .cases hk;obtain⟨x,rfl,hc⟩:=a.cell;cases hc with | rp h c=>exact⟨_,.ofC (.rp h c),λK hK=>hK⟩
 .cases hk
def awQ{b:UnOp}{q v:SVal}(a:PVR N p q)(hk:unX (std n) b q=some (c,v)):Gv (unA b p) N v:=by
 unfold unX at hk;split at hk
 .cases hk;obtain⟨g,rfl⟩:=a.bool;exact⟨_,.cb _ _,λK hK=>hK⟩
 .cases hk;obtain⟨g,rfl⟩:=a.int;exact⟨_,.ci _ _ _,λK hK=>hK⟩
 .cases hk
def Nr:∀a:List Int,RA (aR .u8 a)=some a
 | []=>rfl
 | x::r=>by
  have b:=Nr r;show(match ap3 (Co.row .u8 x),RA (aR .u8 r)with | some n,some l=>some (n::l) | _,_=>none)=_;rw [b];rfl
def amX(hX:XOK X E){s d:TypeId}{q v:SVal}(b:PVR N p q)(hk:afe (std n) X s d q=some (c,v)):Gv (Ig E s d p) N v:=by
 unfold afe at hk;rw [hX.ty]at hk;split at hk
 .rename_i y1 y2 h1 h2;split at hk
  .rename_i k f k' m hd;cases hk;obtain⟨g,rfl⟩:=b.int;refine⟨_,.ci _ _ _,λK hK=> ?_⟩
   grind [Ig,aG]
  .rename_i f xs hd;split at hk
   .rename_i e hs;split at hk
    .rename_i t ht;split at hk
     .rename_i hte;cases hk;obtain⟨x,rfl,hc⟩:=b.cell;have a:∃g,x= .d g (.rows Co.u8.size (aR .u8 xs)):=by cases hc with | d h _=>exact⟨_,by rw [h];rfl⟩
      obtain⟨g,rfl⟩:=a;refine⟨.c (.d true (.str (strOfNums xs))),.ofC (.d rfl λ_=> .inl rfl),λK hK=> ?_⟩;unfold Ig;rw [h2];simp only [aG];rw [hd];simp only;rw [h1];simp only;rw [hs];simp only;rw [ht];simp only;refine⟨hte,?_⟩;rw [Nr];exact hK
     .cases hk
    .cases hk
   .cases hk
  .cases hk
 .cases hk
def OQ(hX:XOK X E){i:Nat}{q v:SVal}(b:PVR N p q)(hk:BM (std n) X s q i=some (c,v)):Gv (jY E s p i) N v:=by
 unfold BM at hk;rw [hX.ty]at hk;split at hk
 .rename_i y hy;split at hk
  .rename_i fs hd;split at hk
   .rename_i off ft hf;split at hk
    .rename_i z hz;split at hk
     .cases hk
     .rename_i a;have a:z.size≠0:=by simpa using a
      have fin:∀K,(match p with | .c (.ptr l sz i j)=>K (.c (.ptr l sz i (j+off))) | .c (.rp r sz es i j)=>K (.c (.rp r sz es i (j+off))) | _=>False)->jY E s p i K:=by grind [jY,aG]
      split at hk
      .cases hk;obtain⟨x,rfl,hc⟩:=b.cell;cases hc;exact⟨_,.ofC .pb,λK hK=>fin K hK⟩
      .cases hk;obtain⟨x,rfl,hc⟩:=b.cell;cases hc with | pr h=>exact⟨_,.ofC (.pr h),λK hK=>fin K hK⟩
      .cases hk;obtain⟨x,rfl,hc⟩:=b.cell;cases hc with | rp h d=>exact⟨_,.ofC (.rp h d),λK hK=>fin K hK⟩
      .cases hk
    .cases hk
   .cases hk
  .cases hk
 .cases hk
def PVR.struct(h:PVR N p v)(a:bK (std 0) v=true):∃cs,p= .agg cs/\F2 (RC N) cs (cellsS v):=by
 cases h with
 | one h=>cases h with
  | c _=>simp [bK]at a
  | agg _ h=>exact⟨_,rfl,h⟩
 | tup _=>simp [bK]at a
def afq(hX:XOK X E){i:Nat}{q v:SVal}{f:List Bool}(g:PVR N p q)(hk:Vf (std n) X s q i=some (f,v)):Gv (xY E s p i) N v:=by
 unfold Vf at hk;rw [hX.ty]at hk;split at hk
 .rename_i y hy;split at hk
  .rename_i fs hd;split at hk
   .rename_i off ft hf;split at hk
    .rename_i z hz;split at hk
     .rename_i hc;simp only [Bool.and_eq_true]at hc;obtain⟨e,b⟩:=hc;have b:=Nat.le_of_ble_eq_true b;obtain⟨cs,rfl,d⟩:=g.struct ah;have j:(dh (std n) q).length=cs.length:=by rw [dI];exact d.length.symm
      have fin:∀K,(if z.desc.agg then K (.agg ((cs.drop off).take z.size))else FX cs[off]? λx=>K (.c x))->xY E s (.agg cs) i K:=by grind [xY,aG]
      split at hk
      .rename_i hagg;cases hk;refine⟨.agg ((cs.drop off).take z.size),.one (.agg rfl ?_),λK hK=>fin K (by simp_all)⟩;have:=(d.drop off).take z.size;rw [<-dI n]at this;exact this
      .rename_i hagg;split at hk
       .rename_i x hx;cases hk;rw [dI]at hx;obtain⟨a,h,c⟩:=d.get hx;exact⟨_,.ofC c,λK hK=>fin K (by rw [dY hagg,h];exact hK)⟩
       .cases hk
     .cases hk
    .cases hk
   .cases hk
  .cases hk
 .cases hk
end Go.TX
namespace Go.TX
open Go Go.AE List
variable{N:NM}{n:Nat}{h:List aT}{c:Co}{p:PV}{X:XT}{E:Tab}
def aer{a:BinOp}{k:IntKind}{x y:Int}{v:SVal}{d:List Bool}
    (hk:(match a with
       | .quo | .rem=>some ([(std n).cmp .neq y ((std n).lit 0)],.c (.d true (.int k ((std n).arith a k x y))))
       | .shl | .shr=>some ([(std n).cmp .leq ((std n).lit 0) y],.c (.d true (.int k ((std n).arith a k x y))))
       | a=>if OI a then okI (std n) k ((std n).arith a k x y)else if afd a then okB (std n) ((std n).cmp a x y)else none:PR (std n))=some (d,v))
    (c:∀b∈d,b=true):Gv (D8 a k x y) N v:=by
  cases a<;>simp only [OI,afd,okI,okB,if_true,Bool.false_eq_true,if_false,Option.some.injEq,Prod.mk.injEq,reduceCtorEq]at hk<;>
    first
    | exact hk.elim
    | (obtain⟨rfl,rfl⟩:=hk;exact⟨_,.ci _ _ _,λK hK=>hK⟩)
    | (obtain⟨rfl,rfl⟩:=hk;exact⟨_,.cb _ _,λK hK=>hK⟩)
    | (obtain ⟨rfl, rfl⟩ := hk
       have h:=c _ (mem_singleton.2 rfl);refine⟨_,.ci _ _ _,λK hK=>⟨?_,hK⟩⟩;simpa [bJ]using h)
def F2.OT:∀ {cs:List Cell} {k:List SC},F2 (RC N) cs k->∀(i:List Int),(∃j:List Bool,k=zipWith (λf n=>TC.d f (.int .i64 n)) j i/\j.length=i.length)->jo cs=some i
 | [],_,h,i,⟨j,e,hl⟩=>by
  cases h;cases i with
  | nil=>rfl
  | cons a b=>simp_all
 | _::_,_,.cons h1 h2,i,⟨j,e,hl⟩=>by
  cases i with
  | nil=>simp_all
  | cons a b=>cases j with
   | nil=>simp at hl
   | cons c d=>
    simp only [zipWith_cons_cons,List.cons.injEq]at e;obtain⟨rfl,rfl⟩:=e;obtain⟨g,rfl⟩:=RC.int h1;have:=F2.OT h2 b ⟨d,rfl,by simpa using hl⟩;simp [jo,Uv,this]
def wY:∀ {l:List Sh} {i:List SC} {f:Bool} {b:List (LV aH)} {m:List Nat},(∀s∈l,s=Sh.i)->aP (std n) h l i=some (f,b,m)->
  ∃a:List Int,b=a.map LV.i/\∃d:List Bool,i=zipWith (λf n=>TC.d f (.int .i64 n)) d a/\d.length=a.length
 | [],[],f,b,m,_,hk=>by simp_all [aP]
 | [],_::_,_,_,_,_,hk=>by simp [aP]at hk
 | _::_,[],_,_,_,_,hk=>by simp [aP]at hk
 | s::l,y::i,f,b,m,hs,hk=>by
  unfold aP at hk;split at hk
  .rename_i f1 y1 l1 h1;split at hk
   .rename_i g ys1 ls1 h2;split at hk<;>cases hk
    obtain⟨a,rfl,d,rfl,o⟩:=wY (λs j=>hs s (mem_cons_of_mem _ j)) h2;have:=hs s (by simp);subst this;unfold gu at h1;split at h1
    .rename_i f0 lf;split at h1
     .rename_i e;cases lf with
      | int k x=>simp [lg,Sh.i]at e;subst e;cases h1;exact⟨x::a,rfl,f0::d,rfl,by simp [o]⟩
      | bool x=>simp [lg,Sh.i]at e
      | str x=>simp [lg,Sh.i]at e
      | rows c x=>simp [lg,Sh.i]at e
     .cases h1
    .simp_all
    .simp_all
    .split at h1
     all_goals simp_all
    .cases h1
   .cases hk
  .cases hk
theorem SF(x:Ins):Co.BO .ins x=[x.op,x.d,x.a,x.k].map LV.i:=rfl
theorem SG(x:IOp):Co.BO .iop x=[x.kind,x.x,x.y,x.k,x.at_].map LV.i:=rfl
def aes{a b:List Int}(h:a.map (LV.i (A:=aH))=b.map LV.i):a=b:=by
 induction a generalizing b with
 | nil=>cases b<;>simp_all
 | cons x a c=>cases b with
  | nil=>simp at h
  | cons y b=>grind
theorem Df(hc:∀s∈c.fields,s=Sh.i){q:SVal}{f:Bool}{x:c.den}{z:List Nat}(m:PVR N p q)(hk:toX (std n) [] c q=some (f,x,z))(l:List Int)(d:c.BO x=l.map LV.i):
  jo (aX p)=some l:=by
 unfold toX at hk;split at hk
 .rename_i f' c' x';split at hk
  .rename_i e;subst e;cases hk;have h:=m.cells;have w:cellsS (.sv f' c' x')=(gM (std 0) c' x' 0 c'.fields).map (.d f'):=rfl;rw [w]at h;refine F2.OT h l ?_;have g:=Nq 0 c' x';have j:=Eu 0 c' x';rw [d]at g
   revert g j
   generalize gM (std 0) c' x' 0 c'.fields=lv;intro g j;have v:∀y∈lv,lg y=Sh.i:=λy i=>hc _ (by grind)
   clear j d m h w hc
   induction lv generalizing l with
   | nil=>simp_all
   | cons y lv A=>cases l with
    | nil=>simp at g
    | cons a b=>
     simp only [map_cons,List.cons.injEq]at g;obtain⟨r,e,o⟩:=A b g.2 (λy i=>v y (mem_cons_of_mem _ i));have i:=v y (by simp);cases y with
     | int k x=>simp [lg,Sh.i]at i;subst i;simp [Leaf.lv]at g;exact⟨f'::r,by simp [e,g.1],by simp [o]⟩
     | bool x=>grind [lg]
     | str x=>grind [lg]
     | rows c x=>grind [lg]
  .cases hk
 .cases hk
 .split at hk
  .rename_i f1 ys ls1 g;split at hk
   .rename_i t ht;cases hk;obtain⟨u,rfl,r,i,o⟩:=wY hc g;rw [dI]at i;have j:c.BO (c.mk t)=u.map LV.i:=by rw [acH,unpack_pack ht]
    rw [show(std n).mkX c t=c.mk t from rfl]at d;rw [j]at d;have:=aes d;subst this;exact F2.OT m.cells u ⟨r,i,o⟩
   .cases hk
  .cases hk
def Jf{q:SVal}(b:PVR N p q){a:List Int}(h:jo (aX p)=some a)(e:2<=a.length):∃cs,p= .agg cs/\jo cs=some a:=by
 cases p with
 | c x=>grind [aX,jo]
 | agg cs=>exact⟨cs,rfl,h⟩
 | tup d=>grind [aX,jo]
def awR{x y:Ins}:([x.op,x.d,x.a,x.k]==[y.op,y.d,y.a,y.k])=afj x y:=by
 unfold afj;rw [Bool.eq_iff_iff];cases x;cases y;simp
def awS{x y:IOp}:([x.kind,x.x,x.y,x.k,x.at_]==[y.kind,y.x,y.y,y.k,y.at_])=afk x y:=by
 unfold afk;rw [Bool.eq_iff_iff];cases x;cases y;simp
theorem aZ(c:Co)(xs:List c.den):(aR c xs).length=xs.length:=by simp [aR]
def aqk(hX:XOK X E){F:BinOp}{ty:TypeId}{p B:PV}{a b v:SVal}{J:List Bool}(q:PVR N p a)(i:PVR N B b)
  (hk:aqf (std n) X F ty a b=some (J,v)) (j:∀b∈J,b=true):Gv (D9 E F ty p B) N v:=by
 unfold aqf at hk;split at hk
 .rename_i f k x f' k' y;obtain⟨g,rfl⟩:=q.int;obtain⟨L,rfl⟩:=i.int;split at hk
  .rename_i e;obtain⟨pv,Q,I⟩:=aer (N:=N) hk j;exact⟨pv,Q,λK hK=>⟨e,I K hK⟩⟩
  .cases hk
 .rename_i f x f' y;obtain⟨g,rfl⟩:=q.bool;obtain⟨L,rfl⟩:=i.bool;rw [hX.ty]at hk;split at hk
  .rename_i z hz;split at hk
   .rename_i hd;split at hk
    .cases hk;exact⟨_,.cb _ _,λK hK=>by unfold D9;simp only;rw [hz];exact⟨hd,hK⟩⟩
    .cases hk;exact⟨_,.cb _ _,λK hK=>by unfold D9;simp only;rw [hz];exact⟨hd,hK⟩⟩
    .cases hk
   .cases hk
  .cases hk
 .rename_i f x f' y;have u:∀ {p:PV} {f:Bool} {s:ByteArray},PVR N p (.c (.d f (.str s)))->∃g,p= .c (.d g (.str s)):=λh=>by
   obtain⟨x,rfl,hc⟩:=h.cell;cases hc with | d G _=>exact⟨_,by rw [G];rfl⟩
  obtain⟨g,rfl⟩:=u q;obtain⟨L,rfl⟩:=u i;rw [hX.ty]at hk;split at hk
  .rename_i z hz;split at hk
   .rename_i hd;split at hk
    .cases hk;exact⟨_,.cb _ _,λK hK=>by unfold D9;simp only;rw [hz];exact⟨hd,hK⟩⟩
    .cases hk;exact⟨_,.cb _ _,λK hK=>by unfold D9;simp only;rw [hz];exact⟨hd,hK⟩⟩
    .cases hk
   .cases hk
  .cases hk
 .rename_i l U m;obtain⟨x,rfl,D⟩:=q.cell;obtain⟨R,rfl,r⟩:=i.cell;rw [hX.ty]at hk;split at hk
  .rename_i z hz;split at hk
   .rename_i el hd;cases D with
    | @os l Y U M Z hN=>
    cases r;have ne:(!decide ((M:Int)=0))=true->M≠0:=λh e=>by simp_all
    split at hk
    .cases hk;exact⟨_,.cb _ _,λK hK=>⟨ne (j _ (mem_singleton.2 rfl)),by rw [hz];exact⟨⟨el,hd⟩,hK⟩⟩⟩
    .cases hk;exact⟨_,.cb _ _,λK hK=>⟨ne (j _ (mem_singleton.2 rfl)),by rw [hz];exact⟨⟨el,hd⟩,hK⟩⟩⟩
    .cases hk
   .cases hk
  .cases hk
 .rename_i f c t;obtain⟨x,rfl,D⟩:=q.cell;obtain⟨R,rfl,r⟩:=i.cell;rw [hX.ty]at hk;split at hk
  .rename_i z hz;split at hk
   .rename_i el hd;cases D with
    | d G _=>
    cases r;subst G;have ne:(!decide ((t.length:Int)=0))=true->aR c t≠ []:=λh e=>by grind [aZ,Bool.not_eq_true',decide_eq_false_iff_not]
    split at hk
    .cases hk;exact⟨_,.cb _ _,λK hK=>⟨ne (j _ (mem_singleton.2 rfl)),by rw [hz];exact⟨⟨el,hd⟩,hK⟩⟩⟩
    .cases hk;exact⟨_,.cb _ _,λK hK=>⟨ne (j _ (mem_singleton.2 rfl)),by rw [hz];exact⟨⟨el,hd⟩,hK⟩⟩⟩
    .cases hk
   .cases hk
  .cases hk
 .split at hk
  .rename_i c hc;split at hk
   .rename_i f1 x l1 f2 y l2 hx hy;have o:∀(m:Nat) (t w:List Int),E.ieq ty=some m->t.length=m->w.length=m->2<=m->jo (aX p)=some t->jo (aX B)=some w->(t==w)=(std n).eqX c x y->Gv (D9 E F ty p B) N v:=by
     intro m t w A O S I H C V;obtain⟨cs,rfl,T⟩:=Jf q H ah;obtain⟨W,rfl,P⟩:=Jf i C ah;split at hk
     .cases hk;exact⟨_,.cb _ _,λK hK=>by grind [D9,xX]⟩
     .cases hk;exact⟨_,.cb _ _,λK hK=>by grind [D9,xX]⟩
     .cases hk
    rcases hX.ieq ty c hc with⟨rfl,A⟩ | ⟨rfl,A⟩
    .exact o 4 _ _ A rfl rfl ah (Df (by decide) q hx _ (SF x)) (Df (by decide) i hy _ (SF y)) awR
    .exact o 5 _ _ A rfl rfl ah (Df (by decide) q hx _ (SG x)) (Df (by decide) i hy _ (SG y)) awS
   .cases hk
  .cases hk
def iC(hX:XOK X E){e:TypeId}(h:nJ X e c=true):∃z,E.ty e=some z/\z.size=c.size:=by
 unfold nJ at h;rw [hX.ty]at h
 grind
theorem dJ{l:Nat}{f:Bool}{xs:List c.den}(a:h[l]? =some (.rows f c xs)):nmh h l=some (c.size,xs.length):=by simp only [nmh,a]
def amY{v:SVal}(a:PVR (nmh h) p v):PVR (nmh h) p (aqg (std n) h v):=by
 unfold aqg;split
 .rename_i l;split
  .rename_i f c xs hl;obtain⟨x,rfl,d⟩:=a.cell;cases d with
   | @own l g m b=>
    have e:=dJ hl;rw [b]at e;cases e;exact .ofC (.os b)
  .exact a
 .exact a
def OU(hX:XOK X E){t:TypeId}{p H:PV}{a b v:SVal}{G:List Bool}(C:PVR (nmh h) p a)(F:PVR (nmh h) H b)
  (hk:BN (std n) X h t a b=some (G,v)) (L:∀b∈G,b=true):Gv (lV E t p H) (nmh h) v:=by
 unfold BN at hk;rw [hX.ty]at hk;split at hk
 .rename_i y hy;split at hk
  .rename_i e f k i hd;obtain⟨i,rfl⟩:∃M:Int,M=i:=⟨i,rfl⟩;obtain⟨g,rfl⟩:=F.int
   have fin:∀z,E.ty e=some z->∀K,(match p with
     | .c (.d f (.rows s es))=>(es≠ []->s=z.size)/\0<=i/\i<es.length/\K (.c (.rp f s es i.toNat 0))
     | .c (.clip f s es)=>(es≠ []->s=z.size)/\0<=i/\i<es.length/\K (.c (.rp f s es i.toNat 0))
     | .c (.os l s A n)=>s=z.size/\0<=i/\i<n/\K (.c (.ptr l s (A+i.toNat) 0))
     | _=>False)->lV E t p (.c (.d g (.int k i))) K:=by
    intro z r K hK;unfold lV;rw [hy];simp only [aG];rw [hd];simp only;rw [r];exact hK
   split at hk
   .rename_i f0 c u;split at hk
    .rename_i hs;cases hk;obtain⟨z,r,o⟩:=iC hX hs;obtain⟨x,rfl,hc⟩:=C.cell;cases hc with | d J I=>
     subst J;have w:(0:Int)<=i:=by simp_all [bJ]
     have B:i< (u:List c.den).length:=by simp_all [bJ]
     refine⟨_,.ofC (x:= .rp _ c.size (aR c u) i.toNat 0) (by
      grind [RC.rp,nmh,Leaf.scalar,Int.toNat_of_nonneg]),λK hK=>fin z r K ⟨λ_=>o.symm,w,by rw [aZ];omega,hK⟩⟩
    .cases hk
   .rename_i f0 c u;split at hk
    .rename_i hs;cases hk;obtain⟨z,r,o⟩:=iC hX hs;obtain⟨x,rfl,hc⟩:=C.cell;cases hc with | clip I=>
     have w:(0:Int)<=i:=by simp_all [bJ]
     have B:i< (u:List c.den).length:=by simp_all [bJ]
     refine⟨_,.ofC (x:= .rp _ c.size (aR c u) i.toNat 0) (by
      grind [RC.rp,nmh,Int.toNat_of_nonneg]),λK hK=>fin z r K ⟨λ_=>o.symm,w,by rw [aZ];omega,hK⟩⟩
    .cases hk
   .rename_i l;split at hk
    .rename_i f1 c u hl;split at hk
     .rename_i hs;cases hk;obtain⟨z,r,o⟩:=iC hX hs;obtain⟨x,rfl,hc⟩:=C.cell;cases hc with | own D=>
      have q:=D;rw [dJ hl]at q;cases q;have w:(0:Int)<=i:=by simp_all [bJ]
      have B:i< (u:List c.den).length:=by simp_all [bJ]
      refine⟨_,.ofC (x:= .ptr l c.size (0+i.toNat) 0) (by
       grind [RC.pr,nmh,Int.toNat_of_nonneg]),λK hK=>fin z r K ⟨o.symm,w,B,hK⟩⟩
     .cases hk
    .cases hk
   .rename_i l A n;split at hk
    .rename_i f1 c u hl;split at hk
     .rename_i hs;cases hk;obtain⟨z,r,o⟩:=iC hX hs;obtain⟨x,rfl,hc⟩:=C.cell;cases hc with | os D=>
      rename_i s A n m;have q:=D;rw [dJ hl]at q;cases q;have w:(0:Int)<=i:=by simp_all [bJ]
      have B:i< (n:Int):=by simp_all [bJ]
      refine⟨_,.ofC (x:= .ptr l c.size (A+i.toNat) 0) (by
       have:=RC.pr (N:=nmh h) (i:=A+i.toNat) (j:=0) D
       grind),λK hK=>fin z r K ⟨o.symm,w,B,hK⟩⟩
     .cases hk
    .cases hk
   .cases hk
  .cases hk
 .cases hk
def aql{q v:SVal}{e:List Bool}(a:PVR (nmh h) p q)(hk:aqh (std n) h q=some (e,v)):Gv (RD p) (nmh h) v:=by
 unfold aqh at hk;split at hk
 .cases hk;obtain⟨x,rfl,hc⟩:=a.cell;cases hc with | d g _=>subst g;exact⟨_,.ci _ _ _,λK hK=>by grind [RD,qY,aZ]⟩
 .cases hk;obtain⟨x,rfl,hc⟩:=a.cell;cases hc with | clip _=>exact⟨_,.ci _ _ _,λK hK=>by grind [RD,aZ]⟩
 .obtain⟨x,rfl,hc⟩:=a.cell;cases hc with | own b=>
  split at hk
  .rename_i f c xs hl;cases hk;rw [dJ hl]at b;cases b;exact⟨_,.ci _ _ _,λK hK=>hK⟩
  .cases hk
 .cases hk;obtain⟨x,rfl,hc⟩:=a.cell;cases hc;exact⟨_,.ci _ _ _,λK hK=>hK⟩
 .cases hk;obtain⟨x,rfl,hc⟩:=a.cell;cases hc;exact⟨_,.ci _ _ _,λK hK=>hK⟩
 .cases hk
end Go.TX
namespace Go.TX
open Go Go.AE List
variable{X:XT}{E:Tab}{n:Nat}{N:NM}{t:Slots}{e:Nat->Option SVal}{h:List aT}{ty:TypeId}{v:SVal}
def vP(hX:XOK X E)(c:EvR X E n N t e){o:Option Operand}{d m:Int}(hk:OJ (std n) X e o d=some m){K:Int->Prop}(h:K m):CK E t o d K:=by
 cases o with
 | none=>simp only [OJ,Option.some.injEq]at hk;subst hk;exact h
 | some x=>
  simp only [OJ]at hk;split at hk
  .rename_i f k m' hx;cases hk;obtain⟨pv,b,a⟩:=dO hX c hx;obtain⟨g,rfl⟩:=a.int;unfold CK;simp only;rw [b];exact h
  .cases hk
theorem Af(c:Co)(xs:List c.den)(l r:Nat):((aR c xs).take r).drop l=aR c ((xs.take r).drop l):=by simp [aR,map_take,map_drop]
def afr(hX:XOK X E)(G:EvR X E n (nmh h) t e){p:PV}{q v:SVal}{lo F C:Option Operand}{R:List Bool}(L:PVR (nmh h) p q)
    (hk:Vg (std n) X e h ty q lo F C=some (R,v)) (a:∀b∈R,b=true):Gv (xZ E t ty p lo F C) (nmh h) v:=by
  unfold Vg at hk;rw [hX.ty]at hk;split at hk
  · rename_i y W;split at hk
    · rename_i U hd;split at hk
      · rename_i l V;obtain⟨l,rfl⟩:∃j:Int,j=l:=⟨l,rfl⟩
        have fin:∀z,E.ty U=some z->∀K,(match p with
          | .c (.d f (.rows D es))=>(es≠ []->D=z.size)/\(CK E t F es.length λh=>0<=l/\l<=h/\h<=es.length/\
              (match C with
               | none=>K (.c (.d f (.rows D ((es.take h.toNat).drop l.toNat))))
               | some _=>CK E t C 0 λm=>F.isSome=true/\m=h/\K (.c (.clip f D ((es.take h.toNat).drop l.toNat)))))
          | .c (.os b D lo0 n)=>D=z.size/\C=none/\(CK E t F n λh=>0<=l/\l<=h/\h<=n/\K (.c (.os b D (lo0+l.toNat) (h.toNat-l.toNat))))
          | .c .nil=>C=none/\(CK E t F 0 λh=>l=0/\h=0/\K (.c .nil))
          | _=>False)->xZ E t ty p lo F C K:=by
          intro z k K hK;unfold xZ;rw [W];simp only [aG];rw [hd];simp only;rw [k];exact vP hX G V hK
        split at hk
        · rename_i f0 c xs;split at hk
          · rename_i I;obtain⟨z,k,g⟩:=iC hX I;obtain⟨x,rfl,hc⟩:=L.cell;cases hc with | d Z S=>
            subst Z;split at hk
            · rename_i r u;obtain⟨r,rfl⟩:∃j:Int,j=r:=⟨r,rfl⟩;split at hk
              · rename_i hm;cases hk;have B:(0:Int)<=l:=by simpa [bJ]using a (bJ .leq 0 l) (by simp)
                have s:l<=r:=by simpa [bJ]using a (bJ .leq l r) (by simp)
                have o:r<=(xs:List c.den).length:=by simpa [bJ]using a (bJ .leq r ((xs:List c.den).length:Int)) (by simp)
                refine⟨_,.ofC (.d (y:= .rows c ((xs.take r.toNat).drop l.toNat)) rfl S),λK hK=>fin z k K ⟨λ_=>g.symm,?_⟩⟩;rw [aZ];refine vP hX G u ⟨B,s,o,?_⟩;simp only [Af];exact hK
              · rename_i mo hm;split at hk
                · rename_i m M;obtain⟨m,rfl⟩:∃j:Int,j=m:=⟨m,rfl⟩;split at hk
                  · rename_i A;cases hk;have B:(0:Int)<=l:=by simpa [bJ]using a (bJ .leq 0 l) (by simp)
                    have s:l<=r:=by simpa [bJ]using a (bJ .leq l r) (by simp)
                    have o:r<=(xs:List c.den).length:=by simpa [bJ]using a (bJ .leq r ((xs:List c.den).length:Int)) (by simp)
                    have Y:m=r:=by simpa [bJ]using a (bJ .eql m r) (by simp)
                    refine⟨_,.ofC (.clip (c:=c) (xs:=((xs.take r.toNat).drop l.toNat)) (λh=>(S h).resolve_right (by simp [Leaf.scalar]))),λK hK=>fin z k K ⟨λ_=>g.symm,?_⟩⟩;rw [aZ];refine vP hX G u ⟨B,s,o,?_⟩;simp only [Af];exact vP hX G M ⟨A,Y,hK⟩
                  · cases hk
                · cases hk
            · cases hk
          · cases hk
        · rename_i w;split at hk
          · rename_i T c xs P;split at hk
            · rename_i I;obtain⟨z,k,g⟩:=iC hX I;obtain⟨x,rfl,hc⟩:=L.cell;cases hc with | own J=>
              have i:=J;rw [dJ P]at i;cases i;split at hk
              · rename_i r u;cases hk;obtain⟨r,rfl⟩:∃j:Int,j=r:=⟨r,rfl⟩;have B:(0:Int)<=l:=by simpa [bJ]using a (bJ .leq 0 l) (by simp)
                have s:l<=r:=by simpa [bJ]using a (bJ .leq l r) (by simp)
                have o:r<=(xs:List c.den).length:=by simpa [bJ]using a (bJ .leq r ((xs:List c.den).length:Int)) (by simp)
                refine⟨_,.ofC (x:= .os w c.size (0+l.toNat) (r.toNat-l.toNat)) (by
                  have:=RC.os (N:=nmh h) (lo:=0+l.toNat) (n:=r.toNat-l.toNat) J;rw [show((0+l.toNat:Nat):Int)=l by omega,show((r.toNat-l.toNat:Nat):Int)=r-l by omega]at this;exact this),λK hK=>fin z k K ⟨g.symm,rfl,?_⟩⟩
                exact vP hX G u ⟨B,s,o,hK⟩
              · cases hk
            · cases hk
          · cases hk
        · rename_i w H O;split at hk
          · rename_i T c xs P;split at hk
            · rename_i I;obtain⟨z,k,g⟩:=iC hX I;obtain⟨x,rfl,hc⟩:=L.cell;cases hc with | os J=>
              rename_i D H O m;have i:=J;rw [dJ P]at i;cases i;split at hk
              · rename_i r u;cases hk;obtain⟨r,rfl⟩:∃j:Int,j=r:=⟨r,rfl⟩;have B:(0:Int)<=l:=by simpa [bJ]using a (bJ .leq 0 l) (by simp)
                have s:l<=r:=by simpa [bJ]using a (bJ .leq l r) (by simp)
                have o:r<=(O:Int):=by simpa [bJ]using a (bJ .leq r (O:Int)) (by simp)
                refine⟨_,.ofC (x:= .os w c.size (H+l.toNat) (r.toNat-l.toNat)) (by
                  have:=RC.os (N:=nmh h) (lo:=H+l.toNat) (n:=r.toNat-l.toNat) J;rw [show((H+l.toNat:Nat):Int)=(H:Int)+l by omega,show((r.toNat-l.toNat:Nat):Int)=r-l by omega]at this;exact this),λK hK=>fin z k K ⟨g.symm,rfl,?_⟩⟩
                exact vP hX G u ⟨B,s,o,hK⟩
              · cases hk
            · cases hk
          · cases hk
        · split at hk
          · rename_i r u;split at hk
            · rename_i Q;cases hk;obtain⟨r,rfl⟩:∃j:Int,j=r:=⟨r,rfl⟩;obtain⟨x,rfl,hc⟩:=L.cell;cases hc;have s:l=0:=by simpa [bJ]using a (bJ .eql l 0) (by simp)
              have o:r=0:=by simpa [bJ]using a (bJ .eql r 0) (by simp)
              obtain⟨z,k⟩:=Option.isSome_iff_exists.1 Q;exact⟨_,.ofC .nil,λK hK=>fin z k K ⟨rfl,vP hX G u ⟨s,o,hK⟩⟩⟩
            · cases hk
          · cases hk
        · cases hk
      · cases hk
    · cases hk
  · cases hk
def afs{x:Cell}{y:SC}(h:acz (std n) x=some y):RC N x y:=by
 unfold acz at h;split at h<;>first | (cases h;exact .d rfl λ_=> .inl rfl) | (cases h;exact .nil) | (cases h;exact .np) | cases h
def Ew:∀ {b:List Cell} {a:List SC},lY (std n) b=some a->F2 (RC N) b a
 | [],a,h=>by simp [lY]at h;subst h;exact .nil
 | x::b,a,h=>by
  simp only [lY]at h;split at h
  .rename_i y ys' h1 h2;cases h;exact .cons (afs h1) (Ew h2)
  .cases h
def acJ(hX:XOK X E)(m:EvR X E n N t e)(g:List (Nat×TypeId)):
  ∀(d:List (Nat×Operand)) {c:List Cell} {cs out:List SC},F2 (RC N) c cs->Sw (std n) X e g d cs=some out->∃b,F2 (RC N) b out/\∀K,K b->wR E t (sJ E g) d c K
 | [],c,cs,out,hc,hk=>by simp only [Sw,Option.some.injEq]at hk;subst hk;exact⟨_,hc,λK hK=>hK⟩
 | (i,x)::rest,c,cs,out,hc,hk=>by
  simp only [Sw]at hk;rw [hX.ty]at hk;split at hk
  .rename_i off ft hf;split at hk
   .rename_i z v hz hv;split at hk
    .rename_i hcond;simp only [Bool.and_eq_true,beq_iff_eq,Bool.not_eq_true',beq_eq_false_iff_ne,ne_eq]at hcond;obtain⟨⟨u,o⟩,l⟩:=hcond;have l:=Nat.le_of_ble_eq_true l;obtain⟨pv,p,r⟩:=dO hX m hv;have a:=r.cells;have k:(aX pv).length=(dh (std n) v).length:=by rw [dI];exact a.length
     have s:c.length=cs.length:=hc.length;rw [dI]at hk;have f:F2 (RC N) (splice c (aX pv) off) (cs.take off++cellsS v++cs.drop (off+(cellsS v).length)):=by
      unfold splice;rw [show(aX pv).length=(cellsS v).length from a.length];exact((hc.take off).append a).append (hc.drop _)
     obtain⟨b,q,hK⟩:=acJ hX m g rest f hk;refine⟨b,q,λK j=> ?_⟩;unfold wR;have h:sJ E g i=some (off,z.size):=by grind [sJ]
     rw [h];simp only;rw [p];exact⟨ah,o,ah,hK K j⟩
    .cases hk
   .cases hk
  .cases hk
def aft(hX:XOK X E)(i:EvR X E n N t e){a:List (Nat×Operand)}{g:List Bool}
  (hk:Vh (std n) X e ty a=some (g,v)):Gv (Ea E t ty a) N v:=by
 unfold Vh at hk;split at hk
 .rename_i y hy;rw [hX.ty]at hy;split at hk
  .rename_i fs hd;split at hk
   .rename_i hall;split at hk
    .rename_i z hz;split at hk
     .rename_i cs hcs;cases hk;obtain⟨d,h,hK⟩:=acJ hX i fs a (Ew hz) hcs;refine⟨_,.one (.agg rfl h),λK c=> ?_⟩;unfold Ea;rw [hy];simp only [aG];rw [hd];refine⟨λf b=> ?_,hK _ c⟩;have:=all_eq_true.1 hall f b;rw [hX.ty]at this;exact this
     .cases hk
    .cases hk
   .cases hk
  .cases hk
 .cases hk
def acK(hX:XOK X E)(a:EvR X E n N t e):
  ∀(b:List Operand) {cs:List (Nat×Nat)},Sy (std n) X e b=some cs->∀K,K (cs.map λp=>Cell.ptr p.1 p.2 0 0)->wS E t b K
 | [],cs,hk,K,hK=>by simp only [Sy,Option.some.injEq]at hk;subst hk;exact hK
 | x::r,cs,hk,K,hK=>by
  simp only [Sy]at hk;split at hk
  .rename_i l sz hx;split at hk
   .rename_i ys hys;cases hk;obtain⟨pv,f,d⟩:=dO hX a hx;obtain⟨c,rfl,hc⟩:=d.cell;cases hc;unfold wS;rw [f];exact acK hX a r hys _ hK
   .cases hk
  .cases hk
def SH{q:Bool}{x y z:SVal}{px py:PV}(o:q=true->PVR N px x)(j:q=false->PVR N py y)(hk:Vi (std n) q x y=some z):PVR N (bif q then px else py) z:=by
 unfold Vi at hk;split at hk
 .rename_i a b;split at hk
  .rename_i c hc;cases hk;unfold aff at hc;split at hc
   .rename_i f k m g k' m';split at hc
    .rename_i e;subst e;cases hc;cases q with
     | true=>obtain⟨g,rfl⟩:=(o rfl).int;exact .ofC (.d rfl λ_=> .inr rfl)
     | false=>obtain⟨g,rfl⟩:=(j rfl).int;exact .ofC (.d rfl λ_=> .inr rfl)
    .cases hc
   .cases hc;cases q with
    | true=>obtain⟨g,rfl⟩:=(o rfl).bool;exact .ofC (.d rfl λ_=> .inr rfl)
    | false=>obtain⟨g,rfl⟩:=(j rfl).bool;exact .ofC (.d rfl λ_=> .inr rfl)
   .rename_i f c xs g c' ys;split at hc
    .rename_i e;subst e;cases hc;cases q with
     | true=>
      obtain⟨u,rfl,h⟩:=(o rfl).cell;cases h with | d l i=>exact .ofC (.d l λh=> .inl ((i (by simp_all)).resolve_right (by simp [Leaf.scalar])))
     | false=>
      obtain⟨u,rfl,h⟩:=(j rfl).cell;cases h with | d l i=>exact .ofC (.d l λh=> .inl ((i (by simp_all)).resolve_right (by simp [Leaf.scalar])))
    .cases hc
   .cases hc
  .cases hk
 .cases hk
def SK(hX:XOK X E){u:Heap}(d:EvR X E n (nmh h) t e){c:Call}{s:List Bool}
  (hk:I6 (std n) X e h c=some (s,v)):Gv (iR E (.call c) t u) (nmh h) v:=by
 unfold I6 at hk;split at hk
 .rename_i hb;split at hk
  .rename_i x ty hx hty;split at hk
   .rename_i y q hy hq;rw [hX.ty]at hy;split at hk
    .rename_i el hd;obtain⟨pv,b,a⟩:=dO hX d hq;obtain⟨i,z,A⟩:=aql a hk;refine⟨i,z,λK hK=> ?_⟩;show wT E t c K
     grind [wT,aG,jH]
    .cases hk
   .cases hk
  .cases hk
 .rename_i hb;split at hk
  .rename_i x ty hx hty;split at hk
   .rename_i y hy hq;rw [hX.ty]at hy;split at hk
    .rename_i el hd;cases hk;obtain⟨pv,b,a⟩:=dO hX d hq;obtain⟨B,rfl,hc⟩:=a.cell;cases hc;refine⟨_,.ci _ _ _,λK hK=> ?_⟩;show wT E t c K;unfold wT;rw [hb];simp only;rw [hx,hty];simp only;rw [hy];simp only [aG];rw [hd];exact⟨trivial,jH b _ hK⟩
    .cases hk
   .cases hk
  .cases hk
 .rename_i hb;split at hk
  .rename_i x y hx;split at hk
   .rename_i f k m g k' m' b a;cases hk;obtain⟨w,l,j⟩:=dO hX d b;obtain⟨r,p,o⟩:=dO hX d a;obtain⟨_,rfl⟩:=j.int;obtain⟨_,rfl⟩:=o.int;refine⟨_,.ci _ _ _,λK hK=> ?_⟩;show wT E t c K;unfold wT;rw [hb];simp only;rw [hx];simp only;rw [l];simp only [aY];rw [p];exact hK
   .cases hk
  .cases hk
 .rename_i hb;split at hk
  .rename_i x y hx;split at hk
   .rename_i f k m g k' m' b a;cases hk;obtain⟨w,l,j⟩:=dO hX d b;obtain⟨r,p,o⟩:=dO hX d a;obtain⟨_,rfl⟩:=j.int;obtain⟨_,rfl⟩:=o.int;refine⟨_,.ci _ _ _,λK hK=> ?_⟩;show wT E t c K;unfold wT;rw [hb];simp only;rw [hx];simp only;rw [l];simp only [aY];rw [p];exact hK
   .cases hk
  .cases hk
 .cases hk
def eF{v:Option SVal}{K:SVal->PR (std n)}{r:List Bool×SVal}(h:C8 (std n) v K=some r):∃u,v=some u/\K u=some r:=by
 cases v with
 | none=>cases h
 | some u=>exact⟨u,rfl,h⟩
theorem afu(hX:XOK X E){p:Heap}(H:gy p h)(f:EvR X E n (nmh h) t e){q:Op}{D:List Bool}
  (hk:acA (std n) X e h q=some (D,v)) (m:∀b∈D,b=true):Gv (iR E q t p) (nmh h) v:=by
 have j:∀ {x:Operand} {pv:PV} {T:PV->(PV->Prop)->Prop},ev E t x=some pv->Gv (T pv) (nmh h) v->(∀K,iR E q t p K=aY (ev E t x) λa=>T a K)->Gv (iR E q t p) (nmh h) v:=
  λd ⟨k,c,B⟩ A=>⟨k,c,λK hK=>by rw [A];exact jH d _ (B K hK)⟩
 have s:∀ {x y:Operand} {F C:PV} {T:PV->PV->(PV->Prop)->Prop},ev E t x=some F->ev E t y=some C->Gv (T F C) (nmh h) v->(∀K,iR E q t p K=aY (ev E t x) λa=>aY (ev E t y) λb=>T a b K)->Gv (iR E q t p) (nmh h) v:=
  λd l ⟨k,c,B⟩ A=>⟨k,c,λK hK=>by rw [A];exact jH d _ (jH l _ (B K hK))⟩
 unfold acA at hk;split at hk
 .obtain⟨u,hu,hk⟩:=eF hk;cases hk;obtain⟨pv,d,c⟩:=dO hX f hu;exact⟨pv,c,λK hK=>jH d _ hK⟩
 .obtain⟨u,hu,hk⟩:=eF hk;cases hk;obtain⟨pv,d,c⟩:=dO hX f hu;exact⟨pv,c,λK hK=>jH d _ hK⟩
 .obtain⟨u,hu,hk⟩:=eF hk;obtain⟨pv,d,c⟩:=dO hX f hu;exact j d (SE hX H c hk m) λK=>rfl
 .obtain⟨u,hu,hk⟩:=eF hk;obtain⟨pv,d,c⟩:=dO hX f hu;exact j (T:=Uu) d (afp c hk) λK=>rfl
 .obtain⟨u,hu,hk⟩:=eF hk;obtain⟨w,r,hk⟩:=eF hk;obtain⟨pv,d,c⟩:=dO hX f hu;obtain⟨k,l,o⟩:=dO hX f r;exact s d l (aqk hX (amY c) o hk m) λK=>rfl
 .obtain⟨u,hu,hk⟩:=eF hk;obtain⟨pv,d,c⟩:=dO hX f hu;exact j d (awQ c hk) λK=>rfl
 .obtain⟨u,hu,hk⟩:=eF hk;obtain⟨pv,d,c⟩:=dO hX f hu;exact j d (amX hX c hk) λK=>rfl
 .obtain⟨u,hu,hk⟩:=eF hk;obtain⟨pv,d,c⟩:=dO hX f hu;exact j (T:=λa K=>jY E _ a _ K) d (OQ hX c hk) λK=>rfl
 .obtain⟨u,hu,hk⟩:=eF hk;obtain⟨pv,d,c⟩:=dO hX f hu;exact j (T:=λa K=>xY E _ a _ K) d (afq hX c hk) λK=>rfl
 .obtain⟨u,hu,hk⟩:=eF hk;obtain⟨w,r,hk⟩:=eF hk;obtain⟨pv,d,c⟩:=dO hX f hu;obtain⟨k,l,o⟩:=dO hX f r;exact s d l (OU hX c o hk m) λK=>rfl
 .obtain⟨u,hu,hk⟩:=eF hk;obtain⟨pv,d,c⟩:=dO hX f hu;exact j (T:=λa K=>xZ E t _ a _ _ _ K) d (afr hX f c hk m) λK=>rfl
 .obtain⟨u,hu,hk⟩:=eF hk;obtain⟨pv,d,c⟩:=dO hX f hu;rename_i x i;split at hk
  .rename_i vs;unfold Sq at hk;split at hk
   .rename_i w r;cases hk;cases c with
    | one c=>cases c with
     | agg I _=>simp [bK]at I
    | tup G=>
     obtain⟨a,J,z⟩:=G.get r;exact⟨a,.one z,λK hK=>jH d _ (by unfold uE;simp only;rw [J];exact hK)⟩
   .cases hk
  .cases hk
 .exact aft hX f hk
 .rename_i fn first caps
  split at hk
  .rename_i g;split at hk
   .rename_i hf;split at hk
    .rename_i cs hcs;cases hk;refine⟨_,.ofC .fn,λK hK=> ?_⟩;exact⟨Array.ext' (by simpa using hf),acK hX f _ hcs _ hK⟩
    .cases hk
   .cases hk
  .cases hk
 .exact SK hX f hk
 .cases hk
end Go.TX
namespace Go.TX
open Go Go.AE List
variable{h':Heap}{h:List aT}{l:Nat}{o:aT}{o':fT}{f:Bool}{n:Nat}
def Gone(h:List aT)(l:Nat):Prop:=∃c n,h[l]? =some (.gone c n)
def Same(h k:List aT):Prop:=∀l x,nmh h l=some x->nmh k l=some x
def Same.refl(h:List aT):Same h h:=λ_ _ h=>h
def Same.trans{a b c:List aT}(h:Same a b)(k:Same b c):Same a c:=λl x d=>k l x (h l x d)
def gy.set(H:gy h' h)(g:l<h.length)(d:Same h (h.set l o))(f:OR (nmh (h.set l o)) o' o):gy ((l,o')::h') (h.set l o) where
 old:=λk x a=>by
  by_cases e:l=k
  .grind [getElem?_set_self,aO]
  .rw [getElem?_set_ne e]at a;obtain⟨c,i,b⟩:=H.old k x a;exact⟨c,by grind [aD],b.mono d⟩
 new:=λk hk=>by
  rw [length_set]at hk;rw [aD _ _ ah];exact H.new k hk
def Ey(h:List aT)(o:aT):Same h (h++ [o]):=λl x a=>by grind [Nat.lt_or_ge,nmh,getElem?_eq_none,getElem?_append_left]
def gy.push(H:gy h' h)(d:OR (nmh (h++ [o])) o' o):gy ((h.length,o')::h') (h++ [o]) where
 old:=λk x a=>by
  by_cases e:h.length=k
  .grind [aO]
  .have hk:k<h.length:=by grind
   rw [getElem?_append_left hk]at a;obtain⟨c,f,b⟩:=H.old k x a;exact⟨c,by grind [aD],b.mono (Ey h o)⟩
 new:=λk hk=>by
  simp at hk;rw [aD _ _ ah];exact H.new k ah
theorem Vt{l k:Nat}(e:l≠k):nmh (h.set l o) k=nmh h k:=by simp only [nmh,getElem?_set_ne e]
theorem oM{o o':aT}(a:h[l]? =some o)(b:nmh [o] 0=nmh [o'] 0):nmh (h.set l o')=nmh h:=by grind [List.getElem?_eq_some_iff,nmh,getElem?_set_self,Vt]
def fQ(h:List aT)(l:Nat):List aT:=match h[l]? with | some (.rows _ c a)=>h.set l (.gone c ((a:List c.den).length:Int)) | _=>h
def iE(n:Nat)(h:List aT)(l:Nat)(r:List Nat):bG (std n) h (l::r)=bG (std n) (fQ h l) r:=by
 rw [bG];unfold fQ;split
 all_goals simp_all
def qZ(n:Nat):∀(a b:List Nat) (h:List aT),bG (std n) h (a++b)=bG (std n) (bG (std n) h a) b
 | [],_,_=>rfl
 | l::r,b,h=>by simp only [cons_append,iE];exact qZ n r b _
def Nt(h:List aT)(l:Nat):nmh (fQ h l)=nmh h:=by grind [fQ,oM,nmh]
def yR(n:Nat):∀(a:List Nat) (h:List aT),nmh (bG (std n) h a)=nmh h
 | [],_=>rfl
 | l::r,h=>by rw [iE,yR n r,Nt]
theorem Ag{l k:Nat}(e:l≠k):(fQ h l)[k]? =h[k]? :=by grind [fQ,getElem?_set_ne]
def mW(n:Nat):∀(a:List Nat) (h:List aT) {k:Nat},k∉a->(bG (std n) h a)[k]? =h[k]?
 | [],_,_,_=>rfl
 | l::r,h,k,hk=>by
  rw [iE,mW n r _ (λh=>hk (mem_cons_of_mem _ h)),Ag (λe=>hk (by simp [e]))]
theorem Ah(h:List aT)(l:Nat):(fQ h l).length=h.length:=by grind [fQ]
def sU(n:Nat):∀(a:List Nat) (h:List aT),(bG (std n) h a).length=h.length
 | [],_=>rfl
 | l::r,h=>by rw [iE,sU n r,Ah]
theorem gy.fQ(H:gy h' h){c:Co}{xs:List c.den}(a:h[l]? =some (.rows f c xs)):gy ((l,.gone)::h') (TX.fQ h l):=by
 have e:TX.fQ h l=h.set l (.gone c (xs.length:Int)):=by unfold TX.fQ;rw [a]
 rw [e];exact H.set (List.getElem?_eq_some_iff.1 a).1 (λk x b=>by rw [oM a (by simp [nmh])];exact b) .gone
structure jI(h':Heap)(h:List aT)(h'':Heap)(k:List aT)(td:List Nat):Prop where
 same:Same h k
 len:h.length<=k.length
 gone:∀l,Gone h l->Gone k l
 keep:∀l,l<h.length->l∉td->k[l]? =h[l]? /\AE.look h'' l=AE.look h' l
def jI.refl(h':Heap)(h:List aT)(a:List Nat):jI h' h h' h a:=⟨.refl h,Nat.le_refl _,λ_ h=>h,λ_ _ _=>⟨rfl,rfl⟩⟩
def jI.trans{e f c':Heap}{a b c:List aT}{s t:List Nat}(x:jI e a f b s)(y:jI f b c' c t):jI e a c' c (s++t) where
 same:=x.same.trans y.same
 len:=Nat.le_trans x.len y.len
 gone:=λl h=>y.gone l (x.gone l h)
 keep:=λl d hn=>by
  obtain⟨j,g⟩:=x.keep l d (λh=>hn (mem_append_left _ h));obtain⟨k,i⟩:=y.keep l (Nat.lt_of_lt_of_le d x.len) (λh=>hn (mem_append_right _ h));simp_all
def jI.mono{c d:Heap}{a b:List aT}{s t:List Nat}(x:jI c a d b s)(h:∀l,l∈s->l∈t):jI c a d b t:=⟨x.same,x.len,x.gone,λl e hn=>x.keep l e (λf=>hn (h l f))⟩
theorem jI.fQ(l:Nat):jI h' h ((l,o')::h') (TX.fQ h l) [l] where
 same:=λk x a=>by rw [Nt];exact a
 len:=by grind [Ah]
 gone:=λk ⟨c,m,hk⟩=>by
  unfold TX.fQ;split
  .rename_i f co xs hl;by_cases e:l=k
   .simp_all
   .exact⟨c,m,by simp_all⟩
  omega
 keep:=λk _ hn=>by grind [Ag,aD]
def jI.push(o:aT)(o':fT)(a:List Nat):jI h' h ((h.length,o')::h') (h++ [o]) a where
 same:=Ey h o
 len:=by simp
 gone:=λk ⟨c,m,hk⟩=>⟨c,m,by grind⟩
 keep:=λl b _=>⟨getElem?_append_left b,aD _ _ ah⟩
def jI.set(a:Same h (h.set l o))(b:¬Gone h l):jI h' h ((l,o')::h') (h.set l o) [l] where
 same:=a
 len:=by simp
 gone:=λk ⟨c,m,hk⟩=>by
  by_cases e:l=k
  .simp_all
  .exact⟨c,m,by simp_all⟩
 keep:=λk _ hn=>by grind [getElem?_set_ne,aD]
theorem kJ(y:Leaf aH):(qY y).qp=y.scalar:=by cases y<;>rfl
def Jg(y:Leaf aH):lvD (lg y) y.lv=qY y:=by cases y<;>rfl
def SL{b:Heap}{done:List Nat}(H:gy b (bG (std n) h done)){x:Cell}{y:SC}(o:RC (nmh h) x y){s:Sh}{v:LV aH}{j:List Nat}
  (hk:gu (std n) h s y=some (f,v,j)) (hd:∀l∈j,l∉done):
  ∃g a,(f=true->g=true)/\gy a (bG (std n) h (done++j))/\jI b (bG (std n) h done) a (bG (std n) h (done++j)) j/\∀K,K g (lvD s v) a->FY b x K:=by
 unfold gu at hk;split at hk
 .rename_i f0 lf;split at hk
  .rename_i e;cases hk;cases o with | d u m=>
   rename_i p w;subst u;refine⟨p || (qY lf).qp,b,λh=> ?_,by simp_all,by rw [append_nil];exact .refl _ _ _,λK hK=> ?_⟩
   .rw [kJ];cases lf with
    | rows c i=>grind [Leaf.flag,Leaf.scalar]
    | _=>simp [Leaf.scalar]
   .subst e;rw [Jg]at hK;exact hK
  .cases hk
 .cases o;split at hk
  .rename_i c;cases hk;exact⟨true,b,λ_=>rfl,by simp_all,by rw [append_nil];exact .refl _ _ _,λK hK=>⟨c.size,hK⟩⟩
  .cases hk
 .rename_i f0 c i;cases o with | clip m=>
  split at hk
  .rename_i e;subst e;cases hk;exact⟨_,b,m,by simp_all,by rw [append_nil];exact .refl _ _ _,λK hK=>hK⟩
  .cases hk
 .rename_i l;cases o with | own r=>
  split at hk
  .rename_i f0 c i hl;split at hk
   .rename_i e;subst e;cases hk;rw [dJ hl]at r;cases r;have k:(bG (std n) h done)[l]? =some (.rows f c i):=by rw [mW n _ _ (hd l (by simp))];exact hl
    obtain⟨z,q,t⟩:=H.old l _ k;cases t with | rows m=>
    rename_i p;refine⟨p,(l,.gone)::b,m,by rw [qZ,iE];exact H.fQ k,by rw [qZ,iE];exact jI.fQ l,λK hK=> ?_⟩;unfold FY;simp only;rw [q];refine⟨rfl,by rw [aZ];omega,?_⟩;have:((aR c i).drop 0).take i.length=aR c i:=by grind [take_of_length_le,aZ]
    rw [this];exact hK
   .cases hk
  .cases hk
 .cases hk
def tX:∀ {k:List Sh} {r:List SC} {j:List Cell} {c:Heap} {done:List Nat} (_:gy c (bG (std n) h done)) (_:F2 (RC (nmh h)) j r) {f:Bool} {i:List (LV aH)} {a:List Nat},
  aP (std n) h k r=some (f,i,a)->(∀l∈a,l∉done)->
  ∃g b,(f=true->g=true)/\gy b (bG (std n) h (done++a))/\jI c (bG (std n) h done) b (bG (std n) h (done++a)) a/\∀K,K g (zipWith lvD k i) b->tN c j K
 | [],[],j,c,done,H,hF,f,i,a,hk,hd=>by
  simp [aP]at hk;obtain⟨rfl,rfl,rfl⟩:=hk;cases hF;exact⟨true,c,λ_=>rfl,by simp_all,by rw [append_nil];exact .refl _ _ _,λK hK=>hK⟩
 | [],_::_,_,_,_,_,_,_,_,_,hk,_=>by simp [aP]at hk
 | _::_,[],_,_,_,_,_,_,_,_,hk,_=>by simp [aP]at hk
 | s::k,y::r,j,c,done,H,hF,f,i,a,hk,hd=>by
  cases hF with | cons z v=>
  unfold aP at hk;split at hk
  .rename_i f1 v1 l1 hv1;split at hk
   .rename_i g2 vs2 ls2 hv2;split at hk
    .rename_i aAA;cases hk;have aAA:∀l∈ls2,l∉l1:=λl o C=>by simp_all
     obtain⟨u,D,B,t,p,q⟩:=SL H z hv1 (λl o=>hd l (mem_append_left _ o));obtain⟨w,x,A,e,d,m⟩:=tX (done:=done++l1) t v hv2 (λl o hm=>by simp_all);rw [append_assoc]at e d;refine⟨u&&w,x,λh=>by simp_all,e,p.trans d,λK hK=> ?_⟩;exact q _ (m _ hK)
    .cases hk
   .cases hk
  .cases hk
theorem Dh(c:Co)(t:jy c.uN){a:List (LV aH)}(h:pack aH c.uN a=some t):zipWith lvD c.fields a=c.row (c.mk t):=by
 rw [afm,acH,unpack_pack h]
def A9{N:NM}:∀ {b:List (Leaf aH)} {c:List Cell} {f:Bool},F2 (RC N) c (b.map (.d f))->∀(a:Heap),∃g,(f=true\/(∀y∈b,y.scalar=true)->g=true)/\∀K,K g (b.map qY) a->tN a c K
 | [],_,_,h,a=>by cases h;exact⟨true,λ_=>rfl,λK hK=>hK⟩
 | y::b,_,f,.cons h1 h2,a=>by
  obtain⟨g,m,i⟩:=A9 h2 a;cases h1 with | d j l=>
  rename_i e k;subst j;refine⟨(e || (qY y).qp)&&g,λh=> ?_,λK hK=>i _ hK⟩
  grind [kJ,mem_cons_of_mem]
theorem mX(c:Co)(h:c.flat=true)(x:c.den):∀y∈gM (std 0) c x 0 c.fields,y.scalar=true:=by
 intro y b;have d:=Eu 0 c x;have a:lg y∈c.fields:=by grind
 have e:=all_eq_true.1 h _ a;cases y<;>simp_all [lg,Leaf.scalar]
theorem afv{i:Heap}(H:gy i h){p:PV}{q:SVal}(w:PVR (nmh h) p q){c:Co}{x:c.den}{d:List Nat}(hk:toX (std n) h c q=some (f,x,d)):
  ∃g a,(f=true->g=true)/\gy a (bG (std n) h d)/\jI i h a (bG (std n) h d) d/\(aX p).length=c.size/\∀K,K g (c.row x) a->tN i (aX p) K:=by
 unfold toX at hk;split at hk
 .rename_i f' c' x';split at hk
  .rename_i e;subst e;cases hk;have b:=w.cells;have A:cellsS (.sv f' c' x')=(gM (std 0) c' x' 0 c'.fields).map (.d f'):=rfl;have k:(aX p).length=c'.size:=by
    rw [b.length,A,length_map];have:=congrArg List.length (Eu 0 c' x');simpa using this
   rw [A]at b;obtain⟨g,m,l⟩:=A9 b i;refine⟨g,i,λh=>m ?_,H,.refl _ _ _,k,λK hK=>l K (by rw [oL];exact hK)⟩
   grind [mX]
  .cases hk
 .cases hk
 .split at hk
  .rename_i f1 ys ls1 j;split at hk
   .rename_i t ht;cases hk;have b:=w.cells;rw [dI]at j;obtain⟨g,a,m,l,u,y⟩:=tX (done:=[]) H b j (λ_ _=>by simp);rw [nil_append]at l u;refine⟨g,a,m,l,u,?_,λK hK=>y K (by grind [Dh])⟩;have B:=congrArg List.length (unpack_pack ht);have r:(cellsS q).length=c.fields.length:=by
     clear l u y b ht B m
     revert j
     generalize cellsS q=o;generalize c.fields=v;intro j
     induction v generalizing o f ys d with
     | nil=>grind [aP]
     | cons s v C=>cases o with
      | nil=>simp [aP]at j
      | cons z o=>grind [aP]
    rw [b.length,r]
   .cases hk
  .cases hk
end Go.TX
namespace Go.TX
open Go Go.AE List
variable{n:Nat}{c:Co}{f:Bool}{h':Heap}{h:List aT}
def Hv{m:Nat}(T:(PV->Heap->Nat->Prop)->Prop)(n:Nat)(h':Heap)(h:List aT)(r:HR (std m)):Prop:=
 ∃pv a b,PVR (nmh r.h) pv r.v/\gy a r.h/\jI h' h a r.h r.touched/\r.h.length=nm n b/\∀K,K pv a b->T K
def afw:∀ {l:List Cell},zdB l=true->∃a,ZD l a
 | [],_=>⟨[],.nil⟩
 | x::r,h=>by
  simp only [zdB,all_cons,Bool.and_eq_true]at h;obtain⟨a,hd⟩:=afw (l:=r) h.2;have b:=h.1;cases x with
  | d f y=>exact⟨y::a,.d f y hd⟩
  | nil=>exact⟨.rows 0 []::a,.nl 0 hd⟩
  | _=>simp at b
theorem Ji{α:Type}(l:List α)(lo n:Nat):(l.drop lo).take n=(l.take (lo+n)).drop lo:=by
 rw [drop_take];congr 1;omega
def Gc:∀ {zc:List Cell} {d:List SC} {a:List Sh} {f:Bool} {b:List (LV aH)} {h:List Nat},lY (std n) zc=some d->aP (std n) [] a d=some (f,b,h)->ZD zc (zipWith lvD a b)
 | [],d,a,f,b,h,h1,h2=>by
  simp [lY]at h1;subst h1;cases a with
  | nil=>simp [aP]at h2;obtain⟨_,rfl,_⟩:=h2;exact .nil
  | cons s a=>simp [aP]at h2
 | x::zc,d,a,f,b,h,h1,h2=>by
  simp only [lY]at h1;split at h1
  .rename_i y ys hy hys;cases h1;cases a with
   | nil=>simp [aP]at h2
   | cons s a=>
    simp only [aP]at h2;split at h2
    .rename_i f1 v1 l1 hv;split at h2
     .rename_i g vs' ls' hvs;split at h2<;>cases h2
      have c:=Gc hys hvs;simp only [zipWith_cons_cons];unfold acz at hy;split at hy
      .cases hy;simp only [gu]at hv;split at hv
       .rename_i e;cases hv;subst e;exact .d _ _ c
       .cases hv
      .cases hy;simp only [gu]at hv;split at hv
       .rename_i e;cases hv;subst e;exact .d _ _ c
       .cases hv
      .cases hy;simp only [gu]at hv;split at hv
       .rename_i e;cases hv;subst e;exact .d _ _ c
       .cases hv
      .cases hy;simp only [gu]at hv;split at hv
       .cases hv;exact .nl _ c
       .cases hv
      .cases hy;simp [gu]at hv
      .cases hy
     .cases h2
    .cases h2
  .cases h1
def afx{zc:List Cell}{b:List SC}{x:c.den}{e:List Nat}(d:lY (std n) zc=some b)(a:toX (std n) [] c (.agg b)=some (f,x,e)):ZD zc (c.row x):=by
 simp only [toX]at a;split at a
 .rename_i f1 ys l1 hl;split at a
  .rename_i t ht;cases a;have:=Gc d (by simpa [dh]using hl);rw [Dh c t ht]at this;exact this
  .cases a
 .cases a
def amZ(H:gy h' h){p:PV}{v:SVal}{u:List c.den}(r:PVR (nmh h) p v){z:Option c.den}{t:List D}(B:∀x,z=some x->t=c.row x)(hk:aqj (std n) h c z v=some (f,u))
  (a:∀b∈nK (std n) h v,b=true):∃g A,(f=true->g=true)/\(aR c u≠ []->A=c.size)/\∀K,K g A (aR c u)->UC h' t p K:=by
 unfold aqj at hk;split at hk
 .rename_i fq kq q;cases hxx:z with
  | none=>rw [hxx]at hk;cases hk
  | some x=>
   rw [hxx]at hk;cases hk;obtain⟨J,rfl⟩:=r.int;have e:=B x hxx;have F:(0:Int)<=q:=by simpa [bJ]using a (bJ .leq 0 q) (by simp [nK])
   have C:q<=lF:=by simpa [bJ]using a (bJ .leq q lF) (by simp [nK])
   obtain⟨q,rfl⟩:∃w:Int,w=q:=⟨q,rfl⟩;refine⟨true,t.length,λ_=>rfl,λ_=>by rw [e,vO],λK hK=> ?_⟩;unfold UC;simp only;refine⟨F,by simp only [lF,CO]at C ⊢;omega,?_⟩;have E:aR c (replicate q.toNat x)=replicate q.toNat t:=by rw [e];simp [aR]
   rw [<-E];exact hK
 .cases hk;obtain⟨x,rfl,hc⟩:=r.cell;cases hc;exact⟨true,0,λ_=>rfl,λh=>absurd rfl h,λK hK=>hK⟩
 .rename_i f0 c' j;split at hk
  .rename_i e;subst e;cases hk;obtain⟨x,rfl,hc⟩:=r.cell;cases hc with | d I i=>
   subst I;exact⟨_,c'.size,λh=>(i h).resolve_right (by simp [Leaf.scalar]),λ_=>rfl,λK hK=>hK⟩
  .cases hk
 .rename_i f0 c' j;split at hk
  .rename_i e;subst e;cases hk;obtain⟨x,rfl,hc⟩:=r.cell;cases hc with | clip i=>
   exact⟨_,c'.size,i,λ_=>rfl,λK hK=>hK⟩
  .cases hk
 .rename_i l;split at hk
  .rename_i f0 c' j hl;split at hk
   .rename_i e;subst e;cases hk;obtain⟨x,rfl,hc⟩:=r.cell;cases hc with | own s=>
    rw [dJ hl]at s;cases s;obtain⟨G,k,y⟩:=H.old l _ hl;cases y with | rows i=>
    refine⟨_,c'.size,i,λ_=>rfl,λK hK=> ?_⟩;unfold UC;simp only;rw [k];refine⟨rfl,by rw [aZ];omega,?_⟩;rw [drop_zero,take_of_length_le (by rw [aZ];exact Nat.le_refl _)];exact hK
   .cases hk
  .cases hk
 .rename_i l o m;split at hk
  .rename_i f0 c' j hl;split at hk
   .rename_i e;subst e;cases hk;obtain⟨x,rfl,hc⟩:=r.cell;cases hc with | os s=>
    rename_i A o m q;rw [dJ hl]at s;cases s;obtain⟨G,k,y⟩:=H.old l _ hl;cases y with | rows i=>
    simp only [nK,hl]at a;have L:(o:Int)+(m:Int)<=(j:List c'.den).length:=by
     have:=a (bJ .leq ((o:Int)+(m:Int)) ((j:List c'.den).length:Int)) (by simp);simpa [bJ]using this
    refine⟨_,c'.size,i,λ_=>rfl,λK hK=> ?_⟩;unfold UC;simp only;rw [k];refine⟨rfl,by rw [aZ];omega,?_⟩;have e:aR c' (((j:List c'.den).take ((o:Int)+(m:Int)).toNat).drop ((o:Int)).toNat)=((aR c' j).drop o).take m:=by
     rw [Ji,<-Af]
     congr 2<;>omega
    rw [<-e];exact hK
   .cases hk
  .cases hk
 .cases hk
def Nu(c:Co)(a b:List c.den):aR c (a++b)=aR c a++aR c b:=by simp [aR]
def PVR.own{l sz n:Nat}(a:nmh h l=some (sz,n)):PVR (nmh h) (.c (.os l sz 0 n)) (.c (.own l)):= .ofC (.own a)
def uP(h:List aT)(f:Bool)(c:Co)(a:List c.den):nmh (h++ [.rows f c a]) h.length=some (c.size,a.length):=by
 simp [nmh]
def Jj{l:Nat}{d:List c.den}(b:h[l]? =some (.rows f c d)):¬Gone h l:=λ⟨_,_,a⟩=>by rw [b]at a;cases a
def aeu{X:XT}{E:Tab}(hX:XOK X E){m:Nat}(H:gy h' h){n k:Nat}(hn:h.length=nm n k){ty t2:TypeId}{pa W:PV}{a b:SVal}(ha:PVR (nmh h) pa a)(F:PVR (nmh h) W b)
  {r:HR (std m)} (hk:OL (std m) X h ty t2 a b=some r) (s:∀b∈r.chk,b=true):
  Hv (λK=>aG (E.ty ty) λy=>match y.desc with
   | .slice e=>aG (E.ty e) λz=>(aG (E.ty t2) λy2=>uI y2.desc W)/\CP h' n k z pa W K
   | _=>False) n h' h r:=by
 unfold OL at hk;rw [hX.ty]at hk;split at hk
 .rename_i y hy;split at hk
  .rename_i e hd;split at hk
   .rename_i z c hz hco;split at hk
    .rename_i hcond;simp only [Bool.and_eq_true,Bool.not_eq_true',beq_eq_false_iff_ne,ne_eq]at hcond;obtain⟨⟨⟨⟨a3,a1⟩,N⟩,t⟩,I⟩:=hcond;have N:=Nat.le_of_ble_eq_true N;obtain⟨U,I,a6⟩:∃U,ZD z.zero U/\∀x,acB (std m) z c=some x->U=c.row x:=by
      cases R:acB (std m) z c with
      | none=>obtain⟨U,I⟩:=afw I;exact⟨U,I,λx h=>by cases h⟩
      | some x=>
       unfold acB at R;split at R
       .rename_i zs w;split at R
        .rename_i fz x' lz hx;cases R;exact⟨_,afx w hx,λy h=>by cases h;rfl⟩
        .cases R
       .cases R
     obtain⟨z',a0,w⟩:=iC hX a3;rw [hz]at a0;cases a0;have a5:aG (E.ty t2) λy2=>uI y2.desc W:=by
      unfold I7 at t;rw [hX.ty]at t;split at t
      .rename_i y2 hy2;rw [hy2];simp only [aG];split at t
       .cases t
       .rename_i e2 x hne2 C;obtain⟨x',rfl,hc⟩:=F.cell;unfold uI;cases hc with
        | d hx S=>
         rename_i f g x0 y0;subst hx;cases y0 with
         | int k q=>exact absurd rfl (hne2 _ _ _)
         | _=>rw [C];trivial
        | _=>rw [C];trivial
       .rename_i kk fq kq q C;obtain⟨g0,rfl⟩:=F.int;unfold uI;rw [C];trivial
       .cases t
      .cases t
     split at hk
     .rename_i f2 ds P;obtain⟨⟨f0,a9⟩,P,C⟩:=Option.map_eq_some_iff.1 P;simp only [Prod.mk.injEq]at C;obtain⟨a7,M⟩:=C;have M:=M.symm;subst M
      have D:(∀b'∈nK (std m) h b,b'=true)->∀(v:SVal) (V:List aT) (td:List Nat),(∀(g L:_),(f2=true->g=true)->(aR c ds≠ []->L=c.size)->∃pv G j,PVR (nmh V) pv v/\gy G V/\jI h' h G V td/\V.length=nm n j/\
        ∀K:PV->Heap->Nat->Prop,K pv G j->yu h' n k z pa g (aR c ds) K)->r.h=V->r.v=v->r.touched=td->Hv (λK=>aG (E.ty ty) λy=>match y.desc with
         | .slice e=>aG (E.ty e) λz=>(aG (E.ty t2) λy2=>uI y2.desc W)/\CP h' n k z pa W K
         | _=>False) n h' h r:=by
       intro a4 v V td hm e1 e2 e3;obtain⟨g,L,J,T,hK⟩:=amZ H F a6 P a4;obtain⟨pv,G,j,q1,q2,q3,q4,q5⟩:=hm (g || Ir (aR c ds)) L (λh=>by
        rw [<-a7]at h;rcases Bool.or_eq_true _ _▸h with h | h
        .simp [J h]
        .have:Ir (aR c ds)=true:=by
          unfold Ir aR;simp only [all_map,all_eq_true,Function.comp_apply];intro x _ d hd;rw [<-oL 0]at hd;obtain⟨y,hy,rfl⟩:=mem_map.1 hd;rw [kJ];exact mX c h x y hy
         simp [this]) T
       subst e1;subst e2;subst e3;refine⟨pv,G,j,q1,q2,q3,q4,λK a8=> ?_⟩;rw [hy];simp only [aG];rw [hd];simp only;rw [hz];exact⟨a5,U,I,a1,N,hK _ ⟨λh=>(T h).trans w.symm,q5 K a8⟩⟩
      split at hk
      .cases hk;obtain⟨x,rfl,hc⟩:=ha.cell;cases hc;refine D (λb F=>s b (by simp [F])) _ _ _ (λg L J T=> ?_) rfl rfl rfl;have p:(ds.length:Int)<=lF:=by simpa [bJ]using s (bJ .leq (ds.length:Int) lF) (by simp)
       refine⟨_,(h.length,.rows g c.size (aR c ds))::h',k+1,.own (uP h f2 c ds),H.push (.rows J),.push _ _ _,by simp [nm]at hn ⊢;omega,λK hK=> ?_⟩;refine⟨by rw [aZ];simp [lF,CO]at p ⊢;omega,?_⟩;rw [<-hn,w,aZ];exact hK
      .rename_i l;split at hk
       .rename_i f1 c1 i hl;split at hk
        .rename_i q;subst q;cases hk;obtain⟨x,rfl,hc⟩:=ha.cell;cases hc with | own hN=>
         rw [dJ hl]at hN;cases hN;obtain⟨o',O,hO⟩:=H.old l _ hl;cases hO with | rows S=>
         rename_i Q;refine D (λb F=>s b (by simp [F])) _ _ _ (λg L J T=> ?_) rfl rfl rfl;have p:((i:List c1.den).length:Int)+(ds.length:Int)<=lF:=by simpa [bJ]using s (bJ .leq ((i.length:Int)+(ds.length:Int)) lF) (by simp)
         have hG:=H.fQ hl;have Y:fQ h l=h.set l (.gone c1 (i.length:Int)):=by unfold fQ;rw [hl]
         have A:(fQ h l).length=h.length:=Ah h l;have hP:=hG.push (o:= .rows (f1&&f2) c1 (i++ds)) (o':= .rows (Q&&g) c1.size (aR c1 (i++ds))) (.rows (λh=>by simp at h;simp [S h.1,J h.2]));rw [A]at hP;have hE:=(jI.fQ (h':=h') (h:=h) l (o':= .gone)).trans (jI.push (h':=(l,.gone)::h') (h:=fQ h l) (.rows (f1&&f2) c1 (i++ds)) (.rows (Q&&g) c1.size (aR c1 (i++ds))) []);rw [A]at hE;refine⟨.c (.os h.length c1.size 0 (i++ds).length),_,k+1,?_,by rw [<-Y];exact hP,by rw [<-Y];exact hE,by simp [nm]at hn ⊢;omega,λK hK=> ?_⟩
         .have:=uP (fQ h l) (f1&&f2) c1 (i++ds);rw [A]at this;rw [<-Y];exact .own this
         .unfold yu;simp only;rw [O];simp only [sI];refine⟨by rw [aZ,Nat.zero_add];exact Nat.le_refl _,by trivial,w.symm,by rw [aZ];simp [lF,CO]at p ⊢;omega,?_⟩;rw [drop_zero,take_of_length_le (by rw [aZ];exact Nat.le_refl _),<-hn,w,aZ,<-Nu,<-eG];exact hK
        .cases hk
       .cases hk
      .rename_i l lo u;split at hk
       .rename_i f1 c1 i hl;split at hk
        .rename_i q;subst q;cases hk;obtain⟨x,rfl,hc⟩:=ha.cell;cases hc with | os hN=>
         rename_i L lo u mm;rw [dJ hl]at hN;cases hN;obtain⟨o',O,hO⟩:=H.old l _ hl;cases hO with | rows S=>
         rename_i Q;refine D (λb F=>s b (by simp [F])) _ _ _ (λg L J T=> ?_) rfl rfl rfl;have b0:(lo:Int)=0:=by simpa [bJ]using s (bJ .eql (lo:Int) 0) (by simp)
         have R:(u:Int)<=(i:List c1.den).length:=by simpa [bJ]using s (bJ .leq (u:Int) (i.length:Int)) (by simp)
         have p:(u:Int)+(ds.length:Int)<=lF:=by simpa [bJ]using s (bJ .leq ((u:Int)+(ds.length:Int)) lF) (by simp)
         have hG:=H.fQ hl;have Y:fQ h l=h.set l (.gone c1 (i.length:Int)):=by unfold fQ;rw [hl]
         have A:(fQ h l).length=h.length:=Ah h l;have es:(((i:List c1.den).take ((u:Int)).toNat).drop ((0:Int)).toNat)=i.take u:=by simp
         have hP:=hG.push (o:= .rows (f1&&f2) c1 (i.take u++ds)) (o':= .rows (Q&&g) c1.size (aR c1 (i.take u++ds))) (.rows (λh=>by simp at h;simp [S h.1,J h.2]));rw [A]at hP;have hE:=(jI.fQ (h':=h') (h:=h) l (o':= .gone)).trans (jI.push (h':=(l,.gone)::h') (h:=fQ h l) (.rows (f1&&f2) c1 (i.take u++ds)) (.rows (Q&&g) c1.size (aR c1 (i.take u++ds))) []);rw [A]at hE;have B:(h.set l (.gone c1 (i.length:Int))++ [eD.rows (f1&&f2) c1 ((((i:List c1.den).take ((u:Int)).toNat).drop ((0:Int)).toNat)++ds)])=fQ h l++ [.rows (f1&&f2) c1 (i.take u++ds)]:=by rw [es,Y]
         refine⟨.c (.os h.length c1.size 0 (i.take u++ds).length),_,k+1,?_,by show gy _ (h.set l (.gone c1 (i.length:Int))++ [eD.rows (f1&&f2) c1 ((((i:List c1.den).take ((u:Int)).toNat).drop ((0:Int)).toNat)++ds)]);rw [B];exact hP,
          by show jI _ _ _ (h.set l (.gone c1 (i.length:Int))++ [eD.rows (f1&&f2) c1 ((((i:List c1.den).take ((u:Int)).toNat).drop ((0:Int)).toNat)++ds)]) _;rw [B];exact hE,by simp [nm]at hn ⊢;omega,λK hK=> ?_⟩
         .have:=uP (fQ h l) (f1&&f2) c1 (i.take u++ds);rw [A]at this;show PVR (nmh (h.set l (.gone c1 (i.length:Int))++ [eD.rows (f1&&f2) c1 ((((i:List c1.den).take ((u:Int)).toNat).drop ((0:Int)).toNat)++ds)])) _ _;rw [B];exact .own this
         .unfold yu;simp only;rw [O];simp only [sI];refine⟨by rw [aZ];omega,by trivial,w.symm,by rw [aZ];simp [lF,CO]at p ⊢;omega,?_⟩;have a2:lo=0:=by omega
          subst a2;have e1:((aR c1 i).drop 0).take u++aR c1 ds=aR c1 (i.take u++ds):=by simp [aR,map_take]
          have e2:u+ds.length=(i.take u++ds).length:=by simp;omega
          rw [<-hn,w,aZ,e1,e2];exact hK
        .cases hk
       .cases hk
      .rename_i f1 c1 i;split at hk
       .rename_i q;subst q;cases hk;obtain⟨x,rfl,hc⟩:=ha.cell;cases hc with | clip S=>
        rename_i Q;refine D (λb F=>s b (by simp [F])) _ _ _ (λg L J T=> ?_) rfl rfl rfl;have Z:(decide ((0:Int)< (ds.length:Int)) || decide (((i:List c1.den).length:Int)=0))=true:=by
         have:=s ((bJ .lss 0 (ds.length:Int)) || (bJ .eql (i.length:Int) 0)) (by simp);simpa [bJ]using this
        have p:((i:List c1.den).length:Int)+(ds.length:Int)<=lF:=by simpa [bJ]using s (bJ .leq ((i.length:Int)+(ds.length:Int)) lF) (by simp)
        refine⟨.c (.os h.length c1.size 0 (i++ds).length),(h.length,.rows (Q&&g) c1.size (aR c1 (i++ds)))::h',k+1,.own (uP h (f1&&f2) c1 (i++ds)),H.push (.rows (λh=>by simp at h;simp [S h.1,J h.2])),.push _ _ _,by simp [nm]at hn ⊢;omega,λK hK=> ?_⟩;refine⟨λ_=>w.symm,λhe=> ?_,by rw [aZ,aZ];simp [lF,CO]at p ⊢;omega,?_⟩
        .simp only [Bool.or_eq_true,decide_eq_true_eq]at Z;rcases Z with h1 | h1
         .have:ds=[]:=by simpa [aR]using he
          subst this;simp at h1
         .have:i=[]:=length_eq_zero_iff.1 ah;subst this;rfl
        .rw [<-hn,w,aZ,aZ,<-Nu,<-eG];exact hK
       .cases hk
      .cases hk
     .cases hk
    .cases hk
   .cases hk
  .cases hk
 .cases hk
end Go.TX
namespace Go.TX
open Go Go.AE List
variable{X:XT}{E:Tab}{m:Nat}{h:List aT}{h':Heap}{ty:TypeId}
def Hv2(T:(PV->Heap->Nat->Prop)->Prop)(n:Nat)(h':Heap)(h:List aT)(v:SVal)(k:List aT)(b:List Nat):Prop:=
 ∃pv a j,PVR (nmh k) pv v/\gy a k/\jI h' h a k b/\k.length=nm n j/\∀K,K pv a j->T K
theorem uK{k:IntKind}:∀ {a:List (List D)} {l:List Int},oH k a=some l->l.map (ic k)=a
 | [],l,h=>by grind [oH]
 | e::r,l,h=>by
  unfold oH at h;split at h
  .rename_i hh;cases hh
  .rename_i k' n r' hh;cases hh;split at h
   .rename_i e;subst e;split at h
    .rename_i l' hl;cases h;simp [ic,uK hl]
    .cases h
   .cases h
  .cases h
theorem RZ(d:ou)(a:List (List D)):ir d a=a:=by
 unfold ir
 grind [uK]
def SN(hX:XOK X E){n:Nat}{t:Slots}{e:Nat->Option SVal}{c:Co}:∀ {a:List (Nat×Operand)} {h':Heap} {h:List aT} (_:gy h' h) (_:EvR X E n (nmh h) t e) {f:Bool} {d:List c.den} {k:List aT} {l:List Nat},
  vI (std n) X e c h a=some (f,d,k,l)->
  ∃g b,(f=true->g=true)/\gy b k/\jI h' h b k l/\nmh k=nmh h/\k.length=h.length/\d.length=a.length/\∀K,K g (aR c d) b->yj E t c.size h' a K
 | [],h',h,H,he,f,d,k,l,hk=>by
  simp only [vI,Option.some.injEq,Prod.mk.injEq]at hk;obtain⟨rfl,rfl,rfl,rfl⟩:=hk;exact⟨true,h',λ_=>rfl,H,.refl _ _ _,rfl,rfl,rfl,λK hK=>hK⟩
 | (i,x)::r,h',h,H,he,f,d,k,l,hk=>by
  simp only [vI]at hk;split at hk
  .rename_i v hv;split at hk
   .rename_i f1 y l1 hy;split at hk
    .rename_i g1 ys k1 l2 hys;cases hk;obtain⟨pv,D,p⟩:=dO hX he hv;obtain⟨m,M,L,I,A,F,C⟩:=afv H p hy;have j:nmh (bG (std n) h l1)=nmh h:=yR n l1 h;obtain⟨q,s,J,G,o,w,B,u,z⟩:=SN hX I (by rw [j];exact he) hys;refine⟨m&&q,s,λh=>by simp_all,G,A.trans o,w.trans j,by rw [B,sU],by simp [u],λK hK=> ?_⟩;unfold yj;rw [D];exact⟨F,C _ (z _ hK)⟩
    .cases hk
   .cases hk
  .cases hk
def Vu(c:Co)(a:c.den){j n:Nat}{b:List (LV aH)}(i:j+n<=c.fields.length)(e:b.length=n){t:jy c.uN}(g:pack aH c.uN ((c.BO a).take j++b++(c.BO a).drop (j+b.length))=some t):
  c.row (c.mk t)=iV (c.row a) (zipWith lvD ((c.fields.drop j).take n) b) j:=by
 have f:=Dh c t g;have k:(c.BO a).length=c.fields.length:=afn c a;have d:c.fields=c.fields.take j++(c.fields.drop j).take n++c.fields.drop (j+n):=by
  rw [append_assoc,<-drop_drop,take_append_drop,take_append_drop]
 have h:(zipWith lvD ((c.fields.drop j).take n) b).length=n:=by simp;omega
 unfold iV;rw [<-f,afm c a,h,take_zipWith,drop_zipWith]
 conv=>lhs;rw [d]
 rw [zipWith_append (by simp;omega),zipWith_append (by simp;omega),e]
def Jk:∀ {b:List Sh} {c:List SC} {f:Bool} {a:List (LV aH)} {d:List Nat},aP (std m) h b c=some (f,a,d)->a.length=b.length
 | [],[],_,_,_,hk=>by simp [aP]at hk;obtain⟨_,rfl,_⟩:=hk;rfl
 | [],_::_,_,_,_,hk=>by simp [aP]at hk
 | _::_,[],_,_,_,hk=>by simp [aP]at hk
 | s::b,y::c,f,a,d,hk=>by
  unfold aP at hk;split at hk
  .split at hk
   .rename_i hv2;split at hk
    .cases hk;simp [Jk hv2]
    .cases hk
   .cases hk
  .cases hk
def Ez(h:Heap)(p v:PV)(K:Heap->Prop):Prop:=
 match p with
 | .c (.ptr l sz i j)=>sI (AE.look h l) λo=>match o with
  | .box cs=>i=0/\j+(aX v).length<=cs.length/\K ((l,.box (splice cs (aX v) j))::h)
  | .rows f a b=>sz=a/\i<b.length/\tN h (aX v) λg c d=>AE.look d l=some (.rows f a b)/\j+c.length<=sz/\
   ∀row,b[i]? =some row->K ((l,.rows (f&&g) sz (b.set i (if j=0/\c.length=sz then c else iV row c j)))::d)
  | .gone=>False
 | _=>False
def afy(hX:XOK X E)(H:gy h' h){n k:Nat}(hn:h.length=nm n k){W pv:PV}{p v:SVal}(hp:PVR (nmh h) W p)(hv:PVR (nmh h) pv v)
  {r:HR (std m)} (hk:yK (std m) X h ty p v=some r) (a8:∀b∈r.chk,b=true):
  Hv2 (λK=>aG (E.ty ty) λy=>Ed h' y W pv λa=>K (.tup []) a k) n h' h r.v r.h r.touched:=by
 have aev:∀N,PVR N (.tup []) (.tup []):=λN=> .tup .nil
 unfold yK at hk;rw [hX.ty]at hk;have b0:∃y,E.ty ty=some y:=by grind
 obtain⟨y,hy⟩:=b0;rw [hy]at hk;simp only at hk;split at hk
 .cases hk
 .rename_i hc0;simp only [Bool.or_eq_true,beq_iff_eq,Bool.not_eq_true',beq_eq_false_iff_ne,ne_eq,not_or,Decidable.not_not]at hc0;obtain⟨a6,S⟩:=hc0;have e:=hv.cells;have T:(aX pv).length=(cellsS v).length:=e.length;rw [dI]at S;have pre:∀ {td:List Nat} {O:List aT} {a:Heap} {vv:SVal},PVR (nmh O) (.tup []) vv->gy a O->jI h' h a O td->O.length=h.length->(∀K:PV->Heap->Nat->Prop,K (.tup []) a k->Ez h' W pv λu=>K (.tup []) u k)->Hv2 (λK=>aG (E.ty ty) λy=>Ed h' y W pv λa=>K (.tup []) a k) n h' h vv O td:=by
   intro td O a vv a0 a1 a2 a3 a4;refine⟨.tup [],a,k,a0,a1,a2,by rw [a3,hn],λK hK=> ?_⟩;rw [hy];simp only [aG];exact⟨by rw [T,S],by simpa using a6,a4 K hK⟩
  split at hk
  .rename_i l sz j;split at hk
   .rename_i w hw;obtain⟨x,rfl,hc⟩:=hp.cell;cases hc;obtain⟨o',C,hO⟩:=H.old l _ hw;cases hO with | box hF=>
    rename_i cs;have aBN:cs.length=(cellsS w).length:=hF.length;have L:l<h.length:=(List.getElem?_eq_some_iff.1 hw).1;have a5:¬Gone h l:=λ⟨_,_,h2⟩=>by simp_all
    have aAB:∀w2,F2 (RC (nmh h)) (splice cs (aX pv) j) (cellsS w2)->j+(aX pv).length<=cs.length->Hv2 (λK=>aG (E.ty ty) λy=>Ed h' y (.c (.ptr l sz 0 j)) pv λa=>K (.tup []) a k) n h' h (.tup []) (h.set l (.box w2)) [l]:=by
     intro w2 b2 a9;have M:nmh (h.set l (.box w2))=nmh h:=oM hw (by simp [nmh]);refine pre (aev _) (H.set L (λk x B=>by rw [M];exact B) (.box (by rw [M];exact b2))) (.set (λk x B=>by rw [M];exact B) a5) (by simp) (λK hK=> ?_);unfold Ez;simp only;rw [C];exact⟨by trivial,a9,hK⟩
    split at hk
    .rename_i hcond;cases hk;simp_all [dI,Bool.and_eq_true,beq_iff_eq,splice,aX,take_zero,drop_of_length_le]
    .split at hk
     .rename_i hcond;cases hk;simp only [dI,Bool.and_eq_true,beq_iff_eq]at hcond;obtain⟨u,h2⟩:=hcond;have u:=Nat.le_of_ble_eq_true u;rw [show dh (std m) w=cellsS w from dI m w,show dh (std m) v=cellsS v from dI m v];refine aAB (.agg _) ?_ ah;show F2 _ _ ((cellsS w).take j++cellsS v++(cellsS w).drop (j+(cellsS v).length));unfold splice;rw [T];exact((hF.take j).append e).append (hF.drop _)
     .cases hk
   .cases hk
  .rename_i l i j;split at hk
   .rename_i f c s hw;obtain⟨x,rfl,hc⟩:=hp.cell;cases hc with | pr hN=>
    rename_i sz i mm;rw [dJ hw]at hN;cases hN;obtain⟨o',C,hO⟩:=H.old l _ hw;cases hO with | rows hf=>
    rename_i f';have L:l<h.length:=(List.getElem?_eq_some_iff.1 hw).1
    have A:∀(o:List Nat) (g G:Bool) (u:Heap) (z:c.den) (P:List D),l∉o->(g=true->G=true)->gy u (bG (std m) h o)->jI h' h u (bG (std m) h o) o->(i:Int)< (s:List c.den).length->j+P.length<=c.size->
      (∀K,K G P u->tN h' (aX pv) K)->(∀row,(aR c s)[i]? =some row->(if j=0/\P.length=c.size then P else iV row P j)=c.row z)->
      Hv2 (λK=>aG (E.ty ty) λy=>Ed h' y (.c (.ptr l c.size i j)) pv λa=>K (.tup []) a k) n h' h (.tup []) ((bG (std m) h o).set l (.rows (f&&g) c (s.set i z))) (l::o):=by
     intro o g G u z P d hg R1 R2 V a7 awT J;have I:(bG (std m) h o)[l]? =some (.rows f c s):=by rw [mW m o h d];exact hw
     have M:nmh ((bG (std m) h o).set l (.rows (f&&g) c (s.set i z)))=nmh (bG (std m) h o):=oM I (by simp [nmh]);have aAC:l< (bG (std m) h o).length:=by grind
     have b3:aR c (s.set i z)=(aR c s).set i (c.row z):=by simp [aR,map_set]
     refine pre (aev _) (R1.set (o':= .rows (f'&&G) c.size (aR c (s.set i z))) aAC (λk x B=>by rw [M];exact B) (.rows (λh=>by simp_all)))
      ((R2.trans (.set (λk x B=>by rw [M];exact B) (Jj I))).mono (λq hq=>by grind)) (by rw [length_set,sU]) (λK hK=> ?_)
     unfold Ez;simp only;rw [C];refine⟨by trivial,by rw [aZ];omega,awT _ ⟨?_,a7,λrow Z=> ?_⟩⟩
     .rw [(R2.keep l L d).2];exact C
     simp_all
    split at hk
    .rename_i hcond;simp only [Bool.and_eq_true,beq_iff_eq]at hcond;obtain⟨rfl,b4⟩:=hcond;split at hk
     .rename_i g x o B;split at hk
      .cases hk
      .rename_i d;cases hk;have d:l∉o:=by simpa using d
       obtain⟨G,u,q1,Y,U,q4,q5⟩:=afv H hv B;have V:(i:Int)< (s:List c.den).length:=by simp_all [bJ]
       exact A o g G u x (c.row x) d q1 Y U V (by rw [vO];omega) q5 (λrow Z=>by grind [vO])
     .cases hk
    .rename_i hcond;split at hk
     .rename_i g ys o hyl;split at hk
      .cases hk
      .rename_i d;simp only [Bool.or_eq_true,Bool.not_eq_true',not_or]at d;obtain⟨d,F⟩:=d;have d:l∉o:=by simpa using d
       have F:j+y.size<=c.fields.length:=Nat.le_of_ble_eq_true (by simpa using F);split at hk
       .rename_i z hz;cases hk;unfold Sz at hz;split at hz
        .rename_i t ht;cases hz;rw [Nq]at ht;rw [dI]at hyl;have b1:ys.length=y.size:=by rw [Jk hyl,length_take,length_drop];omega
         have H0:gy h' (bG (std m) h []):=H;obtain⟨G,u,q1,Y,U,q4⟩:=tX (done:=[]) H0 e hyl (λ_ _=>by simp);rw [nil_append]at Y U;have V:(i:Int)< (s:List c.den).length:=by simpa [bJ]using a8 (bJ .lss (i:Int) ((s:List c.den).length:Int)) (by simp)
         have R:(zipWith lvD ((c.fields.drop j).take y.size) ys).length=y.size:=by simp;omega
         refine A o g G u _ (zipWith lvD ((c.fields.drop j).take y.size) ys) d q1 Y U V (by rw [R];exact F) q4 (λrow Z=> ?_);show _=c.row (c.mk t);rw [Vu c _ F b1 ht];have Q:i< (s:List c.den).length:=by omega
         have J:row=c.row ((s:List c.den).getD ((i:Int)).toNat default):=by
          simp only [aR,getElem?_map,getElem?_eq_getElem Q,Option.map_some,Option.some.injEq]at Z;subst Z;simp [getD,getElem?_eq_getElem Q]
         subst J;split
         .rename_i hh;rw [R]at hh;exact absurd (by simp only [Bool.and_eq_true,beq_iff_eq];exact hh) hcond
         .rfl
        .cases hz
       .cases hk
     .cases hk
   .cases hk
  .cases hk
def afz(hX:XOK X E)(H:gy h' h){n k:Nat}(hn:h.length=nm n k){pv:PV}{v:SVal}(I:PVR (nmh h) pv v)
  {r:HR (std m)} (hk:Vj (std m) X h ty v=some r) (S:∀b∈r.chk,b=true):
  Hv2 (λK=>aG (E.ty ty) λy=>match y.desc with
   | .slice e=>aG (E.ty e) λz=>∃t,ZD z.zero t/\yx h' t z pv λd=>K (.tup []) d k
   | _=>False) n h' h r.v r.h r.touched:=by
 unfold Vj at hk;rw [hX.ty]at hk;split at hk
 .rename_i y hy;split at hk
  .rename_i e hd;split at hk
   .rename_i z c hz hco;split at hk
    .rename_i zs hzs;split at hk
     .rename_i fx x lx j;split at hk
      .rename_i hcond;simp only [Bool.and_eq_true,Bool.not_eq_true',beq_eq_false_iff_ne,ne_eq]at hcond;obtain⟨C,s⟩:=hcond;obtain⟨W,w,am0⟩:=iC hX C;rw [hz]at w;cases w;have R:=afx hzs j;have aev:∀N,PVR N (.tup []) (.tup []):=λN=> .tup .nil
       have pre:∀ {F:List Nat} {p:List aT} {d:Heap} {G:SVal},PVR (nmh p) (.tup []) G->gy d p->jI h' h d p F->p.length=h.length->(∀K:PV->Heap->Nat->Prop,K (.tup []) d k->yx h' (c.row x) z pv λO=>K (.tup []) O k)->
         Hv2 (λK=>aG (E.ty ty) λy=>match y.desc with
          | .slice e=>aG (E.ty e) λz=>∃t,ZD z.zero t/\yx h' t z pv λd=>K (.tup []) d k
          | _=>False) n h' h G p F:=by
        intro F p d G T U V P Q;refine⟨.tup [],d,k,T,U,V,by rw [P,hn],λK hK=> ?_⟩;rw [hy];simp only [aG];rw [hd];simp only;rw [hz];exact⟨_,R,Q K hK⟩
       split at hk
       .cases hk;obtain⟨J,rfl,hc⟩:=I.cell;cases hc;exact pre (aev _) H (.refl _ _ _) rfl (λK hK=>hK)
       .rename_i l;split at hk
        .rename_i f c1 a hl;split at hk
         .rename_i q;subst q;cases hk;obtain⟨J,rfl,hc⟩:=I.cell;cases hc with | own A=>
          rw [dJ hl]at A;cases A;obtain⟨o',o,B⟩:=H.old l _ hl;cases B with | rows D=>
          have u:nmh (h.set l (.rows f c1 (replicate ((a:List c1.den).length:Int).toNat x)))=nmh h:=oM hl (by simp [nmh]);refine pre (aev _) (H.set (o':= .rows _ c1.size (aR c1 (replicate ((a:List c1.den).length:Int).toNat x))) (List.getElem?_eq_some_iff.1 hl).1 (λk x j=>by rw [u];exact j) (.rows D)) (.set (λk x j=>by rw [u];exact j) (Jj hl)) (by simp) (λK hK=> ?_);unfold yx;simp only;rw [o];refine⟨by trivial,am0.symm,by simpa using s,by rw [aZ];omega,?_⟩;simp_all [aR,replicate,take_zero,drop_of_length_le,aZ]
         .cases hk
        .cases hk
       .rename_i l i g;split at hk
        .rename_i f c1 a hl;split at hk
         .rename_i q;subst q;cases hk;obtain⟨J,rfl,hc⟩:=I.cell;cases hc with | os A=>
          rename_i Y i g mm;rw [dJ hl]at A;cases A;obtain⟨o',o,B⟩:=H.old l _ hl;cases B with | rows D=>
          have Z:(i:Int)+(g:Int)<=(a:List c1.den).length:=by simp_all [bJ,nK]
          have M:((((a:List c1.den).take ((i:Int)).toNat).drop ((0:Int)).toNat++replicate ((g:Int)).toNat x)++(a.take ((a.length:Int)).toNat).drop ((i:Int)+(g:Int)).toNat)=a.take i++replicate g x++a.drop (i+g):=by
           rw [show((i:Int)+(g:Int)).toNat=i+g by omega,show((a.length:Int)).toNat=a.length by omega,take_length];simp
          show Hv2 _ _ _ _ _ (h.set l (.rows f c1 ((((a:List c1.den).take ((i:Int)).toNat).drop ((0:Int)).toNat++replicate ((g:Int)).toNat x)++(a.take ((a.length:Int)).toNat).drop ((i:Int)+(g:Int)).toNat))) _;rw [M];have L:(a.take i++replicate g x++a.drop (i+g)).length=a.length:=by simp;omega
          have u:nmh (h.set l (.rows f c1 (a.take i++replicate g x++a.drop (i+g))))=nmh h:=oM hl (by grind [nmh,getElem?_cons_zero]);refine pre (aev _) (H.set (o':= .rows _ c1.size (aR c1 (a.take i++replicate g x++a.drop (i+g)))) (List.getElem?_eq_some_iff.1 hl).1 (λk x j=>by rw [u];exact j) (.rows D)) (.set (λk x j=>by rw [u];exact j) (Jj hl)) (by simp) (λK hK=> ?_);unfold yx;simp only;rw [o];refine⟨by trivial,am0.symm,by simpa using s,by rw [aZ];omega,?_⟩;simp_all [aR,replicate,map_take,map_drop]
         .cases hk
        .cases hk
       .cases hk
      .cases hk
     .cases hk
    .cases hk
   .cases hk
  .cases hk
 .cases hk
end Go.TX
namespace Go.TX
open Go Go.AE List
variable{h:List aT}
def am1(o:aT){p:PV}{v:SVal}(a:PVR (nmh h) p v):PVR (nmh (h++ [o])) p v:=a.mono (Ey h o)
def OV{X:XT}{E:Tab}(hX:XOK X E){m:Nat}{h':Heap}(H:gy h' h){n k:Nat}(hn:h.length=nm n k){t:Slots}{e:Nat->Option SVal}(I:EvR X E m (nmh h) t e){op:Op}
  {r:HR (std m)} (hk:I8 (std m) X e h op=some r) (A:∀b∈r.chk,b=true):Hv2 (iX E op t h' n k) n h' h r.v r.h r.touched:=by
 have s:∀o:aT,(h++ [o]).length=nm n (k+1):=λo=>by simp [nm]at hn ⊢;omega
 unfold I8 at hk;split at hk
 .rename_i ty;rw [hX.ty]at hk;split at hk
  .rename_i y hy;have F:∀(B:List SC) (w:SVal),lY (std m) y.zero=some B->B≠ []->cellsS w=B->r=⟨[],.c (.pb h.length y.size 0),h++ [.box w],[]⟩->Hv2 (iX E (.alloc ty) t h' n k) n h' h r.v r.h r.touched:=by
    intro B w d i hw hr;subst hr;have hF:F2 (RC (nmh (h++ [.box w]))) y.zero (cellsS w):=by rw [hw];exact Ew d
    refine⟨.c (.ptr h.length y.size 0 0),(h.length,.box y.zero)::h',k+1,.ofC .pb,H.push (.box hF),.push _ _ _,s _,λK hK=> ?_⟩;unfold iX;simp only;rw [hy];refine⟨λZ=>i ?_,by rw [<-hn];exact hK⟩;rw [Z]at d;simp [lY]at d;exact d
   split at hk
   .rename_i x d;split at hk<;>cases hk
    .exact F _ (.agg [x]) d (by simp) rfl rfl
    .exact F _ (.c x) d (by simp) rfl rfl
   .rename_i x r' hsd d;cases hk;exact F _ (.agg (x::r')) d (by simp) rfl rfl
   .cases hk
  .cases hk
 .split at hk
  .rename_i v hv;split at hk
   .cases hk
   .rename_i i;cases hk;obtain⟨pv,p1,Y⟩:=dO hX I hv;have R:(aX pv).length=(dh (std m) v).length:=by rw [dI];exact Y.len
    refine⟨.c (.ptr h.length (dh (std m) v).length 0 0),(h.length,.box (aX pv))::h',k+1,.ofC .pb,H.push (.box (am1 _ Y).cells),.push _ _ _,s _,λK hK=> ?_⟩;unfold iX;simp only;rw [p1];exact⟨by simpa [R]using i,by rw [<-hn,R];exact hK⟩
  .cases hk
 .rename_i ty len parts;rw [hX.ty]at hk;split at hk
  .rename_i y hy;split at hk
   .rename_i el hd;split at hk
    .rename_i z c d hco;split at hk
     .rename_i hcond;simp only [Bool.and_eq_true,Bool.not_eq_true',beq_iff_eq,beq_eq_false_iff_ne,ne_eq]at hcond;obtain⟨⟨⟨L,i⟩,u⟩,G⟩:=hcond;have G:=Nat.le_of_ble_eq_true G;obtain⟨z',D,M⟩:=iC hX L;rw [d]at D;cases D;split at hk
      .rename_i f B k1 ls aAD;cases hk;obtain⟨g,C,Q,P,J,S,O,q6,q7⟩:=SN hX H I aAD;have T:B.length=len:=by
        have:=congrArg List.length u;simp at this;rw [q6];simpa using this
       have hP:=P.push (o:= .rows f c B) (o':= .rows g c.size (aR c B)) (.rows Q);have hE:=(J.trans (jI.push (h':=C) (h:=k1) (.rows f c B) (.rows g c.size (aR c B)) [])).mono (λl R=>by simpa using R);refine⟨.c (.os k1.length c.size 0 B.length),_,k+1,.own (uP k1 f c B),hP,hE,by simp [nm]at hn ⊢;omega,λK hK=> ?_⟩;unfold iX;simp only;rw [hy];simp only [aG];rw [hd];simp only;rw [d];refine⟨i,u,G,?_⟩;rw [M];refine q7 _ ?_;rw [RZ,<-hn,<-O,<-T];exact hK
      .cases hk
     .cases hk
    .cases hk
   .cases hk
  .cases hk
 .rename_i ty l cp;rw [hX.ty]at hk;split at hk
  .rename_i y hy;split at hk
   .rename_i el hd;split at hk
    .rename_i z c d hco;split at hk
     .rename_i zs fl kl q fc kc q' M R hc;split at hk
      .rename_i fx x lx hx;split at hk
       .rename_i hcond;cases hk;simp only [Bool.and_eq_true,Bool.not_eq_true',beq_eq_false_iff_ne,ne_eq]at hcond;obtain⟨⟨L,i⟩,N⟩:=hcond;have N:=Nat.le_of_ble_eq_true N;obtain⟨z',D,am0⟩:=iC hX L;rw [d]at D;cases D;obtain⟨pl,l1,l2⟩:=dO hX I R;obtain⟨pc,c1,c2⟩:=dO hX I hc;obtain⟨_,rfl⟩:=l2.int;obtain⟨_,rfl⟩:=c2.int;have W:q'=q:=by simpa [bJ]using A (bJ .eql q' q) (by simp)
        have V:(0:Int)<=q:=by simpa [bJ]using A (bJ .leq 0 q) (by simp)
        have U:q<=lF:=by simpa [bJ]using A (bJ .leq q lF) (by simp)
        obtain⟨q,rfl⟩:∃w:Int,w=q:=⟨q,rfl⟩;have hr:aR c (replicate q.toNat x)=replicate q.toNat (c.row x):=by simp [aR]
        refine⟨.c (.os h.length c.size 0 (replicate q.toNat x).length),(h.length,.rows true c.size (aR c (replicate q.toNat x)))::h',k+1,.own (uP h true c (replicate q.toNat x)),H.push (.rows λh=>h),.push _ _ _,s _,λK hK=> ?_⟩;unfold iX;simp only;rw [hy];simp only [aG];rw [hd];simp only;rw [d];refine⟨_,afx M hx,?_⟩;rw [l1];simp only [aY];rw [c1];refine⟨i,N,W,V,by simp only [lF,CO]at U ⊢;omega,?_⟩;rw [<-hr,<-hn,am0];have:q.toNat=(replicate q.toNat x).length:=by simp
        rw [show(PV.c (.os h.length c.size 0 q.toNat))= .c (.os h.length c.size 0 (replicate q.toNat x).length)from by rw [<-this]];exact hK
       .cases hk
      .cases hk
     .cases hk
    .cases hk
   .cases hk
  .cases hk
 .rename_i ty p x;split at hk
  .rename_i pv v hp hv;obtain⟨pp,p1,Y⟩:=dO hX I hp;obtain⟨a3,v1,v2⟩:=dO hX I hv;obtain⟨a,b,c,Q,P,J,S,O⟩:=afy hX H hn Y v2 hk A;refine⟨a,b,c,Q,P,J,S,λK hK=> ?_⟩;have:=O K hK;unfold iX;simp only;cases hy:E.ty ty with
   | none=>rw [hy]at this;exact this.elim
   | some y=>
    rw [hy]at this;simp only [aG]at this ⊢;rw [p1];simp only [aY];rw [v1];exact this
  .cases hk
 .rename_i c;split at hk
  .rename_i a b ty t2 W V U;split at hk
   .rename_i av bv ha hb;obtain⟨pa,a1,a2⟩:=dO hX I ha;obtain⟨pb,b1,b2⟩:=dO hX I hb;obtain⟨pv,C,j,Q,P,J,S,O⟩:=aeu hX H hn a2 b2 hk A;refine⟨pv,C,j,Q,P,J,S,λK hK=> ?_⟩;have:=O K hK;unfold iX;simp only;rw [W,V,U];simp only;cases hy:E.ty ty with
    | none=>rw [hy]at this;exact this.elim
    | some y=>
     rw [hy]at this;simp only [aG]at this ⊢;split at this
     .rename_i e hd;cases d:E.ty e with
      | none=>rw [d]at this;exact this.elim
      | some z=>
       rw [d]at this;simp only at this;rw [hd];simp only;rw [d];simp only;rw [a1];simp only [aY];rw [b1];exact this
     .exact this.elim
   .cases hk
  .rename_i a ty W V U;split at hk
   .rename_i av ha;obtain⟨pa,a1,a2⟩:=dO hX I ha;obtain⟨pv,C,j,Q,P,J,S,O⟩:=afz hX H hn a2 hk A;refine⟨pv,C,j,Q,P,J,S,λK hK=> ?_⟩;have:=O K hK;unfold iX;simp only;rw [W,V,U];simp only;cases hy:E.ty ty with
    | none=>rw [hy]at this;exact this.elim
    | some y=>
     rw [hy]at this;simp only [aG]at this ⊢;split at this
     .rename_i e hd;cases d:E.ty e with
      | none=>rw [d]at this;exact this.elim
      | some z=>
       rw [d]at this;simp only at this;obtain⟨zd,a0,this⟩:=this;rw [hd];simp only;rw [d];simp only;refine⟨zd,a0,?_⟩;rw [a1];exact this
     .exact this.elim
   .cases hk
  .cases hk
 .cases hk
end Go.TX
namespace Go.TX
open Go Go.AE List
variable{m:Nat}{i:Nat}{v:Value}{h:List aT}{w:World}{f:Bool}{K2:Nat->Prop}{y:SC}{x:LV aH}
structure ELe{m:Nat}(a b:ES (std m)):Prop where
 ren:∀(i:Nat) (v:Option Nat),a.ren[i]? =some (some v)->b.ren[i]? =some (some v)
 len:b.ren.length=a.ren.length
 fro:∀x,x∈a.fro->x∈b.fro
 ck:∀x,x∈a.ck->x∈b.ck
 tr:∀(i:Nat) (v:Option Nat),a.ren[i]? =some (some v)->lu (std m) b i=lu (std m) a i
def ELe.refl(a:ES (std m)):ELe a a:=⟨λ_ _ h=>h,rfl,λ_ h=>h,λ_ h=>h,λ_ _ _=>rfl⟩
def ELe.trans{a b c:ES (std m)}(h:ELe a b)(k:ELe b c):ELe a c:=
 ⟨λi v d=>k.ren i v (h.ren i v d),k.len.trans h.len,λx e=>k.fro x (h.fro x e),λx e=>k.ck x (h.ck x e),λi v d=>(k.tr i v (h.ren i v d)).trans (h.tr i v d)⟩
def uQ{s a:ES (std m)}{v:Option Nat}(h:vJ (std m) s i v=some a):
  a.ren[i]? =some (some v)/\ELe s a/\a.lv=s.lv/\a.tr=s.tr/\a.fro=s.fro/\a.ck=s.ck:=by
 unfold vJ at h;split at h
 .rename_i hi;cases h;have b:=(List.getElem?_eq_some_iff.1 hi).1;refine⟨by simp [b],⟨λj w c=> ?_,by simp,λ_ h=>h,λ_ h=>h,λ_ _ _=>rfl⟩,rfl,rfl,rfl,rfl⟩
  grind
 .rename_i w hi;split at h
  .rename_i e;subst e;cases h;exact⟨hi,.refl _,rfl,rfl,rfl,rfl⟩
  .cases h
 .cases h
def WC(c:Ctx)(w:World)(N:NM)(v:Value)(y:SC):Prop:=∃x,bT c w v x/\RC N x y
def Jl(k:Nat)(p:Option (Nat×Nat)):Option (Nat×Nat):=p.map λq=>(q.1,q.2+k)
def mY(p:Option (Nat×Nat)):Jl 0 p=p:=by cases p<;>rfl
def acL(k:Nat)(p:Option (Nat×Nat)):(Jl k p).map (·.1)=p.map (·.1):=by cases p<;>rfl
def trK(e:ES (std m))(h:List aT)(i l:Nat):Nat:=match lu (std m) e i,nmh h l with | some p,some q=>(p.1:Int).toNat*q.1 | _,_=>0
def q9{e:ES (std m)}{i l:Nat}(a:lu (std m) e i=none):trK e h i l=0:=by unfold trK;rw [a]
structure Ren{m:Nat}(e:ES (std m))(h:List aT)(c:Ctx)(nm:Nat->Nat)(fr:Bool)(c2:Ctx)(N2:NM):Prop where
 kt:∀b,c.K true b->c2.K true b
 kf:fr=false->∀b,c.K false b->c2.K false b
 sub:∀b,c.K true b->c.K false b
 awU:∀b,c2.K true b->c2.K false b
 fro:∀l f,(l,f)∈e.fro->(f=true\/fr=false)->∀b,c.μ l=some b->c2.K f b
 name:∀(i l:Nat),e.ren[i]? =some (some (some l))->nm i<c2.n/\c2.ν (nm i)=Jl (trK e h i l) (c.ν l)
 names:∀(i l sz n:Nat),e.ren[i]? =some (some (some l))->nmh h l=some (sz,n)->N2 (nm i)=some (sz,match lu (std m) e i with | some p=>min ((p.1:Int)+(p.2:Int)).toNat n- (p.1:Int).toNat | none=>n)
 nil:∀(i:Nat),e.ren[i]? =some (some none)->nm i<c2.n/\c2.ν (nm i)=none/\∃sz,N2 (nm i)=some (sz,0)
def acM{c:Ctx}{r:Heap}(H:bN c w r){l k lo n:Nat}{g:List (List D)}(A:AE.look r l=some (.rows f k g))(s:lo+n<=g.length)(C:bT c w v (.os l k lo n))
   (hK:∀b,c.K f b->K2 b) (y:∀b,c.μ l=some b->K2 b):dL K2 w v (.rows k ((g.drop lo).take n)):=by
 have h:=(H.obj l _ A).2;cases C with
 | os0 a _ _ t hm=>rw [take_zero];exact .none _ _ _
 | osE a _ _ _ b t hm=>rw [take_zero];exact .none _ _ _
 | os _ _ _ _ o b B t hm hn m=>
  simp only [kH,hm]at h;obtain⟨cells,E,p,e⟩:=h;obtain⟨u,x⟩:=e.awx;have d:((g.drop lo).take n).length=n:=by simp;omega
  have q:∀i,i<n->((g.drop lo).take n).getD i []=g.getD (lo+i) []:=by grind
  refine .rows b (B+lo*k) o k n _ (λi j=>u (lo+i) j) (y b (mH hm)) d.symm hn ?_ ?_ ?_
  .intro i j hi hj;rw [d]at hi;have z:=(x (lo+i) j ah hj).1;rw [uG p];simpa only [CJ,Nat.add_mul,Nat.add_assoc]using z
  .intro i hi;rw [d]at hi;rw [q i hi];exact(e (lo+i) ah).1
  .intro i j hi hj;rw [d]at hi;unfold gd;rw [q i hi];exact((x (lo+i) j ah hj).2).mono' hK
def bT.aAE{c j:Ctx}{l f i lo n:Nat}(h:bT c w v (.os l i lo n))(e:f<j.n)(g:j.ν f=c.ν l):bT j w v (.os f i lo n):=by
 have p:j.μ f=c.μ l:=by unfold Ctx.μ;rw [g]
 cases h with
 | os0 a _ _ m hm=>exact .os0 a f i e (p.trans hm)
 | osE a _ _ _ b m hm=>exact .osE a f i lo b e (p.trans hm)
 | os _ _ _ _ k b o m hm hn d=>exact .os f i lo n k b o e (g.trans hm) hn d
def bT.awV{c j:Ctx}{l i f lo n:Nat}(h:bT c w v (.os l f lo n))(g:i<j.n)(d:j.ν i=Jl (lo*f) (c.ν l)):bT j w v (.os i f 0 n):=by
 have p:j.μ i=c.μ l:=by unfold Ctx.μ;rw [d,acL]
 cases h with
 | os0 a _ _ m hm=>exact .os0 a i f g (p.trans hm)
 | osE a _ _ _ b m hm=>exact .osE a i f 0 b g (p.trans hm)
 | os _ _ _ _ k b o m hm hn e=>
  rw [hm]at d;have:=bT.os (c:=j) (w:=w) i f 0 n k b (o+lo*f) g d hn (by simpa [Nat.add_mul,Nat.add_assoc]using e);simpa using this
def bT.afA{c d:Ctx}{l a e i j:Nat}(h:bT c w v (.ptr l e i j))(g:a<d.n)(f:d.ν a=c.ν l):bT d w v (.ptr a e i j):=by
 cases h with | ptr _ _ _ _ b o k hm=>exact .ptr a e i j b o g (f.trans hm)
def acN{c:Ctx}{u:Heap}(H:bN c w u)(HR:gy u h){s:Sh}{g:Bool}{t:List Nat}(hk:gu (std m) h s y=some (g,x,t))
   (C:WC c w (nmh h) v y)   (p:f=true->g=true) (hK:∀b,c.K f b->K2 b) (k:∀l∈t,∀b,c.μ l=some b->K2 b):dL K2 w v (lvD s x):=by
 have r:∀j,(f=true->j=true)->∀b,c.K j b->K2 b:=λj i b k=>hK b (by
  cases f with
  | true=>simp_all
  | false=>cases j with
   | true=>exact H.sub b k
   | false=>exact k)
 obtain⟨D,o,hc⟩:=C;unfold gu at hk;split at hk
 .rename_i f0 lf;split at hk
  .rename_i e;subst e;cases hk;cases hc with | d B i=>
   rename_i j F;subst B;rw [Jg];cases o with | d _ _ _ hd=>
   cases hs:lf.scalar with
   | true=>exact hd.qp _ (by rw [kJ];exact hs)
   | false=>
    refine hd.mono' (r _ (λh=>(i ?_).resolve_right (by simp [hs])));have:=p h;cases lf<;>simp_all [Leaf.flag,Leaf.scalar]
  .cases hk
 .cases hc;split at hk
  .cases hk;cases o;exact .none _ _ _
  .cases hk
 .rename_i f0 co xs;cases hc with | clip i=>
  split at hk
  .rename_i e;subst e;cases hk;cases o with | clip _ a n _ _ hd=>
   exact hd.mono' (r _ λh=>i (p h))
  .cases hk
 .rename_i l;cases hc with | own z=>
  split at hk
  .rename_i f0 co xs hl;split at hk
   .rename_i e;subst e;cases hk;rw [dJ hl]at z;cases z;obtain⟨E,q,A⟩:=HR.old l _ hl;cases A with | rows i=>
    have:=acM H q (by rw [aZ];omega) o (r _ λh=>i (p h)) (k l (by simp));rw [drop_zero,take_of_length_le (by grind [aZ])]at this;exact this
   .cases hk
  .cases hk
 .cases hk
def qy{a:Ctx}{b:NM}{y:Leaf aH}(h:dL (a.K f) w v (qY y)):WC a w b v (.d f y):=⟨.d f (qY y),.d f v _ h,.d rfl λh=> .inl h⟩
def G8{s a:ES (std m)}(h:s.tr.any (·.1==i)=false)(e:a.tr=s.tr):lu (std m) a i=none:=by
 unfold lu;rw [e]
 grind [find?_eq_none,any_eq_true]
def afB{f b:Ctx}{nm:Nat->Nat}{c:List Value}{a sQ:List (Nat×Nat)}(m:i<a.length)(d:i<sQ.length)(g:a[i].2=sQ[i].2)
  (k:bT f w (c.getD i undef) ((sQ.map λp=>Cell.ptr p.1 p.2 0 0).getD i default)) (j:nm a[i].1<b.n) (l:b.ν (nm a[i].1)=f.ν sQ[i].1):
  bT b w (c.getD i undef) (((a.map λp=>(nm p.1,p.2)).map λp=>Cell.ptr p.1 p.2 0 0).getD i default):=by
 have e:bT f w (c.getD i undef) (.ptr sQ[i].1 sQ[i].2 0 0):=by simpa [getD,getElem?_eq_getElem d]using k
 have h:=bT.afA e j l;rw [<-g]at h;simpa [getD,getElem?_eq_getElem m]using h
def SQ:∀ {ps:List ((Nat×Nat)×(Nat×Nat))} {s a:ES (std m)},ps.foldlM (λs p=>vJ (std m) s p.1.1 (some p.2.1)) s=some a->
  (∀p∈ps,a.ren[p.1.1]? =some (some (some p.2.1)))/\ELe s a/\a.lv=s.lv/\a.tr=s.tr
 | [],s,a,h=>by cases h;exact⟨λ_ h=>(by simp at h),.refl _,rfl,rfl⟩
 | p::ps,s,a,h=>by
  rw [foldlM_cons]at h;cases h1:vJ (std m) s p.1.1 (some p.2.1)with
  | none=>simp_all
  | some l=>
   rw [h1]at h;obtain⟨j,c,k,g⟩:=SQ (ps:=ps) h;obtain⟨i,d,f,e,_⟩:=uQ h1;refine⟨λx b=> ?_,d.trans c,k.trans f,g.trans e⟩;cases b with
   | head=>exact c.ren _ _ i
   | tail _ b=>exact j x b
def ELe.push(s:ES (std m))(x:LV aH):ELe s (s.push (std m) x):=⟨λ_ _ h=>h,rfl,λ_ h=>h,λ_ h=>h,λ_ _ _=>rfl⟩
def aew{c:Co}{g:Bool}{d:List Nat}(a:gu (std m) h (.rows c) y=some (g,x,d)):∃b:List c.den,x= .l c b:=by
 unfold gu at a;split at a
 .rename_i f0 lf;split at a
  .rename_i e;cases a;cases lf with
   | rows f b=>simp only [lg,Sh.rows.injEq]at e;subst e;exact⟨b,rfl⟩
   | _=>simp [lg]at e
  .cases a
 .grind
 .split at a
  .rename_i e;cases a;simp only [Sh.rows.injEq]at e;subst e;exact⟨_,rfl⟩
  .cases a
 .split at a
  .split at a
   .rename_i e;cases a;simp only [Sh.rows.injEq]at e;subst e;exact⟨_,rfl⟩
   .cases a
  .cases a
 .cases a
def acO(nm:Nat->Nat){k:SkC}{s s':ES (std m)}(hk:extC (std m) h k y s=some s'):
  ∃new y2,s'.lv=new.reverse++s.lv/\ELe s s'/\(∀o,afh aH nm k (new++o)=some (y2,o))/\
   ∀ {c:Ctx} {w:World} {V:Heap} {e:ES (std m)} {E:Bool} {K:Ctx} {S:NM} {v:Value},bN c w V->gy V h->ELe s' e->(∀b∈e.ck,b=true)->Ren e h c nm E K S->(E=true->k.fresh=true)->
    WC c w (nmh h) v y->WC K w S v y2:=by
 cases k with
 | int k=>
  simp only [extC]at hk;split at hk
  .rename_i f k' x;split at hk
   .rename_i e;subst e;cases hk;refine⟨[.i x],.d true (.int k x),rfl,.push _ _,λo=>rfl,λH HR t r R q z=> ?_⟩;obtain⟨M,A,hc⟩:=z;obtain⟨g,rfl⟩:=RC.int hc;cases A with | d _ _ _ hd=>exact qy (hd.qp _ rfl)
   .cases hk
  .cases hk
 | bool=>
  simp only [extC]at hk;split at hk
  .rename_i f x;cases hk;refine⟨[.b x],.d true (.bool x),rfl,.push _ _,λo=>rfl,λH HR t r R q z=> ?_⟩;obtain⟨M,A,hc⟩:=z;obtain⟨g,rfl⟩:=RC.bool hc;cases A with | d _ _ _ hd=>exact qy (hd.qp _ rfl)
  .cases hk
 | str=>
  simp only [extC]at hk;split at hk
  .rename_i f x;cases hk;refine⟨[.s x],.d true (.str x),rfl,.push _ _,λo=>rfl,λH HR t r R q z=> ?_⟩;obtain⟨M,A,hc⟩:=z;cases hc with | d L _=>
   subst L;cases A with | d _ _ _ hd=>exact qy (y:= .str x) (hd.qp _ rfl)
  .cases hk
 | rows f c=>
  simp only [extC]at hk;split at hk
  .rename_i l lo n;split at hk
   .rename_i g c' D W;split at hk
    .rename_i hcond;cases hk;obtain⟨rfl,O⟩:=hcond
     refine⟨[.l c ((((D:List c.den).take ((lo:Int)+(n:Int)).toNat)).drop ((lo:Int)).toNat)],.d f (.rows c ((((D:List c.den).take ((lo:Int)+(n:Int)).toNat)).drop ((lo:Int)).toNat)),rfl,
      ⟨λ_ _ h=>h,rfl,λx L=>mem_cons_of_mem _ L,λx L=>mem_append_right _ L,λ_ _ _=>rfl⟩,λo=>rfl,λ{T w V e E K S v} H HR t r R q z=> ?_⟩
     obtain⟨M,A,hc⟩:=z;cases hc with | os X=>
     rename_i P lo n mm;rw [dJ W]at X;cases X;obtain⟨o',a8,hO⟩:=HR.old l _ W;cases hO with | rows U=>
     rename_i f';have aAF:∀b∈nK (std m) h (.c (.os l (lo:Int) (n:Int))),b=true:=λb B=>r b (t.ck b (mem_append_left _ B))
     simp only [nK,W]at aAF;have h3:(lo:Int)+(n:Int)<=(D:List c.den).length:=by simp_all [bJ]
     have yT:f=true\/E=false:=by
      cases E with
      | false=>exact .inr rfl
      | true=>exact .inl (q rfl)
     have F:∀b,T.K f b->K.K f b:=λb B=>by
      cases f with
      | true=>exact R.kt b B
      | false=>exact R.kf (yT.resolve_left (by simp)) b B
     have hd:=acM H a8 (lo:=lo) (n:=n) (by rw [aZ];omega) A (K2:=K.K f) (λb B=>F b (by
      cases f with
      | true=>simp_all
      | false=>cases f' with
       | true=>exact R.sub b B
       | false=>exact B)) (λb B=>R.fro l f (t.fro _ (by simp)) yT b B)
     have e1:aR c (((D:List c.den).take ((lo:Int)+(n:Int)).toNat).drop ((lo:Int)).toNat)=((aR c D).drop lo).take n:=by grind [Ji,Af]
     rw [<-e1]at hd;exact qy (y:= .rows c _) hd
    .cases hk
   .cases hk
  .split at hk
   .rename_i g x ls L;split at hk
    .rename_i O;cases hk;have a5:=aew L;obtain⟨D,rfl⟩:=a5;refine⟨[.l c D],.d f (.rows c D),rfl,⟨λ_ _ h=>h,rfl,λx L=>mem_append_right _ L,λx L=>L,λ_ _ _=>rfl⟩,λo=>rfl,λ{T w V e E K S v} H HR t r R q z=> ?_⟩;have yT:f=true\/E=false:=by
      cases E with
      | false=>exact .inr rfl
      | true=>exact .inl (q rfl)
     have F:∀b,T.K f b->K.K f b:=λb B=>by
      cases f with
      | true=>exact R.kt b B
      | false=>exact R.kf (yT.resolve_left (by simp)) b B
     exact qy (y:= .rows c D) (acN H HR L z (λh=>by simp_all) F (λl W b B=>R.fro l f (t.fro _ (mem_append_left _ (mem_map.2 ⟨l,W,rfl⟩))) yT b B))
    .cases hk
   .cases hk
 | nil=>
  simp only [extC]at hk;split at hk
  .cases hk;refine⟨[],.nil,rfl,.refl _,λo=>rfl,λH HR t r R q z=> ?_⟩;obtain⟨M,A,hc⟩:=z;cases hc;cases A;exact⟨.nil,.nil,.nil⟩
  .cases hk
 | own i=>
  simp only [extC]at hk;split at hk
  .rename_i l;split at hk
   .cases hk
   .rename_i I;obtain⟨J,r2,r3,r4,r5,r6⟩:=uQ hk;refine⟨[],.own (nm i),by simpa using r3,r2,λo=>rfl,λH HR t r R q z=> ?_⟩;obtain⟨M,A,hc⟩:=z;cases hc with | own X=>
    rename_i P n;obtain⟨Q,G⟩:=R.name i l (t.ren _ _ J);have hn:=R.names i l P n (t.ren _ _ J) X;have N:lu (std m) s' i=none:=G8 (by cases hq:s.tr.any (·.1==i)with | true=>exact absurd hq I | false=>rfl) r4;rw [t.tr i _ J,N]at hn;rw [q9 ((t.tr i _ J).trans N),mY]at G;exact⟨_,bT.aAE A Q G,.own hn⟩
  .obtain⟨J,r2,r3,r4,r5,r6⟩:=uQ hk;refine⟨[],.own (nm i),by simpa using r3,r2,λo=>rfl,λH HR t r R q z=> ?_⟩;obtain⟨M,A,hc⟩:=z;cases hc;cases A;obtain⟨Q,G,P,n3⟩:=R.nil i (t.ren _ _ J);exact⟨.os (nm i) P 0 0,.os0 none _ P Q (awv G),.own n3⟩
  .rename_i l lo n;split at hk
   .rename_i f0 c D hri W;cases hk;have a4:=(List.getElem?_eq_some_iff.1 hri).1;refine⟨[],.own (nm i),rfl,⟨λj w hj=> ?_,by simp,λ_ h=>h,λx L=>mem_append_right _ L,λj w hj=> ?_⟩,λo=>rfl,λ{T w V e E K S v} H HR t r R q z=> ?_⟩
    .grind
    .grind [lu]
    .obtain⟨M,A,hc⟩:=z;cases hc with | os X=>
     rename_i P lo n mm;have J:=t.ren i (some l) (by simp [a4]);have N:=t.tr i (some l) (by simp [a4]);obtain⟨Q,G⟩:=R.name i l J;have hn:=R.names i l P mm J X;rw [N]at hn;have b1:(lo:Int)+(n:Int)<=(D:List c.den).length:=by
      have:=r (bJ .leq ((lo:Int)+(n:Int)) ((D:List c.den).length:Int)) (t.ck _ (by simp));simpa [bJ]using this
     have a3:=X;rw [dJ W]at a3;cases a3;have a6:trK e h i l=lo*c.size:=by unfold trK;rw [N,dJ W];simp [lu]
     rw [a6]at G;simp [lu]at hn;have a7:S (nm i)=some (c.size,n):=hn.trans (by show some (c.size,min ((lo:Int)+(n:Int)).toNat (List.length D)-lo)=some (c.size,n);congr 2;omega);exact⟨_,bT.awV A Q G,.own a7⟩
   .cases hk
  .cases hk
 | pb i P j=>
  simp only [extC]at hk;split at hk
  .rename_i l sz' j';split at hk
   .rename_i hcond;obtain⟨rfl,rfl,I⟩:=hcond;obtain⟨J,r2,r3,r4,r5,r6⟩:=uQ hk;refine⟨[],.pb (nm i) P j,by simpa using r3,r2,λo=>rfl,λH HR t r R q z=> ?_⟩;obtain⟨M,A,hc⟩:=z;cases hc;obtain⟨Q,G⟩:=R.name i l (t.ren _ _ J);have N:lu (std m) s' i=none:=G8 (by simpa using I) r4;rw [q9 ((t.tr i _ J).trans N),mY]at G;exact⟨_,bT.afA A Q G,.pb⟩
   .cases hk
  .cases hk
 | pr i j=>
  simp only [extC]at hk;split at hk
  .rename_i l x j';split at hk
   .rename_i hcond;obtain⟨rfl,I⟩:=hcond;split at hk
    .rename_i s1 hs1;cases hk;obtain⟨J,r2,r3,r4,r5,r6⟩:=uQ hs1;refine⟨[.i x],.pr (nm i) x j,by simp [ES.push,r3],r2.trans (.push _ _),λo=>rfl,λH HR t r R q z=> ?_⟩;obtain⟨M,A,hc⟩:=z;cases hc with | pr X=>
     rename_i P i0 mm;have a2:=t.ren i (some l) J;obtain⟨Q,G⟩:=R.name i l a2;have N:lu (std m) s1 i=none:=G8 (by simpa using I) r4;rw [q9 ((t.tr i _ J).trans N),mY]at G;exact⟨_,bT.afA A Q G,.pr (R.names i l P mm a2 X)⟩
    .cases hk
   .cases hk
  .cases hk
 | rp f c j=>
  simp only [extC]at hk;split at hk
  .rename_i g c' D x j';split at hk
   .rename_i hcond;cases hk;obtain⟨rfl,rfl,O⟩:=hcond;refine⟨[.l c D,.i x],.rp f c D x j,rfl,(ELe.push _ _).trans (.push _ _),λo=>rfl,λ{T w V e E K S v} H HR t r R q z=> ?_⟩;obtain⟨M,A,hc⟩:=z;cases hc with | rp U Y=>
    rename_i f' i0;have yT:f=true\/E=false:=by
     cases E with
     | false=>exact .inr rfl
     | true=>exact .inl (q rfl)
    have F:∀b,T.K f' b->K.K f b:=λb B=>by
     cases f with
     | true=>have:=U (by simpa using O);rw [this]at B;exact R.kt b B
     | false=>
      refine R.kf (yT.resolve_left (by simp)) b ?_;cases f' with
      | true=>exact R.sub b B
      | false=>exact B
    cases A with | rp _ b Z _ _ _ _ u B h1 h2 h3 h4=>
    exact⟨.rp f c.size (aR c D) i0 j,.rp f b Z _ _ _ _ u (F b B) h1 h2 (λi j Y hj=>(h3 i j Y hj).mono' F) h4,.rp (λh=>h) Y⟩
   .cases hk
  .cases hk
 | gp g c=>
  simp only [extC]at hk;split at hk
  .rename_i g' c';split at hk
   .rename_i hcond;cases hk;obtain⟨rfl,rfl⟩:=hcond;refine⟨[],.gp g c,rfl,.refl _,λo=>rfl,λ{T w V e E K S v} H HR t r R q z=> ?_⟩;obtain⟨M,A,hc⟩:=z;cases hc;have yT:E=false:=by grind [SkC.fresh]
    cases A with | rp _ b Z _ _ _ _ u B h1 h2 h3 h4=>
    exact⟨_,.rp false b Z _ _ _ _ u (R.kf yT b B) h1 h2 (λi j Y hj=>(h3 i j Y hj).mono' (R.kf yT)) h4,.gp⟩
   .cases hk
  .cases hk
 | fn g C=>
  simp only [extC]at hk;split at hk
  .rename_i g' sQ;split at hk
   .rename_i hcond;obtain⟨rfl,a1,I⟩:=hcond;obtain⟨q1,q2,q3,q4⟩:=SQ hk;refine⟨[],.fn g (C.map λp=>(nm p.1,p.2)),by simpa using q3,q2,λo=>rfl,λ{T w V e E K S v} H HR t r R q z=> ?_⟩;obtain⟨M,A,hc⟩:=z;cases hc;cases A with | fn _ vs _ W a9=>
    have b0:C.length=sQ.length:=by have:=congrArg List.length a1;simpa using this
    refine⟨.fn g ((C.map λp=>(nm p.1,p.2)).map λp=> .ptr p.1 p.2 0 0),.fn g vs _ (by simp_all) (λi Y=> ?_),.fn⟩;simp at Y;have a0:i<sQ.length:=by omega
    have h1:=a9 i (by simp;exact a0);have hz:(C.zip sQ)[i]? =some (C[i],sQ[i]):=by simp_all
    have h2:=q1 _ (mem_of_getElem? hz);obtain⟨Q,G⟩:=R.name _ _ (t.ren _ _ h2);have N:lu (std m) s' C[i].1=none:=G8 (by simpa using all_eq_true.1 I C[i] (getElem_mem _)) q4;rw [q9 ((t.tr _ _ h2).trans N),mY]at G;exact afB Y a0 (by have:=congrArg (λl=>l[i]?) a1;grind) h1 Q G
   .cases hk
  .cases hk
 | np=>
  simp only [extC]at hk;split at hk
  .cases hk;refine⟨[],.np,rfl,.refl _,λo=>rfl,λH HR t r R q z=> ?_⟩;obtain⟨M,A,hc⟩:=z;cases hc;cases A;exact⟨.np,.np,.np⟩
  .cases hk
 | clip f c=>
  simp only [extC]at hk;split at hk
  .rename_i g c' D;split at hk
   .rename_i hcond;cases hk;obtain⟨rfl,O⟩:=hcond;refine⟨[.l c D],.clip f c D,rfl,.push _ _,λo=>rfl,λ{T w V e E K S v} H HR t r R q z=> ?_⟩;obtain⟨M,A,hc⟩:=z;cases hc with | clip U=>
    rename_i f';have yT:f=true\/E=false:=by
     cases E with
     | false=>exact .inr rfl
     | true=>exact .inl (q rfl)
    have F:∀b,T.K f' b->K.K f b:=λb B=>by
     cases f with
     | true=>have:=U (by simpa using O);rw [this]at B;exact R.kt b B
     | false=>
      refine R.kf (yT.resolve_left (by simp)) b ?_;cases f' with
      | true=>exact R.sub b B
      | false=>exact B
    cases A with | clip _ a n _ _ hd=>exact⟨.clip f c.size (aR c D),.clip f a n _ _ (hd.mono' F),.clip λh=>h⟩
   .cases hk
  .cases hk
end Go.TX
namespace Go.TX
open Go Go.AE List
variable{m:Nat}{h:List aT}{w:World}{c:Ctx}{f:Bool}{us:List Value}
def SX(nm:Nat->Nat):∀ {l:List SkC} {n:List SC} {s f:ES (std m)},I9 (std m) h l n s=some f->
  ∃new d,f.lv=new.reverse++s.lv/\ELe s f/\(∀a,OM aH nm l (new++a)=some (d,a))/\
   ∀ {c:Ctx} {w:World} {p:Heap} {e:ES (std m)} {q:Bool} {r:Ctx} {o:NM} {us:List Value},bN c w p->gy p h->ELe f e->(∀b∈e.ck,b=true)->Ren e h c nm q r o->(q=true->l.all SkC.fresh=true)->
    F2 (WC c w (nmh h)) us n->F2 (WC r w o) us d
 | [],[],s,f,hk=>by
  simp only [I9,Option.some.injEq]at hk;subst hk;exact⟨[],[],rfl,.refl _,λa=>rfl,λ_ _ _ _ _ _ h=>by cases h;exact .nil⟩
 | [],_::_,s,f,hk=>by simp [I9]at hk
 | _::_,[],s,f,hk=>by simp [I9]at hk
 | k::l,y::n,s,f,hk=>by
  simp only [I9]at hk;split at hk
  .rename_i s1 h1;obtain⟨i,y2,F,B,E,x⟩:=acO nm h1;obtain⟨g,d,C,t,D,A⟩:=SX nm hk;refine⟨i++g,y2::d,by simp_all,B.trans t,λa=> ?_,λH HR u j R v z=> ?_⟩
   .grind [OM,append_assoc]
   .cases z with | cons u1 u2=>
    exact .cons (x H HR (t.trans u) j R (λh=>by simp_all) u1) (A H HR u j R (λh=>by simp_all) u2)
  .cases hk
def Nv{c i:Ctx}{N k:NM}{f j:Bool}(a:∀b,c.K true b->c.K false b)(hK:∀b,c.K f b->i.K f b):∀ {e:List (Leaf aH)} {us:List Value},(f=true->j=true\/∀y∈e,y.scalar=true)->
  F2 (WC c w N) us (e.map (.d j))->F2 (WC i w k) us (e.map (.d f))
 | [],us,_,h=>by cases h;exact .nil
 | y::e,us,hf,h=>by
  cases h with | cons n l=>
  refine .cons ?_ (Nv a hK (λh=>(hf h).imp id λq y o=>q y (mem_cons_of_mem _ o)) l);obtain⟨x,p,hc⟩:=n;cases hc with | d r s=>
  rename_i m t;subst r;cases p with | d _ _ _ hd=>
  cases hs:y.scalar with
  | true=>exact qy (hd.qp _ (by rw [kJ];exact hs))
  | false=>
   refine qy (hd.mono' λb g=>hK b ?_);cases f with
   | false=>cases m with
    | true=>exact a b g
    | false=>exact g
   | true=>simp_all
def Jm{b:Ctx}{c:NM}:∀ {a:List (Leaf aH)} {us:List Value},F2 (dL (b.K f) w) us (a.map qY)->F2 (WC b w c) us (a.map (.d f))
 | [],us,h=>by cases h;exact .nil
 | y::a,us,h=>by cases h with | cons e d=>exact .cons (qy e) (Jm d)
def wZ{n:Heap}(H:bN c w n)(HR:gy n h){i:Nat->Prop}(hK:∀b,c.K f b->i b):
  ∀ {e:List Sh} {k:List SC} {us:List Value} {g:Bool} {d:List (LV aH)} {a:List Nat},aP (std m) h e k=some (g,d,a)->F2 (WC c w (nmh h)) us k->(f=true->g=true)->(∀l∈a,∀b,c.μ l=some b->i b)->
   F2 (dL i w) us (zipWith lvD e d)
 | [],[],us,g,d,a,hk,hu,hf,hb=>by simp [aP]at hk;obtain⟨_,rfl,_⟩:=hk;cases hu;exact .nil
 | [],_::_,_,_,_,_,hk,_,_,_=>by simp [aP]at hk
 | _::_,[],_,_,_,_,hk,_,_,_=>by simp [aP]at hk
 | s::e,y::k,us,g,d,a,hk,hu,hf,hb=>by
  cases hu with | cons p o=>
  unfold aP at hk;split at hk
  .rename_i f1 v1 l1 hv1;split at hk
   .rename_i g2 vs2 ls2 hv2;split at hk<;>cases hk
    refine .cons (acN H HR hv1 p (λh=> ?_) hK λl j=>hb l (mem_append_left _ j)) (wZ H HR hK hv2 o (λh=> ?_) λl j=>hb l (mem_append_right _ j))
    all_goals simp_all
   .cases hk
  .cases hk
def SY{c a:Ctx}{i:Heap}{k:NM}(H:bN c w i)(HR:gy i h)(hK:∀b,c.K f b->a.K f b){co:Co}{q:SVal}{g:Bool}{x:co.den}{d:List Nat}
  (hk:toX (std m) h co q=some (g,x,d))  (j:F2 (WC c w (nmh h)) us (cellsS q)) (o:f=true->g=true) (n:∀l∈d,∀b,c.μ l=some b->a.K f b):F2 (WC a w k) us (cellsS (.sv f co x)):=by
 unfold toX at hk;split at hk
 .rename_i f' c' x';split at hk
  .rename_i e;subst e;cases hk;refine Nv H.sub hK (λh=> ?_) j
   grind [mX]
  .cases hk
 .cases hk
 .split at hk
  .rename_i f1 ys ls1 h1;split at hk
   .rename_i t ht;cases hk;rw [dI]at h1;have:=wZ H HR hK h1 j o n;rw [Dh co t ht,<-oL 0 co]at this;exact Jm this
   .cases hk
  .cases hk
def sV:SVal->Bool | .tup _=>true | _=>false
theorem acP(nm:Nat->Nat){k:SkV}{q:SVal}{s C:ES (std m)}(hk:LU (std m) h k q s=some C):
  sV q=false/\∃new u,C.lv=new.reverse++s.lv/\ELe s C/\(∀a,Da aH nm k (new++a)=some (u,a))/\sV u=false/\bK (std 0) u=bK (std 0) q/\
   ∀ {c:Ctx} {w:World} {E:Heap} {e:ES (std m)} {D:Bool} {t:Ctx} {B:NM} {us:List Value},bN c w E->gy E h->ELe C e->(∀b∈e.ck,b=true)->Ren e h c nm D t B->(D=true->k.fresh=true)->
    F2 (WC c w (nmh h)) us (cellsS q)->F2 (WC t w B) us (cellsS u):=by
 cases k with
 | c k=>
  simp only [LU]at hk;split at hk
  .rename_i x;obtain⟨new,y2,J,L,P,G⟩:=acO nm hk;refine⟨rfl,new,.c y2,J,L,λa=>by grind [Da],rfl,rfl,λH HR z j R i o=> ?_⟩;cases o with | cons r N=>cases N;exact .cons (G H HR z j R i r) .nil
  .cases hk
 | agg V=>
  simp only [LU]at hk;split at hk
  .rename_i hst;rw [dI]at hk;obtain⟨new,y2,J,L,P,G⟩:=SX nm hk;refine⟨by cases q<;>simp_all [bK,sV],new,.agg y2,J,L,λa=>by grind [Da],rfl,by rw [Gb m]at hst;rw [hst];rfl,λH HR z j R i o=>G H HR z j R i o⟩
  .cases hk
 | sv f co=>
  simp only [LU]at hk;split at hk
  .rename_i hst;split at hk
   .rename_i g x ls p;split at hk
    .rename_i hfg;cases hk;refine⟨by cases q<;>simp_all [bK,sV],[.x co x],.sv f co x,rfl,⟨λ_ _ h=>h,rfl,λx p=>mem_append_right _ p,λx p=>p,λ_ _ _=>rfl⟩,λa=>rfl,rfl,by rw [Gb m]at hst;rw [hst];rfl,λ{c w E e D t B us} H HR z j R i o=> ?_⟩;by_cases afC:co.flat=true
     ·
      have r:F2 (WC {t with K:=λg b=>t.K g b\/c.K g b\/∃l∈ls,c.μ l=some b} w B) us (cellsS (.sv f co x)):=SY H HR (λb n=>Or.inr (Or.inl n)) p o (λh=>by simp_all) (λl I b n=>Or.inr (Or.inr ⟨l,I,n⟩));have A:=mX co afC x;have v:cellsS (.sv f co x)=(gM (std 0) co x 0 co.fields).map (.d f):=rfl;rw [v]at r ⊢
      clear o p v i hfg
      generalize gM (std 0) co x 0 co.fields=lv at r A
      induction lv generalizing us with
      | nil=>cases r;exact .nil
      | cons y lv T=>
       cases r with | cons O u=>
       refine .cons ?_ (T u λy Q=>A y (mem_cons_of_mem _ Q));obtain⟨U,S,hc⟩:=O;cases hc with | d M _=>
       subst M;cases S with | d _ _ _ hd=>exact qy (hd.qp _ (by grind [kJ]))
     .have yT:f=true\/D=false:=by grind [SkV.fresh]
      have F:∀b,c.K f b->t.K f b:=λb n=>by
       cases f with
       | true=>exact R.kt b n
       | false=>exact R.kf (yT.resolve_left (by simp)) b n
      exact SY H HR F p o (λh=>by simp_all) (λl I b n=>R.fro l f (z.fro _ (mem_append_left _ (mem_map.2 ⟨l,I,rfl⟩))) yT b n)
    .cases hk
   .cases hk
  .cases hk
def WV(c:Ctx)(w:World)(N:NM)(u:Value)(q:SVal):Prop:=∃p,bM c w u p/\PVR N p q
def F2.wc{N:NM}{cs:List Cell}{e:List SC}(g:F2 (bT c w) us cs)(d:F2 (RC N) cs e):F2 (WC c w N) us e:=by
 induction g generalizing e with
 | nil=>cases d;exact .nil
 | cons a _ f=>cases d with | cons b d=>exact .cons ⟨_,a,b⟩ (f d)
def F2.awW{N:NM}{d:List SC}(h:F2 (WC c w N) us d):∃cs,F2 (bT c w) us cs/\F2 (RC N) cs d:=by
 induction h with
 | nil=>exact⟨[],.nil,.nil⟩
 | cons g _ e=>
  obtain⟨x,a,b⟩:=g;obtain⟨cs,f,i⟩:=e;exact⟨x::cs,.cons a f,.cons b i⟩
def WV.conv{c j:Ctx}{N i:NM}{u:Value}{q e:SVal}(h:WV c w N u q)(l:sV q=false)(g:sV e=false)(k:bK (std 0) e=bK (std 0) q)
  (hc:∀us,F2 (WC c w N) us (cellsS q)->F2 (WC j w i) us (cellsS e)):WV j w i u e:=by
 obtain⟨p,d,f⟩:=h;cases f with
 | tup _=>simp [sV]at l
 | one f=>
  cases f with
  | c r=>
   cases d with | c _ _ d=>
   have:=hc [u] (.cons ⟨_,d,r⟩ .nil);cases e with
   | c y=>cases this with | cons n _=>obtain⟨x,a,b⟩:=n;exact⟨.c x,.c _ _ a,.ofC b⟩
   | agg _=>simp [bK]at k
   | sv _ _ _=>simp [bK]at k
   | tup _=>simp [sV]at g
  | agg m o=>
   cases d with | agg us _ d=>
   obtain⟨cs,a,b⟩:=F2.awW (hc us (F2.wc d o));exact⟨.agg cs,.agg _ _ a,.one (.agg (by simp_all) b)⟩
def yU(nm:Nat->Nat):∀ {ks:List SkV} {t:List SVal} {s d:ES (std m)},sS (std m) h ks t s=some d->
  ∃new g,d.lv=new.reverse++s.lv/\ELe s d/\(∀a,vL aH nm ks (new++a)=some (g,a))/\
   ∀ {c:Ctx} {w:World} {p:Heap} {e:ES (std m)} {q:Bool} {r:Ctx} {o:NM} {us:List Value},bN c w p->gy p h->ELe d e->(∀b∈e.ck,b=true)->Ren e h c nm q r o->(q=true->ks.all SkV.fresh=true)->
    F2 (WV c w (nmh h)) us t->F2 (WV r w o) us g
 | [],[],s,d,hk=>by
  simp only [sS,Option.some.injEq]at hk;subst hk;exact⟨[],[],rfl,.refl _,λa=>rfl,λ_ _ _ _ _ _ h=>by cases h;exact .nil⟩
 | [],_::_,s,d,hk=>by simp [sS]at hk
 | _::_,[],s,d,hk=>by simp [sS]at hk
 | k::ks,y::ys,s,d,hk=>by
  simp only [sS]at hk;split at hk
  .rename_i s1 h1;obtain⟨A,i,y2,J,E,I,x,st2,B⟩:=acP nm h1;obtain⟨f,l,F,u,G,D⟩:=yU nm hk;refine⟨i++f,y2::l,by simp_all,E.trans u,λa=> ?_,λH HR v j R z C=> ?_⟩
   .grind [vL,append_assoc]
   .cases C with | cons u1 u2=>
    refine .cons (u1.conv A x st2 λus n=>B H HR (u.trans v) j R (λh=> ?_) n) (D H HR v j R (λh=> ?_) u2)
    all_goals simp_all
  .cases hk
end Go.TX
namespace Go.TX
open Go Go.AE List
variable{K:Nat->Prop}{w:World}{cells:Array Value}{a:List (List D)}{h:List aT}
structure OF{m:Nat}(e:ES (std m))(h:List aT)(nm:Nat->Nat)(i:Nat)(k:SkO)(old o2:aT):Prop where
 s1:∀(l sz n:Nat),k≠ .gone->e.ren[i]? =some (some (some l))->nmh h l=some (sz,n)->nmh [o2] 0=some (sz,match lu (std m) e i with | some p=>min ((p.1:Int)+(p.2:Int)).toNat n- (p.1:Int).toNat | none=>n)
 s2:k≠ .gone->e.ren[i]? =some (some none)->∃sz,nmh [o2] 0=some (sz,0)
 gone:k= .gone->o2=old
 live:k≠ .gone->∃v,e.ren[i]? =some (some v)
 ng:k≠ .gone->¬Gone [o2] 0
 rel:∀ {c:Ctx} {w:World} {h':Heap} {fr:Bool} {c2:Ctx} {N2:NM},bN c w h'->gy h' h->(∀b∈e.ck,b=true)->Ren e h c nm fr c2 N2->(fr=true->k.fresh=true)->
  ∃o2',OR N2 o2' o2/\kH c2 w (nm i) o2'/\(k= .gone->o2'= .gone)/\(∀l,k≠ .gone->e.ren[i]? =some (some (some l))->∃o',AE.look h' l=some o'/\o'.live)
def bZ.pre{b n:Nat}(h:bZ K w cells b a):bZ K w cells b (a.take n):=λi d=>by
 simp at d;have e:(a.take n).getD i []=a.getD i []:=by grind
 refine⟨by rw [e];exact(h i ah).1,λj c=> ?_⟩;obtain⟨v,f,hd⟩:=(h i ah).2 j c
 grind [gd]
def bZ.awX{o b k:Nat}(h:bZ K w (from_ cells o) b a):bZ K w (from_ cells (o+k*b)) b (a.drop k):=λi f=>by
 rw [length_drop]at f;have e:(a.drop k).getD i []=a.getD (k+i) []:=by grind
 refine⟨by rw [e];exact(h (k+i) ah).1,λj c=> ?_⟩;obtain⟨v,d,hd⟩:=(h (k+i) ah).2 j c;refine⟨v,by simpa only [CJ,Nat.add_mul,Nat.add_assoc]using d,?_⟩;unfold gd;rw [e];exact hd
theorem afD{c:Co}(a:c.flat=true)(x:c.den):∀d∈c.row x,d.qp=true:=by
 intro d hd;rw [<-oL 0]at hd
 grind [kJ,mX]
def bZ.flat{K f:Nat->Prop}{c:Co}(g:c.flat=true){a:List c.den}(h:bZ K w cells c.size (aR c a)):bZ f w cells c.size (aR c a):=λi b=>by
 refine⟨(h i b).1,λj d=> ?_⟩;obtain⟨v,e,hd⟩:=(h i b).2 j d;refine⟨v,e,hd.qp _ ?_⟩
 grind [aR,gd,getD,vO,default,afD,getElem_mem]
def acQ{m:Nat}(nm:Nat->Nat){i:Nat}{k:SkO}{s D:ES (std m)}(hk:Vk (std m) h i k s=some D)(z:aT)(M:Gone [z] 0):
  ∃new o2,D.lv=new.reverse++s.lv/\ELe s D/\(∀j,afi aH nm z k (new++j)=some (o2,j))/\∀e,ELe D e->OF e h nm i k z o2:=by
 cases k with
 | gone=>
  have:D=s:=by simp_all [Vk]
  subst this;obtain⟨c,n,Z⟩:=M;simp at Z;subst Z;exact⟨[],_,rfl,.refl _,λj=>rfl,λe y=>⟨λ_ _ _ h=>absurd rfl h,λh=>absurd rfl h,λ_=>rfl,λh=>absurd rfl h,λh=>absurd rfl h,λ_ _ _ _ _=>⟨.gone,.gone,trivial,λ_=>rfl,λ_ h=>absurd rfl h⟩⟩⟩
 | box k=>
  rcases hr:s.ren[i]? with _ | _ | _ | l<;>simp only [Vk,hr,reduceCtorEq]at hk
  ·
   split at hk
   .rename_i v hl;obtain⟨ht,new,q2,a1,a2,a3,t2,st2,a4⟩:=acP nm hk;refine⟨new,.box q2,a1,a2,λj=>by grind [afi],λe y=> ?_⟩;have d:=y.ren i _ (a2.ren i _ hr);refine⟨λG Y n _ t h2=> ?_,λ_ t=> ?_,λh=>(by cases h),λ_=>⟨_,d⟩,λ_ ⟨c,n,I⟩=>by simp at I,λ{c w h' P X W} H HR A R C=> ?_⟩
    .grind [nmh]
    .simp_all
    .obtain⟨o',ho',hO⟩:=HR.old l _ hl;cases hO with | box hF=>
     obtain⟨b,vs,E,hm,x,T⟩:=(H.obj l _ ho').2;obtain⟨U,q1,V⟩:=F2.awW (a4 H HR y A R (λh=>C h) (F2.wc T hF));obtain⟨n1,B⟩:=R.name i l d;have k0:trK e h i l=0:=by unfold trK;simp [nmh,hl]
     rw [k0,mY]at B;exact⟨.box U,.box V,⟨b,vs,E,B.trans hm,x,q1⟩,λh=>(by cases h),λG _ t=>by rw [d]at t;cases t;exact⟨_,ho',trivial⟩⟩
   .cases hk
 | rows f c=>
  rcases hr:s.ren[i]? with _ | _ | _ | l<;>simp only [Vk,hr,reduceCtorEq]at hk
  .cases hk;refine⟨[.l c []],.rows f c [],rfl,.push _ _,λj=>rfl,λe y=> ?_⟩;have d:=y.ren i _ (by exact hr);refine⟨λG Y n _ t h2=> ?_,λ_ t=>⟨c.size,by simp [nmh]⟩,λh=>(by cases h),λ_=>⟨_,d⟩,λ_ ⟨c,n,I⟩=>by simp at I,λ{c0 w h' P X W} H HR A R C=> ?_⟩
   .simp_all
   .obtain⟨n1,B,_⟩:=R.nil i d;refine⟨.rows f c.size (aR c []),.rows λh=>h,?_,λh=>(by cases h),λG _ t=>by simp_all⟩;simp only [kH];rw [B];rfl
  ·
   split at hk
   .rename_i g c' u hl;split at hk
    .rename_i hcond;obtain⟨rfl,F⟩:=hcond;obtain⟨a,a0,a5,N⟩:∃a:List c.den,(match lu (std m) s i with | some p=>(std m).sub c u p.1 ((std m).addN p.1 p.2) | none=>u)=a/\a.length=(match lu (std m) s i with | some p=>min ((p.1:Int)+(p.2:Int)).toNat (u:List c.den).length- (p.1:Int).toNat | none=>(u:List c.den).length)/\∃q,a=((u:List c.den).take q).drop (match lu (std m) s i with | some p=>(p.1:Int).toNat | none=>0):=by
      cases lu (std m) s i with
      | none=>exact⟨u,rfl,rfl,(u:List c.den).length,by simp⟩
      | some p=>exact⟨((u:List c.den).take ((p.1:Int)+(p.2:Int)).toNat).drop (p.1:Int).toNat,rfl,by simp,_,rfl⟩
     have S:D=s.push (std m) (.l c a):=by grind
     subst S;refine⟨[.l c a],.rows f c a,rfl,.push _ _,λj=>rfl,λe y=> ?_⟩;have d:=y.ren i _ (by exact hr);have O:lu (std m) e i=lu (std m) s i:=y.tr i _ hr;refine⟨λG Y n _ t h2=> ?_,λ_ t=> ?_,λh=>(by cases h),λ_=>⟨_,d⟩,λ_ ⟨c,n,I⟩=>by simp at I,λ{c0 w h' P X W} H HR A R C=> ?_⟩
     .grind [dJ,nmh,getElem?_cons_zero]
     .simp_all
     .obtain⟨o',ho',hO⟩:=HR.old l _ hl;cases hO with | rows Q=>
      rename_i g';have o:=(H.obj l _ ho').2;obtain⟨n1,B⟩:=R.name i l d;refine⟨.rows f c.size (aR c a),.rows λh=>h,?_,λh=>(by cases h),λG _ t=>by rw [d]at t;cases t;exact⟨_,ho',trivial⟩⟩;obtain⟨q,hq⟩:=N;have J:trK e h i l=(match lu (std m) s i with | some p=>(p.1:Int).toNat | none=>0)*c.size:=by
       unfold trK;rw [O,dJ hl];cases lu (std m) s i<;>simp
      generalize (match lu (std m) s i with | some p=>(p.1:Int).toNat | none=>0)=kk at hq J;have K:aR c a=((aR c u).take q).drop kk:=by rw [hq];simp [aR,map_take]
      rw [J]at B;simp only [kH]at o ⊢;rw [B];cases hm:c0.ν l with
      | none=>rw [hm]at o;have o:aR c u=[]:=o;show aR c a=[];rw [K,o];simp
      | some p=>
       rw [hm]at o;obtain⟨cells,E,x,L⟩:=o;refine⟨cells,E,x,?_⟩;have r:=bZ.awX (k:=kk) (bZ.pre (n:=q) L);rw [<-K]at r;by_cases afC:c.flat=true
       .exact bZ.flat afC r
       .have F:f=true->g=true:=λh=>by simp_all
        refine r.mono (λb x=> ?_) λ_ _=>rfl
        cases f with
        | true=>have:=Q (F rfl);rw [this]at x;exact R.kt b x
        | false=>
         have yT:P=false:=by grind [SkO.fresh]
         refine R.kf yT b ?_;cases g' with
         | true=>exact R.sub b x
         | false=>exact x
    .cases hk
   .cases hk
def uR{m:Nat}(nm:Nat->Nat)(old:Nat->aT)(c:∀j,Gone [old j] 0):∀ {ks:List SkO} {i:Nat} {s d:ES (std m)},C9 (std m) h i ks s=some d->
  ∃new b,d.lv=new.reverse++s.lv/\ELe s d/\(∀a,yL aH nm old i ks (new++a)=some (b,a))/\b.length=ks.length/\
   ∀e,ELe d e->∀(j:Nat) (k:SkO),ks[j]? =some k->∃g,b[j]? =some g/\OF e h nm (i+j) k (old (i+j)) g
 | [],i,s,d,hk=>by
  simp only [C9,Option.some.injEq]at hk;subst hk;exact⟨[],[],rfl,.refl _,λa=>rfl,rfl,λe p j k n=>by simp at n⟩
 | k::ks,i,s,d,hk=>by
  simp only [C9]at hk;split at hk
  .rename_i s1 h1;obtain⟨l,g,z,t,x,q⟩:=acQ nm h1 (old i) (c i);obtain⟨f,b,u,o,w,r,v⟩:=uR nm old c hk;refine⟨l++f,g::b,by simp_all,t.trans o,λa=> ?_,by simp [r],λe p j y n=> ?_⟩
   .grind [yL,append_assoc]
   .cases j with
    | zero=>simp at n;subst n;exact⟨g,rfl,q e (o.trans p)⟩
    | succ j=>grind
  .cases hk
end Go.TX
namespace Go.TX
open Go Go.AE List
variable{m:Nat}{nm:Nat->Nat}{f:Nat->fT}
def Di:∀ {r:List (Option (Option Nat))},distinct (bO r)=true->∀ {i j l:Nat},r[i]? =some (some (some l))->r[j]? =some (some (some l))->i=j
 | [],_,i,j,l,h,_=>by simp at h
 | x::r,hd,i,j,l,hi,hj=>by
  have mem:∀ {r:List (Option (Option Nat))} {i l:Nat},r[i]? =some (some (some l))->l∈bO r:=by
   intro r
   induction r with
   | nil=>simp_all
   | cons x r a=>
    intro i l h;cases i with
    | zero=>grind [bO]
    | succ i=>
     have:=a (by simpa using h)
     match x with
     | some (some y)=>simp [bO,this]
     | some none=>simpa [bO]using this
     | none=>simpa [bO]using this
  have b:distinct (bO r)=true:=by
   match x with
   | some (some y)=>grind [bO,distinct]
   | some none=>simpa [bO]using hd
   | none=>simpa [bO]using hd
  cases i with
  | zero=>grind [bO,distinct,absurd]
  | succ i=>
   cases j with
   | zero=>grind [bO,distinct,absurd]
   | succ j=>
    have:=Di b (i:=i) (j:=j) (l:=l) (by simpa using hi) (by simpa using hj);omega
theorem uS:∀ {r:List (Option (Option Nat))} {i l:Nat},r[i]? =some (some (some l))->l∈bO r
 | [],i,l,h=>by simp at h
 | x::r,i,l,h=>by
  cases i with
  | zero=>grind [bO]
  | succ i=>
   have:=uS (r:=r) (i:=i) (l:=l) (by simpa using h)
   match x with
   | some (some y)=>simp [bO,this]
   | some none=>simpa [bO]using this
   | none=>simpa [bO]using this
def Ai:∀ {r:List (Option (Option Nat))} {l:Nat},l∈bO r->∃i:Nat,r[i]? =some (some (some l))
 | [],l,h=>by simp [bO]at h
 | x::r,l,h=>by
  have b:l∈bO r->∃i:Nat,(x::r)[i]? =some (some (some l)):=λh=>let⟨i,a⟩:=Ai h;⟨i+1,by simpa using a⟩
  match x with
  | some (some y)=>
   simp only [bO,mem_cons]at h;rcases h with rfl | h
   .exact⟨0,rfl⟩
   .exact b h
  | some none=>grind [bO]
  | none=>grind [bO]
def Gd:∀ {a:List SkO} {r:List (Option (Option Nat))},uO a r=true->∀ {i:Nat} {v:Option Nat},r[i]? =some (some v)->a[i]? ≠some .gone
 | [],_,_,i,v,_=>by simp
 | o::a,[],_,i,v,h=>by simp at h
 | o::a,x::r,hg,i,v,h=>by
  have b:uO a r=true:=by
   cases o<;>cases x<;>simp_all [uO]
  cases i with
  | zero=>grind [uO]
  | succ i=>simpa using Gd b (i:=i) (v:=v) (by simpa using h)
structure awY{m:Nat}(h:List aT)(e:ES (std m))(os:List SkO):Prop where
 dist:∀ {i j l:Nat},e.ren[i]? =some (some (some l))->e.ren[j]? =some (some (some l))->i=j
 fro:∀l f,(l,f)∈e.fro->(∀i:Nat,e.ren[i]? ≠some (some (some l)))/\∃g c xs,h[l]? =some (.rows g c xs)
 gone:∀ {i:Nat} {v:Option Nat},e.ren[i]? =some (some v)->os[i]? ≠some .gone
def OW{h:List aT}{e:ES (std m)}{os:List SkO}(a:ES.fine (std m) h e os=true):awY h e os:=by
 unfold ES.fine at a;simp only [Bool.and_eq_true]at a;obtain⟨⟨d,c⟩,g⟩:=a;refine⟨Di d,λl f b=> ?_,Gd g⟩;have:=all_eq_true.1 c _ b;simp only [Bool.and_eq_true,Bool.not_eq_true']at this;refine⟨λi j=> ?_,?_⟩
 .grind [uS]
 .have h4:=this.2;unfold afg at h4;split at h4
  all_goals simp_all
def KX(e:ES (std m))(a:Ctx)(c:Bool)(f:Bool)(b:Nat):Prop:=a.K (f || c) b\/∃l g,(l,g)∈e.fro/\a.μ l=some b/\((f || c)=true->g=true)
def w9(nm:Nat->Nat)(f:Nat->fT):List Nat->Heap->Heap
 | [],h=>h
 | i::r,h=>(nm i,f i)::w9 nm f r h
def S9{l:Nat}:∀ {a:List Nat} {h:Heap},(∀i∈a,nm i≠l)->AE.look (w9 nm f a h) l=AE.look h l
 | [],_,_=>rfl
 | i::r,h,hn=>by simp only [w9];rw [aD _ _ (hn i (by simp))];exact S9 λj b=>hn j (mem_cons_of_mem _ b)
def Ta(P:Nat->Prop)(a:∀i j,P i->P j->nm i=nm j->i=j):∀ {c:List Nat} {h:Heap},(∀i∈c,P i)->∀i∈c,AE.look (w9 nm f c h) (nm i)=some (f i)
 | [],_,_,i,b=>by simp at b
 | j::r,h,hp,i,b=>by
  simp only [w9];by_cases e:nm j=nm i
  .grind [aO]
  .rw [aD _ _ e];cases b with
   | head=>exact absurd rfl e
   | tail _ b=>exact Ta P a (λj d=>hp j (mem_cons_of_mem _ d)) i b
set_option maxHeartbeats 2000000 in
def BP{w:World}{C:Ctx}{B:Heap}{W:List aT}(Q:bN C w B)(U:gy B W){e:ES (std m)}(a7:∀b∈e.ck,b=true){ks:List SkO}(kX:awY W e ks)(b5:e.ren.length=ks.length)
   {old:Nat->aT} {F:List aT} (b4:F.length=ks.length) (V:∀(j:Nat) (k:SkO),ks[j]? =some k->∃u,F[j]? =some u/\OF e W nm j k (old j) u)
  {cb:Ctx} {hb':Heap} (X:bN cb w hb') (I:Bool) (N:I=true->ks.all SkO.fresh=true)
  {ν2:Nat->Option (Nat×Nat)} {n2:Nat} (a6:cb.n<=n2) (hν:∀l,l<cb.n->ν2 l=cb.ν l) (a8:∀i,i<ks.length->nm i<n2) (a0:∀i j,i<ks.length->j<ks.length->nm i=nm j->i=j)
  (E:∀(i l:Nat),e.ren[i]? =some (some (some l))->ν2 (nm i)=Jl (trK e W i l) (C.ν l)) (Z:∀(i:Nat),e.ren[i]? =some (some none)->ν2 (nm i)=none)
  {h2:List aT} (P:∀i,i<ks.length->h2[nm i]? =F[i]?) (a9:∀l o,(∀i,i<ks.length->nm i≠l)->h2[l]? =some o->∃x,AE.look hb' l=some x/\OR (nmh h2) x o) (b0:∀l,h2.length<=l->AE.look hb' l=none)
  (a5:∀b,gq cb hb' b->gq C B b->False) (aAG:∀f b,cb.K f b->gq C B b->False) (aqm:∀f b,gq cb hb' b->KX e C I f b->False):
  ∃(x:Nat->fT),let c2:Ctx:={K:=λf b=>cb.K f b\/KX e C I f b,ν:=ν2,n:=n2};let L:Heap:=w9 nm x (range ks.length) hb'
   bN c2 w L/\gy L h2/\Ren e W C nm I c2 (nmh h2)/\(∀b,gq c2 L b->gq cb hb' b\/∃(i t:Nat) (q:fT),e.ren[i]? =some (some (some t))/\AE.look B t=some q/\q.live/\C.μ t=some b)/\CLe cb c2/\(∀l,(∀i,i<ks.length->nm i≠l)->AE.look L l=AE.look hb' l):=by
 have hμ:∀l,l<cb.n->(ν2 l).map (·.1)=cb.μ l:=λl d=>by rw [hν l d];rfl
 have aBO:∀(i l:Nat),e.ren[i]? =some (some (some l))->(ν2 (nm i)).map (·.1)=C.μ l:=λi l a=>by rw [E i l a,acL];rfl
 have aBI:∀(i:Nat),e.ren[i]? =some (some none)->(ν2 (nm i)).map (·.1)=none:=λi a=>by rw [Z i a];rfl
 have aAH:∀(i:Nat) (u:aT),i<ks.length->F[i]? =some u->nmh h2 (nm i)=nmh [u] 0:=λi u a ho=>by grind [nmh,getElem?_cons_zero]
 have T:∀(i:Nat) (v:Option (Option Nat)),e.ren[i]? =some v->i<ks.length:=λi v h=>by grind
 have G:∀i,i<ks.length->∃k,ks[i]? =some k:=λi a=>⟨ks[i],getElem?_eq_getElem a⟩
 have R:Ren e W C nm I {K:=λf b=>cb.K f b\/KX e C I f b,ν:=ν2,n:=n2} (nmh h2):={
  kt:=λb p=> .inr (.inl (by simpa using p))
  kf:=λhf b p=> .inr (.inl (by simp_all))
  sub:=Q.sub
  awU:=λb p=>by
   rcases p with p | p | ⟨l,g,h1,h2,h3⟩
   .exact .inl (X.sub b p)
   .refine .inr (.inl ?_);cases I with
    | true=>simpa using p
    | false=>exact Q.sub b (by simpa using p)
   .exact .inr (.inr ⟨l,g,h1,h2,λ_=>h3 (by simp)⟩)
  fro:=λl f d hf b p=> .inr (.inr ⟨l,f,d,p,λh=>by grind⟩)
  name:=λi l a=>⟨a8 i (T i _ a),E i l a⟩
  names:=λi l sz n a d=>by
   have J:=T i _ a;obtain⟨k,hk⟩:=G i J;obtain⟨u,O,M⟩:=V i k hk;rw [aAH i u J O];exact M.s1 l sz n (λe=>kX.gone a (by rw [hk,e])) a d
  nil:=λi a=>by
   have J:=T i _ a;obtain⟨k,hk⟩:=G i J;obtain⟨u,O,M⟩:=V i k hk;obtain⟨sz,hs⟩:=M.s2 (λe=>kX.gone a (by rw [hk,e])) a;simp_all}
 have b1:∀i,∃x,∀k,ks[i]? =some k->∃u,F[i]? =some u/\OR (nmh h2) x u/\kH {K:=λf b=>cb.K f b\/KX e C I f b,ν:=ν2,n:=n2} w (nm i) x/\
   (x.live->k≠ .gone/\∃v,e.ren[i]? =some (some v)/\∀l,v=some l->∃q,AE.look B l=some q/\q.live):=by
  intro i;cases hk:ks[i]? with
  | none=>simp_all
  | some k=>
   obtain⟨u,O,M⟩:=V i k hk;obtain⟨x,r1,r2,r3,r4⟩:=M.rel Q U a7 R (λh=>all_eq_true.1 (N h) k (mem_of_getElem? hk));refine⟨x,λk' h=> ?_⟩;cases h;refine⟨u,O,r1,r2,λd=> ?_⟩;have Y:k≠ .gone:=λe=>by rw [r3 e]at d;exact d
   obtain⟨v,hv⟩:=M.live Y
   grind
 obtain⟨x,aqn⟩:=Classical.axiomOfChoice b1;refine⟨x,?_⟩;have Tc:∀i,i<ks.length->AE.look (w9 nm x (range ks.length) hb') (nm i)=some (x i):=λi a=>
  Ta (λi=>i<ks.length) a0 (λi a=>List.mem_range.1 a) i (List.mem_range.2 a)
 have yV:∀l,(∀i,i<ks.length->nm i≠l)->AE.look (w9 nm x (range ks.length) hb') l=AE.look hb' l:=λl d=>S9 λi a=>d i (List.mem_range.1 a)
 have a4:CLe cb {K:=λf b=>cb.K f b\/KX e C I f b,ν:=ν2,n:=n2}:=⟨λf b h=> .inl h,a6,hν⟩;have b3:∀f b,KX e C I f b->b<w.heap.size:=by
  rintro f b (h | ⟨l,g,h1,h2,h3⟩)
  .exact Q.low _ b h
  .obtain⟨_,g',c,xs,d⟩:=kX.fro l g h1;obtain⟨q,s,hO⟩:=U.old l _ d;cases hO with | rows _=>
   exact(Q.obj l _ s).2.lt trivial h2
 have y:∀l o,AE.look (w9 nm x (range ks.length) hb') l=some o->o.live->∀b,(ν2 l).map (·.1)=some b->
   (∃i q t,i<ks.length/\nm i=l/\e.ren[i]? =some (some (some t))/\AE.look B t=some q/\q.live/\C.μ t=some b)\/((∀i,i<ks.length->nm i≠l)/\AE.look hb' l=some o/\cb.μ l=some b):=by
  intro l o d A b p;by_cases H:∃i,i<ks.length/\nm i=l
  .obtain⟨i,a,rfl⟩:=H;rw [Tc i a]at d;cases d;obtain⟨k,hk⟩:=G i a;obtain⟨u,O,M,q3,q4⟩:=aqn i k hk;obtain⟨Y,v,hv,s⟩:=q4 A;cases v with
   | none=>simp_all
   | some t=>grind
  .have hx':∀i,i<ks.length->nm i≠l:=λi a h=>H ⟨i,a,h⟩
   rw [yV l hx']at d;exact .inr ⟨hx',d,by rw [<-hμ l (X.obj l o d).1];exact p⟩
 refine⟨?_,?_,R,?_,a4,yV⟩
 .refine⟨λl o d=> ?_,λl o l' o1 b h1 S h2 D b2 a3=> ?_,?_,?_,λb p=>R.awU b p⟩
  .by_cases H:∃i,i<ks.length/\nm i=l
   .grind
   .rw [yV l (λi a h=>H ⟨i,a,h⟩)]at d;obtain⟨a1,a2⟩:=X.obj l o d;exact⟨Nat.lt_of_lt_of_le a1 a6,a2.mono a4 (λ_ _ _=>rfl) (.refl w) a1 (λ_ _ _=>rfl)⟩
  .rcases y l o h1 S b b2 with⟨i,q,t,a,rfl,hr,s,z,hm⟩ | ⟨H,s,hm⟩
   .rcases y l' o1 h2 D b a3 with⟨j,q',lq',hj,rfl,hr',r,aqo,hm'⟩ | ⟨hx',r,hm'⟩
    .have:=Q.inj t q lq' q' b s z r aqo hm hm';subst this;rw [kX.dist hr hr']
    .exact(a5 b ⟨l',o1,r,D,hm'⟩ ⟨t,q,s,z,hm⟩).elim
   .rcases y l' o1 h2 D b a3 with⟨j,q',lq',hj,rfl,hr',r,aqo,hm'⟩ | ⟨hx',r,hm'⟩
    .exact(a5 b ⟨l,o,s,S,hm⟩ ⟨lq',q',r,aqo,hm'⟩).elim
    .exact X.inj l o l' o1 b s S r D hm hm'
  .rintro f b ⟨l,o,d,A,p⟩ hk;rcases y l o d A b p with⟨i,q,t,a,rfl,hr,s,z,hm⟩ | ⟨H,s,hm⟩
   .rcases hk with hk | hk | ⟨l2,g,k1,k2,k3⟩
    .exact aAG f b hk ⟨t,q,s,z,hm⟩
    .exact Q.own _ b ⟨t,q,s,z,hm⟩ hk
    .obtain⟨hnn,g',c,xs,D⟩:=kX.fro l2 g k1;obtain⟨q',r,hO⟩:=U.old l2 _ D;cases hO with | rows _=>
     have:=Q.inj t q l2 _ b s z r trivial hm k2;simp_all
   .rcases hk with hk | hk
    .exact X.own f b ⟨l,o,s,A,hm⟩ hk
    .exact aqm f b ⟨l,o,s,A,hm⟩ hk
  .rintro f b (hk | hk)
   .exact X.low f b hk
   grind
 .refine⟨λl o d=> ?_,λl d=> ?_⟩
  .by_cases H:∃i,i<ks.length/\nm i=l
   .obtain⟨i,a,rfl⟩:=H;obtain⟨k,hk⟩:=G i a;obtain⟨u,O,M,q3,q4⟩:=aqn i k hk;rw [P i a,O]at d;cases d;exact⟨x i,Tc i a,M⟩
   .have hx':∀i,i<ks.length->nm i≠l:=λi a h=>H ⟨i,a,h⟩
    obtain⟨q,a1,a2⟩:=a9 l o hx' d;exact⟨q,by rw [yV l hx'];exact a1,a2⟩
  .have hx':∀i,i<ks.length->nm i≠l:=λi a h=>by
    obtain⟨k,hk⟩:=G i a;obtain⟨u,O,_⟩:=aqn i k hk;have:=P i a;rw [O,h]at this;have:=(List.getElem?_eq_some_iff.1 this).1;omega
   rw [yV l hx'];exact b0 l d
 .rintro b ⟨l,o,d,A,p⟩;rcases y l o d A b p with⟨i,q,t,a,rfl,hr,s,z,hm⟩ | ⟨H,s,hm⟩
  .exact .inr ⟨i,t,q,hr,s,z,hm⟩
  .exact .inl ⟨l,o,s,A,hm⟩
end Go.TX
namespace Go.TX
open Go Go.AE List
variable{m:Nat}{h:List aT}{X:XT}{E:Tab}{t:Slots}{e:Nat->Option SVal}{C:Calls aH}
def dK{s:Sig}(i:Ct aH s):Trans:=λc e g K=>∃(m:Nat) (f:List SVal) (h:List aT),F2 (PVR (nmh h)) c f/\gy e h/\h.length=g/\
 ∃d,vM (std m) h s i f=some d/\(∀b∈d.ck,b=true)/\∃v k,d.k d.y=some (v,k)/\
  ∀r a j,PVR (nmh k) r v->gy a k->jI e h a k d.touched->k.length=nm g j->K r a j
def nL(C:Calls aH):qR:=λf=>match C f with | []=>none | l=>some λa h n K=>∃b∈l,dK b.2 a h n K
def Mu(T:(PV->Heap->Nat->Prop)->Prop)(n:Nat)(c:Heap)(h:List aT)(b:CR (std m)):Prop:=
 ∃v k,b.k b.y=some (v,k)/\(b.pure=true->k=h/\b.touched=[])/\
  ∀K,(∀pv a j,PVR (nmh k) pv v->gy a k->jI c h a k b.touched->k.length=nm n j->K pv a j)->T K
def Vv(E:Tab)(G:qR)(a:Op)(t:Slots)(s:St)(K:PV->Heap->Nat->Prop):Prop:=
 match jR a with
 | 1=>iX E a t s.h s.n s.k K
 | _=>yD E G a {s with t:=t} K
def Mu.awZ{T:(PV->Heap->Nat->Prop)->Prop}{n:Nat}{c:Heap}{a:CR (std m)}{v:SVal}{k:List aT}{d:List Nat}(H:Hv2 T n c h v k d)(g:a.k a.y=some (v,k))(e:a.touched=d)(p:a.pure=false):Mu T n c h a:=by
 obtain⟨pv,b,j,f,q,i,o,l⟩:=H;exact⟨v,k,g,λh=>(by rw [p]at h;cases h),λK hK=>l K (hK pv b j f q (by rw [e];exact i) o)⟩
def acR(hX:XOK X E){n:Nat}{N:NM}(c:EvR X E n N t e):∀ {d:List Operand} {b:List SVal},SA (std n) X e d=some b->
  ∃a,F2 (PVR N) a b/\∀K,K a->Ni E t d K
 | [],b,h=>by simp only [SA,Option.some.injEq]at h;subst h;exact⟨[],.nil,λK hK=>hK⟩
 | x::r,b,h=>by
  simp only [SA]at h;split at h
  .rename_i v hv;split at h
   .rename_i vs' hvs;cases h;obtain⟨pv,f,g⟩:=dO hX c hv;obtain⟨a,i,j⟩:=acR hX c hvs;exact⟨pv::a,.cons g i,λK hK=>by unfold Ni;rw [f];exact j _ hK⟩
   .cases h
  .cases h
def Dj{b:List SVal}{c:CR (std m)}:∀ {l:List (Sigma (Ct aH))},Dc (std m) h b l=some c->∃a∈l,vM (std m) h a.1 a.2 b=some c
 | [],hk=>by simp [Dc]at hk
 | ⟨s,a⟩::r,hk=>by
  simp only [Dc]at hk;split at hk
  .rename_i x hx;cases hk;exact⟨⟨s,a⟩,by simp,hx⟩
  .obtain⟨ct',h1,h2⟩:=Dj hk;exact⟨ct',mem_cons_of_mem _ h1,h2⟩
def afE{s:Sig}{q:Ct aH s}{j:List SVal}{c:CR (std m)}(hk:vM (std m) h s q j=some c):c.pure=true->(∀v k,c.k c.y=some (v,k)->k=h)/\c.touched=[]:=by
 unfold vM at hk;split at hk
 .rename_i e1 he1;split at hk
  .rename_i e he;split at hk
   .split at hk
    .rename_i x hx;simp only [Option.some.injEq]at hk;subst hk;intro g;simp only [Bool.and_eq_true,isEmpty_iff,Bool.or_eq_true]at g;obtain⟨⟨n,f⟩,d⟩:=g;have aAI:e.ren=[]:=by
      obtain⟨_,_,_,o,_⟩:=yU (m:=m) (λi=>i) he1;obtain⟨_,_,_,p,_⟩:=uR (m:=m) (λi=>i) (λ_=> .gone .i64 0) (λ_=>⟨.i64,0,rfl⟩) he;have:=p.len.trans o.len;simp [es0,n]at this;exact this
     refine⟨λv k a=> ?_,?_⟩
     .simp only [f]at a;split at a
      .rename_i vs' r hvs;simp only [yL,fE]at a;simp only [Option.some.injEq,Prod.mk.injEq]at a;obtain⟨_,rfl⟩:=a;have:∀(h:List aT) (l:List Nat),jv (std m) h l []=h:=λh l=>by cases l<;>rfl
       rw [this];split
       .rfl
       .rename_i hnb;rcases d with b | b
        .exact absurd (by rw [Bool.and_eq_true];exact b) hnb
        .rw [b];rfl
      .cases a
     .simp only [aAI,bO,nil_append];split
      .rfl
      .rename_i hnb;rcases d with b | b
       .exact absurd (by rw [Bool.and_eq_true];exact b) hnb
       .rw [b];rfl
    .cases hk
   .cases hk
  .cases hk
 .cases hk
def afF(hX:XOK X E){s:St}(H:gy s.h h)(hn:h.length=nm s.n s.k)(G:EvR X E m (nmh h) t e){F:Op}
  {u:CR (std m)} (hk:acD (std m) X C e h F=some u) (A:∀b∈u.ck,b=true) (i:∃v k,u.k u.y=some (v,k)):Mu (λK=>yD E (nL C) F {s with t:=t} K) s.n s.h h u:=by
 unfold acD at hk;split at hk
 .rename_i c;split at hk
  .rename_i f hf;split at hk
   .rename_i g d vs hfv hvs;obtain⟨S,D,B⟩:=dO hX G hfv;obtain⟨x,rfl,hc⟩:=B.cell;cases hc;obtain⟨T,J,R⟩:=acR hX G hvs;obtain⟨⟨U,I⟩,o,q⟩:=Dj hk;obtain⟨v,k,l⟩:=i;refine⟨v,k,l,λN=> ?_,λK hK=> ?_⟩
    .obtain⟨a,b⟩:=afE q N;exact⟨a v k l,b⟩
    .unfold yD;simp only;rw [hf];simp only;unfold aor;simp only;rw [D];refine R _ ?_;have y:nL C g=some λw h n K=>∃I∈C g,dK I.2 w h n K:=by
      unfold nL;split
      .rename_i hnil;rw [hnil]at o;cases o
      .rfl
     rw [y];refine⟨_,o,m,vs++d.map λp=> .c (.pb p.1 p.2 0),h,?_,H,hn,u,q,A,v,k,l,λr z j O P L M=>hK r z _ O P L (by rw [M,aeX])⟩;refine J.append ?_
     clear hvs hk q hfv D B
     induction d with
     | nil=>exact .nil
     | cons p d Q=>exact .cons (.ofC .pb) Q
   .cases hk
  .cases hk
 .cases hk
def EA(hX:XOK X E){s:St}(H:gy s.h h)(hn:h.length=nm s.n s.k)(G:EvR X E m (nmh h) t e){q:Op}
  {o:CR (std m)} (hk:aem (std m) X C e h q=some o) (z:∀b∈o.ck,b=true) (u:∃v k,o.k o.y=some (v,k)):Mu (Vv E (nL C) q t s) s.n s.h h o:=by
 unfold aem at hk;by_cases n:jR q=1
 .have hT:Vv E (nL C) q t s=iX E q t s.h s.n s.k:=by
   funext K;unfold Vv;split
   .rfl
   .rename_i y;exact absurd n y
  rw [hT]
  clear hT
  split at hk
  case h_2=>rename_i y;exact absurd n y
  clear n
  split at hk
  .rename_i ty p x _;split at hk
   .rename_i pv v hpv hv;split at hk
    .rename_i r hr;have j:∀g:CR (std m),g.ck=r.chk->g.k g.y=some (r.v,r.h)->g.touched=r.touched->g.pure=false->g=o->Mu (iX E (.store ty p x) t s.h s.n s.k) s.n s.h h o:=by
      intro g A D F I B;subst B;have w:I8 (std m) X e h (.store ty p x)=some r:=by simp only [I8,hpv,hv];exact hr
      exact .awZ (OV hX H hn G w (by rw [<-A];exact z)) D F I
     split at hk
     .cases hk;exact j _ rfl (by simp only;rw [hr]) rfl rfl rfl
     .cases hk;exact j _ rfl (by simp only;rw [hr]) rfl rfl rfl
     .cases hk;exact j _ rfl (by simp only;rw [hr]) rfl rfl rfl
     .cases hk;exact j _ rfl (by simp only;rw [hr]) rfl rfl rfl
     .cases hk;exact j _ rfl rfl rfl rfl rfl
    .cases hk
   .cases hk
  .split at hk
   .rename_i r hr;have j:∀g:CR (std m),g.ck=r.chk->g.k g.y=some (r.v,r.h)->g.touched=r.touched->g.pure=false->g=o->Mu (iX E q t s.h s.n s.k) s.n s.h h o:=by
     intro g A D F I B;subst B;exact .awZ (OV hX H hn G hr (by rw [<-A];exact z)) D F I
    split at hk
    .rename_i l hrv;split at hk
     .rename_i f c xs hl;cases hk;refine j _ rfl ?_ rfl rfl rfl;simp only;have:r.h.set l (.rows f c xs)=r.h:=by
       apply ext_getElem?;intro i;rw [getElem?_set];split
       .rename_i A;subst A;rw [hl];split
        .rfl
        .rename_i hh;exact absurd (List.getElem?_eq_some_iff.1 hl).1 hh
       .rfl
      rw [this]
     .cases hk
    .cases hk;exact j _ rfl rfl rfl rfl rfl
   .cases hk
 .have hT:Vv E (nL C) q t s=λK=>yD E (nL C) q {s with t:=t} K:=by
   funext K;unfold Vv;split
   .rename_i y;exact absurd y n
   .rfl
  have hk:acD (std m) X C e h q=some o:=by
   revert hk;split
   .rename_i y;exact absurd y n
   .exact id
  obtain⟨a,b,c,d,e⟩:=afF hX H hn G hk z u;rw [hT];exact⟨a,b,c,d,e⟩
end Go.TX
namespace Go.TX
open Go Go.AE List
section
variable {n:Nat}
def Dk(gs:List (GE (std n)))(t':Slots)(N:NM)(i:Nat)(a:SV (std n)):Prop:=match a.tag with
 | none=>∃pv,bq t' i=some pv/\PVR N pv a.v
 | some t=>∃e,gs[t]? =some e/\(e.g=true->∃pv,bq t' i=some pv/\PVR N pv a.v)/\(e.g=false->bq t' i=some rZ)
structure GOK(gs:List (GE (std n)))(t':Slots)(e:GE (std n)):Prop where
 yes:∀d,e.slot=some d->e.g=true->∃f,bq t' d=some (.c (.d f (.bool e.want)))
 no:∀d,e.slot=some d->e.g=false->(∃f,bq t' d=some (.c (.d f (.bool (!e.want)))))\/bq t' d=some rZ
 dead:e.dead=true->e.g=false
 par:∀p,e.par=some p->∃q,gs[p]? =some q/\(e.g=true->q.g=true)
structure SR(s':St)(s:RSt (std n)):Prop where
 heap:gy s'.h s.h
 len:s.h.length=nm s'.n s'.k
 m:s'.m=s.m
 val:∀i sv,dN (std n) s.t i=some sv->Dk s.gs s'.t (nmh s.h) i sv
 gs:∀(t:Nat) (e:GE (std n)),s.gs[t]? =some e->GOK s.gs s'.t e
def Keep(k:Nat)(h0 h:List aT):Prop:=∀i,i<k->(Gone h0 i->Gone h i)/\∀x,nmh h0 i=some x->Gone h i\/nmh h i=some x
theorem Keep.refl(k:Nat)(h:List aT):Keep k h h:=λ_ _=>⟨id,λ_ h=> .inr h⟩
theorem Keep.trans{k:Nat}{a b c:List aT}(x:Keep k a b)(y:Keep k b c):Keep k a c:=λi d=>
 ⟨λh=>(y i d).1 ((x i d).1 h),λv e=>((x i d).2 v e).elim (λh=> .inl ((y i d).1 h)) λh=>(y i d).2 v h⟩
theorem jI.Td{e f:Heap}{a b:List aT}{c:List Nat}(x:jI e a f b c)(k:Nat):Keep k a b:=λi _=>⟨x.gone i,λv d=> .inr (x.same i v d)⟩
theorem ru{d i:Nat}{a:SV (std n)}{t:List (Nat×SV (std n))}:dN (std n) ((d,a)::t) i=if d=i then some a else dN (std n) t i:=by
 simp only [dN,beq_iff_eq]
theorem Dk.mono{gs a:List (GE (std n))}{g t2:Slots}{N M:NM}{i:Nat}{f:SV (std n)}(h:Dk gs g N i f)(m:∀(t:Nat) (e:GE (std n)),gs[t]? =some e->∃b,a[t]? =some b/\b.g=e.g)(j:bq t2 i=bq g i)(k:∀l x,N l=some x->M l=some x):Dk a t2 M i f:=by
 unfold Dk at h ⊢;cases hs:f.tag with
 | none=>
  rw [hs]at h;simp only at h ⊢;obtain⟨pv,d,c⟩:=h;exact⟨pv,by rw [j];exact d,c.mono k⟩
 | some t=>
  rw [hs]at h;simp only at h ⊢;obtain⟨e,d,c,s⟩:=h;obtain⟨b,o,q⟩:=m t e d;refine⟨b,o,λh=> ?_,λh=>by simp_all⟩;obtain⟨pv,p,r⟩:=c (q▸h);exact⟨pv,by rw [j];exact p,r.mono k⟩
theorem oW(d:Nat)(e:GE (std n)):(qg (std n) d e).g=e.g:=by grind [qg]
theorem vQ{d:Nat}{e:GE (std n)}{x:Nat}(h:(qg (std n) d e).slot=some x):e.slot=some x/\x≠d:=by grind [qg]
theorem jZ(d:Nat)(e:GE (std n)):(qg (std n) d e).want=e.want/\(qg (std n) d e).par=e.par/\(qg (std n) d e).dead=e.dead:=by grind [qg]
theorem SR.put{g:St}{s:RSt (std n)}(S:SR g s){d:Option Nat}{tag:Option Nat}{v:SVal}{c:Option PV}
  (y:match tag with
   | none=>∃pv,c=some pv/\PVR (nmh s.h) pv v
   | some t=>∃e,s.gs[t]? =some e/\(e.g=true->∃pv,c=some pv/\PVR (nmh s.h) pv v)/\(e.g=false->c=some rZ)):SR (g.put d c) (s.put (std n) d tag v):=by
 cases d with
 | none=>exact S
 | some d=>
  have r:∀(t:Nat) (e:GE (std n)),s.gs[t]? =some e->∃k,(s.gs.map (qg (std n) d))[t]? =some k/\k.g=e.g:=λt e h=>⟨qg (std n) d e,by simp [h],oW d e⟩
  refine⟨S.heap,S.len,S.m,λi E f=> ?_,λt e w=> ?_⟩
  .simp only [RSt.put]at f;rw [ru]at f;split at f
   .rename_i e;subst e;cases f;unfold Dk;cases tag with
    | none=>
     obtain⟨pv,o,j⟩:=y;exact⟨pv,by grind [St.put,jL],j⟩
    | some t=>
     obtain⟨e,o,j,H⟩:=y;obtain⟨k,C,D⟩:=r t e o;refine⟨k,C,λh=> ?_,λh=> ?_⟩
     .obtain⟨pv,q1,q2⟩:=j (D▸h);exact⟨pv,by grind [St.put,jL],q2⟩
     grind [St.put,jL]
   .rename_i e;exact(S.val i E f).mono r (by grind [St.put,jL]) (λ_ _ h=>h)
  .simp only [RSt.put,getElem?_map,Option.map_eq_some_iff]at w;obtain⟨m,A,rfl⟩:=w;have G:=S.gs t m A;have u:∀x,x≠d->bq (St.put g (some d) c).t x=bq g.t x:=λx l=>by grind [St.put,jL]
   refine⟨λx l B=> ?_,λx l z=> ?_,λhd=> ?_,λp F=> ?_⟩
   .obtain⟨a,b⟩:=vQ l;rw [u x b,(jZ d m).1];exact G.yes x a (by grind [oW])
   .obtain⟨a,b⟩:=vQ l;rw [u x b,(jZ d m).1];exact G.no x a (by grind [oW])
   .rw [oW];exact G.dead (by grind [jZ])
   .obtain⟨q,o,j⟩:=G.par p (by grind [jZ])
    grind [qg,RSt.put,oW]
theorem vR{d i:Nat}:∀ {t:List (Nat×SV (std n))} {a:SV (std n)},dN (std n) (t.filter λp=> !(p.1==d)) i=some a->i≠d/\dN (std n) t i=some a
 | [],_,h=>by cases h
 | (j,x)::r,a,h=>by
  by_cases c:j=d
  .subst c;rw [filter_cons_of_neg (by simp)]at h;obtain⟨f,b⟩:=vR h
   grind [ru]
  .rw [filter_cons_of_pos (by simpa using c),ru]at h;rw [ru];split at h
   .simp_all
   .rename_i e;rw [dY e];exact vR h
theorem SR.del{c:St}{s:RSt (std n)}(S:SR c s){d:Option Nat}:SR (c.put d none) (s.del (std n) d):=by
 cases d with
 | none=>exact S
 | some d=>
  have u:∀(t:Nat) (e:GE (std n)),s.gs[t]? =some e->∃k,(s.gs.map (qg (std n) d))[t]? =some k/\k.g=e.g:=λt e h=>⟨qg (std n) d e,by simp [h],oW d e⟩
  refine⟨S.heap,S.len,S.m,λi w f=> ?_,λt e m=> ?_⟩
  .simp only [RSt.del]at f;obtain⟨e,f⟩:=vR f;exact(S.val i w f).mono u (by grind [St.put,jL]) (λ_ _ h=>h)
  .simp only [RSt.del,getElem?_map,Option.map_eq_some_iff]at m;obtain⟨j,r,rfl⟩:=m;have G:=S.gs t j r;have l:∀x,x≠d->bq (St.put c (some d) none).t x=bq c.t x:=λx g=>by grind [St.put,jL]
   refine⟨λx g v=> ?_,λx g o=> ?_,λhd=> ?_,λp y=> ?_⟩
   .obtain⟨a,b⟩:=vQ g;rw [l x b,(jZ d j).1];exact G.yes x a (by grind [oW])
   .obtain⟨a,b⟩:=vQ g;rw [l x b,(jZ d j).1];exact G.no x a (by grind [oW])
   .rw [oW];exact G.dead (by grind [jZ])
   .obtain⟨q,h1,h2⟩:=G.par p (by grind [jZ])
    grind [qg,RSt.del,oW]
theorem aw0{s:RSt (std n)}{d:Option Nat}:(s.del (std n) d).h=s.h/\(s.del (std n) d).m=s.m:=by cases d<;>exact⟨rfl,rfl⟩
theorem SR.BQ{b:St}{s:RSt (std n)}(S:SR b s){a:Heap}{k:List aT}{j:Nat}(g:Same s.h k)(d:gy a k)(c:k.length=nm b.n j):SR {b with h:=a,k:=j} {s with h:=k}:=
 ⟨d,c,S.m,λi f l=>(S.val i f l).mono (λ_ e h=>⟨e,h,rfl⟩) rfl g,S.gs⟩
theorem Jo:∀ {a:List (GE (std n))} {d:Nat} {w:Bool} {i t:Nat},dH (std n) a d w i=some t->∃e,i<=t/\a[t-i]? =some e/\e.slot=some d/\e.want=w
 | [],_,_,_,_,h=>by simp [dH]at h
 | e::r,d,w,i,t,h=>by
  simp only [dH]at h;split at h
  .simp_all
  .obtain⟨e',h1,h2,h3⟩:=Jo h
   grind
theorem yX{gs:List (GE (std n))}{d:Nat}{w:Bool}{t:Nat}(h:dH (std n) gs d w 0=some t):∃e,gs[t]? =some e/\e.slot=some d/\e.want=w:=by
 obtain⟨e,_,a,b⟩:=Jo h;simp_all
theorem sW{gs:List (GE (std n))}{t':Slots}(b:∀(t:Nat) (e:GE (std n)),gs[t]? =some e->GOK gs t' e):∀ {f:Nat} {o:Option Nat},(∀t,o=some t->∃e,gs[t]? =some e/\e.g=true)->∀t∈Vm (std n) gs f o,∃e,gs[t]? =some e/\e.g=true
 | 0,_,_,t,a=>by simp [Vm]at a
 | _+1,none,_,t,a=>by simp [Vm]at a
 | f+1,some x,h,t,a=>by
  simp only [Vm,mem_cons]at a;rcases a with rfl | a
  .exact h t rfl
  .obtain⟨e,h1,h2⟩:=h x rfl;rw [h1]at a;refine sW b (o:=e.par) (λp c=> ?_) t a;obtain⟨q,d,g⟩:=(b x e h1).par p c;simp_all
theorem uT{X:XT}{E:Tab}{gs:List (GE (std n))}{t' tt:Slots}{N:NM}{lk:Nat->Option (SV (std n))}(b:∀d,(lk d).isSome->bq tt d=bq t' d)(g:∀i f,lk i=some f->Dk gs t' N i f){al:List Nat}(c:∀t∈al,∃e,gs[t]? =some e/\e.g=true):
  EvR X E n N tt (iT (std n) lk al):=by
 intro i v a;unfold iT at a;split at a
 .rename_i v' hl;cases a;rw [b i (by rw [hl];rfl)];exact g i _ hl
 .rename_i t v' hl;split at a
  .rename_i hc;cases a;obtain⟨e,k,h⟩:=c t (by simpa using hc);obtain⟨l,m,j,_⟩:=g i _ hl;simp_all
  .cases a
 .cases a
theorem gV{ρ:Type}{Q:ρ->Prop}:∀ {ps:List Bool} {a:(ρ->Prop)->Prop},jw (std n) ps a Q->(∀b∈ps,b=true)/\a Q
 | [],a,h=>⟨λ_ h=>by simp at h,h⟩
 | b::ps,a,h=>by
  obtain⟨e,h⟩:b=true/\jw (std n) ps a Q:=h;obtain⟨d,c⟩:=gV (ps:=ps) h;simp_all
theorem Dl{g:Bool}{a:List Bool}(h:∀b∈under (std n) g a,b=true)(d:g=true):∀b∈a,b=true:=λb c=>by
 have:=h (!g || b) (mem_map.2 ⟨b,c,rfl⟩);simp_all
theorem G9{ρ:Type}(a:Op)(v:SVal)(K:SVal->(ρ->Prop)->Prop):acE (std n) a v K=K v:=by
 unfold acE;split
 .split<;>rfl
 .rfl
theorem EB{ρ:Type}{c:CR (std n)}{K:SVal->List aT->(ρ->Prop)->Prop}{Q:ρ->Prop}(h:wW (std n) c K Q):∃v k,c.k c.y=some (v,k)/\K v k Q:=by
 obtain⟨f,d,y,k,e,p⟩:=c;unfold wW at h;cases d with
 | nil=>
  simp only at h ⊢;cases hk:k y with
  | none=>simp_all
  | some x=>rw [hk]at h;grind
 | cons a b=>
  simp only at h ⊢;cases hk:k y with
  | none=>simp_all
  | some x=>rw [hk]at h;grind
theorem Aj{X:XT}{E:Tab}(hX:XOK X E){C:Heap}{h:List aT}(H:gy C h){gs:List (GE (std n))}{t' tt:Slots}(B:∀(t:Nat) (e:GE (std n)),gs[t]? =some e->GOK gs t' e)
  {lk:Nat->Option (SV (std n))} (l:∀d,(lk d).isSome->bq tt d=bq t' d) (G:∀i P,lk i=some P->Dk gs t' (nmh h) i P) {cur:Option Nat} (r:∀t,cur=some t->∃e,gs[t]? =some e/\e.g=true) {Q:Op} {v:SVal} {L:List Bool}
  (hk:yM (std n) X lk gs h cur Q=some (L,v)) (F:∀b∈L,b=true):Gv (iR E Q tt C) (nmh h) v:=by
 have m:=sW B r (f:=gs.length+1);have S:EvR X E n (nmh h) tt (iT (std n) lk (fG (std n) gs cur)):=uT l G m;unfold yM at hk;split at hk
 .rename_i c a b;simp only at hk;split at hk
  .rename_i fq q hc;obtain⟨pc,M,Y⟩:=dO hX S hc;obtain⟨g,rfl⟩:=Y.bool;have o:∀w,q=w->∀t∈(match c with | .tmp d=>(match dH (std n) gs d w 0 with | some t=>fG (std n) gs (some t)++fG (std n) gs cur | none=>fG (std n) gs cur) | _=>fG (std n) gs cur),∃e,gs[t]? =some e/\e.g=true:=by
    intro w hw t k;split at k
    .rename_i d;split at k
     .rename_i t0 hf;obtain⟨e,R,W,e3⟩:=yX hf;rcases mem_append.1 k with k | k
      .refine sW B (λx s=> ?_) t k;cases s;refine⟨e,R,?_⟩;cases hgg:e.g with
       | true=>rfl
       | false=>
        have I:(lk d).isSome:=by
         have U:iT (std n) lk (fG (std n) gs cur) d=some (.c (.d fq (.bool q))):=hc
         grind [iT]
        have hd:bq t' d=some (.c (.d g (.bool q))):=by rw [<-l d I];exact M
        rcases(B t0 e R).no d W hgg with⟨f,hh⟩ | hh
        all_goals grind [Option.some.injEq,PV.c.injEq,Cell.d.injEq,D.bool.injEq,rZ]
      .exact m t k
     .exact m t k
    .exact m t k
   have A:q=true->∀ {v},evX (std n) X (iT (std n) lk (match c with | .tmp d=>(match dH (std n) gs d true 0 with | some t=>fG (std n) gs (some t)++fG (std n) gs cur | none=>fG (std n) gs cur) | _=>fG (std n) gs cur)) a=some v->∃pv,ev E tt a=some pv/\PVR (nmh h) pv v:=
    λj v p=>dO hX (uT l G (o true j)) p
   have J:q=false->∀ {v},evX (std n) X (iT (std n) lk (match c with | .tmp d=>(match dH (std n) gs d false 0 with | some t=>fG (std n) gs (some t)++fG (std n) gs cur | none=>fG (std n) gs cur) | _=>fG (std n) gs cur)) b=some v->∃pv,ev E tt b=some pv/\PVR (nmh h) pv v:=
    λj v p=>dO hX (uT l G (o false j)) p
   have fin:∀pv,PVR (nmh h) pv v->(q=true->ev E tt a=some pv)->(q=false->ev E tt b=some pv)->Gv (iR E (.pick c a b) tt C) (nmh h) v:=by
    intro pv V T Z;refine⟨pv,V,λK hK=> ?_⟩;unfold iR;simp only;rw [M];exact⟨λj=>jH (T j) _ hK,λj=>jH (Z j) _ hK⟩
   split at hk
   .rename_i y s hy;cases hk;have j:q=false:=by simp_all
    grind
   .rename_i x s hy;cases hk;have j:q=true:=by simp_all
    grind
   .rename_i x y s hy _ _;unfold Sq at hk;split at hk
    .rename_i z hz;cases hk;cases j:q with
     | true=>
      obtain⟨pv,O,u⟩:=A j ‹_›;have:=SH (N:=nmh h) (px:=pv) (py:=pv) (q:=q) (λ_=>u) (λh=>by simp_all) hz
      grind
     | false=>
      obtain⟨pv,O,u⟩:=J j ‹_›;have:=SH (N:=nmh h) (px:=pv) (py:=pv) (q:=q) (λh=>by simp_all) (λ_=>u) hz;rw [j]at this;exact fin pv this (λh=>by rw [j]at h;cases h) λ_=>O
    .cases hk
   .cases hk
  .cases hk
 .exact afu hX H S hk F
inductive GM (s':St) (s:RSt (std n)) (tt:Slots) (d:Nat) (want:Bool):GR (std n)->Prop
 | skip:(∀T F:Prop,F->oJ (bq tt d) want T F)->GM s' s tt d want .skip
 | run {gs:List (GE (std n))} {t:Nat} {g:Bool} {e:GE (std n)}:SR s' {s with gs:=gs}->gs[t]? =some e->e.g=g->(∀i sv,dN (std n) s.t i=some sv->Dk gs s'.t (nmh s.h) i sv)->
  (g=true->∀T F:Prop,T->oJ (bq tt d) want T F)->(g=false->∀T F:Prop,F->oJ (bq tt d) want T F)->GM s' s tt d want (.run gs t g)
theorem Jq{k:St}{s:RSt (std n)}(S:SR k s){lk:Nat->Option (SV (std n))}(X:∀i A,lk i=some A->dN (std n) s.t i=some A){tt:Slots}{d:Nat}{want:Bool}(Y:(lk d).isSome->bq tt d=bq k.t d){r:GR (std n)}(j:Ja (std n) lk s.gs d want=r)(Q:r≠ .bad):
    GM k s tt d want r:=by
  unfold Ja at j;split at j
  · exact absurd j.symm Q
  · rename_i tg v hd;have C:=Y (by rw [hd];rfl);have w:=S.val d _ (X d _ hd);split at j
    · rename_i t hf;obtain⟨e,e1,e2,e3⟩:=yX hf;rw [e1]at j;simp only at j;have G:=S.gs t e e1;have E:e.g=true->∀T F:Prop,T->oJ (bq tt d) want T F:=λa T F E=>by
        obtain⟨f,M⟩:=G.yes d e2 a;rw [C,M,e3];exact gG (λ_=>E) (λh=>absurd rfl h)
      have o:e.g=false->∀T F:Prop,F->oJ (bq tt d) want T F:=λa T F o=>by
        rcases G.no d e2 a with⟨f,M⟩ | M
        · rw [C,M,e3];exact gG (λh=>by cases want<;>simp at h) (λ_=>o)
        · rw [C,M];exact o
      split at j
      · rename_i aw1;subst j;exact .skip (o (G.dead aw1))
      · subst j;exact .run S e1 rfl S.val E o
    · split at j
      · rename_i f b;obtain⟨b,rfl⟩:∃b':Bool,b'=b:=⟨b,rfl⟩;have m:(if want then b else !b)=(b==want):=by cases want<;>cases b<;>rfl
        simp only at j;have ext:∀(e:GE (std n)) (gs:List (GE (std n))),gs=s.gs++ [e]->GOK gs k.t e->SR k {s with gs:=gs}/\(∀i A,dN (std n) s.t i=some A->Dk gs k.t (nmh s.h) i A)/\gs[s.gs.length]? =some e:=by
          intro e gs Z N;subst Z;have y:∀(t:Nat) (x:GE (std n)),s.gs[t]? =some x->(s.gs++ [e])[t]? =some x:=λt x c=>by rw [getElem?_append_left (List.getElem?_eq_some_iff.1 c).1];exact c
          have uU:∀i A,dN (std n) s.t i=some A->Dk (s.gs++ [e]) k.t (nmh s.h) i A:=λi A hi=>(S.val i A hi).mono (λt x c=>⟨x,y t x c,rfl⟩) rfl (λ_ _ h=>h)
          refine⟨⟨S.heap,S.len,S.m,uU,λt x c=> ?_⟩,uU,by simp⟩;by_cases R:t<s.gs.length
          · simp only at c;rw [getElem?_append_left R]at c;have G:=S.gs t x c;exact⟨G.yes,G.no,G.dead,λp L=>let⟨q,K,P⟩:=G.par p L;⟨q,y p q K,P⟩⟩
          · simp only at c;rw [getElem?_append_right ah]at c;have:t-s.gs.length=0:=by
              have:=(List.getElem?_eq_some_iff.1 c).1;simp at this;omega
            rw [this]at c;simp at c;subst c;exact N
        split at j
        · subst j;obtain⟨pv,H,J⟩:=w;obtain⟨g,rfl⟩:=J.bool;have N:GOK (s.gs++ [⟨some d,want,none,if want then b else !b,false⟩]) k.t ⟨some d,want,none,if want then b else !b,false⟩:=by
            refine⟨λx c l=> ?_,λx c u=> ?_,λh=>(by cases h),λp L=>(by cases L)⟩
            · cases c;have l:(if want then b else !b)=true:=l;rw [m]at l
              exact ⟨g, by rw [H]; have : b = want := by simpa using l
                           rw [this]⟩
            · cases c;have u:(if want then b else !b)=false:=u;rw [m]at u;refine .inl ⟨g,?_⟩;rw [H];have:b= !want:=by cases b<;>cases want<;>simp_all
              rw [this]
          obtain⟨K,P,W⟩:=ext ⟨some d,want,none,if want then b else !b,false⟩ _ rfl N;refine .run K W rfl P (λa T F E=> ?_) (λa T F o=> ?_)
          · rw [C,H];refine gG (λ_=>E) (λh=> ?_);have a:(if want then b else !b)=true:=a;rw [m]at a;exact absurd (by simpa using a) h
          · rw [C,H];refine gG (λh=> ?_) (λ_=>o);have a:(if want then b else !b)=false:=a;rw [m,h]at a;simp at a
        · rename_i U;split at j
          · rename_i B I;subst j;obtain⟨a0,h3,h4,h5⟩:=w;rw [I]at h3;cases h3;have z:B.g=true->∃g,bq k.t d=some (.c (.d g (.bool b))):=λa=>by
              obtain⟨pv,H,J⟩:=h4 a;obtain⟨g,rfl⟩:=J.bool;exact⟨g,H⟩
            have E:(B.g&& (if want then b else !b))=true->∃g,bq k.t d=some (.c (.d g (.bool want))):=λh=>by
              simp only [Bool.and_eq_true]at h;obtain⟨g,D⟩:=z h.1;have:=h.2;rw [m]at this
              exact ⟨g, by rw [D]; have : b = want := by simpa using this
                           rw [this]⟩
            have o:(B.g&& (if want then b else !b))=false->(∃g,bq k.t d=some (.c (.d g (.bool (!want)))))\/bq k.t d=some rZ:=λh=>by
              cases a:B.g with
              | false=>exact .inr (h5 a)
              | true=>
                rw [a]at h;simp only [Bool.true_and]at h;rw [m]at h;obtain⟨g,D⟩:=z a;refine .inl ⟨g,?_⟩;rw [D];have:b= !want:=by cases b<;>cases want<;>simp_all
                rw [this]
            have N:GOK (s.gs++ [⟨some d,want,some U,B.g&& (if want then b else !b),false⟩]) k.t ⟨some d,want,some U,B.g&& (if want then b else !b),false⟩:=by
              refine⟨λx c l=> ?_,λx c u=> ?_,λh=>(by cases h),λp L=> ?_⟩
              · cases c;exact E l
              · cases c;exact o u
              · cases L;refine⟨B,by rw [getElem?_append_left (List.getElem?_eq_some_iff.1 I).1];exact I,λh=> ?_⟩;have h:(B.g&& (if want then b else !b))=true:=h;simp only [Bool.and_eq_true]at h;exact h.1
            obtain⟨K,P,W⟩:=ext ⟨some d,want,some U,B.g&& (if want then b else !b),false⟩ _ rfl N;refine .run K W rfl P (λa T F V=> ?_) (λa T F O=> ?_)
            · obtain⟨g,D⟩:=E a;rw [C,D];exact gG (λ_=>V) (λh=>absurd rfl h)
            · rcases o a with⟨g,D⟩ | D
              · rw [C,D];exact gG (λh=>by cases want<;>simp at h) (λ_=>O)
              · rw [C,D];exact O
          · exact absurd j.symm Q
      · split at j
        · subst j;obtain⟨pv,H,J⟩:=w;have:pv=rZ:=by
            cases J with
            | one h=>cases h with
              | agg hs _=>simp [bK]at hs
            | tup h=>cases h;rfl
          subst this;exact .skip λT F o=>by rw [C,H];exact o
        · exact absurd j.symm Q
      · exact absurd j.symm Q
end
end Go.TX
namespace Go.TX
open Go Go.AE List
section
variable {n:Nat}
theorem SR.kill{f:St}{s:RSt (std n)}(S:SR f s){t:Nat}{e:GE (std n)}(d:s.gs[t]? =some e)(l:e.g=false):SR f {s with gs:=Db (std n) s.gs t}:=by
 have hk:Db (std n) s.gs t=s.gs.set t {e with dead:=true}:=by unfold Db;rw [d]
 have g:=(List.getElem?_eq_some_iff.1 d).1;have a:∀(i:Nat) (x:GE (std n)),s.gs[i]? =some x->∃j,(s.gs.set t {e with dead:=true})[i]? =some j/\j.g=x.g:=λi x b=>by
  by_cases h:t=i
  .subst h;rw [d]at b;cases b;exact⟨_,getElem?_set_self g,rfl⟩
  .exact⟨x,by rw [getElem?_set_ne h];exact b,rfl⟩
 rw [hk];refine⟨S.heap,S.len,S.m,λi r u=>(S.val i r u).mono a rfl (λ_ _ h=>h),λi x b=> ?_⟩;have c:∀ {x:GE (std n)},(∀p,x.par=some p->∃q,s.gs[p]? =some q/\(x.g=true->q.g=true))->∀p,x.par=some p->∃q,(s.gs.set t {e with dead:=true})[p]? =some q/\(x.g=true->q.g=true):=λh p o=>by
  obtain⟨q,m,y⟩:=h p o;obtain⟨w,k,v⟩:=a p q m;exact⟨w,k,λh=>by rw [v];exact y h⟩
 by_cases h:t=i
 .subst h;simp only [getElem?_set_self g,Option.some.injEq]at b;subst b;have G:=S.gs t e d;exact⟨G.yes,G.no,λ_=>l,c G.par⟩
 .simp only [getElem?_set_ne h]at b;have G:=S.gs i x b;exact⟨G.yes,G.no,G.dead,c G.par⟩
theorem Jr{E:Tab}{G:qR}{o:Oper}{s:St}{K:St->Prop}(h:jR o.op≠0)(hd:dOK s.m o.dst)(hm:Vv E G o.op s.t s λv h k=>K (St.put {s with h:=h,k:=k} o.dst (some v))):ae1 E G o s K:=by
 refine⟨hd,?_⟩;unfold Vv at hm;split
 .rename_i h0;exact absurd h0 h
 .rename_i h1;rw [h1]at hm;exact hm
 .rename_i h0 h1;split at hm
  .rename_i h2;exact absurd h2 h1
  .exact hm
theorem Nw{E:Tab}{G:qR}{o:Oper}{s:St}{K:St->Prop}(h:jR o.op=0)(hd:dOK s.m o.dst)(hm:iR E o.op s.t s.h λv=>K (s.put o.dst (some v))):ae1 E G o s K:=by
 refine⟨hd,?_⟩;rw [h];exact hm
theorem afG{m:Nat}{d:Option Nat}(h:acC m d=true):dOK m d:=by
 cases d with
 | none=>trivial
 | some d=>unfold acC at h;exact(by simpa using h:d<m)
theorem aoz{s:RSt (std n)}{d tag:Option Nat}{v:SVal}:(s.put (std n) d tag v).h=s.h/\(s.put (std n) d tag v).m=s.m:=by cases d<;>exact⟨rfl,rfl⟩
theorem afH{N:NM}:PVR N rZ (.tup []):= .tup .nil
theorem Ny{X:XT}{E:Tab}(hX:XOK X E){C:Calls aH}{q:List Oper}{ρ:Type}{K:RSt (std n)->(ρ->Prop)->Prop}{r:ρ->Prop}{h0:List aT}{m0:Nat}:∀ {rest:List Oper} {x:St} {s:RSt (std n)},SR x s->(∀k,Keep k h0 s.h)->s.m=m0->fP (std n) X C q rest K s r->
  BH E (nL C) q rest (λD=>∃z,SR D z/\(∀k,Keep k h0 z.h)/\z.m=m0/\K z r) x
 | [],x,s,S,hK0,hm0,hk=>⟨s,S,hK0,hm0,hk⟩
 | o::rest,x,s,S,hK0,hm0,hk=>by
  generalize b:fP (std n) X C q (o::rest) K s=M at hk;unfold fP at b;split at b
  .rename_i hdst;have hd:dOK x.m o.dst:=by rw [S.m];exact afG hdst
   have A:∀ {F:St} {s2:RSt (std n)} {tag:Option Nat} {v:SVal},SR F (s2.put (std n) o.dst tag v)->(∀k,Keep k s.h s2.h)->s2.m=s.m->fP (std n) X C q rest K (s2.put (std n) o.dst tag v) r->
     BH E (nL C) q rest (λD=>∃z,SR D z/\(∀k,Keep k h0 z.h)/\z.m=m0/\K z r) F:=by
    intro F s2 tag v y H W Q;have w:=aoz (n:=n) (s:=s2) (d:=o.dst) (tag:=tag) (v:=v);exact Ny hX (rest:=rest) y (λk=>by rw [w.1];exact(hK0 k).trans (H k)) (by rw [w.2,W,hm0]) Q
   have G:∀ {gs:List (GE (std n))},SR x {s with gs:=gs}->∀ {al:List Nat},(∀t∈al,∃e,gs[t]? =some e/\e.g=true)->EvR X E n (nmh s.h) x.t (iT (std n) (dN (std n) s.t) al):=λS _ a0=>uT (λ_ _=>rfl) S.val a0
   unfold BH Ei;split at b
   .rename_i hguard;rw [hguard];simp only;split at b
    .rename_i a;have a:jR o.op=0:=by simpa using a
     split at b
     .rename_i ps v hv;subst b;obtain⟨l,hk⟩:=gV hk;rw [G9]at hk;obtain⟨pv,p1,R⟩:=Aj hX S.heap S.gs (tt:=x.t) (λ_ _=>rfl) S.val (cur:=none) (λt h=>by cases h) hv l;refine Nw a hd (R _ (A (S.put (tag:=none) ⟨pv,rfl,p1⟩) (λ_=> .refl _ _) rfl hk))
     ·(subst b;exact hk.elim)
    .rename_i a;have a:jR o.op≠0:=by simpa using a
     split at b
     .rename_i cr hcr;subst b;obtain⟨l,hk⟩:=gV hk;obtain⟨v,k,m,hk⟩:=EB hk;obtain⟨v',k',w,_,N⟩:=EA hX S.heap S.len (G S (al:=[]) (λt h=>by simp at h)) hcr l ⟨v,k,m⟩;rw [m]at w;cases w;refine Jr a hd (N _ λpv J j O P I L=> ?_);have y:=S.BQ I.same P L;exact A (s2:={s with h:=k}) (y.put (tag:=none) ⟨pv,rfl,O⟩) I.Td rfl hk
     ·(subst b;exact hk.elim)
   .rename_i j want hguard;rw [hguard];simp only;refine⟨hd,?_⟩;split at b
    .rename_i d hgs;rw [hgs];simp only [F6];have B:=λhb=>Jq S (lk:=dN (std n) s.t) (λ_ _ h=>h) (tt:=x.t) (d:=d) (want:=want) (λ_=>rfl) rfl hb
     split at b
     .rename_i hr;rw [hr]at B;subst b;cases B (by simp)with | skip h=>
      refine h _ _ (A (s2:=s) (S.put (tag:=none) ⟨rZ,rfl,afH⟩) (λ_=> .refl _ _) rfl hk)
     .rename_i gs t g hr;rw [hr]at B;cases B (by simp)with | run p i c uU V Y=>
      rename_i e;subst c;have u:e.g=true->∀Z,some t=some Z->∃e,gs[Z]? =some e/\e.g=true:=λh Z ht=>by cases ht;exact⟨e,i,h⟩
      split at b
      .rename_i a;have a:jR o.op=0:=by simpa using a
       split at b
       .rename_i ps v hv;subst b;obtain⟨l,hk⟩:=gV hk;cases c:e.g with
        | true=>
         obtain⟨pv,p1,R⟩:=Aj hX p.heap p.gs (tt:=x.t) (λ_ _=>rfl) uU (u c) hv (Dl l c);refine V c _ _ (Nw a hd (R _ (A (s2:={s with gs:=gs}) (p.put (tag:=some t) ⟨e,i,λ_=>⟨pv,rfl,p1⟩,λh=>by rw [c]at h;cases h⟩) (λ_=> .refl _ _) rfl hk)))
        | false=>
         exact Y c _ _ (A (s2:={s with gs:=gs}) (p.put (tag:=some t) ⟨e,i,λh=>(by rw [c]at h;cases h),λ_=>rfl⟩) (λ_=> .refl _ _) rfl hk)
       ·(subst b;exact hk.elim)
      .rename_i a;have a:jR o.op≠0:=by simpa using a
       split at b
       .rename_i cr hcr;split at b
        .rename_i hpure;subst b;obtain⟨l,hk⟩:=gV hk;obtain⟨v,k,m,hk⟩:=EB hk;cases c:e.g with
         | true=>
          obtain⟨v',k',w,e2,N⟩:=EA hX p.heap p.len (G p (sW p.gs (u c) (f:=gs.length+1))) hcr (Dl l c) ⟨v,k,m⟩;rw [m]at w;cases w;obtain⟨rfl,a5⟩:=e2 hpure;refine V c _ _ (Jr a hd (N _ λpv J j O P I L=> ?_));have y:=p.BQ (Same.refl _) P L;exact A (s2:={s with gs:=gs}) (y.put (tag:=some t) ⟨e,i,λ_=>⟨pv,rfl,O⟩,λh=>by rw [c]at h;cases h⟩) (λ_=> .refl _ _) rfl hk
         | false=>
          exact Y c _ _ (A (s2:={s with gs:=gs}) (p.put (tag:=some t) ⟨e,i,λh=>(by rw [c]at h;cases h),λ_=>rfl⟩) (λ_=> .refl _ _) rfl hk)
        .subst b;obtain⟨T,U⟩:(e.g=true->jw (std n) cr.ck (wW (std n) cr λv h=>fP (std n) X C q rest K (RSt.put (std n) {s with h:=h,gs:=gs} o.dst none v)) r)/\(e.g=false->fP (std n) X C q rest K (RSt.put (std n) {s with gs:=Db (std n) gs t} o.dst none (.tup [])) r):=hk;cases c:e.g with
         | true=>
          obtain⟨l,hk⟩:=gV (T c);obtain⟨v,k,m,hk⟩:=EB hk;obtain⟨v',k',w,e2,N⟩:=EA hX p.heap p.len (G p (sW p.gs (u c) (f:=gs.length+1))) hcr l ⟨v,k,m⟩;rw [m]at w;cases w;refine V c _ _ (Jr a hd (N _ λpv J j O P I L=> ?_));have y:=p.BQ I.same P L;exact A (s2:={s with h:=k,gs:=gs}) (y.put (tag:=none) ⟨pv,rfl,O⟩) I.Td rfl hk
         | false=>
          have hk:=U c;have y:=p.kill i c;exact Y c _ _ (A (s2:={s with gs:=Db (std n) gs t}) (y.put (tag:=none) ⟨rZ,rfl,afH⟩) (λ_=> .refl _ _) rfl hk)
       ·(subst b;exact hk.elim)
     ·(subst b;exact hk.elim)
    ·(subst b;exact hk.elim)
  ·(subst b;exact hk.elim)
end
end Go.TX
namespace Go.TX
open Go Go.AE List
variable [aB]
section
variable {n:Nat}
theorem afI{t:Slots}{r:Nat}:∀ {a:List Nat},r∈a->bq (cut t a) r=bq t r
 | [],h=>by simp at h
 | x::a,h=>by
  simp only [cut,bq];split
  .rename_i e;rw [e]
  .rename_i e;cases h with
   | head=>exact absurd rfl e
   | tail _ h=>exact afI h
theorem aqp{h:List aT}{x:Cell}{y:SC}(a:RC (nmh h) x y){s:Sh}{f:Bool}{v:LV aH}(hk:gu (std n) h s y=some (f,v,[])):∃g,(f=true->g=true)/\ZC x g (lvD s v):=by
 unfold gu at hk;split at hk
 .rename_i f0 lf;split at hk
  .rename_i e;subst e;cases hk;cases a with | d k b=>
   rename_i i l;subst k;rw [Jg];refine⟨i || (qY lf).qp,λh=> ?_,.d _ _⟩;rw [kJ];cases lf with
   | rows c j=>grind [Leaf.flag,Leaf.scalar]
   | _=>simp [Leaf.scalar]
  .cases hk
 .cases a;split at hk
  .cases hk;exact⟨true,λ_=>rfl,.nil _⟩
  .cases hk
 .rename_i f0 c j;cases a with | clip b=>
  split at hk
  .rename_i e;subst e;cases hk;exact⟨_,b,.clip _ _ _⟩
  .cases hk
 .split at hk
  all_goals simp_all
 .cases hk
theorem Te{h:List aT}:∀ {d:List Sh} {c:List SC} {b:List Cell} (_:F2 (RC (nmh h)) b c) {f:Bool} {a:List (LV aH)},aP (std n) h d c=some (f,a,[])->∃g,(f=true->g=true)/\ZCs b g (zipWith lvD d a)
 | [],[],b,hF,f,a,hk=>by simp [aP]at hk;obtain⟨rfl,rfl⟩:=hk;cases hF;exact⟨true,λ_=>rfl,.nil⟩
 | [],_::_,_,_,_,_,hk=>by simp [aP]at hk
 | _::_,[],_,_,_,_,hk=>by simp [aP]at hk
 | s::d,y::c,b,hF,f,a,hk=>by
  cases hF with | cons k j=>
  unfold aP at hk;split at hk
  .rename_i f1 v1 l1 hv1;split at hk
   .rename_i g2 vs2 ls2 hv2;split at hk
    .simp only [Option.some.injEq,Prod.mk.injEq,append_eq_nil_iff]at hk;obtain⟨rfl,rfl,rfl,rfl⟩:=hk;obtain⟨e,p,i⟩:=aqp k hv1;obtain⟨l,o,m⟩:=Te j hv2;exact⟨e&&l,λh=>by simp_all,.cons i m⟩
    .cases hk
   .cases hk
  .cases hk
theorem Nz{N:NM}:∀ {a:List (Leaf aH)} {b:List Cell} {f:Bool},F2 (RC N) b (a.map (.d f))->∃g,(f=true\/(∀y∈a,y.scalar=true)->g=true)/\ZCs b g (a.map qY)
 | [],_,_,h=>by cases h;exact⟨true,λ_=>rfl,.nil⟩
 | y::a,_,f,.cons h1 h2=>by
  obtain⟨g,l,e⟩:=Nz h2;cases h1 with | d i k=>
  rename_i c j;subst i;refine⟨(c || (qY y).qp)&&g,λh=> ?_,.cons (.d _ _) e⟩
  grind [kJ,mem_cons_of_mem]
theorem aw2{h:List aT}{p:PV}{q:SVal}(a:PVR (nmh h) p q){c:Co}{f:Bool}{x:c.den}(hk:toX (std n) h c q=some (f,x,[])):∃g,(f=true->g=true)/\ZCs (aX p) g (c.row x):=by
 unfold toX at hk;split at hk
 .rename_i f' c' x';split at hk
  .rename_i e;subst e;cases hk;have d:=a.cells;have j:cellsS (.sv f' c' x')=(gM (std 0) c' x' 0 c'.fields).map (.d f'):=rfl;rw [j]at d;obtain⟨g,i,b⟩:=Nz d;rw [oL]at b
   grind [mX]
  .cases hk
 .cases hk
 .split at hk
  .rename_i f1 ys ls1 h1;split at hk
   .rename_i t ht;simp only [Option.some.injEq,Prod.mk.injEq]at hk;obtain⟨rfl,rfl,rfl⟩:=hk;rw [dI]at h1;obtain⟨g,i,b⟩:=Te a.cells h1
    grind [Dh]
   .cases hk
  .cases hk
theorem acS{X:XT}{E:Tab}(hX:XOK X E){t:Slots}{e:Nat->Option SVal}{c:Co}{h:List aT}(l:EvR X E n (nmh h) t e):∀ {a:List (Nat×Operand)} {f:Bool} {b:List c.den} {k:List aT},vI (std n) X e c h a=some (f,b,k,[])->
  ∃g,(f=true->g=true)/\b.length=a.length/\ZPs E t c.size a g (aR c b)
 | [],f,b,k,hk=>by
  simp only [vI,Option.some.injEq,Prod.mk.injEq]at hk;obtain⟨rfl,rfl,_⟩:=hk;exact⟨true,λ_=>rfl,rfl,.nil⟩
 | (i,x)::r,f,b,k,hk=>by
  simp only [vI]at hk;split at hk
  .rename_i v hv;split at hk
   .rename_i f1 y l1 hy;split at hk
    .rename_i g1 ys k1 l2 hys;simp only [Option.some.injEq,Prod.mk.injEq,append_eq_nil_iff]at hk;obtain⟨rfl,rfl,_,rfl,rfl⟩:=hk;obtain⟨pv,u,o⟩:=dO hX l hv;obtain⟨m,C,j⟩:=aw2 o hy;obtain⟨p,B,z,q⟩:=acS hX l (h:=h) hys;have w:(aX pv).length=c.size:=by
      have:∀ {cs:List Cell} {g:Bool} {d:List D},ZCs cs g d->cs.length=d.length:=by
       intro cs g d s
       induction s with
       | nil=>rfl
       | cons _ _ A=>simp [A]
      rw [this j,vO]
     exact⟨m&&p,λh=>by simp_all,by simp [z],.cons u w j q⟩
    .cases hk
   .cases hk
  .cases hk
theorem aAJ{X:XT}{E:Tab}(hX:XOK X E){t:Slots}{e:Nat->Option SVal}{h:List aT}(r:EvR X E n (nmh h) t e){l:Op}{o:List Bool}{v:SVal}(hk:zX (std n) X e h l=some (o,v)):Gv (zA E l t) (nmh h) v:=by
 unfold zX at hk;split at hk
 .rename_i ty len parts;rw [hX.ty]at hk;split at hk
  .rename_i y hy;split at hk
   .rename_i el hd;split at hk
    .rename_i z c hz hco;split at hk
     .rename_i hcond;simp only [Bool.and_eq_true,Bool.not_eq_true',beq_iff_eq,beq_eq_false_iff_ne,ne_eq]at hcond;obtain⟨⟨⟨i,m⟩,a⟩,b⟩:=hcond;have b:=Nat.le_of_ble_eq_true b;obtain⟨s,d,q⟩:=iC hX i;rw [hz]at d;cases d;split at hk
      .rename_i f xs k hps;cases hk;obtain⟨g,p,w,u⟩:=acS hX r hps;have j:xs.length=len:=by
        have:=congrArg List.length a
        grind
       refine⟨.c (.clip g c.size (aR c xs)),.ofC (.clip p),λK hK=> ?_⟩
       grind [zA,aG,aR,aZ]
      .cases hk
     .cases hk
    .cases hk
   .cases hk
  .cases hk
 .cases hk
theorem Tf{E:Tab}{N:NM}{d a:Heap}{ty:TypeId}{pv:PV}{q:SVal}(b:PVR N pv q)(h:∀l∈yO (std n) q,AE.look a l=AE.look d l)(K:PV->Prop):oC E a ty pv K=oC E d ty pv K:=by
 have g:∀l f i j,pv= .c (.ptr l f i j)->AE.look a l=AE.look d l:=by
  intro l f i j e;subst e;cases b with | one b=>cases b with | c hc=>
  cases hc with
  | pb=>simp_all [yO]
  | pr _=>simp_all [yO]
 grind [oC,aG]
theorem stable{X:XT}{E:Tab}(hX:XOK X E){N:NM}{d b:Heap}{t:Slots}{e:Nat->Option SVal}(j:EvR X E n N t e){a:Op}(g:∀l∈iY (std n) X e a,AE.look b l=AE.look d l)(c:isLoad a=true->∃ty x q,a= .load ty x/\evX (std n) X e x=some q)(K:PV->Prop):
  iR E a t b K=iR E a t d K:=by
 cases hL:isLoad a with
 | false=>rw [BK hL]
 | true=>
  obtain⟨ty,x,q,rfl,f⟩:=c hL;obtain⟨pv,i,h⟩:=dO hX j f;simp only [iY,f]at g;unfold iR;simp only;rw [i];simp only [aY];exact Tf h g K
def HI(E:Tab)(ops:List Oper)(c:Heap)(h:List aT)(b:List Held)(e:List (Nat×List Nat)):Prop:=∀p∈e,(∀l∈p.2,l<h.length)/\∃o t v,sP b p.1=some (o,t,v)/\
 ∀a,(∀l∈p.2,AE.look a l=AE.look c l)->jF E ops o t a (λd=>d=v)
theorem HI.turn{E:Tab}{ops:List Oper}{f b:Heap}{h k:List aT}{a:List Held}{j:List (Nat×List Nat)}(H:HI E ops f h a j){i:List Nat}(x:jI f h b k i):HI E ops b k a (qX j i):=by
 intro p d;simp only [qX,mem_filter]at d;obtain⟨d,hn⟩:=d;obtain⟨g,o,t,v,m,q⟩:=H p d;refine⟨λl c=>Nat.lt_of_lt_of_le (g l c) x.len,o,t,v,m,λe n=>q e λl c=> ?_⟩;have:=all_eq_true.1 hn l c;rw [n l c,(x.keep l (g l c) (by simpa using this)).2]
theorem Dm(a:List (Nat×List Nat)):qX a []=a:=by grind [qX,filter_eq_self]
theorem Hg{E:Tab}{ops:List Oper}{d a:Heap}{h k:List aT}{b:List Held}{f:List (Nat×List Nat)}(H:HI E ops d h b f){e:List Nat}(x:jI d h a k e):∀ {cs:List Nat},cs.all (OO f e)=true->UW E ops a b cs
 | [],_=>trivial
 | j::r,hc=>by
  simp only [all_cons,Bool.and_eq_true]at hc;refine⟨?_,Hg H x hc.2⟩;have i:=hc.1;simp only [OO,any_eq_true,Bool.and_eq_true,beq_iff_eq]at i;obtain⟨p,q,c,g⟩:=i;obtain⟨n,o,t,v,m,u⟩:=H p q;rw [<-c,m];refine u a λl s=>(x.keep l (n l s) ?_).2
  simp_all
theorem HI.push{E:Tab}{ops:List Oper}{h':Heap}{h:List aT}{a:List Held}{j:List (Nat×List Nat)}(H:HI E ops h' h a j){i:Nat}(n:¬(j.any λp=>p.1==i)=true){d:List Nat}{o:Oper}{t:Slots}{v:Option PV}
  (g:∀l∈d,l<h.length) (f:∀b,(∀l∈d,AE.look b l=AE.look h' l)->jF E ops o t b (λk=>k=v)):HI E ops h' h ((i,o,t,v)::a) ((i,d)::j):=by
 intro p c;cases c with
 | head=>exact⟨g,o,t,v,by simp [sP],f⟩
 | tail _ c=>
  obtain⟨s,w,r,k,q,u⟩:=H p c;have m:i≠p.1:=λe=>n (by rw [any_eq_true];exact⟨p,c,by simp [e]⟩)
  grind [Si]
theorem NA{E:Tab}{X:XT}{N:NM}{t:Slots}{e:Nat->Option SVal}(d:EvR X E n N t e){k:Int}:∀ {l:List (Int×Nat)} {b:Bool},G7 (std n) e k l=some b->∀K:Bool->Prop,K b->II t k l K
 | [],b,h,K,a=>by cases h;exact a
 | (k',r)::rest,b,h,K,a=>by
  unfold G7 at h;split at h
  .rename_i f b1 hr;split at h
   .rename_i q hq;cases h;obtain⟨pv,j,i⟩:=d r _ hr;obtain⟨g,rfl⟩:=i.bool;refine⟨g,b1,j,?_⟩;have a:K (bif decide (k=k')then b1 else q):=a;by_cases c:k=k'
    .simp_all
    .rw [dY c];rw [decide_eq_false c]at a;exact NA d hq K a
   .cases h
  .cases h
theorem Vw{X:XT}{g:List Oper}{e:Nat->Option SVal}{h:List aT}{f:Op}(c:IK f=true):Vn (std n) X g e h f=match zX (std n) X e h f with | some r=>some (some r) | none=>none:=by
 cases f
 case makeMap=>cases c
 case insert=>cases c
 case move=>cases c
 case lookup a b q d=>cases q<;>first | rfl | cases c
 all_goals grind [Vn,zX]
theorem map_ok{X:XT}{E:Tab}(hX:XOK X E){ops:List Oper}{t:Slots}{e:Nat->Option SVal}{h:List aT}(k:EvR X E n (nmh h) t e){i:Op}{r:Option (List Bool×SVal)}(hk:Vn (std n) X ops e h i=some r):
  match r with | none=>∀K:Option PV->Prop,K none->zM E ops i t K | some (_,v)=>∃pv,PVR (nmh h) pv v/\∀K:Option PV->Prop,K (some pv)->zM E ops i t K:=by
 by_cases l:IK i=true
 .rw [Vw l]at hk;split at hk
  .rename_i q hq;cases hk;obtain⟨p,v⟩:=q;obtain⟨pv,j,o⟩:=aAJ hX k hq
   grind [CU]
  .cases hk
 .cases i
  case makeMap=>cases hk;exact λK h=>h
  case insert a b c v=>
   cases v with
   | tmp r=>
    simp only [Vn]at hk;cases hq:e r with
    | some q=>
     rw [hq]at hk;cases hk;obtain⟨pv,j,_⟩:=k _ _ hq;exact λK h=>⟨⟨pv,j⟩,h⟩
    | none=>grind
   | _=>cases hk
  case move x=>
   simp only [Vn]at hk;split at hk
   .rename_i hs;cases hk;exact λK h=>⟨hs,h⟩
   .cases hk
  case lookup a b q d=>
   cases q with
   | tmp q=>
    simp only [Vn]at hk;split at hk
    .rename_i f m hq;split at hk
     .rename_i bb hb;cases hk;obtain⟨pv,j,o⟩:=k _ _ hq;obtain⟨g,rfl⟩:=o.int;exact⟨_,.ofC (.d rfl λ_=> .inl rfl),λK hK=>⟨g,m,j,NA k hb _ hK⟩⟩
     .cases hk
    .cases hk
   | _=>exact absurd rfl l
  all_goals exact absurd rfl l
theorem BR{X:XT}{gs:List (GE (std n))}{lk:Nat->Option (SV (std n))}{h:List aT}{cur:Option Nat}{a:Op}{d:List Bool}{v:SVal}(hk:yM (std n) X lk gs h cur a=some (d,v))(b:isLoad a=true):
  (∃ty x q,a= .load ty x/\evX (std n) X (iT (std n) lk (fG (std n) gs cur)) x=some q)/\∀l∈iY (std n) X (iT (std n) lk (fG (std n) gs cur)) a,l<h.length:=by
 cases a<;>simp only [isLoad,Bool.false_eq_true]at b
 rename_i ty x;simp only [yM,acA]at hk;obtain⟨q,c,hk⟩:=eF hk;refine⟨⟨ty,x,q,rfl,c⟩,λl b=> ?_⟩;simp only [iY,c]at b;unfold Sv at hk;split at hk
 .cases hk
 .unfold yO at b;split at b
  all_goals grind
end
end Go.TX
namespace Go.TX
open Go Go.AE List
variable [aB]
section
variable {n:Nat}
theorem EC(gs:List (GE (std n))):fG (std n) gs none=[]:=by unfold fG;rw [Vm];simp
theorem Js{E:Tab}{ops:List Oper}{o:Oper}(a:o.guard=none)(t:Slots)(h:Heap)(K:Option PV->Prop):jF E ops o t h K=iR E o.op t h λv=>K (some v):=by unfold jF;rw [a]
theorem vS{E:Tab}{ops:List Oper}{o:Oper}{j d:Nat}{w:Bool}(a:o.guard=some (j,w))(hd:gslot ops j=some d)(t:Slots)(h:Heap)(K:Option PV->Prop):
 jF E ops o t h K=oJ (bq t d) w (iR E o.op t h λv=>K (some v)) (K (some rZ)):=by unfold jF;rw [a];simp only;rw [hd];rfl
theorem OX{X:XT}{E:Tab}(hX:XOK X E){C:Calls aH}{ops:List Oper}{ρ:Type}{K:RSt (std n)->(ρ->Prop)->Prop}{r:ρ->Prop}{h0:List aT}{m0:Nat}:∀ {rest:List fU} {hs:List (Nat×List Nat)} {hs':List Held} {u:St} {s:RSt (std n)},SR u s->(∀k,Keep k h0 s.h)->s.m=m0->
    HI E ops u.h s.h hs' hs->jS (std n) X C ops rest hs K s r->
    fO E (nL C) ops rest hs' (λG=>∃A,SR G A/\(∀k,Keep k h0 A.h)/\A.m=m0/\K A r) u
  | [],hs,hs',u,s,S,hK0,hm0,HH,hk=>⟨s,S,hK0,hm0,hk⟩
  | (i,rs,cs)::rest,hs,hs',u,s,S,hK0,hm0,HH,hk=>by
    generalize c:jS (std n) X C ops ((i,rs,cs)::rest) hs K s=M at hk;unfold jS at c;unfold fO;split at c
    · (subst c;exact hk.elim)
    · rename_i o ho;rw [ho];simp only [aot];split at c
      · rename_i b4;have hd:dOK u.m o.dst:=by rw [S.m];exact afG b4
        refine⟨hd,?_⟩;simp only at c;have R:∀i J,(if rs.contains i then dN (std n) s.t i else none)=some J->dN (std n) s.t i=some J:=λi J h=>by
          split at h
          · exact h
          · cases h
        have afJ:∀d,(if rs.contains d then dN (std n) s.t d else none).isSome->bq (cut u.t rs) d=bq u.t d:=λd h=>by
          split at h
          · rename_i hc;exact afI (by simpa using hc)
          · cases h
        have I:∀ {gs:List (GE (std n))},SR u {s with gs:=gs}->∀ {al:List Nat},(∀t∈al,∃e,gs[t]? =some e/\e.g=true)->EvR X E n (nmh s.h) (cut u.t rs) (iT (std n) (λi=>if rs.contains i then dN (std n) s.t i else none) al):=
          λy _ b9=>uT (t':=u.t) afJ (λi J h=>y.val i J (R i J h)) b9
        have P:∀ {Z:St} {s2:RSt (std n)} {tag:Option Nat} {v:SVal} {b0:List (Nat×List Nat)} {aqr:List Held},SR Z (s2.put (std n) o.dst tag v)->(∀k,Keep k s.h s2.h)->s2.m=s.m->HI E ops Z.h s2.h aqr b0->jS (std n) X C ops rest b0 K (s2.put (std n) o.dst tag v) r->
            fO E (nL C) ops rest aqr (λG=>∃A,SR G A/\(∀k,Keep k h0 A.h)/\A.m=m0/\K A r) Z:=by
          intro Z s2 tag v b0 aqr T b1 c2 H a0;have F:=aoz (n:=n) (s:=s2) (d:=o.dst) (tag:=tag) (v:=v);exact OX hX (rest:=rest) T (λk=>by rw [F.1];exact(hK0 k).trans (b1 k)) (by rw [F.2,c2,hm0]) (by rw [F.1];exact H) a0
        have OY:∀(d:Option Nat) (v:Option PV),(u.put d v).h=u.h:=λd v=>by cases d<;>rfl
        split at c
        ·
          rename_i b;split at c
          · (subst c;exact hk.elim)
          rename_i L;split at c
          · rename_i a;rw [b];split at c
            · rename_i ps v x;subst c;obtain⟨q,hk⟩:=gV hk;rw [G9]at hk;have uU:∀i J,(if rs.contains i then dN (std n) s.t i else none)=some J->Dk s.gs u.t (nmh s.h) i J:=λi J h=>S.val i J (R i J h)
              obtain⟨pv,p1,Y⟩:=Aj hX S.heap S.gs afJ uU (cur:=none) (λt h=>by cases h) x q;simp only;rw [Js a];have a5:=I S (al:=fG (std n) s.gs none) (λt h=>by rw [EC]at h;simp at h);rw [EC]at a5;have a9:=λO=>BR x O
              rw [EC]at a9;have c1:∀w,(∀l∈iY (std n) X (iT (std n) (λi=>if rs.contains i then dN (std n) s.t i else none) []) o.op,AE.look w l=AE.look u.h l)->jF E ops o (cut u.t rs) w (λv'=>v'=some pv):=λw hh=>by
                rw [Js a,stable hX a5 hh (λO=>(a9 O).1)];exact Y _ rfl
              have a7:∀l∈iY (std n) X (iT (std n) (λi=>if rs.contains i then dN (std n) s.t i else none) []) o.op,l<s.h.length:=λl U=>by
                cases O:isLoad o.op with
                | true=>exact(a9 O).2 l U
                | false => unfold iY at U; split at U
                           · rename_i V;rw [V]at O;simp [isLoad]at O
                           · simp at U
              exact Y _ (P (s2:=s) (S.put (tag:=none) ⟨pv,rfl,p1⟩) (λ_=> .refl _ _) rfl (by rw [OY];exact HH.push L a7 c1) hk)
            · (subst c;exact hk.elim)
          · rename_i j want a;rw [b];split at c
            · rename_i d N;have z:=λhb=>Jq S (lk:=λi=>if rs.contains i then dN (std n) s.t i else none) R (tt:=cut u.t rs) (d:=d) (want:=want) (afJ d) rfl hb
              simp only;rw [vS a N];split at c
              · rename_i W;rw [W]at z;subst c;cases z (by simp)with | skip h=>
                refine h _ _ (P (s2:=s) (S.put (tag:=none) ⟨rZ,rfl,afH⟩) (λ_=> .refl _ _) rfl (by rw [OY];exact HH.push L (λl U=>by simp at U) (λw _=>by rw [vS a N];exact h _ _ rfl)) hk)
              · rename_i gs t g W;rw [W]at z;cases z (by simp)with | run y m p uU hT hF=>
                rename_i e;subst p;split at c
                · rename_i ps v x;subst c;obtain⟨q,hk⟩:=gV hk;have a7:∀l∈iY (std n) X (iT (std n) (λi=>if rs.contains i then dN (std n) s.t i else none) (fG (std n) gs (some t))) o.op,l<s.h.length:=λl U=>by
                    cases O:isLoad o.op with
                    | true=>exact(BR x O).2 l U
                    | false => unfold iY at U; split at U
                               · rename_i V;rw [V]at O;simp [isLoad]at O
                               · simp at U
                  cases p:e.g with
                  | true=>
                    have D:∀t0,some t=some t0->∃e,gs[t0]? =some e/\e.g=true:=λt0 ht=>by cases ht;exact⟨e,m,p⟩
                    obtain⟨pv,p1,Y⟩:=Aj hX y.heap y.gs afJ (λi J h=>uU i J (R i J h)) D x (Dl q p);have a5:EvR X E n (nmh s.h) (cut u.t rs) (iT (std n) (λi=>if rs.contains i then dN (std n) s.t i else none) (fG (std n) gs (some t))):=I y (sW y.gs D (f:=gs.length+1));refine hT p _ _ (Y _ (P (s2:={s with gs:=gs}) (y.put (tag:=some t) ⟨e,m,λ_=>⟨pv,rfl,p1⟩,λh=>by rw [p]at h;cases h⟩) (λ_=> .refl _ _) rfl (by
                      rw [OY];refine HH.push L a7 (λw hh=> ?_);rw [vS a N,stable hX a5 hh (λO=>(BR x O).1)];exact hT p _ _ (Y _ rfl)) hk))
                  | false=>
                    exact hF p _ _ (P (s2:={s with gs:=gs}) (y.put (tag:=some t) ⟨e,m,λh=>(by rw [p]at h;cases h),λ_=>rfl⟩) (λ_=> .refl _ _) rfl (by
                      rw [OY];refine HH.push L a7 (λw hh=> ?_);rw [vS a N];exact hF p _ _ rfl) hk)
                · (subst c;exact hk.elim)
              · (subst c;exact hk.elim)
            · (subst c;exact hk.elim)
        · rename_i b;rw [b];split at c
          · rename_i ps v x;subst c;obtain⟨q,hk⟩:=gV hk;obtain⟨pv,p1,Y⟩:=map_ok hX (ops:=ops) (I S (al:=[]) (λt h=>by simp at h)) x;simp only;exact Y _ (P (s2:=s) (S.put (tag:=none) ⟨pv,rfl,p1⟩) (λ_=> .refl _ _) rfl (by rw [OY];exact HH) hk)
          · rename_i x;subst c;have Y:=map_ok hX (ops:=ops) (I S (al:=[]) (λt h=>by simp at h)) x;simp only;refine Y _ ?_;have F:=aw0 (n:=n) (s:=s) (d:=o.dst);exact OX hX (rest:=rest) S.del (λk=>by rw [F.1];exact hK0 k) (by rw [F.2,hm0]) (by rw [F.1,OY];exact HH) hk
          · (subst c;exact hk.elim)
        · rename_i b;rw [b];split at c
          · rename_i W x;subst c;obtain⟨q,hk⟩:=gV hk;have b8:EvR X E n (nmh s.h) [] (λ_=>none):=λi v h=>by cases h
            obtain⟨pv,w,j,q1,q2,q3,q4,q5⟩:=OV hX S.heap S.len b8 x q;simp only;have T:=S.BQ q3.same q2 q4;have b2:W.touched=[]:=by
              unfold kindOf at b;split at b
              · rename_i ty V;rw [V]at x;simp only [I8]at x;split at x
                · split at x
                  · split at x<;>(cases x;rfl)
                  · cases x;rfl
                  · cases x
                · cases x
              all_goals first | cases b | (split at b<;>cases b)
            have H:=HH.turn q3;rw [b2,Dm]at H;exact q5 _ (P (s2:={s with h:=W.h}) (T.put (tag:=none) ⟨pv,rfl,q1⟩) q3.Td rfl (by cases o.dst<;>exact H) hk)
          · (subst c;exact hk.elim)
        · rename_i b5 b7 a0;split at c
          · rename_i a;split at c
            · rename_i cr a8;split at c
              · rename_i a6;subst c;obtain⟨q,hk⟩:=gV hk;obtain⟨v,k,B,hk⟩:=EB hk;obtain⟨v',k',F,_,e3⟩:=EA hX S.heap S.len (I S (al:=[]) (λt h=>by simp at h)) a8 q ⟨v,k,B⟩;rw [B]at F;cases F;split
                · rename_i h;exact absurd h b5
                · rename_i h;exact absurd h b7
                · rename_i h;exact absurd h a0
                · rw [a];refine e3 _ λpv w j a1 a2 Q a4=>⟨Hg HH Q a6,?_⟩
                  have T:=S.BQ Q.same a2 a4;exact P (s2:={s with h:=k}) (T.put (tag:=none) ⟨pv,rfl,a1⟩) Q.Td rfl (by cases o.dst<;>exact HH.turn Q) hk
              · (subst c;exact hk.elim)
            · (subst c;exact hk.elim)
          · rename_i j want a;split at c
            · rename_i d N;have z:=λhb=>Jq S (lk:=λi=>if rs.contains i then dN (std n) s.t i else none) R (tt:=cut u.t rs) (d:=d) (want:=want) (afJ d) rfl hb
              have b6:oJ (bq (cut u.t rs) d) want
                  (aec E (nL C) o (cut u.t rs) u λv h k=>UW E ops h hs' cs/\fO E (nL C) ops rest hs' (λG=>∃A,SR G A/\(∀k,Keep k h0 A.h)/\A.m=m0/\K A r) (St.put {u with h:=h,k:=k} o.dst (some v)))
                  (fO E (nL C) ops rest hs' (λG=>∃A,SR G A/\(∀k,Keep k h0 A.h)/\A.m=m0/\K A r) (u.put o.dst (some rZ))):=by
                split at c
                · rename_i W;rw [W]at z;subst c;cases z (by simp)with | skip h=>
                  exact h _ _ (P (s2:=s) (S.put (tag:=none) ⟨rZ,rfl,afH⟩) (λ_=> .refl _ _) rfl (by rw [OY];exact HH) hk)
                · rename_i gs t g W;rw [W]at z;cases z (by simp)with | run y m p uU hT hF=>
                  rename_i e;subst p;have D:e.g=true->∀t0,some t=some t0->∃e,gs[t0]? =some e/\e.g=true:=λh t0 ht=>by cases ht;exact⟨e,m,h⟩
                  split at c
                  · rename_i cr a8;split at c
                    · rename_i a6;split at c
                      · rename_i b3;subst c;obtain⟨q,hk⟩:=gV hk;obtain⟨v,k,B,hk⟩:=EB hk;cases p:e.g with
                        | true=>
                          obtain⟨v',k',F,e2,e3⟩:=EA hX y.heap y.len (I y (sW y.gs (D p) (f:=gs.length+1))) a8 (Dl q p) ⟨v,k,B⟩;rw [B]at F;cases F;obtain⟨rfl,b2⟩:=e2 b3;refine hT p _ _ (e3 _ λpv w j a1 a2 Q a4=>⟨Hg HH Q a6,?_⟩);have T:=y.BQ (Same.refl _) a2 a4;have H:=HH.turn Q;rw [b2,Dm]at H;exact P (s2:={s with gs:=gs}) (T.put (tag:=some t) ⟨e,m,λ_=>⟨pv,rfl,a1⟩,λh=>by rw [p]at h;cases h⟩) (λ_=> .refl _ _) rfl (by cases o.dst<;>exact H) hk
                        | false=>
                          exact hF p _ _ (P (s2:={s with gs:=gs}) (y.put (tag:=some t) ⟨e,m,λh=>(by rw [p]at h;cases h),λ_=>rfl⟩) (λ_=> .refl _ _) rfl (by rw [OY];exact HH) hk)
                      · subst c;obtain⟨c3,c0⟩:(e.g=true->jw (std n) cr.ck (wW (std n) cr λv h=>jS (std n) X C ops rest (qX hs cr.touched) K (RSt.put (std n) {s with h:=h,gs:=gs} o.dst none v)) r)/\(e.g=false->jS (std n) X C ops rest hs K (RSt.put (std n) {s with gs:=Db (std n) gs t} o.dst none (.tup [])) r):=hk;cases p:e.g with
                        | true=>
                          obtain⟨q,hk⟩:=gV (c3 p);obtain⟨v,k,B,hk⟩:=EB hk;obtain⟨v',k',F,e2,e3⟩:=EA hX y.heap y.len (I y (sW y.gs (D p) (f:=gs.length+1))) a8 q ⟨v,k,B⟩;rw [B]at F;cases F;refine hT p _ _ (e3 _ λpv w j a1 a2 Q a4=>⟨Hg HH Q a6,?_⟩);have T:=y.BQ Q.same a2 a4;exact P (s2:={s with h:=k,gs:=gs}) (T.put (tag:=none) ⟨pv,rfl,a1⟩) Q.Td rfl (by cases o.dst<;>exact HH.turn Q) hk
                        | false=>
                          have hk:=c0 p;have T:=y.kill m p;exact hF p _ _ (P (s2:={s with gs:=Db (std n) gs t}) (T.put (tag:=none) ⟨rZ,rfl,afH⟩) (λ_=> .refl _ _) rfl (by rw [OY];exact HH) hk)
                    · (subst c;exact hk.elim)
                  · (subst c;exact hk.elim)
                · (subst c;exact hk.elim)
              split
              · rename_i h;exact absurd h b5
              · rename_i h;exact absurd h b7
              · rename_i h;exact absurd h a0
              · rw [a];simp only;rw [N];exact b6
            · (subst c;exact hk.elim)
      · (subst c;exact hk.elim)
end
end Go.TX
namespace Go.TX
open Go Go.AE List
variable [aB]
section
variable {n:Nat}
theorem NC{s:RSt (std n)}:∀ {l:List (Nat×SkV)} {a e:ES (std n)},yQ (std n) s.t s.h l a=some e->
  ∃b,F2 (λi v=>dN (std n) s.t i=some ⟨none,v⟩) (l.map (·.1)) b/\sS (std n) s.h (l.map (·.2)) b a=some e
 | [],a,e,h=>by simp only [yQ,Option.some.injEq]at h;subst h;exact⟨[],.nil,rfl⟩
 | p::l,a,e,h=>by
  simp only [yQ]at h;split at h
  .rename_i v hl;split at h
   .rename_i e1 h1;obtain⟨b,c,d⟩:=NC (l:=l) h;exact⟨v::b,.cons hl c,by grind [sS]⟩
   .cases h
  .cases h
theorem OZ{k:Nat}{os:List SkO}{i:Nat}(a:i<k)(b:i<os.length):(es0 (std n) k os).ren[i]? =some (if vK os[i]? then none else some (some i)):=by
 have c:Nat.blt i k=true:=by simpa using a
 grind [es0,getElem?_range,vK]
theorem O5(k:Nat)(os:List SkO):(es0 (std n) k os).ren.length=os.length:=by simp [es0]
theorem O6{c:Ctx}{w:World}{N:NM}{us:List Value}{e:List SVal}(h:F2 (WV c w N) us e):∃d,F2 (bM c w) us d/\F2 (PVR N) d e:=by
 induction h with
 | nil=>exact⟨[],.nil,.nil⟩
 | cons i _ f=>
  obtain⟨p,a,b⟩:=i;obtain⟨d,g,j⟩:=f;exact⟨p::d,.cons a g,.cons b j⟩
theorem Jt{N:NM}:∀ {b:List Nat} {d:List SVal} {a:List PV},F2 (PVR N) a d->∀i c,dN (std n) (b.zip (d.map λv=>(⟨none,v⟩:SV (std n)))) i=some c->c.tag=none/\∃pv,bq (b.zip (a.map some)) i=some pv/\PVR N pv c.v
 | [],d,a,_,i,c,h=>by simp [dN]at h
 | j::b,[],a,hF,i,c,h=>by simp [dN]at h
 | j::b,v::d,a,hF,i,c,h=>by
  cases hF with | cons f h2=>
  simp only [map_cons,zip_cons_cons,ru]at h ⊢;simp only [bq];split at h
  .grind
  .rename_i e;rw [dY e];exact Jt h2 i c h
theorem Ju{c:Ctx}{w:World}{a:Act}:∀ {d:List Nat} {us:List Value} {b:List PV},F2 (bM c w) us b->F2 (λi u=>a.tmps[i]? =some u) d us->∀i v,bq (d.zip (b.map some)) i=some v->∃u,a.tmps[i]? =some u/\bM c w u v
 | [],us,b,_,_,i,v,h=>by simp [bq]at h
 | j::d,us,b,hF,hI,i,v,h=>by
  cases hI with | cons g e=>
  cases hF with | cons f h2=>
  simp only [map_cons,zip_cons_cons,bq]at h;split at h
  .simp_all
  .exact Ju h2 e i v h
theorem Jv{E:Tab}{d:St}{s:RSt (std n)}(S:SR d s){c:Ctx}{w:World}{a:Act}(A:o8 E d c w a):∀ {b:List Nat} {e:List SVal},F2 (λi v=>dN (std n) s.t i=some ⟨none,v⟩) b e->∃us,F2 (λi u=>a.tmps[i]? =some u) b us/\F2 (WV c w (nmh s.h)) us e
 | [],_,h=>by cases h;exact⟨[],.nil,.nil⟩
 | i::b,_,.cons h1 h2=>by
  obtain⟨us,g,m⟩:=Jv S A h2;obtain⟨pv,j,f⟩:=S.val i _ h1;obtain⟨u,l,k⟩:=A.abs.slot i pv j;exact⟨u::us,.cons l g,.cons ⟨pv,k,f⟩ m⟩
def νX(e:ES (std n))(h:List aT)(c:Ctx)(i:Nat):Option (Nat×Nat):=match e.ren[i]? with | some (some (some l))=>Jl (trK e h i l) (c.ν l) | some (some none)=>none | _=>c.ν i
theorem Tg(w:World)(K:Bool->Nat->Prop)(ν:Nat->Option (Nat×Nat))(k:Nat)(a:∀f b,K f b->b<w.heap.size)(c:∀b,K true b->K false b):bN {K:=K,ν:=ν,n:=k} w []:=
 ⟨λl o h=>by simp [AE.look]at h,λl o e g b h=>by simp [AE.look]at h,λf b ⟨l,o,d,_⟩=>by simp [AE.look]at d,a,c⟩
theorem O7{E:Tab}{k:Nat}{p:dM}{s:RSt (std n)}{ck:List Bool}{x:jy p.tys}(y:Jb (std n) k p s=some (ck,x))(J:∀b∈ck,b=true){s':St}(S:SR s' s){c:Ctx}{w:World}{a:Act}(A:o8 E s' c w a)
  {V:Ctx} {w0:World} {r:Heap} (b8:V.n=k) (g:Grow V w0 r c w s'.h) {m:Nat} (hm:s.m=m):
  ∃c2 I,Grow V w0 r c2 w I.h/\o8 E I c2 w a/\SR I (wX (std n) p m x)/\Keep k s.h (wX (std n) p m x).h/\(wX (std n) p m x).m=m:=by
 unfold Jb at y;split at y
 .cases y
 rename_i F;have F:k<=p.objs.length:=by simp_all
 split at y
 .rename_i e1 he1;split at y
  .rename_i e he;split at y
   .rename_i kX;split at y
    .rename_i x' hx';cases y;have kX:=OW kX;obtain⟨vs,v1,v2⟩:=NC he1;obtain⟨us,u1,u2⟩:=Jv S A v1;obtain⟨T,a8,a1,M,a3,a4⟩:=yU (λi=>i) v2;obtain⟨Q,D,b1,O,b3,b4,b5⟩:=uR (λi=>i) (λ_=>(.gone .i64 0:aT)) (λ_=>⟨.i64,0,rfl⟩) he;have b6:e.lv.reverse=T++Q:=by grind [es0]
     have X:=unpack_pack hx';rw [b6]at X;have a5:e.ren.length=p.objs.length:=by rw [O.len,M.len,O5]
     have U:∀(j:Nat) (kk:SkO),p.objs[j]? =some kk->∃R,D[j]? =some R/\OF e s.h (λi=>i) j kk (.gone .i64 0) R:=λj kk hj=>by
      obtain⟨R,G,C⟩:=b5 e (.refl _) j kk hj;simp_all
     have F4:wX (std n) p m x={t:=(p.slots.map (·.1)).zip (a8.map λv=>(⟨none,v⟩:SV (std n))),gs:=[],h:=D,m:=m}:=by
      unfold wX;rw [X,a3];simp only;have:=b3 [];simp_all
     have H:=A.abs.heap
     obtain⟨o',m1,m2,m3,m4,m5,_⟩:=BP (ks:=p.objs) (nm:=λi=>i) (old:=λ_=>(.gone .i64 0:aT)) H S.heap J kX a5 b4 U (cb:={K:=λ_ _=>False,ν:=νX e s.h c,n:=k}) (hb':=[])
      (Tg w _ _ _ (λ_ _ h=>h.elim) (λ_ h=>h)) false (λh=>by cases h) (ν2:=νX e s.h c) (n2:=p.objs.length) F (λ_ _=>rfl) (λi L=>L) (λi j _ _ h=>h)
      (λi l L=>by grind [νX]) (λi L=>by grind [νX]) (h2:=D) (λi _=>rfl)
      (λl o z ho=>by grind) (λ_ _=>rfl)
      (λb ⟨l,o,z,_⟩ _=>by simp [AE.look]at z) (λf b h _=>h) (λf b ⟨l,o,z,_⟩ _=>by simp [AE.look]at z)
     have a9:∀l,l<k->νX e s.h c l=c.ν l:=λl z=>by
      have r:=OZ (n:=n) z (Nat.lt_of_lt_of_le z F) (os:=p.objs);unfold νX;by_cases P:vK p.objs[l]? =true
      .have N:p.objs[l]? =some .gone:=by grind [vK]
       cases hr:e.ren[l]? with
       | none=>rfl
       | some q=>
        cases q with
        | none=>rfl
        | some v=>exact absurd N (kX.gone hr)
      .rw [dY P]at r;have:=O.ren l _ (M.ren l _ r);rw [this];have ht:lu (std n) e l=none:=by rw [O.tr l _ (M.ren l _ r),M.tr l _ r];rfl
       show Jl (trK e s.h l l) (c.ν l)=c.ν l;rw [q9 ht,mY]
     have b0:Grow V w0 r {K:=λf b=>False\/KX e c false f b,ν:=νX e s.h c,n:=p.objs.length} w (w9 (λi=>i) o' (range p.objs.length) []):=by
      refine⟨⟨λf b B=> .inr (.inl (by simpa using g.le.K f b B)),by simp_all,λl z=> ?_⟩,g.size,g.stays,g.kept,λf b B=> ?_,λb B=> ?_,g.os,g.tape,g.output⟩
      .show νX e s.h c l=V.ν l;rw [a9 l ah];exact g.le.ν l z
      .rcases B with B | B | ⟨l,f',G,C,Z⟩
       .exact B.elim
       .exact g.Az f b (by simpa using B)
       .obtain⟨_,g',cc,xs,z⟩:=kX.fro l f' G;obtain⟨R,a7,hO⟩:=S.heap.old l _ z;cases hO with | rows _=>
        exact .inr ((g.tL b ⟨l,_,a7,trivial,C⟩).elim .inr .inl)
      .rcases m4 b B with⟨l,o,z,_⟩ | ⟨i,lq,q,_,G,C,Z⟩
       .simp [AE.look]at z
       .exact g.tL b ⟨lq,q,G,C,Z⟩
     obtain⟨a6,p1,p2⟩:=O6 (a4 H S.heap (O) J m3 (λh=>by cases h) u2);refine⟨_,{t:=(p.slots.map (·.1)).zip (a6.map some),h:=w9 (λi=>i) o' (range p.objs.length) [],n:=p.objs.length,k:=0,m:=m},b0,⟨⟨λi v hv=>Ju p1 u1 i v hv,m1,?_⟩,rfl,A.defers,by rw [A.size,S.m,hm]⟩,?_,?_,by rw [F4]⟩
     .intro gg d hd;obtain⟨G,u,C,Z⟩:=A.abs.glob gg d hd;exact⟨.inr (.inl (by simpa using G)),u,C,Z.mono' λb B=> .inr (.inl (by simpa using B))⟩
     .rw [F4];refine⟨m2,by simp [nm,b4],rfl,λi sv L=> ?_,λt e he=>by simp at he⟩
      grind [Jt,Dk]
     .rw [F4];intro i L;have W:i<p.objs.length:=Nat.lt_of_lt_of_le L F;have a0:p.objs[i]? =some p.objs[i]:=getElem?_eq_getElem W;obtain⟨R,G,C⟩:=U i _ a0;have r:=OZ (n:=n) L W;by_cases P:p.objs[i]= .gone
      .have:Gone D i:=⟨.i64,0,by rw [G,C.gone P]⟩;simp_all
      .have hig:vK p.objs[i]? =false:=by grind [vK,absurd,Option.some.inj]
       rw [hig]at r;have r:(es0 (std n) k p.objs).ren[i]? =some (some (some i)):=by simpa using r
       have Y:=O.ren i _ (M.ren i _ r);have b7:lu (std n) e i=none:=by rw [O.tr i _ (M.ren i _ r),M.tr i _ r];rfl
       refine⟨λ⟨cc,nn,N⟩=> ?_,λx y=> .inr ?_⟩
       .obtain⟨oo,r1,r2,r3,r4⟩:=C.rel H S.heap J m3 (λh=>by cases h);obtain⟨o3,h3,h4⟩:=r4 i P Y;obtain⟨o4,h5,h6⟩:=S.heap.old i _ N;rw [h3]at h5;cases h5;cases h6;exact h4.elim
       .have:=C.s1 i x.1 x.2 P Y (by rw [y])
        grind [nmh]
    .cases y
   .cases y
  .cases y
 .cases y
end
end Go.TX
namespace Go.TX
open Go Go.AE List
variable [aB]
section
variable {n:Nat}
def LX(E:Tab)(g:Ctx)(f:World)(h0:Heap)(k:Nat)(d:List aT)(m0:Nat){ρ:Type}(K:Exit->RSt (std n)->(ρ->Prop)->Prop)(r:ρ->Prop):Exit->Act->World->Prop
 | .outgrown,_,_=>False
 | .panic _,_,_=>False
 | .goto _,_,_=>False
 | e,a,w=>∃c b s,Grow g f h0 c w b.h/\o8 E b c w a/\SR b s/\Keep k d s.h/\s.m=m0/\K e s r
theorem Vx{E:Tab}{B:Ctx}{F:World}{D:Heap}{k:Nat}{C:List aT}{z:Nat}(G:B.n=k){v:Code}{a:Act}{w:World}{x:dM}{pl:Bool}{s:RSt (std n)}(hs:s.m=z){ρ:Type}{K:Exit->RSt (std n)->(ρ->Prop)->Prop}{r:ρ->Prop}
  {W: {σ:Type}->(Exit->RSt (std n)->(σ->Prop)->Prop)->(σ->Prop)->Prop} (N:∀ {σ:Type} {P:Exit->RSt (std n)->(σ->Prop)->Prop} {M:σ->Prop},W P M->v.wp E.P (LX E B F D k C z P M) a w)
  (h:Vo (std n) k x pl s K W r):v.wp E.P (LX E B F D k C z K r) a w:=by
 have step:∀ {t:jy x.tys} {f:RSt (std n)} {y:List Bool},Jb (std n) k x f=some (y,t)->(∀b∈y,b=true)->K .normal (wX (std n) x s.m t) r->∀ {c l a w},Grow B F D c w l.h->o8 E l c w a->SR l f->Keep k C f.h->f.m=z->LX E B F D k C z K r .normal a w:=by
  intro t f y Y R O c l a w g A S hK hm;obtain⟨c2,H,V,A2,Z,U,J⟩:=O7 Y R S A G g hm;rw [hs]at O;exact⟨c2,H,_,V,A2,Z,hK.trans U,J,O⟩
 unfold Vo at h;split at h
 .refine wp_mono (N h) ?_;intro e X Q j;cases e with
  | outgrown=>exact j.elim
  | panic _=>exact j
  | goto _=>exact j
  | normal=>
   obtain⟨c,l,f,q,u,m,p,o,d⟩:=j;simp only at d;rcases hx:Jb (std n) k x f with _ | ⟨y,T⟩
   .rw [hx]at d;exact d.elim
   .rw [hx]at d;obtain⟨I,L⟩:=gV d;exact step hx I L q u m p o
  | ret=>obtain⟨c,l,f,q,u,m,p,o,d⟩:=j;exact d.elim
  | exit i=>obtain⟨c,l,f,q,u,m,p,o,d⟩:=j;exact d.elim
 .refine wp_mono (N h) ?_;intro e X Q j;cases e with
  | outgrown=>exact j.elim
  | panic _=>exact j
  | goto _=>exact j
  | normal=>
   obtain⟨c,l,f,q,u,m,p,o,d⟩:=j;simp only at d;rcases hx:Jb (std n) k x f with _ | ⟨y,T⟩
   .rw [hx]at d;exact d.elim
   .rw [hx]at d;obtain⟨I,L⟩:=gV d;exact step hx I L q u m p o
  | ret=>obtain⟨c,l,f,q,u,m,p,o,d⟩:=j;exact⟨c,l,f,q,u,m,p,o,d⟩
  | exit i=>obtain⟨c,l,f,q,u,m,p,o,d⟩:=j;exact⟨c,l,f,q,u,m,p,o,d⟩
section
variable {X:XT} {E:Tab} (hE:aI E) (hX:XOK X E) {C:Calls aH} (hG:tO E (nL C)) (hm:E.P.follows .mixedOrders=true) {ord:Nat->List fU} {chk:Nat->Array Oper->Nat->Bool} (Ti:∀id ops m,chk id ops m=true->Static E ord id ops m)
 {c0:Ctx} {w0:World} {h0:Heap} {k:Nat} {H0:List aT} {m0:Nat} (hc0:c0.n=k)
include hE hX hG hm Ti
theorem aqs{id:Nat}{d:Array Oper}{draw:Bool}{s:RSt (std n)}{ρ:Type}{K:Exit->RSt (std n)->(ρ->Prop)->Prop}{r:ρ->Prop}
  (h:(if draw then(if chk id d s.m then jS (std n) X C d.toList (ord id) [] (λs=>K .normal s) s else(std n).fail)else fP (std n) X C d.toList d.toList (λs=>K .normal s) s:(std n).M ρ) r)
  {l:St} {c:Ctx} {w:World} {a:Act} (A:o8 E l c w a) (g:Grow c0 w0 h0 c w l.h) (S:SR l s) (hK:Keep k H0 s.h) (v:s.m=m0):(Code.region id d draw).wp E.P (LX E c0 w0 h0 k H0 m0 K r) a w:=by
 have fin:∀ {e:Exit} {a:Act} {w:World},AY E c0 w0 h0 (λe b=>e= .normal/\∃f,SR b f/\(∀k,Keep k s.h f.h)/\f.m=m0/\K .normal f r) e a w->LX E c0 w0 h0 k H0 m0 K r e a w:=by
  intro e a w j;cases e with
  | outgrown=>exact j.elim
  | panic _=>exact j
  | goto _=>exact j
  | normal=>obtain⟨c,b,t,u,_,f,x,z,y,D⟩:=j;exact⟨c,b,f,t,u,x,hK.trans (z k),y,D⟩
  | ret=>obtain⟨c,b,t,u,q,_⟩:=j;cases q
  | exit i=>obtain⟨c,b,t,u,q,_⟩:=j;cases q
 split at h
 .rename_i hd;subst hd;split at h
  .rename_i hc;have m:=Ti _ _ _ hc;have o:=OX hX (h0:=s.h) (m0:=m0) (hs':=[]) S (λ_=> .refl _ _) v (λp B=>by simp at B) h;refine wp_mono (aqc hE hG hm ord id d (λe b=>e= .normal/\∃f,SR b f/\(∀k,Keep k s.h f.h)/\f.m=m0/\K .normal f r) l c0 w0 h0 c w a A g ⟨by rw [S.m];exact m,?_⟩) λe a w=>fin
   simpa using o
  .exact h.elim
 .rename_i hd;have:draw=false:=by simpa using hd
  subst this;have o:=Ny hX (h0:=s.h) (m0:=m0) S (λ_=> .refl _ _) v h;refine wp_mono (wp_region_list (CS hE hG (Q:=λe b=>e= .normal/\∃f,SR b f/\(∀k,Keep k s.h f.h)/\f.m=m0/\K .normal f r) d d.toList A g ?_)) λe a w=>fin
  simpa using o
end
end
end Go.TX
namespace Go.TX
open Go Go.AE List
variable [aB]
section
variable {n:Nat}
variable {X:XT} {E:Tab} (hE:aI E) (hX:XOK X E) {C:Calls aH} (hG:tO E (nL C)) (hm:E.P.follows .mixedOrders=true) {ord:Nat->List fU} {chk:Nat->Array Oper->Nat->Bool} (Ti:∀id ops m,chk id ops m=true->Static E ord id ops m)
 {c0:Ctx} {w0:World} {h0:Heap} {k:Nat} {H0:List aT} {m0:Nat} (hc0:c0.n=k)
include hE hX hG hm Ti hc0
theorem qz:∀(Q:Code) {ρ:Type} {m:Ann} {s:RSt (std n)} {K:Exit->RSt (std n)->(ρ->Prop)->Prop} {r:ρ->Prop},bS (std n) X C ord chk k m Q s K r->∀ {d:St} {c:Ctx} {w:World} {a:Act},o8 E d c w a->Grow c0 w0 h0 c w d.h->SR d s->Keep k H0 s.h->s.m=m0->
  Q.wp E.P (LX E c0 w0 h0 k H0 m0 K r) a w
 | .skip,ρ,m,s,K,r,h,d,c,w,a,A,g,S,hK,hs=>by
  have h:K .normal s r:=by cases m<;>exact h
  exact wp_skip ⟨c,d,s,g,A,S,hK,hs,h⟩
 | .region id ops draw,ρ,m,s,K,r,h,d,c,w,a,A,g,S,hK,hs=>by
  have R:∀ {σ:Type} {F:Exit->RSt (std n)->(σ->Prop)->Prop} {H:σ->Prop},(if draw then(if chk id ops s.m then jS (std n) X C ops.toList (ord id) [] (λs=>F .normal s) s else(std n).fail)else fP (std n) X C ops.toList ops.toList (λs=>F .normal s) s:(std n).M σ) H->
    (Code.region id ops draw).wp E.P (LX E c0 w0 h0 k H0 m0 F H) a w:=λh=>aqs hE hX hG hm Ti h A g S hK hs
  generalize p:bS (std n) X C ord chk k m (.region id ops draw) s K=M at h;simp only [bS]at p;split at p
  .subst p;exact Vx hc0 hs R h
  .subst p;exact R h
 | .seq x y,ρ,m,s,K,r,h,d,c,w,a,A,g,S,hK,hs=>by
  have l:∀(G O:Ann) (J:Exit->RSt (std n)->(ρ->Prop)->Prop),(∀d,J .normal d=bS (std n) X C ord chk k O y d K)->(∀d,J .ret d=K .ret d)->(∀i d,J (.exit i) d=K (.exit i) d)->bS (std n) X C ord chk k G x s J r->
    (Code.seq x y).wp E.P (LX E c0 w0 h0 k H0 m0 K r) a w:=by
   intro G O J e1 e2 e3 h;refine wp_seq (wp_mono (qz x h A g S hK hs) ?_);intro e W V o;cases e with
   | outgrown=>exact o.elim
   | panic _=>exact o
   | goto _=>exact o
   | normal=>obtain⟨c,d,L,v,B,q,D,z,j⟩:=o;rw [e1]at j;exact qz y j B v q D z
   | ret=>obtain⟨c,d,L,v,B,q,D,z,j⟩:=o;rw [e2]at j;exact⟨c,d,L,v,B,q,D,z,j⟩
   | exit i=>obtain⟨c,d,L,v,B,q,D,z,j⟩:=o;rw [e3]at j;exact⟨c,d,L,v,B,q,D,z,j⟩
  cases m with
  | seq G O=>rw [bS]at h;refine l G O _ ?_ ?_ ?_ h<;>intros<;>rfl
  | u=>rw [bS]at h;refine l .u .u _ ?_ ?_ ?_ h<;>intros<;>rfl
  | _=>simp [bS]at h
 | .cond cd x y,ρ,m,s,K,r,h,d,c,w,a,A,g,S,hK,hs=>by
  have o:EvR X E n (nmh s.h) d.t (iT (std n) (dN (std n) s.t) []):=uT (λ_ _=>rfl) S.val (λt h=>by simp at h);generalize p:bS (std n) X C ord chk k m (.cond cd x y) s K=M at h;simp only [bS]at p;split at p
  .rename_i f b hb;obtain⟨pv,p1,p2⟩:=dO hX o hb;obtain⟨gf,rfl⟩:=p2.bool;have a7:=nG (RF A.abs p1);have l:∀(G O:Ann) {σ:Type} {F:Exit->RSt (std n)->(σ->Prop)->Prop} {H:σ->Prop},((b=true->bS (std n) X C ord chk k G x s F H)/\(b=false->bS (std n) X C ord chk k O y s F H))->(Code.cond cd x y).wp E.P (LX E c0 w0 h0 k H0 m0 F H) a w:=by
    intro G O σ F H h;refine wp_cond a7 ?_;obtain⟨b,rfl⟩:∃b':Bool,b'=b:=⟨b,rfl⟩;cases b with
    | true=>exact qz x (h.1 rfl) A g S hK hs
    | false=>exact qz y (h.2 rfl) A g S hK hs
   split at p
   .subst p;exact l _ _ h
   .subst p;exact l _ _ h
   .rename_i T G O;subst p;exact Vx hc0 hs (λ{σ F H} h=>l G O h) h
   .subst p;exact h.elim
  .subst p;exact h.elim
 | .block id b,ρ,m,s,K,r,h,d,c,w,a,A,g,S,hK,hs=>by
  have l:∀(G:Ann) {σ:Type} {F:Exit->RSt (std n)->(σ->Prop)->Prop} {H:σ->Prop} (J:Exit->RSt (std n)->(σ->Prop)->Prop),(∀d,J .normal d=F .normal d)->(∀d,J .ret d=F .ret d)->(∀i d,J (.exit i) d=if i==id then F .normal d else F (.exit i) d)->
    bS (std n) X C ord chk k G b s J H->(Code.block id b).wp E.P (LX E c0 w0 h0 k H0 m0 F H) a w:=by
   intro G σ F H J e1 e2 e3 h;refine wp_block (wp_mono (qz b h A g S hK hs) ?_);intro e W V o;cases e with
   | outgrown=>exact o.elim
   | panic _=>exact o
   | goto _=>exact o
   | normal=>obtain⟨c,d,L,v,B,q,D,z,j⟩:=o;rw [e1]at j;exact⟨c,d,L,v,B,q,D,z,j⟩
   | ret=>obtain⟨c,d,L,v,B,q,D,z,j⟩:=o;rw [e2]at j;exact⟨c,d,L,v,B,q,D,z,j⟩
   | exit i=>
    obtain⟨c,d,L,v,B,q,D,z,j⟩:=o;rw [e3]at j;simp only [Exit.inBlock];simp only [beq_iff_eq]at j;split
    .rename_i e;rw [eB e]at j;exact⟨c,d,L,v,B,q,D,z,j⟩
    .rename_i e;rw [dY e]at j;exact⟨c,d,L,v,B,q,D,z,j⟩
  generalize p:bS (std n) X C ord chk k m (.block id b) s K=M at h;simp only [bS]at p;split at p
  .subst p;refine l _ _ ?_ ?_ ?_ h<;>intros<;>rfl
  .subst p;refine l _ _ ?_ ?_ ?_ h<;>intros<;>rfl
  .rename_i T G;subst p;exact Vx hc0 hs (λ{σ F H} h=>by refine l G _ ?_ ?_ ?_ h<;>intros<;>rfl) h
  .subst p;exact h.elim
 | .loop b,ρ,m,s,K,r,h,d,c,w,a,A,g,S,hK,hs=>by
  cases m with
  | loop T G=>
   rw [bS]at h;rcases hx0:Jb (std n) k T s with _ | ⟨ck,x0⟩
   .rw [hx0]at h;exact h.elim
   .rw [hx0]at h;obtain⟨a0,h⟩:=gV h;obtain⟨I,μ,a5,h⟩:=h;obtain⟨c1,a6,g1,A1,S1,J,a9⟩:=O7 hx0 a0 S A hc0 g hs;rw [hs]at h;refine wp_loop_ghost (λN W V=>∃c d x,Grow c0 w0 h0 c V d.h/\o8 E d c V W/\SR d (wX (std n) T m0 x)/\Keep k H0 (wX (std n) T m0 x).h/\(wX (std n) T m0 x).m=m0/\I x/\μ x=N) (μ x0) ⟨c1,a6,x0,g1,A1,S1,hK.trans J,a9,a5,rfl⟩ ?_;rintro N W V ⟨c2,b0,x,g2,A2,S2,K2,a4,hi,rfl⟩;have hq:=h x hi;refine wp_mono (qz b hq A2 g2 S2 K2 a4) ?_;intro e a3 w3 o;cases e with
    | outgrown=>exact o.elim
    | panic _=>exact o
    | goto _=>exact o
    | normal=>
     obtain⟨Y,P,U,v,B,q,D,z,j⟩:=o;simp only at j;rcases hx4:Jb (std n) k T U with _ | ⟨b7,t4⟩
     .rw [hx4]at j;exact j.elim
     .rw [hx4]at j;obtain⟨aAK,j⟩:=gV j;obtain⟨c5,a8,g5,A5,S5,K5,Z⟩:=O7 hx4 aAK q B hc0 v z;exact⟨μ t4,j.2,c5,a8,_,g5,A5,S5,D.trans K5,Z,j.1,rfl⟩
    | ret=>obtain⟨Y,P,U,v,B,q,D,z,j⟩:=o;exact⟨Y,P,U,v,B,q,D,z,j⟩
    | exit i=>obtain⟨Y,P,U,v,B,q,D,z,j⟩:=o;exact⟨Y,P,U,v,B,q,D,z,j⟩
  | _=>simp [bS]at h
 | .exit i,ρ,m,s,K,r,h,d,c,w,a,A,g,S,hK,hs=>by
  have h:K (.exit i) s r:=by cases m<;>exact h
  exact wp_exit ⟨c,d,s,g,A,S,hK,hs,h⟩
 | .ret,ρ,m,s,K,r,h,d,c,w,a,A,g,S,hK,hs=>by
  have h:K .ret s r:=by cases m<;>exact h
  exact wp_ret ⟨c,d,s,g,A,S,hK,hs,h⟩
 | .rangeFunc ..,ρ,m,s,K,r,h,_,_,_,_,_,_,_,_,_=>by cases m<;>simp [bS]at h
 | .scope _,ρ,m,s,K,r,h,_,_,_,_,_,_,_,_,_=>by cases m<;>simp [bS]at h
 | .label _,ρ,m,s,K,r,h,_,_,_,_,_,_,_,_,_=>by cases m<;>simp [bS]at h
 | .goto _,ρ,m,s,K,r,h,_,_,_,_,_,_,_,_,_=>by cases m<;>simp [bS]at h
 | .refuse _,ρ,m,s,K,r,h,_,_,_,_,_,_,_,_,_=>by cases m<;>simp [bS]at h
end
end Go.TX
namespace Go.TX
open Go Go.AE List
variable [aB]
section
variable {n:Nat}
theorem jA:∀(r:List (Option (Option Nat))) (m k:Nat),(newNames r m k).length=k
 | _,_,0=>by simp [newNames]
 | [],m,k+1=>by simp [newNames,jA [] (m+1) k]
 | some (some l)::r,m,k+1=>by simp [newNames,jA r m k]
 | some none::r,m,k+1=>by simp [newNames,jA r (m+1) k]
 | none::r,m,k+1=>by simp [newNames,jA r (m+1) k]
structure afK(r:List (Option (Option Nat)))(h:List aT)(os:List aT)(nms:List Nat)(kT:List aT):Prop where
 len:h.length<=kT.length
 at_:∀(i:Nat),i<os.length->∃l,nms[i]? =some l/\kT[l]? =os[i]? /\(r[i]? =some (some (some l))\/(h.length<=l/\∀q:Nat,r[i]? ≠some (some (some q))))
 old:∀l,l<h.length->(∀i:Nat,i<os.length->r[i]? ≠some (some (some l)))->kT[l]? =h[l]?
 inj:∀(i j l:Nat),nms[i]? =some l->nms[j]? =some l->i=j
 new:∀l,h.length<=l->l<kT.length->∃i:Nat,i<os.length/\nms[i]? =some l
theorem Vy:∀(c:List aT) (r:List (Option (Option Nat))) (h:List aT),(∀i l:Nat,r[i]? =some (some (some l))->i<c.length->l<h.length)->(∀i j l:Nat,r[i]? =some (some (some l))->r[j]? =some (some (some l))->i=j)->
  afK r h c (newNames r h.length c.length) (jv (std n) h (newNames r h.length c.length) c)
 | [],r,h,h1,h2=>by
  refine⟨?_,λi f=>by simp at f,λl _ _=> ?_,λi j l f=>by simp [newNames]at f,λl a b=> ?_⟩<;>simp only [fE,newNames,jv]at* <;>first | exact Nat.le_refl _ | rfl | omega
 | o::c,r,h,h1,h2=>by
  have fresh:∀d,(∀(i:Nat),d[i]? =r[i+1]?)->(∀q:Nat,r[0]? ≠some (some (some q)))->newNames r h.length (c.length+1)=h.length::newNames d (h.length+1) c.length->afK r h (o::c) (newNames r h.length (c.length+1)) (jv (std n) h (newNames r h.length (c.length+1)) (o::c)):=by
   intro d F E e;rw [e];have x:(h++ [o]).length=h.length+1:=by simp
   have P:=Vy c d (h++ [o]) (λi l f B=>by grind) (λi j l f p=>by grind);rw [x]at P;have m:jv (std n) h (h.length::newNames d (h.length+1) c.length) (o::c)=jv (std n) (h++ [o]) (newNames d (h.length+1) c.length) c:=by
    simp [jv]
   rw [m];have t:(jv (std n) (h++ [o]) (newNames d (h.length+1) c.length) c)[h.length]? =some o:=by
    rw [P.old h.length (by simp) (λi f y=>by grind)];simp
   refine⟨by grind,λi f=> ?_,λl A hn=> ?_,λi j l f p=> ?_,λl D z=> ?_⟩
   .cases i with
    | zero=>simp_all
    | succ i=>
     obtain⟨l,s,u,k⟩:=P.at_ i (by simpa using f)
     grind
   .rw [P.old l (by simp;omega) (λi f y=>hn (i+1) (by simp;omega) (by simp_all))]
    grind
   .have ne:∀(j:Nat),(newNames d (h.length+1) c.length)[j]? =some h.length->False:=by
     intro j p;have w:j<c.length:=by grind [List.getElem?_eq_some_iff,jA]
     obtain⟨l,s,u,k⟩:=P.at_ j w
     grind
    cases i with
    | zero=>grind
    | succ i=>
     cases j with
     | zero=>simp_all
     | succ j=>rw [P.inj i j l (by simpa using f) (by simpa using p)]
   .by_cases e:l=h.length
    .subst e;exact⟨0,by simp,rfl⟩
    .obtain⟨i,s,u⟩:=P.new l (by simp;omega) z;exact⟨i+1,by simp;omega,by simpa using u⟩
  match r,h1,h2,fresh with
  | [],h1,h2,fresh=>exact fresh [] (λi=>by simp) (λq=>by simp) rfl
  | none::d,h1,h2,fresh=>exact fresh d (λi=>by simp) (λq=>by simp) rfl
  | some none::d,h1,h2,fresh=>exact fresh d (λi=>by simp) (λq=>by simp) rfl
  | some (some g)::d,h1,h2,_=>
   have v:g<h.length:=h1 0 g rfl (by simp);have e:newNames (some (some g)::d) h.length (c.length+1)=g::newNames d h.length c.length:=rfl;show afK _ _ _ (newNames (some (some g)::d) h.length (c.length+1)) (jv (std n) h (newNames (some (some g)::d) h.length (c.length+1)) (o::c));rw [e];have x:(h.set g o).length=h.length:=by simp
   have P:=Vy c d (h.set g o) (λi l f B=>by rw [x];exact h1 (i+1) l (by simpa using f) (by simp;omega)) (λi j l f p=>by have:=h2 (i+1) (j+1) l (by simpa using f) (by simpa using p);omega);rw [x]at P;have m:jv (std n) h (g::newNames d h.length c.length) (o::c)=jv (std n) (h.set g o) (newNames d h.length c.length) c:=by
    have:Nat.blt g h.length=true:=by simpa using v
    simp [jv,v]
   rw [m];have t:(jv (std n) (h.set g o) (newNames d h.length c.length) c)[g]? =some o:=by
    rw [P.old g (by simpa using v) (λi f y=>by have:=h2 0 (i+1) g rfl (by simpa using y);omega)];simp_all
   refine⟨by have:=P.len;omega,λi f=> ?_,λl A hn=> ?_,λi j l f p=> ?_,λl D z=> ?_⟩
   .cases i with
    | zero=>exact⟨g,rfl,by rw [t];rfl,.inl rfl⟩
    | succ i=>
     obtain⟨l,s,u,k⟩:=P.at_ i (by simpa using f);refine⟨l,by simpa using s,by rw [u];simp,?_⟩;simp only [getElem?_cons_succ];rcases k with k | ⟨k,C⟩
     .exact .inl k
     .exact .inr ⟨by rw [x]at k;exact k,C⟩
   .rw [P.old l ah (λi f y=>hn (i+1) (by simp;omega) (by simpa using y))];have:g≠l:=λe=>hn 0 (by simp) (by rw [e];rfl)
    exact getElem?_set_ne this
   .have ne:∀(j:Nat),(newNames d h.length c.length)[j]? =some g->False:=by
     intro j p;have w:j<c.length:=by grind [List.getElem?_eq_some_iff,jA]
     obtain⟨l,s,u,k⟩:=P.at_ j w;rw [p]at s;cases s;rcases k with k | ⟨k,C⟩
     .have:=h2 0 (j+1) g rfl (by simpa using k);omega
     omega
    cases i with
    | zero=>grind
    | succ i=>
     cases j with
     | zero=>grind
     | succ j=>rw [P.inj i j l (by simpa using f) (by simpa using p)]
   .obtain⟨i,s,u⟩:=P.new l (by rw [x];exact D) z;exact⟨i+1,by simp;omega,by simpa using u⟩
theorem aex{nm:Nat->Nat}{k:SkV}{r a:List (LV aH)}{v:SVal}(h:Da aH nm k r=some (v,a)):sV v=false:=by
 cases k with
 | c k=>simp only [Da]at h;split at h<;>cases h;rfl
 | agg b=>simp only [Da]at h;split at h<;>cases h;rfl
 | sv f c=>
  unfold Da at h;split at h<;>first | (cases h;rfl) | simp_all | cases h
theorem Jw{nm:Nat->Nat}:∀ {ks:List SkV} {r b:List (LV aH)} {a:List SVal},vL aH nm ks r=some (a,b)->∀v∈a,sV v=false
 | [],r,b,a,h=>by grind [vL,Option.some.injEq,Prod.mk.injEq]
 | k::ks,r,b,a,h=>by
  simp only [vL]at h;split at h
  .rename_i x r1 hx;split at h
   .rename_i xs r2 hxs;cases h;intro v c;cases c with
    | head=>exact aex hx
    | tail _ c=>exact Jw hxs v c
   .cases h
  .cases h
theorem Dn:∀ {d:List Nat} {h:List aT} {l:Nat} {g:Bool} {c:Co} {xs:List c.den},l∈d->h[l]? =some (.rows g c xs)->Gone (bG (std n) h d) l
 | [],_,_,_,_,_,hm,_=>by simp at hm
 | a::d,h,l,g,c,xs,hm,hl=>by
  rw [iE];have f:∀(d:List Nat) (h:List aT),Gone h l->Gone (bG (std n) h d) l:=by
   intro d
   induction d with
   | nil=>intro h i;exact i
   | cons b d j=>
    intro h ⟨k,m,i⟩;rw [iE];refine j _ ⟨k,m,?_⟩
    grind [fQ,Ag]
  by_cases e:a=l
  .subst e;refine f d _ ⟨c,(xs.length:Int),?_⟩
   grind [fQ,getElem?_set_self,List.getElem?_eq_some_iff]
  .refine Dn (g:=g) (c:=c) (xs:=xs) ?_ (by rw [Ag e];exact hl)
   grind
theorem ND{h:List aT}:∀ {ks:List SkO} {j:Nat} {s b:ES (std n)},C9 (std n) h j ks s=some b->∀ {i:Nat} {k:SkO},ks[i]? =some k->k≠ .gone->∀ {l:Nat} (_:b.ren[j+i]? =some (some (some l))),∃o,h[l]? =some o/\¬Gone [o] 0
 | [],_,_,_,_,i,k,hk,_,_,_=>by simp at hk
 | q::ks,j,s,b,hx,i,k,hk,hg,l,h5=>by
  simp only [C9]at hx;split at hx
  .rename_i s1 h1;cases i with
   | succ i=>
    have:=ND hx (i:=i) (k:=k) (by simpa using hk) hg (l:=l) (by grind);exact this
   | zero=>
    simp at hk;subst hk;rw [Nat.add_zero]at h5;have d:ELe s b:=by
     obtain⟨_,_,_,r,_⟩:=acQ (m:=n) (λi=>i) h1 (.gone .i64 0) ⟨.i64,0,rfl⟩;obtain⟨_,_,_,p,_⟩:=uR (m:=n) (λi=>i) (λ_=> .gone .i64 0) (λ_=>⟨.i64,0,rfl⟩) hx;exact r.trans p
    cases q with
    | gone=>exact absurd rfl hg
    | box t=>
     rcases hr:s.ren[j]? with _ | _ | _ | e<;>simp only [Vk,hr,reduceCtorEq]at h1
     have:=d.ren j _ hr;rw [h5]at this;cases this;split at h1
     .rename_i v hv;exact⟨_,hv,λ⟨c,m,a⟩=>by simp at a⟩
     .cases h1
    | rows f c=>
     rcases hr:s.ren[j]? with _ | _ | _ | e<;>simp only [Vk,hr,reduceCtorEq]at h1
     .have:=d.ren j _ hr;simp_all
     .have:=d.ren j _ hr;rw [h5]at this;cases this;split at h1
      .rename_i g c' xs hv;exact⟨_,hv,λ⟨c,m,a⟩=>by simp at a⟩
      .cases h1
  .cases hx
end
end Go.TX
namespace Go.TX
open Go Go.AE List
variable [aB]
section
variable {n:Nat}
theorem O8{X:XT}{E:Tab}(hX:XOK X E){f:St}{s:RSt (std n)}(S:SR f s):∀ {g:List ResultVar} {c:List SVal},Vp (std n) X s g=some c->∃a,F2 (PVR (nmh s.h)) a c/\∀K,K a->R7 E f g K
 | [],c,h=>by simp only [Vp,Option.some.injEq]at h;subst h;exact⟨[],.nil,λK hK=>hK⟩
 | .tmp t::r,c,h=>by
  simp only [Vp]at h;split at h
  .rename_i v hv;split at h
   .rename_i vs hvs;cases h;obtain⟨pv,l,d⟩:=S.val t _ hv;obtain⟨a,e,m⟩:=O8 hX S hvs;exact⟨pv::a,.cons d e,λK hK=>by grind [R7,jH]⟩
   .cases h
  .cases h
 | .cell t ty::r,c,h=>by
  simp only [Vp]at h;split at h
  .rename_i p hp;split at h
   .rename_i v hv;split at h
    .rename_i vs hvs;cases h;obtain⟨pv,l,d⟩:=S.val t _ hp;obtain⟨k,i,o⟩:=SE hX S.heap d hv (λb j=>by simp at j);obtain⟨a,e,m⟩:=O8 hX S hvs;exact⟨k::a,.cons i e,λK hK=>by grind [R7,jH]⟩
    .cases h
   .cases h
  .cases h
theorem aqt{N:NM}:∀ {c:List PV} {b:List SVal},F2 (PVR N) c b->(∀v∈b,sV v=false)->PVR N (one c) (awJ (std n) b)
 | [],_,h,_=>by cases h;exact .tup .nil
 | [p],_,.cons h1 h2,_=>by cases h2;exact h1
 | p::q::c,_,.cons h1 (.cons h2 h3),d=>by
  have g:∀ {p v},PVR N p v->sV v=false->PV0 N p v:=λh e=>by
   cases h with
   | one h=>exact h
   | tup _=>simp [sV]at e
  have all:∀ {c:List PV} {b:List SVal},F2 (PVR N) c b->(∀v∈b,sV v=false)->F2 (PV0 N) c b:=by
   intro c b h
   induction h with
   | nil=>intro _;exact .nil
   | cons a _ f=>intro d;exact .cons (g a (d _ (by simp))) (f λv e=>d v (mem_cons_of_mem _ e))
  exact .tup (all (.cons h1 (.cons h2 h3)) d)
theorem am2{c:Ctx}{w:World}{us:List Value}{b:List PV}(h:F2 (bM c w) us b):bM c w (if h:us.toArray.size=1 then us.toArray[0]else .tuple us.toArray) (one b):=by
 cases h with
 | nil=>exact R5 _ _
 | cons a g=>
  cases g with
  | nil=>simpa [one]using a
  | cons f d=>
   have e:=(F2.cons a (F2.cons f d)).length;rw [dif_neg (by simp)];refine .tup _ _ e (λi j=> ?_);have k:∀(l:List PV),i<l.length->l[i]? =some (l.getD i default):=λl e=>by simp_all
   obtain⟨u,n,m⟩:=(F2.cons a (F2.cons f d)).get (k _ j);simp_all
theorem Tj(h:List aT)(l:Nat):Gone [yN (std n) h l] 0:=by
 unfold yN;split
 .exact⟨_,_,rfl⟩
 .exact⟨_,_,rfl⟩
 .exact⟨_,_,rfl⟩
def Dp(D:List Nat)(h:Heap):Heap:=D.map (λl=>(l,fT.gone))++h
theorem Jy{D:List Nat}{h:Heap}{l:Nat}(a:l∈D):AE.look (Dp D h) l=some .gone:=by
 induction D with
 | nil=>simp at a
 | cons d D b=>grind [AE.look,Dp,aO,aD,absurd]
theorem uV{D:List Nat}{h:Heap}{l:Nat}(a:l∉D):AE.look (Dp D h) l=AE.look h l:=by
 induction D with
 | nil=>rfl
 | cons d D b=>grind [AE.look,Dp,aD,mem_cons_of_mem]
section
variable {X:XT} {E:Tab} (hE:aI E) (hX:XOK X E) {C:Calls aH} (hG:tO E (nL C)) (hm:E.P.follows .mixedOrders=true) {ord:Nat->List fU} {chk:Nat->Array Oper->Nat->Bool} (Ti:∀id ops m,chk id ops m=true->Static E ord id ops m)
include hE hX hG hm Ti
theorem aw3{f:FuncId}{fn:Func}{b9:Code}(hf:E.P.funcs[f]? =some fn)(a:fn.body=some b9)(f3:Enters E.P f){G:Sig}{an:Ann}{ct:Ct aH G}
  (Q:∀x,ct.pre x=true->lZ (std 0) X C ord chk an G fn b9 x (λy=>y=ct.fn x)):dP E f (dK ct) where
 enters:=f3
 calls:=by
  rintro i9 h nn K ⟨m,qs,S,c8,HR,e6,cr,J,am3,v,kT,a6,hK⟩ c w vs d5 uU H Gl;subst e6;unfold vM at J;split at J
  .rename_i e1 he1;split at J
   .rename_i e he;split at J
    .rename_i kX;simp only [Bool.and_eq_true,isEmpty_iff]at kX;obtain⟨kX,e8⟩:=kX;have kX:=OW kX;split at J
     .rename_i x hx;simp only [Option.some.injEq]at J;subst J;have d6:∀b∈e.ck,b=true:=λb a=>am3 b (mem_append_left _ a)
      have g9:ct.pre x=true:=am3 _ (mem_append_right _ (by simp));obtain⟨N,Q⟩:∃N:Nat,lZ (std N) X C ord chk an G fn b9 x (λy=>y=ct.fn x):=⟨0,Q x g9⟩;simp only at a6 hK;obtain⟨d3,a0,a1,a2,a3,a4⟩:=yU (λi=>i) he1;obtain⟨c7,a9,b1,b2,b3,b4,b5⟩:=uR (λi=>i) (λ_=>(.gone .i64 0:aT)) (λ_=>⟨.i64,0,rfl⟩) he;have F:e.lv.reverse=d3++c7:=by rw [b1,a1];simp [es0]
      have h1:=unpack_pack hx;rw [F]at h1;have f1:e.ren.length=G.objs.length:=by rw [b2.len,a2.len,O5]
      have e4:∀(j:Nat) (kk:SkO),G.objs[j]? =some kk->∃o2,a9[j]? =some o2/\OF e S (λi=>i) j kk (.gone .i64 0) o2:=λj kk hj=>by
       obtain⟨o2,I,L⟩:=b5 e (.refl _) j kk hj;exact⟨o2,I,by simpa using L⟩
      obtain⟨o1,m1,m2,m3,m4,_,_⟩:=BP (ks:=G.objs) (nm:=λi=>i) (old:=λ_=>(.gone .i64 0:aT)) H HR d6 kX f1 b4 e4 (cb:={K:=λ_ _=>False,ν:=νX e S c,n:=0}) (hb':=[])
       (Tg w _ _ _ (λ_ _ h=>h.elim) (λ_ h=>h)) false (λh=>by cases h) (ν2:=νX e S c) (n2:=G.objs.length) (Nat.zero_le _) (λ_ _=>rfl) (λi A=>A) (λi j _ _ h=>h)
       (λi l A=>by simp only [νX];rw [A]) (λi A=>by simp only [νX];rw [A]) (h2:=a9) (λi _=>rfl)
       (λl o s Y=>by
        have:G.objs.length<=l:=by
         rcases Nat.lt_or_ge l G.objs.length with h | h
         .exact absurd rfl (s l h)
         .exact h
        rw [getElem?_eq_none ah]at Y;cases Y) (λ_ _=>rfl)
       (λb ⟨l,o,s,_⟩ _=>by simp [AE.look]at s) (λf b h _=>h) (λf b ⟨l,o,s,_⟩ _=>by simp [AE.look]at s)
      generalize e5:({K:=λf b=>False\/KX e c false f b,ν:=νX e S c,n:=G.objs.length}:Ctx)=c1 at m1 m2 m3 m4;generalize j0:w9 (λi=>i) o1 (range G.objs.length) []=c2 at m1 m2 m4;have d7:c1.n=G.objs.length:=by rw [<-e5]
      have e9:∀f b,c1.K f b->c.K f b\/∃l g,(l,g)∈e.fro/\c.μ l=some b/\(f=true->g=true):=λf b a=>by
       rw [<-e5]at a;rcases a with a | a | ⟨l,g,I,L,W⟩
       .exact a.elim
       .exact .inl (by simpa using a)
       .exact .inr ⟨l,g,I,L,λh=>W (by simp [h])⟩
      have aqu:∀f b,c.K f b->c1.K f b:=λf b a=>by rw [<-e5];exact .inr (.inl (by simpa using a))
      have aw4:∀b,gq c1 c2 b->∃(i lq:Nat) (q:fT),e.ren[i]? =some (some (some lq))/\AE.look h lq=some q/\q.live/\c.μ lq=some b:=λb a=>by
       rcases m4 b a with⟨l,o,s,_⟩ | a
       .simp [AE.look]at s
       .exact a
      have aw5:F2 (WV c w (nmh S)) vs qs:=by
       clear he1 a1 a2 a3 a4 a6 Q
       induction uU generalizing qs with
       | nil=>cases c8;exact .nil
       | cons I _ ih=>cases c8 with | cons W q4=>exact .cons ⟨_,I,W⟩ (ih _ q4)
      obtain⟨aw6,p1,p2⟩:=O6 (a4 H HR b2 d6 m3 (λh=>by cases h) aw5);unfold lZ at Q;split at Q
      .exact Q.elim
      rename_i c0;have c0:G.objs.length<=G.dW.length:=by
       have:Nat.ble G.objs.length G.dW.length=true:=by simpa using c0
       exact Nat.le_of_ble_eq_true this
      rw [show unpack (std N).aA G.inp x=d3++c7 from h1,a3]at Q;simp only at Q;have f2:=b3 [];rw [append_nil]at f2;rw [show yL (std N).aA (λi=>i) (λ_=>eD.gone Co.i64 ((std N).lit 0)) 0 G.objs c7=some (a9,[])from f2]at Q;simp only at Q;have f9:a0.length=vs.length:=by rw [<-p2.length,<-p1.length]
      refine calls_of_wp hf a ?_;have A1:o8 E {t:=(range a0.length).zip (aw6.map some),h:=c2,n:=G.objs.length,k:=0,m:=a0.length+(fn.ntmps-a0.length)} c1 w {tmps:=vs.toArray++Array.replicate (fn.ntmps-vs.toArray.size) undef,defers:=[]}:=by
       refine⟨⟨λi u hu=>Ju p1 ?_ i u hu,m1,?_⟩,d7,rfl,by simp [f9]⟩
       .refine F2.Ie (by simp [f9]) λj i u hj hu=> ?_
        have:i=j:=by
         have h3:=(List.getElem?_eq_some_iff.1 hj).1;simp at h3;rw [getElem?_range h3]at hj;cases hj;rfl
        subst this;have i1:i<vs.length:=(List.getElem?_eq_some_iff.1 hu).1;simp only;rw [Array.getElem?_append_left (by simpa using i1)];simpa using hu
       .intro gg d hd;obtain⟨I,u,L,W⟩:=Gl gg d hd;exact⟨aqu _ _ I,u,L,W.mono' λb a=>aqu _ _ a⟩
      have S1:SR {t:=(range a0.length).zip (aw6.map some),h:=c2,n:=G.objs.length,k:=0,m:=a0.length+(fn.ntmps-a0.length)}
        ({t:=(range a0.length).zip (a0.map λv=>⟨none,v⟩),gs:=[],h:=a9,m:=a0.length+(fn.ntmps-a0.length)}:RSt (std N)):=by
       refine⟨m2,by simp [nm,b4],rfl,λi sv A=> ?_,λt e he=>by simp at he⟩;obtain⟨I,L⟩:=Jt p2 i sv A;unfold Dk;rw [I];exact L
      refine wp_mono (qz hE hX hG hm Ti d7 b9 Q A1 (.refl _ _ _) S1 (.refl _ a9) rfl) ?_
      have fin:∀ {c3:Ctx} {a5:St} {s3:RSt (std N)} {e0:Act} {w3:World},Grow c1 w c2 c3 w3 a5.h->o8 E a5 c3 w3 e0->SR a5 s3->Keep G.objs.length a9 s3.h->
        aen (std N) X G fn s3 (λy=>y=ct.fn x)->
        e0.defers=[]/\∃v,(results fn e0.tmps).run E.P w3= .ok v w3/\
         Post (λv w'=>∃c' r h' j,Grow c w h c' w' h'/\bN c' w' h'/\c'.n=nm S.length j/\bM c' w' v r/\K r h' j) (.returned v) w3:=by
       intro c3 a5 s3 aBP w3 g3 A3 S3 K3 R;refine⟨A3.defers,?_⟩;generalize hM:aen (std N) X G fn s3=M at R;unfold aen at hM;split at hM
       .rename_i rs hrs;split at hM
        .rename_i e2 he2;split at hM
         .rename_i e3 he3;split at hM
          .rename_i Jz;have Jz:=OW Jz;split at hM
           .rename_i y hy;subst hM;obtain⟨aw7,R⟩:=gV R;have R:y=ct.fn x:=R;subst R;obtain⟨ps,f7,f0⟩:=O8 (E:=E) hX S3 hrs;obtain⟨us,j3,u1,u2,u3⟩:=Ej hE A3 _ (λq=>q=ps) (f0 _ rfl);subst u3;refine⟨_,R8 u1,?_⟩;generalize d9:(G.fresh&&e.fro.all λp=> !p.2)=br at a6 hK;generalize aey:(if br=true then S else bG (std m) S (e.fro.map (·.1)))=h1T at a6;have JA:h1T.length=S.length:=by
             rw [<-aey];split
             .rfl
             .exact sU _ _ _
            have aw8:nmh h1T=nmh S:=by
             rw [<-aey];split
             .rfl
             .exact yR _ _ _
            obtain⟨B,aqv⟩:∃B,newNames e.ren h1T.length G.dW.length=B:=⟨_,rfl⟩;rw [aqv]at a6;have aw9:B.length=G.dW.length:=by rw [<-aqv];exact jA _ _ _
            obtain⟨axa,j1,x1,x2,x3,x4⟩:=yU (λi=>B.getD i 0) he2;obtain⟨aqw,d0,y1,y2,y3,y4,y5⟩:=uR (λi=>B.getD i 0) (λi=>yN (std m) h1T (B.getD i 0)) (λj=>Tj h1T _) he3;have f6:e3.lv.reverse=axa++aqw:=by rw [y1,x1];simp [es0]
            have axb:=unpack_pack hy;rw [f6]at axb;rw [show unpack (std m).aA G.out (ct.fn x)=axa++aqw from axb,x3]at a6;simp only at a6;have g7:=y3 [];rw [append_nil]at g7;rw [g7]at a6;simp only [Option.some.injEq,Prod.mk.injEq]at a6;obtain⟨hv,i4⟩:=a6;have c4:e3.ren.length=G.dW.length:=by rw [y2.len,x2.len,O5]
            have NG:∀(i l:Nat),e.ren[i]? =some (some (some l))->i<G.objs.length:=λi l A=>by rw [<-f1];exact(List.getElem?_eq_some_iff.1 A).1
            have V:∀(i l:Nat),e.ren[i]? =some (some (some l))->∃U,AE.look h l=some U/\U.live:=λi l A=>by
             have T:=NG i l A;obtain⟨o2,I,L⟩:=e4 i _ (getElem?_eq_getElem T);obtain⟨_,_,_,_,W⟩:=L.rel H HR d6 m3 (λh=>by cases h);exact W l (λhg=>kX.gone A (by rw [getElem?_eq_getElem T,hg])) A
            have d2:∀l U,AE.look h l=some U->l<S.length:=λl U s=>by rw [<-d5];exact(H.obj l U s).1
            have P:=Vy (n:=m) d0 e.ren h1T (λi l A _=>by rw [JA];obtain⟨U,q,_⟩:=V i l A;exact d2 l U q) (λi j l A hj=>kX.dist A hj);rw [y4,aqv,i4]at P;have am4:∀i,i<G.dW.length->B[i]? =some (B.getD i 0):=λi A=>by
             have:i<B.length:=by rw [aw9];exact A
             simp [getD,getElem?_eq_getElem this]
            have a8:∀i,i<G.dW.length->kT[B.getD i 0]? =d0[i]? /\(e.ren[i]? =some (some (some (B.getD i 0)))\/(S.length<=B.getD i 0/\∀q:Nat,e.ren[i]? ≠some (some (some q)))):=λi A=>by
             obtain⟨l,I,L,W⟩:=P.at_ i (by rw [y4];exact A);rw [am4 i A]at I;have I:=Option.some.inj I;subst I;rw [JA]at W;exact⟨L,W⟩
            have afL:∀i j,i<G.dW.length->j<G.dW.length->B.getD i 0=B.getD j 0->i=j:=λi j A hj i2=>P.inj i j _ (am4 i A) (by rw [i2];exact am4 j hj)
            have aAL:∀i,i<G.dW.length->B.getD i 0<kT.length:=λi A=>by
             have h3:=(a8 i A).1;rw [getElem?_eq_getElem (show i<d0.length by rw [y4];exact A)]at h3;exact(List.getElem?_eq_some_iff.1 h3).1
            have acT:∀(i l:Nat),e.ren[i]? =some (some (some l))->B.getD i 0=l:=λi l A=>by
             have T:=Nat.lt_of_lt_of_le (NG i l A) c0;rcases(a8 i T).2 with q | ⟨_,q⟩
             .rw [A]at q;cases q;rfl
             .exact absurd A (q l)
            have hD:∀l,l∈bO e.ren->∃i,i<G.dW.length/\B.getD i 0=l/\e.ren[i]? =some (some (some l)):=λl s=>by
             obtain⟨i,A⟩:=Ai s;exact⟨i,Nat.lt_of_lt_of_le (NG i l A) c0,acT i l A,A⟩
            obtain⟨D,aoA⟩:∃D,bO e.ren++(if br=true then []else e.fro.map (·.1))=D:=⟨_,rfl⟩;rw [aoA]at hK;have Tk:∀l,l∈D↔l∈bO e.ren\/(br=false/\∃f,(l,f)∈e.fro):=λl=>by
             rw [<-aoA];cases br<;>simp
            have Ak:∀l f,(l,f)∈e.fro->(∃g cc xs,S[l]? =some (.rows g cc xs))/\∃U,AE.look h l=some U/\U.live:=λl f s=>by
             obtain⟨_,g,cc,xs,q⟩:=kX.fro l f s;obtain⟨U,I,L⟩:=HR.old l _ q;cases L with | rows _=>exact⟨⟨g,cc,xs,q⟩,_,I,trivial⟩
            have NH:∀l o,AE.look (Dp D h) l=some o->o.live->l∉D/\AE.look h l=some o:=λl o s F=>by
             by_cases hd:l∈D
             .rw [Jy hd]at s;cases s;exact F.elim
             .rw [uV hd]at s;exact⟨hd,s⟩
            have O9:∀l o b,l∉D->AE.look h l=some o->o.live->c.μ l=some b->¬gq c1 c2 b:=λl o b hd s F a Y=>by
             obtain⟨i,lq,q,I,L,W,q4⟩:=aw4 b Y;have:=H.inj l o lq q b s F L W a q4;subst this;exact hd ((Tk l).2 (.inl (uS I)))
            have acU:∀b,gq c1 c2 b->gq c h b:=λb a=>by
             obtain⟨i,lq,q,_,L,W,q4⟩:=aw4 b a;exact⟨lq,q,L,W,q4⟩
            have f8:∀f b,c.K f b->w3.heap[b]? =w.heap[b]? :=λf b a=>g3.kept b (H.low f b a) (λY=>H.own f b (acU b Y) a)
            have Hb:bN c w3 (Dp D h):=by
             refine⟨λl o s=> ?_,λl o l' U b I L W q4 q5 q6=> ?_,?_,λf b a=>Nat.lt_of_lt_of_le (H.low f b a) g3.size,H.sub⟩
             .by_cases hd:l∈D
              .rw [Jy hd]at s;cases s;refine⟨?_,trivial⟩;rcases(Tk l).1 hd with h3 | ⟨_,f,h3⟩
               .obtain⟨i,A⟩:=Ai h3;obtain⟨U,q,_⟩:=V i l A;exact(H.obj l U q).1
               .obtain⟨_,U,q,_⟩:=Ak l f h3;exact(H.obj l U q).1
              .rw [uV hd]at s;obtain⟨I,L⟩:=H.obj l o s;exact⟨I,L.mono (.refl c) f8 g3.stays I (λb F a=>g3.kept b (L.lt F a) (O9 l o b hd s F a))⟩
             .obtain⟨_,r1⟩:=NH l o I L;obtain⟨_,r2⟩:=NH l' U W q4;exact H.inj l o l' U b r1 L r2 q4 q5 q6
             .rintro f b ⟨l,o,s,F,a⟩ hk;obtain⟨_,r1⟩:=NH l o s F;exact H.own f b ⟨l,o,r1,F,a⟩ hk
            have afM:∀l o b,AE.look h l=some o->o.live->c.μ l=some b->b<w.heap.size:=λl o b s F a=>(H.obj l o s).2.lt F a
            have aoB:∀l o b,l∉D->AE.look h l=some o->o.live->c.μ l=some b->¬gq c3 a5.h b:=λl o b hd s F a Y=>by
             rcases g3.tL b Y with h3 | h3
             .exact O9 l o b hd s F a h3
             .have:=afM l o b s F a;omega
            have acV:∀q g b,(q,g)∈e3.fro->c3.μ q=some b->gq c3 a5.h b:=λq g b hq a=>by
             obtain⟨_,g',cc,xs,s⟩:=Jz.fro q g hq;obtain⟨U,I,L⟩:=S3.heap.old q _ s;cases L with | rows _=>exact⟨q,_,I,trivial,a⟩
            have axc:br=true->∀l f,(l,f)∈e.fro->f=false:=λa l f s=>by
             rw [<-d9]at a;simp only [Bool.and_eq_true]at a;have:=all_eq_true.1 a.2 _ s;simpa using this
            have aqm:∀f b,gq c (Dp D h) b->KX e3 c3 br f b->False:=by
             rintro f b ⟨l,o,s,F,a⟩ hk;obtain⟨hd,s⟩:=NH l o s F;rcases hk with hk | ⟨q,g,I,L,_⟩
             .rcases g3.Az _ b hk with h3 | h3 | h3
              .rcases e9 _ b h3 with h3 | ⟨l2,g2,I,L,W⟩
               .exact H.own _ b ⟨l,o,s,F,a⟩ h3
               .obtain⟨_,o2,r1,r2⟩:=Ak l2 g2 I;have:=H.inj l o l2 o2 b s F r1 r2 a L;subst this;cases hbb:br with
                | false=>exact hd ((Tk l).2 (.inr ⟨hbb,g2,I⟩))
                | true=>
                 have Z:=W (by rw [hbb];simp);have h6:=axc hbb l g2 I;rw [Z]at h6;cases h6
              .have:=afM l o b s F a;omega
              .exact O9 l o b hd s F a h3
             .exact aoB l o b hd s F a (acV q g b I L)
            have aAM:∃μ2:Nat->Option (Nat×Nat),(∀l,l<S.length->μ2 l=c.ν l)/\(∀(i q:Nat),i<G.dW.length->S.length<=B.getD i 0->e3.ren[i]? =some (some (some q))->μ2 (B.getD i 0)=Jl (trK e3 s3.h i q) (c3.ν q))/\
              (∀i:Nat,i<G.dW.length->S.length<=B.getD i 0->e3.ren[i]? =some (some none)->μ2 (B.getD i 0)=none):=by
             have i7:∀l,∃ob:Option (Nat×Nat),(l<S.length->ob=c.ν l)/\(∀(i q:Nat),i<G.dW.length->S.length<=l->B.getD i 0=l->e3.ren[i]? =some (some (some q))->ob=Jl (trK e3 s3.h i q) (c3.ν q))/\
               (∀i:Nat,i<G.dW.length->S.length<=l->B.getD i 0=l->e3.ren[i]? =some (some none)->ob=none):=by
              intro l;by_cases s:l<S.length
              .exact⟨c.ν l,λ_=>rfl,λi q _ O=>by omega,λi _ O=>by omega⟩
              .by_cases hx:∃i q:Nat,i<G.dW.length/\B.getD i 0=l/\e3.ren[i]? =some (some (some q))
               .obtain⟨i,q,O,Z,h6⟩:=hx;refine⟨Jl (trK e3 s3.h i q) (c3.ν q),λh=>absurd h s,λj q' h7 _ h9 b0=> ?_,λj h7 _ h9 b0=> ?_⟩
                .have:=afL i j O h7 (Z.trans h9.symm);subst this;rw [h6]at b0;cases b0;rfl
                .have:=afL i j O h7 (Z.trans h9.symm);subst this;rw [h6]at b0;cases b0
               .exact⟨none,λh=>absurd h s,λj q' h7 _ h9 b0=>absurd ⟨j,q',h7,h9,b0⟩ hx,λ_ _ _ _ _=>rfl⟩
             obtain⟨μ2,aqx⟩:=Classical.axiomOfChoice i7;exact⟨μ2,λl s=>(aqx l).1 s,λi q O Z h6=>(aqx _).2.1 i q O Z rfl h6,λi O Z h6=>(aqx _).2.2 i O Z rfl h6⟩
            obtain⟨μ2,μa,μb,μc⟩:=aAM;have Vz:∀(i:Nat) (v:Option Nat),i<G.objs.length->e3.ren[i]? =some (some v)->v=some i/\(es0 (std N) G.objs.length G.dW).ren[i]? =some (some (some i)):=λi v A hv=>by
             have T:=Nat.lt_of_lt_of_le A c0;have h0:=OZ (n:=N) A T;have hg:vK G.dW[i]? =false:=by
              unfold vK;split
              .rename_i hh;exact absurd hh (Jz.gone hv)
              .rfl
             rw [hg]at h0;have h0:(es0 (std N) G.objs.length G.dW).ren[i]? =some (some (some i)):=by simpa using h0
             have:=y2.ren i _ (x2.ren i _ h0);rw [hv]at this;cases this;exact⟨rfl,h0⟩
            have d8:∀(i q:Nat),e3.ren[i]? =some (some (some q))->μ2 (B.getD i 0)=Jl (trK e3 s3.h i q) (c3.ν q):=λi q A=>by
             have T:i<G.dW.length:=by rw [<-c4];exact(List.getElem?_eq_some_iff.1 A).1
             rcases(a8 i T).2 with O | ⟨O,_⟩
             .have a7:=NG i _ O;obtain⟨Z,f4⟩:=Vz i _ a7 A;cases Z;obtain⟨U,h6,_⟩:=V i _ O;have i5:lu (std N) e3 i=none:=by rw [y2.tr i _ (x2.ren i _ f4),x2.tr i _ f4];rfl
              have i6:lu (std m) e i=none:=by simp [lu,e8]
              rw [μa _ (d2 _ U h6),q9 i5,mY,g3.le.ν i (by rw [d7];exact a7)];have:=(m3.name i _ O).2;rw [q9 i6,mY]at this;exact this.symm
             .exact μb i q T O A
            have e7:∀(i:Nat),e3.ren[i]? =some (some none)->μ2 (B.getD i 0)=none:=λi A=>by
             have T:i<G.dW.length:=by rw [<-c4];exact(List.getElem?_eq_some_iff.1 A).1
             rcases Nat.lt_or_ge i G.objs.length with O | O
             .obtain⟨Z,_⟩:=Vz i _ O A;cases Z
             .rcases(a8 i T).2 with Z | ⟨Z,_⟩
              .have:=NG i _ Z;omega
              .exact μc i T Z A
            have c6:Same S kT:=λl z hz=>by
             have b7:l<S.length:=by
              rcases Nat.lt_or_ge l S.length with s | s
              .exact s
              .simp [nmh,getElem?_eq_none s]at hz
             by_cases hp:∃i:Nat,e.ren[i]? =some (some (some l))
             .obtain⟨i,A⟩:=hp;have a7:=NG i l A;have T:=Nat.lt_of_lt_of_le a7 c0;have hn:=acT i l A;have g5:=(a8 i T).1;rw [hn]at g5;obtain⟨k3,f5⟩:∃k3,G.dW[i]? =some k3:=⟨_,getElem?_eq_getElem T⟩;obtain⟨o3,r1,r2⟩:=y5 e3 (.refl _) i k3 f5;rw [Nat.zero_add]at r2;have d4:nmh [o3] 0=some z->nmh kT l=some z:=λhh=>by
               simp only [nmh,g5,r1];simpa [nmh]using hh
              by_cases hg:k3= .gone
              .refine d4 ?_;rw [r2.gone hg];show nmh [yN (std m) h1T (B.getD i 0)] 0=some z;rw [hn];rw [<-aw8]at hz;unfold yN;simp only [nmh]at hz ⊢;split at hz
               .rename_i hh;rw [hh];simpa using hz
               .rename_i hh;rw [hh];simpa using hz
               .cases hz
              .obtain⟨v3,c9⟩:=r2.live hg;obtain⟨Z,h6⟩:=Vz i _ a7 c9;subst Z;obtain⟨j5,s1,s2⟩:=e4 i _ (getElem?_eq_getElem a7);have aAN:G.objs[i]≠ .gone:=λhh=>kX.gone A (by rw [getElem?_eq_getElem a7,hh])
               have t1:=s2.s1 l z.1 z.2 aAN A (by rw [hz]);have aAO:lu (std m) e i=none:=by simp [lu,e8]
               rw [aAO]at t1;have t2:nmh a9 i=some z:=by simp only [nmh,s1];simpa [nmh]using t1
               rcases(K3 i a7).2 z t2 with⟨cc,nn,b8⟩ | t3
               .exfalso;obtain⟨j4,aBQ⟩:=r2.live hg;have:=ND he3 (i:=i) f5 hg (l:=i) (by rw [Nat.zero_add];exact c9);obtain⟨o4,g8,aAP⟩:=this;rw [b8]at g8;cases g8;exact aAP ⟨_,_,rfl⟩
               .have aAQ:lu (std N) e3 i=none:=by rw [y2.tr i _ (x2.ren i _ h6),x2.tr i _ h6];rfl
                have t4:=r2.s1 i z.1 z.2 hg c9 (by rw [t3]);rw [aAQ]at t4;exact d4 t4
             .have hp':∀i:Nat,i<d0.length->e.ren[i]? ≠some (some (some l)):=λi _ A=>hp ⟨i,A⟩
              have:=P.old l (by rw [JA];exact b7) hp';rw [<-aw8]at hz;simp only [nmh,this];exact hz
            have aAR:∀(j:Nat) (kk:SkO),G.dW[j]? =some kk->∃o2,d0[j]? =some o2/\OF e3 s3.h (λi=>B.getD i 0) j kk (yN (std m) h1T (B.getD j 0)) o2:=λj kk hj=>by
             obtain⟨o2,I,L⟩:=y5 e3 (.refl _) j kk hj;exact⟨o2,I,by simpa using L⟩
            have aAS:br=true->G.dW.all SkO.fresh=true:=λa=>by
             rw [<-d9]at a;simp only [Bool.and_eq_true,Sig.fresh]at a;exact a.1.2
            have aAT:br=true->G.res.all SkV.fresh=true:=λa=>by
             rw [<-d9]at a;simp only [Bool.and_eq_true,Sig.fresh]at a;exact a.1.1
            obtain⟨j2,z1,z2,z3,z4,z5,z6⟩:=BP (ks:=G.dW) (nm:=λi=>B.getD i 0) (old:=λi=>yN (std m) h1T (B.getD i 0)) A3.abs.heap S3.heap aw7 Jz c4 y4 aAR (cb:=c) (hb':=Dp D h)
             Hb br aAS (ν2:=μ2) (n2:=kT.length) (by rw [d5,<-JA];exact P.len) (λl s=>μa l (by rw [<-d5];exact s)) aAL afL d8 e7 (h2:=kT) (λi A=>(a8 i A).1)
             (λl o s Y=>by
              have b7:l<S.length:=by
               rcases Nat.lt_or_ge l S.length with O | O
               .exact O
               .obtain⟨i,I,L⟩:=P.new l (by rw [JA];exact O) (List.getElem?_eq_some_iff.1 Y).1;rw [y4]at I;rw [am4 i I]at L;exact absurd (Option.some.inj L) (s i I)
              have b6:l∉bO e.ren:=λhp=>by
               obtain⟨i,I,L,_⟩:=hD l hp;exact s i I L
              have Z:=P.old l (by rw [JA];exact b7) (λi A hh=>b6 (uS hh));rw [Z]at Y;by_cases hd:l∈D
              .rcases(Tk l).1 hd with h6 | ⟨hb0,f,h6⟩
               .exact absurd h6 b6
               .rw [<-aey,hb0]at Y;simp only [Bool.false_eq_true,if_false]at Y;obtain⟨⟨g,cc,xs,h7⟩,_⟩:=Ak l f h6;have:Gone (bG (std m) S (e.fro.map (·.1))) l:=Dn (mem_map.2 ⟨_,h6,rfl⟩) h7;obtain⟨c5,n5,h8⟩:=this;rw [h8]at Y;cases Y;exact⟨.gone,Jy hd,.gone⟩
              .have h7:S[l]? =some o:=by
                rw [<-aey]at Y;split at Y
                .exact Y
                .rename_i hb0;rw [mW m _ _ (λh8=>hd ((Tk l).2 (.inr ⟨by simpa using hb0,by
                  obtain⟨p,hp,rfl⟩:=mem_map.1 h8;exact⟨p.2,hp⟩⟩)))]at Y
                 exact Y
               obtain⟨U,r1,r2⟩:=HR.old l _ h7;exact⟨U,by rw [uV hd];exact r1,r2.mono c6⟩)
             (λl s=>by
              have b7:S.length<=l:=by have:=P.len;rw [JA]at this;omega
              have d1:l∉D:=λhd=>by
               rcases(Tk l).1 hd with O | ⟨_,f,O⟩
               .obtain⟨i,A⟩:=Ai O;obtain⟨U,q,_⟩:=V i l A;have:=d2 l U q;omega
               .obtain⟨_,U,q,_⟩:=Ak l f O;have:=d2 l U q;omega
              rw [uV d1];exact HR.new l b7)
             (λb ⟨l,o,s,F,a⟩ Y=>by
              obtain⟨hd,s⟩:=NH l o s F;exact aoB l o b hd s F a Y)
             (λf b hk Y=>A3.abs.heap.own f b Y (g3.le.K f b (aqu f b hk))) aqm
            have i8:F2 (WV c3 w3 (nmh s3.h)) us rs:=by
             clear he2 x1 x2 x3 x4 hrs u1 f0
             induction u2 generalizing rs with
             | nil=>cases f7;exact .nil
             | cons I _ ih=>cases f7 with | cons W q4=>exact .cons ⟨_,I,W⟩ (ih _ q4)
            obtain⟨aAU,w1,w2⟩:=O6 (x4 A3.abs.heap S3.heap y2 aw7 z3 aAT i8);have c9:PVR (nmh kT) (one aAU) v:=by rw [<-hv];exact aqt w2 (Jw (x3 aqw))
            have g0:kT.length=nm S.length (kT.length-S.length):=by have:=P.len;rw [JA]at this;simp [nm];omega
            have aAV:∀b,gq c (Dp D h) b->gq c h b:=λb ⟨l,o,s,F,a⟩=>⟨l,o,(NH l o s F).2,F,a⟩
            have aoC:∀b,gq c3 a5.h b->gq c h b\/w.heap.size<=b:=λb a=>(g3.tL b a).imp (acU b) id
            refine⟨_,_,_,kT.length-S.length,?_,z1,g0,am2 w1,hK _ _ _ c9 z2 ?_ g0⟩
            .refine⟨z5,g3.size,g3.stays,λb a i0=>g3.kept b a (λY=>i0 (acU b Y)),λf b a=> ?_,λb a=> ?_,g3.os,g3.tape,g3.output⟩
             .rcases a with a | a | ⟨q,g,I,L,_⟩
              .exact .inl a
              .rcases g3.Az _ b a with O | O | O
               .rcases e9 _ b O with Z | ⟨l2,g2,I,L,W⟩
                .left;cases f with
                 | true=>simpa using Z
                 | false=>cases br with
                  | true=>exact H.sub b (by simpa using Z)
                  | false=>simpa using Z
                .obtain⟨_,o2,r1,r2⟩:=Ak l2 g2 I;exact .inr (.inr ⟨l2,o2,r1,r2,L⟩)
               .exact .inr (.inl O)
               .exact .inr (.inr (acU b O))
              .rcases aoC b (acV q g b I L)with O | O
               .exact .inr (.inr O)
               .exact .inr (.inl O)
             .rcases z4 b a with O | ⟨i,lq,q,_,L,W,q4⟩
              .exact .inl (aAV b O)
              .exact aoC b ⟨lq,q,L,W,q4⟩
            .refine⟨c6,by have:=P.len;rw [JA]at this;exact this,λl ⟨cc,nn,b8⟩=> ?_,λl s d1=> ?_⟩
             .have b7:=(List.getElem?_eq_some_iff.1 b8).1;have b6:∀i:Nat,e.ren[i]? ≠some (some (some l)):=λi A=>by
               obtain⟨U,I,L⟩:=V i l A;obtain⟨o2,W,q4⟩:=HR.old l _ b8;rw [I]at W;cases W;cases q4;exact L.elim
              have i3:∀f,(l,f)∉e.fro:=λf hf=>by
               obtain⟨⟨g,c5,xs,h7⟩,_⟩:=Ak l f hf;rw [b8]at h7;cases h7
              refine⟨cc,nn,?_⟩;rw [P.old l (by rw [JA];exact b7) (λi _=>b6 i),<-aey];split
              .exact b8
              .rw [mW m _ _ (λh8=>by
                obtain⟨p,hp,rfl⟩:=mem_map.1 h8;exact i3 p.2 hp)]
               exact b8
             .have b6:∀i:Nat,e.ren[i]? ≠some (some (some l)):=λi A=>d1 ((Tk l).2 (.inl (uS A)))
              refine⟨?_,?_⟩
              .rw [P.old l (by rw [JA];exact s) (λi _=>b6 i),<-aey];split
               .rfl
               .rename_i hb0;exact mW m _ _ (λh8=>d1 ((Tk l).2 (.inr ⟨by simpa using hb0,by
                 obtain⟨p,hp,rfl⟩:=mem_map.1 h8;exact⟨p.2,hp⟩⟩)))
              .rw [z6 l (λi A hh=>by
                rcases(a8 i A).2 with O | ⟨O,_⟩
                .rw [hh]at O;exact b6 i O
                .omega),uV d1]
           ·(subst hM;exact R.elim)
          ·(subst hM;exact R.elim)
         ·(subst hM;exact R.elim)
        ·(subst hM;exact R.elim)
       ·(subst hM;exact R.elim)
      intro ex a' w' he;cases ex with
      | outgrown=>exact he.elim
      | panic _=>exact he.elim
      | goto _=>exact he.elim
      | normal=>obtain⟨c3,a5,s3,g1,g2,g3,g4,_,g6⟩:=he;exact fin g1 g2 g3 g4 g6
      | ret=>obtain⟨c3,a5,s3,g1,g2,g3,g4,_,g6⟩:=he;exact fin g1 g2 g3 g4 g6
      | exit i=>obtain⟨c3,a5,s3,g1,g2,g3,g4,_,g6⟩:=he;exact g6.elim
     .cases J
    .cases J
   .cases J
  .cases J
end
end
end Go.TX
