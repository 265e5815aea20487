/- For every input the law returns true, and the input reads as it did. No condition. -/
import Derived.Test.YtomdenodojmcgaaGreatDoorZd
import Derived.ChangeSlices
import Derived.ChangeSame
import Derived.JoinedOf
import Derived.JoinedAt
import Derived.Handed
import Derived.Below
import Derived.Carry
import Derived.OpenShut
import Derived.ChangeKeysEq
import Derived.Deep.Slices
import Derived.OpenVars
import Derived.LaidMore
import Derived.MakeChecks
import Derived.Test.YtomdenodojmcgaaGreatDoorRows
import Derived.Test.YtomdenodojmcgaaGreatDoorTie
import Derived.Test.YtomdenodojmcgaaGreatDoorCards
import Derived.SevenTiedAt
set_option linter.all false
set_option linter.unusedSectionVars false
set_option linter.unusedVariables false
set_option linter.unusedSimpArgs false
namespace Go.TX.F
open Go Go.AE Go.TX
theorem Wos.set {l:List Int} (h:Wos l) {n:Int} (w:Wo n) (i:Nat):Wos (l.set i n):=λx hx=>(List.mem_or_eq_of_mem_set hx).elim (h x) (λe=>e▸w)
theorem Wos.drop {l:List Int} (h:Wos l) (i:Nat):Wos (l.drop i):=λx hx=>h x (List.mem_of_mem_drop hx)
theorem Wos.snoc {l:List Int} (h:Wos l) {n:Int} (w:Wo n):Wos (l++ [n]):=λx hx=>by
 rw [List.mem_append,List.mem_singleton]at hx
 exact hx.elim (h x) (λe=>e▸w)
theorem wo0:Wo 0:=⟨by decide,by decide⟩
theorem YM {s:MS} (h:Wos s.vals) (o:IOp):Wo (vx s o):=by
 unfold vx;split
 ·exact h.at _
 ·exact wo0
theorem ab5 {s:MS} (h:Wos s.vals) (o:IOp):Wo (vy s o):=by
 unfold vy;split
 ·exact h.at _
 ·exact wo0
theorem Wos.hd {l:List Int} (h:Wos l):Wo (l.getD 0 default):=h.at 0
theorem aj2 {s:MS} {o:IOp} (h:Wos s.vals) (k:MOK s.m) (k1:o.kind=1->0<=o.k/\o.k<=65535):Wo (mV s o):=by
 unfold mV
 split
 ·exact k1 ‹_›
 split
 ·exact k.rw.at _
 split
 ·exact RF _ _ _
 split
 ·exact k.mw.at _
 split
 ·exact k.iw.hd
 ·exact wo0
theorem aj3 {s:MS} (h:Wos s.vals) (k:MOK s.m) (o:IOp):MOK (mM s o):=by
 unfold mM
 split
 ·exact {k with m64:=by rw [List.length_set];exact k.m64,mw:=k.mw.set (ab5 h o) _}
 split
 ·exact {k with iw:=k.iw.drop 1}
 split
 ·exact {k with ow:=k.ow.snoc (YM h o)}
 split
 ·exact {k with r4:=by rw [List.length_set];exact k.r4,rw:=k.rw.set (YM h o) _}
 ·exact k
theorem YN (s:MS) (o:IOp):(mM s o).ins.length<=s.m.ins.length/\(mM s o).outs.length<=s.m.outs.length+1/\(mM s o).regs.length=s.m.regs.length/\(mM s o).mem.length=s.m.mem.length:=by
 unfold mM
 split
 ·exact⟨Nat.le_refl _,Nat.le_succ _,rfl,List.length_set⟩
 split
 ·exact⟨by rw [List.length_drop];omega,Nat.le_succ _,rfl,rfl⟩
 split
 ·exact⟨Nat.le_refl _,by rw [List.length_append];exact Nat.le_refl _,rfl,rfl⟩
 split
 ·exact⟨Nat.le_refl _,Nat.le_succ _,List.length_set,rfl⟩
 ·exact⟨Nat.le_refl _,Nat.le_succ _,rfl,rfl⟩
theorem aj4 (b:Blk) (s:MS) (o:IOp):(aT b s o).m.ins.length<=s.m.ins.length/\(aT b s o).m.outs.length<=s.m.outs.length+1/\(aT b s o).m.regs.length=s.m.regs.length/\(aT b s o).m.mem.length=s.m.mem.length:=by
 unfold aT
 split
 ·exact⟨Nat.le_refl _,Nat.le_succ _,rfl,rfl⟩
 split
 ·exact⟨Nat.le_refl _,Nat.le_succ _,rfl,rfl⟩
 split
 ·exact YN s o
 ·exact YN s o
theorem IU (b:Blk):∀(l:List IOp) (s:MS),(l.foldl (aT b) s).m.ins.length<=s.m.ins.length/\(l.foldl (aT b) s).m.outs.length<=s.m.outs.length+l.length/\(l.foldl (aT b) s).m.regs.length=s.m.regs.length/\(l.foldl (aT b) s).m.mem.length=s.m.mem.length
 | [],s=>⟨Nat.le_refl _,Nat.le_refl _,rfl,rfl⟩
 | o::l,s=>by
  rw [List.foldl_cons]
  have h:=IU b l (aT b s o)
  have k:=aj4 b s o
  simp only [List.length_cons]
  exact⟨by omega,by omega,by omega,by omega⟩
theorem R8 {b:Blk} {m:aA} (hb:dN b) (hs:MSh m) (ho:m.outs.length<900000000):MSh (uX b (b.ops.foldl (aT b) ⟨m,[],false⟩)):=by
 have h:=IU b b.ops ⟨m,[],false⟩
 have sz:=hb.sz
 obtain⟨s1,s2,s3,s4⟩:=hs
 dsimp only at h
 unfold uX
 split<;>refine⟨?_,?_,?_,?_⟩<;>(try dsimp only)<;>omega
def SM (b:Blk) (m0:aA) (i:Nat):MS:=(b.ops.take i).foldl (aT b) ⟨m0,[],false⟩
structure RJ (b:Blk) (m0:aA) (i:Nat) (S:MS):Prop where
 e:S=SM b m0 i
 lf:S.left=false
 ln:S.vals.length=i
 wv:Wos S.vals
 ok:MOK S.m
 li:S.m.ins.length<1000000000
 lo:S.m.outs.length<=m0.outs.length+i
theorem R9 {b:Blk} {m0:aA} {i:Nat} (hi:i<b.ops.length):SM b m0 (i+1)=aT b (SM b m0 i) (b.ops.getD i default):=by
 unfold SM;rw [List.take_succ_eq_append_getElem hi,List.foldl_append,getD_lt hi];rfl
theorem aa1 {b:Blk} {m0:aA} {i:Nat} {m:aA} {v:List Int} (h:SM b m0 i=⟨m,v,true⟩):b.ops.foldl (aT b) ⟨m0,[],false⟩=⟨m,v,true⟩:=by
 conv=>lhs;rw [<-List.take_append_drop i b.ops]
 rw [List.foldl_append,show(b.ops.take i).foldl (aT b) ⟨m0,[],false⟩=_ from h];exact IQ b m v _
theorem RJ.next {b:Blk} {m0:aA} {i:Nat} {S:MS} {o:IOp} (h:RJ b m0 i S) (hi:i<b.ops.length) (ho:b.ops.getD i default=o) (k1:o.kind=1->0<=o.k/\o.k<=65535)
  (c1:¬((o.kind=4\/o.kind=5)/\64<=vx S o)) (c2:¬(o.kind=5/\b.pc+o.at_+1<=vx S o/\vx S o<=b.pc+b.len-1)):RJ b m0 (i+1) ⟨mM S o,S.vals++ [mV S o],false⟩:=by
 have l:=YN S o
 refine⟨?_,rfl,by rw [List.length_append,h.ln];rfl,h.wv.snoc (aj2 h.wv h.ok k1),aj3 h.wv h.ok o,by have:=h.li;dsimp only;omega,by have:=h.lo;dsimp only;omega⟩
 rw [R9 hi,<-h.e,ho]
 unfold aT
 rw [if_neg (by rw [h.lf];decide),if_neg c1,if_neg c2]
theorem ae7 {l:List Int} {i n:Nat} (hl:l.length=i) (hi:i<n) (v:Int):(l++List.replicate (n-i) 0).set i v=(l++ [v])++List.replicate (n- (i+1)) 0:=by
 rw [List.set_append_right _ _ (by omega),hl,Nat.sub_self,show n-i=(n- (i+1))+1 by omega,List.replicate_succ,List.set_cons_zero,List.append_assoc];rfl
theorem aa2 {l:List Int} {i n:Nat} (hi:i<n):l++List.replicate (n-i) 0=(l++ [0])++List.replicate (n- (i+1)) 0:=by
 rw [show n-i=(n- (i+1))+1 by omega,List.replicate_succ,List.append_assoc];rfl
theorem aj5 {l:List Int} {i n:Nat} {x:Int} (hl:l.length=i) (h0:0<=x) (h:x<i):((l++List.replicate (n-i) 0).getD (x).toNat default)=((l).getD (x).toNat default):=by
 rw [List.getD_eq_getElem?_getD,List.getElem?_append_left (by omega),<-List.getD_eq_getElem?_getD]
theorem ae8 {l:List Int} {i n:Nat} (hl:l.length=i) (h:i<=n):(l++List.replicate (n-i) 0).length=n:=by
 rw [List.length_append,List.length_replicate];omega
end Go.TX.F
namespace Go.TX.F
open Go Go.AE Go.TX
theorem Qd (a b:Int):FB 1 a b=(inB a 0 65535&&inB b 0 65535&&decide (a=b)):=by unfold FB;simp
theorem Qe (a b:Int):FB 2 a b=(inB a 0 65535&&inB b 0 65535&&decide (a<b)):=by unfold FB;simp
def RT (b:Blk) (m0:aA) (y:List IOp×Int×Int×Int×Int×Bool×Bool×Int×List Int×Int×List Int×List Int×Blk×List Int×List Int×Unit):Prop:=
 ∃(i:Nat) (S:MS),i<=b.ops.length/\RJ b m0 i S/\y=(b.ops,(b.ops.length:Int),(i:Int),S.m.pc,S.m.save,S.m.bL,S.m.waits,S.m.halt,S.m.ins,S.m.count,S.m.regs,S.m.mem,b,S.vals++List.replicate (b.ops.length-i) 0,S.m.outs,())
theorem RT.next {b:Blk} {m0:aA} {i:Nat} {S:MS} {o:IOp} {y:List IOp×Int×Int×Int×Int×Bool×Bool×Int×List Int×Int×List Int×List Int×Blk×List Int×List Int×Unit} (h:RJ b m0 i S) (hi:i<b.ops.length) (ho:b.ops.getD i default=o) (k1:o.kind=1->0<=o.k/\o.k<=65535)
  (c1:¬((o.kind=4\/o.kind=5)/\64<=vx S o)) (c2:¬(o.kind=5/\b.pc+o.at_+1<=vx S o/\vx S o<=b.pc+b.len-1))
  (e:y=(b.ops,(b.ops.length:Int),(i:Int)+1,(mM S o).pc,(mM S o).save,(mM S o).bL,(mM S o).waits,(mM S o).halt,(mM S o).ins,(mM S o).count,(mM S o).regs,(mM S o).mem,b,(S.vals++ [mV S o])++List.replicate (b.ops.length- (i+1)) 0,(mM S o).outs,())):
  RT b m0 y/\(b.ops.length-y.2.2.1).toNat< (b.ops.length- (i:Int)).toNat:=by
 subst e
 exact⟨⟨i+1,_,hi,h.next hi ho k1 c1 c2,rfl⟩,by dsimp only;omega⟩
set_option maxHeartbeats 2000000 in
theorem aj6 {p1:Int×Int×Bool×Bool×Int×List Int×Int×List Int×List Int×List Int×Unit->Bool} {f1:Int×Int×Bool×Bool×Int×List Int×Int×List Int×List Int×List Int×Unit->Int×Int×Int×Bool×Bool×Int×List Int×Int×List Int×List Int×List Int×Unit} (hp1:∀(pc sv:Int) (lt wt:Bool) (ha:Int) (ins:List Int) (ct:Int) (regs mem outs:List Int),ins.length<1000000000->p1 (pc,sv,lt,wt,ha,ins,ct,regs,mem,outs,())=true) (hf1:∀(pc sv:Int) (lt wt:Bool) (ha:Int) (ins:List Int) (ct:Int) (regs mem outs:List Int),ins.length<1000000000->f1 (pc,sv,lt,wt,ha,ins,ct,regs,mem,outs,())=(ins.getD 0 default,pc,sv,lt,wt,ha,ins.drop 1,ct,regs,mem,outs,())) {p2:Int×Int×Int×Unit->Bool} {f2:Int×Int×Int×Unit->Int×Unit} (hp2:∀op a b,p2 (op,a,b,())=true) (hf2:∀op a b,f2 (op,a,b,())=(wdo op a b,())) {p3:Int×Int×Int×Unit->Bool} {f3:Int×Int×Int×Unit->Bool×Unit} (hp3:∀r a b,p3 (r,a,b,())=true) (hf3:∀r a b,f3 (r,a,b,())=(inB a 0 65535&&inB b 0 65535&& (decide (r=1/\a=b\/r=2/\a<b)),())) {p4:Int×Int×Int×Unit->Bool} {f4:Int×Int×Int×Unit->Bool×Unit} (hp4:∀a b c,p4 (a,b,c,())=true) (hf4:∀a b c,f4 (a,b,c,())=(inB a b c,())) (b:Blk) (m:aA) (hb:dN b) (hm:MOK m) (hs:MSh m) (ho:m.outs.length<900000000):XK (std 0).al p1 f1 p2 f2 p3 f3 p4 f4 (b,m.pc,m.save,m.bL,m.waits,m.halt,m.ins,m.count,m.regs,m.mem,m.outs,()) (λy=>y=mB (uX b (b.ops.foldl (aT b) ⟨m,[],false⟩))):=by
 have sz:=hb.sz
 dsimp only [XK,Tup.q,Tup.o]
 simp (disch:=omega) only [RR,RB]
 refine⟨by omega,by omega,aL (RT b m) (λy=>(b.ops.length-y.2.2.1).toNat) ⟨0,⟨m,[],false⟩,Nat.zero_le _,⟨rfl,rfl,rfl,(by intro n hn;cases hn),hm,hs.2.2.1,Nat.le_add_right _ _⟩,rfl⟩ ?_⟩
 rintro y ⟨i,S,hi,R,rfl⟩
 dsimp only
 have ok:=R.ok
 have pw:0<=S.m.pc/\S.m.pc<=65535:=ok.pc
 have cw:=ok.ct
 have bl:=hb.ln
 have bp':=hb.pc
 have en:=hb.en
 by_cases h7:i<b.ops.length
 case neg=>
  have ei:i=b.ops.length:=by omega
  have eS:b.ops.foldl (aT b) ⟨m,[],false⟩=S:=by rw [R.e,ei];unfold SM;rw [List.take_of_length_le (Nat.le_refl _)]
  have vl:(S.vals++List.replicate (b.ops.length-i) 0)=S.vals:=by rw [ei,Nat.sub_self];simp
  have ln:=R.ln
  rw [eS]
  unfold uX
  rw [R.lf,if_neg (by decide)]
  rw [vl]
  have hf:=en.f
  have x1:=en.x1
  have y1:=en.y1
  unfold Vl at x1 y1
  have hh:¬((i:Int)<b.ops.length):=by omega
  rcases(by omega:b.fin=1\/b.fin=2\/b.fin=3\/b.fin=4)with f | f | f | f
  all_goals simp (disch:=omega) only [RR,RB,f,Int.reduceEq,Int.reduceSub,Int.reduceAdd,hp3,hf3,false_and,hh]
  ·have v:=x1 (by omega)
   exact⟨v.1,by omega,v.1,by omega⟩
  ·have v:=x1 (by omega)
   have w:=y1 (by omega)
   refine⟨v.1,by omega,v.1,by omega,w.1,by omega,w.1,by omega,λh=> ?_,λh=> ?_⟩
   ·rw [if_pos (by rw [Qd,h.1.1,h.1.2,h.2];simp)]
   ·rw [if_neg (by rw [Qd,h];decide)]
  ·have v:=x1 (by omega)
   have w:=y1 (by omega)
   refine⟨v.1,by omega,v.1,by omega,w.1,by omega,w.1,by omega,λh=> ?_,λh=> ?_⟩
   ·rw [if_pos (by rw [Qe,h.1.1,h.1.2];simpa using h.2)]
   ·rw [if_neg (by rw [Qe,h];decide)]
 have hop:=hb.op i (by omega) (by omega)
 have eT:((i:Int)).toNat=i:=rfl
 generalize hq:((b.ops).getD ((i:Int)).toNat default)=o at*
 rw [eT]at hq
 have kd:=hop.kd
 have x1:=hop.x1
 have y1:=hop.y1
 unfold Vl at x1 y1
 have k1:=hop.k1
 have k2:=hop.k2
 have k3:=hop.k3
 have a1:=hop.a1
 have a0:=hop.a0
 have ln:=R.ln
 have rl:=ae8 (n:=b.ops.length) ln hi
 have nx:=λ{y} c1 c2 e=>RT.next (y:=y) R h7 hq k1 c1 c2 e
 have vs:∀v:Int,(S.vals++List.replicate (b.ops.length-i) 0).set i v=(S.vals++ [v])++List.replicate (b.ops.length- (i+1)) 0:=λv=>ae7 ln h7 v
 have v0:(S.vals++List.replicate (b.ops.length-i) 0)=(S.vals++ [0])++List.replicate (b.ops.length- (i+1)) 0:=aa2 h7
 have va:∀x:Int,0<=x->x<i->((S.vals++List.replicate (b.ops.length-i) 0).getD (x).toNat default)=((S.vals).getD (x).toNat default):=λx a c=>aj5 ln a c
 have xb:0< (i:Int)->0<=o.x/\o.x<b.ops.length:=λ_=>by
  by_cases h:hX o
  ·have:=x1 h;omega
  ·have:=hop.x0 h;omega
 have yb:0< (i:Int)->0<=o.y/\o.y<b.ops.length:=λ_=>by
  by_cases h:hY o
  ·have:=y1 h;omega
  ·have:=hop.y0 h;omega
 have lv:∀mm:aA,aT b S o=⟨mm,S.vals,true⟩->b.ops.foldl (aT b) ⟨m,[],false⟩=⟨mm,S.vals,true⟩:=λmm h=>aa1 (i:=i+1) (by rw [R9 h7,<-R.e,hq];exact h)
 have m64:=ok.m64
 have r4:=ok.r4
 have lo:=R.lo
 have li:=R.li
 have i0:(0:Int)<=i:=by omega
 have i1:(i:Int)<b.ops.length:=by omega
 generalize hV:S.vals++List.replicate (b.ops.length-i) 0=V at*
 by_cases hz:0< (i:Int)
 case neg=>
  have nX:¬hX o:=λh=>by have:=x1 h;omega
  rcases(by omega:o.kind=1\/o.kind=2\/o.kind=6)with k | k | k
  ·simp (disch:=omega) only [RR,RB,hq,eT,hz,k,Int.reduceEq,false_and,decide_false,decide_true,Bool.or_false,Bool.false_or,Bool.false_and,Bool.true_and,Bool.true_or,Bool.or_true,or_self,rl,i0,i1]
   exact nx (λh=>by omega) (λh=>by omega) (by rw [vs];simp [mM,mV,k])
  ·have g:=k2 (Or.inl k)
   simp (disch:=omega) only [RR,RB,hq,eT,hz,k,Int.reduceEq,false_and,decide_false,decide_true,Bool.or_false,Bool.false_or,Bool.false_and,Bool.true_and,Bool.true_or,Bool.or_true,or_self,rl,i0,i1,r4]
   exact⟨g.1,by omega,g.1,by omega,nx (λh=>by omega) (λh=>by omega) (by rw [vs];simp [mM,mV,k])⟩
  ·simp (disch:=omega) only [RR,RB,hq,eT,hz,k,Int.reduceEq,false_and,decide_false,decide_true,Bool.or_false,Bool.false_or,Bool.false_and,Bool.true_and,Bool.true_or,Bool.or_true,or_self,rl,i0,i1,hp1 _ _ _ _ _ _ _ _ _ _ li,hf1 _ _ _ _ _ _ _ _ _ _ li]
   exact nx (λh=>by omega) (λh=>by omega) (by rw [vs];simp [mM,mV,k])
 obtain⟨xb0,xb1⟩:=xb hz
 obtain⟨yb0,yb1⟩:=yb hz
 have ex:hX o->((V).getD (o.x).toNat default)=vx S o:=λh=>by
  have:=x1 h
  unfold vx;rw [if_pos h];exact va o.x this.1 this.2.1
 have ey:hY o->((V).getD (o.y).toNat default)=vy S o:=λh=>by
  have:=y1 h
  unfold vy;rw [if_pos h];exact va o.y this.1 this.2.1
 have wx:=YM R.wv o
 have wy:=ab5 R.wv o
 generalize hX':((V).getD (o.x).toNat default)=X at*
 generalize hY':((V).getD (o.y).toNat default)=Y at*
 rcases(by omega:o.kind=1\/o.kind=2\/o.kind=3\/o.kind=4\/o.kind=5\/o.kind=6\/o.kind=7\/o.kind=8)with k | k | k | k | k | k | k | k
 ·simp (disch:=omega) only [RR,RB,hq,eT,hz,k,Int.reduceEq,false_and,decide_false,decide_true,Bool.or_false,Bool.false_or,Bool.false_and,Bool.true_and,Bool.true_or,Bool.or_true,or_self,rl,i0,i1,xb0,xb1,yb0,yb1,hX',hY']
  exact nx (λh=>by omega) (λh=>by omega) (by rw [vs];simp [mM,mV,k])
 ·have g:=k2 (Or.inl k)
  simp (disch:=omega) only [RR,RB,hq,eT,hz,k,Int.reduceEq,false_and,decide_false,decide_true,Bool.or_false,Bool.false_or,Bool.false_and,Bool.true_and,Bool.true_or,Bool.or_true,or_self,rl,i0,i1,xb0,xb1,yb0,yb1,hX',hY',r4]
  exact⟨g.1,by omega,g.1,by omega,nx (λh=>by omega) (λh=>by omega) (by rw [vs];simp [mM,mV,k])⟩
 ·have e1:=ex (by unfold hX;omega)
  have e2:=ey (Or.inl k)
  simp (disch:=omega) only [RR,RB,hq,eT,hz,k,Int.reduceEq,false_and,decide_false,decide_true,Bool.or_false,Bool.false_or,Bool.false_and,Bool.true_and,Bool.true_or,Bool.or_true,or_self,rl,i0,i1,xb0,xb1,yb0,yb1,hX',hY',hp2,hf2]
  exact nx (λh=>by omega) (λh=>by omega) (by rw [vs];simp [mM,mV,k,e1,e2])
 ·have e1:=ex (by unfold hX;omega)
  have g:=a1 (by unfold evO;omega)
  unfold Wo at wx
  simp (disch:=omega) only [RR,RB,hq,eT,hz,k,Int.reduceEq,false_and,decide_false,decide_true,Bool.or_false,Bool.false_or,Bool.false_and,Bool.true_and,Bool.true_or,Bool.or_true,or_self,rl,i0,i1,xb0,xb1,yb0,yb1,hX',hY',m64]
  refine⟨λh=> ?_,λh=> ?_⟩
  ·rw [lv (leave S.m o.at_ 3) (by unfold aT;rw [if_neg (by rw [R.lf];decide),if_pos ⟨Or.inl k,by omega⟩])]
   simp [uX,leave,mB]
  ·exact⟨by omega,by omega,by omega,by omega,nx (λh=>by omega) (λh=>by omega) (by rw [vs];simp [mM,mV,k,e1])⟩
 ·have e1:=ex (by unfold hX;omega)
  have e2:=ey (Or.inr k)
  have g:=a1 (by unfold evO;omega)
  unfold Wo at wx
  simp (disch:=omega) only [RR,RB,hq,eT,hz,k,Int.reduceEq,false_and,decide_false,decide_true,Bool.or_false,Bool.false_or,Bool.false_and,Bool.true_and,Bool.true_or,Bool.or_true,or_self,rl,i0,i1,xb0,xb1,yb0,yb1,hX',hY',m64,hp4,hf4,cK,ku]
  refine⟨λh=> ?_,λh=>⟨by omega,by omega,by omega,by omega,λh2=> ?_,λh2=> ?_⟩⟩
  ·rw [lv (leave S.m o.at_ 3) (by unfold aT;rw [if_neg (by rw [R.lf];decide),if_pos ⟨Or.inr k,by omega⟩])]
   simp [uX,leave,mB]
  ·rw [lv (leave (mM S o) (o.at_+1) (mM S o).halt) (by unfold aT;rw [if_neg (by rw [R.lf];decide),if_neg (by omega),if_pos ⟨k,by omega⟩])]
   simp [uX,leave,mM,mB,k,e1,e2]
  ·exact nx (λh=>by omega) (λh=>by omega) (by rw [v0];simp [mM,mV,k,e1,e2])
 ·simp (disch:=omega) only [RR,RB,hq,eT,hz,k,Int.reduceEq,false_and,decide_false,decide_true,Bool.or_false,Bool.false_or,Bool.false_and,Bool.true_and,Bool.true_or,Bool.or_true,or_self,rl,i0,i1,xb0,xb1,yb0,yb1,hX',hY',hp1 _ _ _ _ _ _ _ _ _ _ li,hf1 _ _ _ _ _ _ _ _ _ _ li]
  exact nx (λh=>by omega) (λh=>by omega) (by rw [vs];simp [mM,mV,k])
 ·have e1:=ex (by unfold hX;omega)
  simp (disch:=omega) only [RR,RB,hq,eT,hz,k,Int.reduceEq,false_and,decide_false,decide_true,Bool.or_false,Bool.false_or,Bool.false_and,Bool.true_and,Bool.true_or,Bool.or_true,or_self,rl,i0,i1,xb0,xb1,yb0,yb1,hX',hY',List.length_cons,List.length_nil]
  exact⟨by omega,nx (λh=>by omega) (λh=>by omega) (by rw [v0];simp [mM,mV,k,e1])⟩
 ·have e1:=ex (by unfold hX;omega)
  have g:=k2 (Or.inr k)
  simp (disch:=omega) only [RR,RB,hq,eT,hz,k,Int.reduceEq,false_and,decide_false,decide_true,Bool.or_false,Bool.false_or,Bool.false_and,Bool.true_and,Bool.true_or,Bool.or_true,or_self,rl,i0,i1,xb0,xb1,yb0,yb1,hX',hY',r4]
  exact⟨g.1,by omega,g.1,by omega,nx (λh=>by omega) (λh=>by omega) (by rw [v0];simp [mM,mV,k,e1])⟩
theorem aj7 {p1:Blk×Int×Int×Bool×Bool×Int×List Int×Int×List Int×List Int×List Int×Unit->Bool} {f1:Blk×Int×Int×Bool×Bool×Int×List Int×Int×List Int×List Int×List Int×Unit->Int×Int×Bool×Bool×Int×List Int×Int×List Int×List Int×List Int×Unit} (hp1:∀(b:Blk) (m:aA),dN b->MOK m->MSh m->m.outs.length<900000000->p1 (b,m.pc,m.save,m.bL,m.waits,m.halt,m.ins,m.count,m.regs,m.mem,m.outs,())=true) (hf1:∀(b:Blk) (m:aA),dN b->MOK m->MSh m->m.outs.length<900000000->f1 (b,m.pc,m.save,m.bL,m.waits,m.halt,m.ins,m.count,m.regs,m.mem,m.outs,())=mB (uX b (b.ops.foldl (aT b) ⟨m,[],false⟩))) {p2:Blk×Unit->Bool} {f2:Blk×Unit->Bool×Unit} (hp2:∀b,b.ops.length<1000000000->p2 (b,())=true) (hf2:∀b,b.ops.length<1000000000->f2 (b,())=(bp (dN b),())) {p3:aA×Unit->Bool} {f3:aA×Unit->Int×Int×Bool×Bool×Int×Int×List Int×List Int×List Int×List Int×Unit} (hp3:∀m,MSh m->p3 (m,())=true) (hf3:∀m,MSh m->f3 (m,())=m10 m) {p4:aA×Unit->Bool} {f4:aA×Unit->Bool×Unit} (hp4:∀m,MSh m->p4 (m,())=true) (hf4:∀m,MSh m->f4 (m,())=(bp (MOK m),())) (b:Blk) (m:aA) (hb:b.ops.length<1000000000) (hs:MSh m) (ho:m.outs.length<900000000):XL (std 0).al p1 f1 p2 f2 p3 f3 p4 f4 (b,m,()) (λy=>y=mR (jr b m)):=by
 have mM':∀m:aA,Co.mk .aC (m.regs,m.pc,m.mem,m.save,m.bL,m.waits,m.halt,m.ins,m.outs,m.count,())=m:=λ_=>rfl
 unfold m10 at hf3
 unfold mB at hf1
 dsimp only [XL,Tup.q,Tup.o,QT]at*
 simp (disch:=omega) only [RR,RB,MRB,hp2 b hb,hf2 b hb,hp4 m hs,hf4 m hs,hp3 m hs,hf3 m hs]
 unfold jr
 by_cases c:dN b/\MOK m
 case neg=>
  rw [dV c]
  by_cases c1:dN b
  ·simp [bN c1,dV (λg=>c ⟨c1,g⟩),Qb]
  ·simp [dV c1,Qb]
 rw [bN c]
 obtain⟨c1,c2⟩:=c
 have bl:=c1.ln
 have sh:=R8 c1 hs ho
 simp (disch:=omega) only [RR,bN c1,bN c2,hp1 b m c1 c2 hs ho,hf1 b m c1 c2 hs ho,mM',hp3 _ sh,hf3 _ sh]
 refine⟨λh=> ?_,λh=> ?_⟩
 ·rw [if_pos (show m.halt≠0\/m.pc≠b.pc\/1000000-b.len<m.count from h.elim (λg=>g.elim Or.inl λk=>Or.inr (Or.inl k)) λk=>Or.inr (Or.inr k))]
 ·rw [if_neg (show¬(m.halt≠0\/m.pc≠b.pc\/1000000-b.len<m.count)from λg=>g.elim (λk=>k h.1.1) λg=>g.elim (λk=>k h.1.2) λk=>h.2 k)]
end Go.TX.F
namespace Go.TX.F
open Go Go.AE Go.TX
theorem aj8 {n:Int} (h0:0<=n) (h1:n<=15):(rR.getD n.toNat default).d=decide (n≠0/\n≠13)/\(rR.getD n.toNat default).a=decide (n≠0/\n≠1/\n≠14/\n≠15)/\
  (rR.getD n.toNat default).most=(if n=0 then 3 else if n=1 then 255 else if n=2 then 0 else if n<=7 then 3 else if n=8 then 15 else if n<=12 then 255 else 0):=by
 rcases(by omega:n=0\/n=1\/n=2\/n=3\/n=4\/n=5\/n=6\/n=7\/n=8\/n=9\/n=10\/n=11\/n=12\/n=13\/n=14\/n=15)with h | h | h | h | h | h | h | h | h | h | h | h | h | h | h | h<;>subst h<;>exact⟨rfl,rfl,rfl⟩
theorem ae9:(rR.length:Int)=16:=rfl
theorem ani {p1:Int×Int×Int×Unit->Bool} {f1:Int×Int×Int×Unit->Bool×Unit} (hp1:∀a b c,p1 (a,b,c,())=true) (hf1:∀a b c,f1 (a,b,c,())=(inB a b c,())) {p2:Int×Unit->Bool} {f2:Int×Unit->Bool×Unit} (hp2:∀a,p2 (a,())=true) (hf2:∀a,f2 (a,())=(inB a 0 3,())) (i:Ins):ad6 (std 0).al p1 f1 p2 f2 (i,()) (λy=>y=(bp (bI i),())):=by
 have RI':(∀i:Ins,dR .ins 0 i=i.op)/\(∀i:Ins,dR .ins 1 i=i.d)/\(∀i:Ins,dR .ins 2 i=i.a)/\(∀i:Ins,dR .ins 3 i=i.k)/\(∀f:Form,TW .form 0 f=f.d)/\(∀f:Form,TW .form 1 f=f.a)/\(∀f:Form,dR .form 2 f=f.most):=⟨λ_=>rfl,λ_=>rfl,λ_=>rfl,λ_=>rfl,λ_=>rfl,λ_=>rfl,λ_=>rfl⟩
 have gl:Q0 .form=rR:=rfl
 dsimp only [ad6,Tup.q,Tup.o]
 simp (disch:=omega) only [RR,RI',hp1,hf1,hp2,hf2,gl,ae9,cK,ku]
 refine⟨λh=>by rw [dV (λg=>h ⟨g.1.1,g.1.2⟩)],λh=> ?_⟩
 obtain⟨f1',f2',f3'⟩:=aj8 h.1 h.2
 rw [f1',f2',f3']
 refine⟨h.1,by omega,Prod.ext ?_ rfl⟩
 simp only [xD,ET]
 have ob:∀P Q:Prop,(bp P || bp Q)=bp (P\/Q):=λP Q=>by by_cases h1:P<;>by_cases h2:Q<;>simp [bp,h1,h2]
 simp only [ob,<-w9]
 refine xg ?_
 unfold bI
 obtain⟨g0,g1⟩:=h
 rcases(by omega:i.op=0\/i.op=1\/i.op=2\/(3<=i.op/\i.op<=7)\/i.op=8\/(9<=i.op/\i.op<=12)\/i.op=13\/i.op=14\/i.op=15)with h | h | h | h | h | h | h | h | h
 all_goals (constructor<;>intro g<;>(repeat' split at g)<;>(repeat' split)<;>omega)
theorem anj {p1:Int×Int×Int×Unit->Bool} {f1:Int×Int×Int×Unit->Bool×Unit} (hp1:∀a b c,p1 (a,b,c,())=true) (hf1:∀a b c,f1 (a,b,c,())=(inB a b c,())) (a:Int):ad7 (std 0).al p1 f1 (a,()) (λy=>y=(inB a 11 13,())):=by
 dsimp only [ad7,Tup.q,Tup.o]
 simp (disch:=omega) only [RR,hp1,hf1]
theorem ank {p1:Int×Unit->Bool} {f1:Int×Unit->Bool×Unit} (hp1:∀a,p1 (a,())=true) (hf1:∀a,f1 (a,())=(inB a 11 13,())) {p2:Ins×Unit->Bool} {f2:Ins×Unit->Bool×Unit} (hp2:∀i,p2 (i,())=true) (hf2:∀i,f2 (i,())=(bp (bI i),())) {p3:Int×Int×Int×Unit->Bool} {f3:Int×Int×Int×Unit->Bool×Unit} (hp3:∀a b c,p3 (a,b,c,())=true) (hf3:∀a b c,f3 (a,b,c,())=(inB a b c,())) (pc:Int) (l:List Ins) (hl:l.length<1000000000):ad8 (std 0).al p1 f1 p2 f2 p3 f3 (pc,l,()) (λy=>y=(bp (iX pc l),())):=by
 have io:∀i:Ins,dR .ins 0 i=i.op:=λ_=>rfl
 dsimp only [ad8,Tup.q,Tup.o]
 simp (disch:=omega) only [RR,io,hp1,hf1,hp2,hf2,hp3,hf3,cK,ku]
 refine⟨λh=> ?_,λh=> ?_⟩
 ·rw [dV]
  intro g
  have a:=g.ln
  have c:=g.pc
  omega
 refine aL (λ(y:List Ins×List Ins×Int×Int×Unit)=>y.1=l/\y.2.1=l/\y.2.2.1=l.length/\0<=y.2.2.2.1/\y.2.2.2.1<=l.length/\∀j:Nat,j<y.2.2.2.1->bI (l.getD j default)/\(l.getD j default).op≠0/\(11<=(l.getD j default).op/\(l.getD j default).op<=13->j+1=l.length)) (λy=>(l.length-y.2.2.2.1).toNat) ⟨rfl,rfl,rfl,by simp,by simp,λj hj=>absurd hj (by dsimp only;omega)⟩ ?_
 rintro⟨(l1:List Ins),(l2:List Ins),(n:Int),(i:Int),⟨⟩⟩ hI
 dsimp only at hI ⊢
 obtain⟨rfl,rfl,rfl,h1,h2,h3⟩:=hI
 simp (disch:=omega) only [RR,io,hp1,hf1,hp2,hf2,cK,ku,dh,MQ]
 refine⟨λg=>⟨h1,g,λe=> ?_,λe=>⟨⟨by omega,by omega,λj hj=> ?_⟩,by omega⟩⟩,λg=> ?_⟩
 ·rw [dV]
  intro v
  have:=v.ok i.toNat (by omega)
  rcases e with(e | e) | e
  ·exact e this.1
  ·exact this.2.1 e
  ·have:=this.2.2 e.1;omega
 ·by_cases c:j<i
  ·exact h3 j c
  ·have ej:j=i.toNat:=by omega
   subst ej
   obtain⟨⟨e1,e2⟩,e3⟩:=e
   refine⟨e1,e2,λq=> ?_⟩
   rw [cK.2 q,Bool.true_and]at e3
   have:=of_decide_eq_false e3
   omega
 ·rw [bN]
  exact⟨by omega,by omega,λj hj=>h3 j (by omega)⟩
theorem ab6 {p1:IOp×Unit->Bool} {f1:IOp×Unit->Bool×Unit} (hp1:∀o,p1 (o,())=true) (hf1:∀o,f1 (o,())=(decide (evO o),())) (kd x y k a1 a2 a3 a4 a5 a6 a:Int) (ops:List IOp) (h:ops.length<1000000):XO (std 0).al p1 f1 (kd,x,y,k,a1,a2,a3,a4,a5,a6,a,ops,()) (λy'=>y'=((ops.length:Int),a1,a2,a3,a4,a5,a6,a,ops++ [⟨kd,x,y,k,if 4<=kd/\kd<=7 then a else 0⟩],())):=by
 have mk:∀a b c d e:Int,Co.mk .iop (a,b,c,d,e,())=⟨a,b,c,d,e⟩:=λ_ _ _ _ _=>rfl
 dsimp only [XO,Tup.q,Tup.o]
 simp (disch:=omega) only [RR,mk,hp1,hf1,evO,List.length_cons,List.length_nil,List.length_append]
 refine⟨λc=>⟨by omega,?_⟩,λc=>⟨by omega,?_⟩⟩
 ·rw [if_pos c,show((ops.length+(0+1):Nat):Int)-1=ops.length by omega]
 ·rw [if_neg c,show((ops.length+(0+1):Nat):Int)-1=ops.length by omega]
theorem ab7 {p1:Int×Int×Int×Int×Int×Int×Int×Int×Int×Int×Int×List IOp×Unit->Bool} {f1:Int×Int×Int×Int×Int×Int×Int×Int×Int×Int×Int×List IOp×Unit->Int×Int×Int×Int×Int×Int×Int×Int×List IOp×Unit} (hp1:∀(kd x y k a1 a2 a3 a4 a5 a6 a:Int) (ops:List IOp),ops.length<1000000->p1 (kd,x,y,k,a1,a2,a3,a4,a5,a6,a,ops,())=true) (hf1:∀(kd x y k a1 a2 a3 a4 a5 a6 a:Int) (ops:List IOp),ops.length<1000000->f1 (kd,x,y,k,a1,a2,a3,a4,a5,a6,a,ops,())=((ops.length:Int),a1,a2,a3,a4,a5,a6,a,ops++ [⟨kd,x,y,k,if 4<=kd/\kd<=7 then a else 0⟩],())) (k a1 a2 a3 a4 a5 a6 a:Int) (ops:List IOp) (h:ops.length<1000000):XQ (std 0).al p1 f1 (k,a1,a2,a3,a4,a5,a6,a,ops,()) (λy=>y=((ops.length:Int),a1,a2,a3,a4,a5,a6,a,ops++ [⟨1,0,0,k,0⟩],())):=by
 dsimp only [XQ,Tup.q,Tup.o]
 simp (disch:=omega) only [RR,hp1 1 0 0 k a1 a2 a3 a4 a5 a6 a ops h,hf1 1 0 0 k a1 a2 a3 a4 a5 a6 a ops h]
 rfl
theorem ab8 {p1:Int×Int×Int×Int×Int×Int×Int×Int×Int×Int×Int×List IOp×Unit->Bool} {f1:Int×Int×Int×Int×Int×Int×Int×Int×Int×Int×Int×List IOp×Unit->Int×Int×Int×Int×Int×Int×Int×Int×List IOp×Unit} (hp1:∀(kd x y k a1 a2 a3 a4 a5 a6 a:Int) (ops:List IOp),ops.length<1000000->p1 (kd,x,y,k,a1,a2,a3,a4,a5,a6,a,ops,())=true) (hf1:∀(kd x y k a1 a2 a3 a4 a5 a6 a:Int) (ops:List IOp),ops.length<1000000->f1 (kd,x,y,k,a1,a2,a3,a4,a5,a6,a,ops,())=((ops.length:Int),a1,a2,a3,a4,a5,a6,a,ops++ [⟨kd,x,y,k,if 4<=kd/\kd<=7 then a else 0⟩],())) (k a1 a2 a3 a4 a5 a6 a:Int) (ops:List IOp) (h:ops.length<1000000):XR (std 0).al p1 f1 (k,a1,a2,a3,a4,a5,a6,a,ops,()) (λy=>y=((ops.length:Int),a1,a2,a3,a4,a5,a6,a,ops++ [⟨2,0,0,k,0⟩],())):=by
 dsimp only [XR,Tup.q,Tup.o]
 simp (disch:=omega) only [RR,hp1 2 0 0 k a1 a2 a3 a4 a5 a6 a ops h,hf1 2 0 0 k a1 a2 a3 a4 a5 a6 a ops h]
 rfl
theorem ab9 {p1:Int×Int×Int×Int×Int×Int×Int×Int×Int×Int×Int×List IOp×Unit->Bool} {f1:Int×Int×Int×Int×Int×Int×Int×Int×Int×Int×Int×List IOp×Unit->Int×Int×Int×Int×Int×Int×Int×Int×List IOp×Unit} (hp1:∀(kd x y k a1 a2 a3 a4 a5 a6 a:Int) (ops:List IOp),ops.length<1000000->p1 (kd,x,y,k,a1,a2,a3,a4,a5,a6,a,ops,())=true) (hf1:∀(kd x y k a1 a2 a3 a4 a5 a6 a:Int) (ops:List IOp),ops.length<1000000->f1 (kd,x,y,k,a1,a2,a3,a4,a5,a6,a,ops,())=((ops.length:Int),a1,a2,a3,a4,a5,a6,a,ops++ [⟨kd,x,y,k,if 4<=kd/\kd<=7 then a else 0⟩],())) (op x y a1 a2 a3 a4 a5 a6 a:Int) (ops:List IOp) (h:ops.length<1000000):XU (std 0).al p1 f1 (op,x,y,a1,a2,a3,a4,a5,a6,a,ops,()) (λz=>z=((ops.length:Int),a1,a2,a3,a4,a5,a6,a,ops++ [⟨3,x,y,op,0⟩],())):=by
 dsimp only [XU,Tup.q,Tup.o]
 simp (disch:=omega) only [RR,hp1 3 x y op a1 a2 a3 a4 a5 a6 a ops h,hf1 3 x y op a1 a2 a3 a4 a5 a6 a ops h]
 rfl
theorem acd {p1:Int×Int×Int×Int×Int×Int×Int×Int×Int×Int×Int×List IOp×Unit->Bool} {f1:Int×Int×Int×Int×Int×Int×Int×Int×Int×Int×Int×List IOp×Unit->Int×Int×Int×Int×Int×Int×Int×Int×List IOp×Unit} (hp1:∀(kd x y k a1 a2 a3 a4 a5 a6 a:Int) (ops:List IOp),ops.length<1000000->p1 (kd,x,y,k,a1,a2,a3,a4,a5,a6,a,ops,())=true) (hf1:∀(kd x y k a1 a2 a3 a4 a5 a6 a:Int) (ops:List IOp),ops.length<1000000->f1 (kd,x,y,k,a1,a2,a3,a4,a5,a6,a,ops,())=((ops.length:Int),a1,a2,a3,a4,a5,a6,a,ops++ [⟨kd,x,y,k,if 4<=kd/\kd<=7 then a else 0⟩],())) (v:Int) (i:Ins) (a1 a2 a3 a4 a5 a6 a:Int) (ops:List IOp) (h:ops.length<1000000):XP (std 0).al p1 f1 (v,i,a1,a2,a3,a4,a5,a6,a,ops,()) (λy=>y=(i,a1,a2,a3,a4,a5,a6,a,ops++ [⟨8,v,0,i.d,0⟩],())):=by
 have io:dR .ins 1 i=i.d:=rfl
 dsimp only [XP,Tup.q,Tup.o]
 simp (disch:=omega) only [RR,io,hp1 8 v 0 i.d a1 a2 a3 a4 a5 a6 a ops h,hf1 8 v 0 i.d a1 a2 a3 a4 a5 a6 a ops h]
 rfl
theorem aa3 {k:Int} (h0:0<=k) (h1:k<=15):jh .shl .i64 1 k=2^k.toNat:=by
 have p:=IL h0 h1
 unfold Wo at p
 show IntKind.i64.wrap (1*2^ (min k.toNat 64))=_
 rw [Nat.min_eq_left (by omega),Int.one_mul,w64 (by omega) (by omega)]
set_option maxHeartbeats 1000000 in
theorem aj9 {p1:Int×Int×Int×Int×Int×Int×Int×Int×Int×Int×List IOp×Unit->Bool} {f1:Int×Int×Int×Int×Int×Int×Int×Int×Int×Int×List IOp×Unit->Int×Int×Int×Int×Int×Int×Int×Int×List IOp×Unit} (hp1:∀(op x y a1 a2 a3 a4 a5 a6 a:Int) (ops:List IOp),ops.length<1000000->p1 (op,x,y,a1,a2,a3,a4,a5,a6,a,ops,())=true) (hf1:∀(op x y a1 a2 a3 a4 a5 a6 a:Int) (ops:List IOp),ops.length<1000000->f1 (op,x,y,a1,a2,a3,a4,a5,a6,a,ops,())=((ops.length:Int),a1,a2,a3,a4,a5,a6,a,ops++ [⟨3,x,y,op,0⟩],())) {p2:Int×Int×Int×Int×Int×Int×Int×Int×List IOp×Unit->Bool} {f2:Int×Int×Int×Int×Int×Int×Int×Int×List IOp×Unit->Int×Int×Int×Int×Int×Int×Int×Int×List IOp×Unit} (hp2:∀(k a1 a2 a3 a4 a5 a6 a:Int) (ops:List IOp),ops.length<1000000->p2 (k,a1,a2,a3,a4,a5,a6,a,ops,())=true) (hf2:∀(k a1 a2 a3 a4 a5 a6 a:Int) (ops:List IOp),ops.length<1000000->f2 (k,a1,a2,a3,a4,a5,a6,a,ops,())=((ops.length:Int),a1,a2,a3,a4,a5,a6,a,ops++ [⟨2,0,0,k,0⟩],())) {p3:Int×Ins×Int×Int×Int×Int×Int×Int×Int×List IOp×Unit->Bool} {f3:Int×Ins×Int×Int×Int×Int×Int×Int×Int×List IOp×Unit->Ins×Int×Int×Int×Int×Int×Int×Int×List IOp×Unit} (hp3:∀(v:Int) (i:Ins) (a1 a2 a3 a4 a5 a6 a:Int) (ops:List IOp),ops.length<1000000->p3 (v,i,a1,a2,a3,a4,a5,a6,a,ops,())=true) (hf3:∀(v:Int) (i:Ins) (a1 a2 a3 a4 a5 a6 a:Int) (ops:List IOp),ops.length<1000000->f3 (v,i,a1,a2,a3,a4,a5,a6,a,ops,())=(i,a1,a2,a3,a4,a5,a6,a,ops++ [⟨8,v,0,i.d,0⟩],())) {p4:Int×Int×Int×Int×Int×Int×Int×Int×Int×Int×Int×List IOp×Unit->Bool} {f4:Int×Int×Int×Int×Int×Int×Int×Int×Int×Int×Int×List IOp×Unit->Int×Int×Int×Int×Int×Int×Int×Int×List IOp×Unit} (hp4:∀(kd x y k a1 a2 a3 a4 a5 a6 a:Int) (ops:List IOp),ops.length<1000000->p4 (kd,x,y,k,a1,a2,a3,a4,a5,a6,a,ops,())=true) (hf4:∀(kd x y k a1 a2 a3 a4 a5 a6 a:Int) (ops:List IOp),ops.length<1000000->f4 (kd,x,y,k,a1,a2,a3,a4,a5,a6,a,ops,())=((ops.length:Int),a1,a2,a3,a4,a5,a6,a,ops++ [⟨kd,x,y,k,if 4<=kd/\kd<=7 then a else 0⟩],())) {p5:Int×Int×Int×Int×Int×Int×Int×Int×List IOp×Unit->Bool} {f5:Int×Int×Int×Int×Int×Int×Int×Int×List IOp×Unit->Int×Int×Int×Int×Int×Int×Int×Int×List IOp×Unit} (hp5:∀(k a1 a2 a3 a4 a5 a6 a:Int) (ops:List IOp),ops.length<1000000->p5 (k,a1,a2,a3,a4,a5,a6,a,ops,())=true) (hf5:∀(k a1 a2 a3 a4 a5 a6 a:Int) (ops:List IOp),ops.length<1000000->f5 (k,a1,a2,a3,a4,a5,a6,a,ops,())=((ops.length:Int),a1,a2,a3,a4,a5,a6,a,ops++ [⟨1,0,0,k,0⟩],())) (i:Ins) (B:Blk) (a:Int) (h:B.ops.length<900000) (h8:i.op=8->0<=i.k/\i.k<=15) (h0:0<=i.op/\i.op<=15):XV (std 0).al p1 f1 p2 f2 p3 f3 p4 f4 p5 f5 (i,B.pc,B.len,B.fin,B.x,B.y,B.k,a,B.ops,()) (λy=>y=((bT a B i).pc,(bT a B i).len,(bT a B i).fin,(bT a B i).x,(bT a B i).y,(bT a B i).k,a,(bT a B i).ops,())):=by
 have io:(∀i:Ins,dR .ins 0 i=i.op)/\(∀i:Ins,dR .ins 1 i=i.d)/\(∀i:Ins,dR .ins 2 i=i.a)/\(∀i:Ins,dR .ins 3 i=i.k):=⟨λ_=>rfl,λ_=>rfl,λ_=>rfl,λ_=>rfl⟩
 have a2:∀n:Int,n+1+1=n+2:=λn=>by omega
 have a3:∀n:Int,n+2+1=n+3:=λn=>by omega
 have a4:∀n:Int,n-3+1=n-2:=λn=>by omega
 obtain⟨h00,h01⟩:=h0
 have n1:∀(l:List IOp) (o:IOp),((l++ [o]).length:Int)=l.length+1:=λl o=>by rw [List.length_append];rfl
 have m1:∀(l:List IOp) (o:IOp),l.length<990000->(l++ [o]).length<1000000:=λl o h=>by rw [List.length_append];simp only [List.length_cons,List.length_nil];omega
 have m2:∀(l:List IOp) (o o2:IOp),l.length<990000->((l++ [o])++ [o2]).length<1000000:=λl o o2 h=>by simp only [List.length_append,List.length_cons,List.length_nil];omega
 have m3:∀(l:List IOp) (o o2 o3:IOp),l.length<990000->(((l++ [o])++ [o2])++ [o3]).length<1000000:=λl o o2 o3 h=>by simp only [List.length_append,List.length_cons,List.length_nil];omega
 have m4:∀(l:List IOp) (o o2 o3 o4:IOp),l.length<990000->((((l++ [o])++ [o2])++ [o3])++ [o4]).length<1000000:=λl o o2 o3 o4 h=>by simp only [List.length_append,List.length_cons,List.length_nil];omega
 dsimp only [XV,Tup.q,Tup.o]
 unfold bT bH
 by_cases e1:i.op=1
 ·simp (disch:=first | omega | (apply m1;omega) | (apply m2;omega) | (apply m3;omega) | (apply m4;omega)) only [RR,io,e1,hp1,hf1,hp2,hf2,hp3,hf3,hp4,hf4,hp5,hf5,n1,Int.reduceEq,Int.reduceAdd,Int.reduceSub,Int.reduceLE,or_self,true_and,and_true,and_self,false_and,and_false]
  try simp [a2,a3]
 by_cases e2:i.op=2
 ·simp (disch:=first | omega | (apply m1;omega) | (apply m2;omega) | (apply m3;omega) | (apply m4;omega)) only [RR,io,e2,hp1,hf1,hp2,hf2,hp3,hf3,hp4,hf4,hp5,hf5,n1,Int.reduceEq,Int.reduceAdd,Int.reduceSub,Int.reduceLE,or_self,true_and,and_true,and_self,false_and,and_false]
  try simp [a2,a3]
 by_cases e8:i.op=8
 ·simp (disch:=first | omega | (apply m1;omega) | (apply m2;omega) | (apply m3;omega) | (apply m4;omega)) only [RR,io,e8,hp1,hf1,hp2,hf2,hp3,hf3,hp4,hf4,hp5,hf5,n1,Int.reduceEq,Int.reduceAdd,Int.reduceSub,Int.reduceLE,or_self,true_and,and_true,and_self,false_and,and_false,aa3 (h8 e8).1 (h8 e8).2,(h8 e8).1]
  try simp [a2,a3]
 by_cases e9:i.op=9
 ·simp (disch:=first | omega | (apply m1;omega) | (apply m2;omega) | (apply m3;omega) | (apply m4;omega)) only [RR,io,e9,hp1,hf1,hp2,hf2,hp3,hf3,hp4,hf4,hp5,hf5,n1,Int.reduceEq,Int.reduceAdd,Int.reduceSub,Int.reduceLE,or_self,true_and,and_true,and_self,false_and,and_false]
  try simp [a2,a3]
 by_cases e10:i.op=10
 ·simp (disch:=first | omega | (apply m1;omega) | (apply m2;omega) | (apply m3;omega) | (apply m4;omega)) only [RR,io,e10,hp1,hf1,hp2,hf2,hp3,hf3,hp4,hf4,hp5,hf5,n1,Int.reduceEq,Int.reduceAdd,Int.reduceSub,Int.reduceLE,or_self,true_and,and_true,and_self,false_and,and_false]
  try simp [a2,a3]
 by_cases e14:i.op=14
 ·simp (disch:=first | omega | (apply m1;omega) | (apply m2;omega) | (apply m3;omega) | (apply m4;omega)) only [RR,io,e14,hp1,hf1,hp2,hf2,hp3,hf3,hp4,hf4,hp5,hf5,n1,Int.reduceEq,Int.reduceAdd,Int.reduceSub,Int.reduceLE,or_self,true_and,and_true,and_self,false_and,and_false]
  try simp [a2,a3]
 by_cases e15:i.op=15
 ·simp (disch:=first | omega | (apply m1;omega) | (apply m2;omega) | (apply m3;omega) | (apply m4;omega)) only [RR,io,e15,hp1,hf1,hp2,hf2,hp3,hf3,hp4,hf4,hp5,hf5,n1,Int.reduceEq,Int.reduceAdd,Int.reduceSub,Int.reduceLE,or_self,true_and,and_true,and_self,false_and,and_false]
  try simp [a2,a3]
 by_cases e11:i.op=11
 ·simp (disch:=first | omega | (apply m1;omega) | (apply m2;omega) | (apply m3;omega) | (apply m4;omega)) only [RR,io,e11,hp1,hf1,hp2,hf2,hp3,hf3,hp4,hf4,hp5,hf5,n1,Int.reduceEq,Int.reduceAdd,Int.reduceSub,Int.reduceLE,or_self,true_and,and_true,and_self,false_and,and_false]
  try simp [a2,a3]
 by_cases e12:i.op=12
 ·simp (disch:=first | omega | (apply m1;omega) | (apply m2;omega) | (apply m3;omega) | (apply m4;omega)) only [RR,io,e12,hp1,hf1,hp2,hf2,hp3,hf3,hp4,hf4,hp5,hf5,n1,Int.reduceEq,Int.reduceAdd,Int.reduceSub,Int.reduceLE,or_self,true_and,and_true,and_self,false_and,and_false]
  try simp [a2,a3]
 by_cases e13:i.op=13
 ·simp (disch:=first | omega | (apply m1;omega) | (apply m2;omega) | (apply m3;omega) | (apply m4;omega)) only [RR,io,e13,hp1,hf1,hp2,hf2,hp3,hf3,hp4,hf4,hp5,hf5,n1,Int.reduceEq,Int.reduceAdd,Int.reduceSub,Int.reduceLE,or_self,true_and,and_true,and_self,false_and,and_false]
  try simp [a2,a3]
 simp (disch:=first | omega | (apply m1;omega) | (apply m2;omega) | (apply m3;omega) | (apply m4;omega)) only [RR,io,e1,e2,e8,e9,e10,e14,e15,e11,e12,e13,hp1,hf1,hp2,hf2,hp3,hf3,hp4,hf4,hp5,hf5,n1,Int.reduceEq,Int.reduceAdd,Int.reduceSub,Int.reduceLE,or_self,true_and,and_true,and_self,false_and,and_false]
 try simp [a2,a3,a4]
theorem YO (n b:Int) (i:Ins):(bH n b i).length<=5:=by
 unfold bH;repeat' split
 all_goals simp only [List.length_cons,List.length_nil]
 all_goals omega
theorem YP (n:Int) (b:Blk) (i:Ins):(bT n b i).ops.length<=b.ops.length+5:=by
 have:=YO n b.ops.length i
 unfold bT;repeat' split
 all_goals (dsimp only;rw [List.length_append];omega)
theorem oN:∀(l:List Ins) (n:Int) (b:Blk) (i:Ins),gU n b (l++ [i])=bT (n+l.length) (gU n b l) i
 | [],n,b,i=>by simp [gU]
 | j::l,n,b,i=>by
  show gU (n+1) (bT n b j) (l++ [i])=bT _ (gU (n+1) (bT n b j) l) i
  rw [oN l (n+1) (bT n b j) i,List.length_cons,show n+1+(l.length:Int)=n+((l.length+1:Nat):Int) by omega]
theorem yN:∀(l:List Ins) (n:Int) (b:Blk),(gU n b l).ops.length<=b.ops.length+5*l.length
 | [],_,_=>Nat.le_refl _
 | i::l,n,b=>by
  show(gU (n+1) (bT n b i) l).ops.length<=_
  have:=yN l (n+1) (bT n b i)
  have:=YP n b i
  rw [List.length_cons];omega
theorem anl {p1:Int×List Ins×Unit->Bool} {f1:Int×List Ins×Unit->Bool×Unit} (hp1:∀pc l,l.length<1000000000->p1 (pc,l,())=true) (hf1:∀pc l,l.length<1000000000->f1 (pc,l,())=(bp (iX pc l),())) {p2:Blk×Unit->Bool} {f2:Blk×Unit->Int×Int×Int×Int×Int×Int×List IOp×Unit} (hp2:∀b,b.ops.length<1000000000->p2 (b,())=true) (hf2:∀b,b.ops.length<1000000000->f2 (b,())=bk7 b) {p3:Ins×Int×Int×Int×Int×Int×Int×Int×List IOp×Unit->Bool} {f3:Ins×Int×Int×Int×Int×Int×Int×Int×List IOp×Unit->Int×Int×Int×Int×Int×Int×Int×List IOp×Unit} (hp3:∀(i:Ins) (B:Blk) (a:Int),B.ops.length<900000->(i.op=8->0<=i.k/\i.k<=15)->(0<=i.op/\i.op<=15)->p3 (i,B.pc,B.len,B.fin,B.x,B.y,B.k,a,B.ops,())=true) (hf3:∀(i:Ins) (B:Blk) (a:Int),B.ops.length<900000->(i.op=8->0<=i.k/\i.k<=15)->(0<=i.op/\i.op<=15)->f3 (i,B.pc,B.len,B.fin,B.x,B.y,B.k,a,B.ops,())=((bT a B i).pc,(bT a B i).len,(bT a B i).fin,(bT a B i).x,(bT a B i).y,(bT a B i).k,a,(bT a B i).ops,())) (pc:Int) (l:List Ins) (hl:l.length<1000000000):aea (std 0).al p1 f1 p2 f2 p3 f3 (pc,l,()) (λy=>y=bk7 (lower pc l)):=by
 have mE:∀c:Blk,Co.mk .blk (c.pc,c.len,c.ops,c.fin,c.x,c.y,c.k,())=c:=λ_=>rfl
 dsimp only [aea,Tup.q,Tup.o,TS]
 simp (disch:=omega) only [RR,hp1 pc l hl,hf1 pc l hl,dh,MQ]
 unfold lower
 refine⟨λh=>by rw [dV h,if_neg (by decide)];rfl,λh=> ?_⟩
 rw [bN h,if_pos rfl]
 have ln:=h.ln
 have pp:=h.pc
 refine aL (λ(y:List Ins×Int×Int×Int×Int×Int×Int×Int×Int×Int×Int×Int×Int×Int×Int×Int×List IOp×Unit)=>y.1=l/\y.2.1=l.length/\0<=y.2.2.1/\y.2.2.1<=l.length/\∃B:Blk,B=gU 0 (lg pc l) (l.take y.2.2.1.toNat)/\y.2.2.2.2.2.2.2.2.2.1=B.pc/\y.2.2.2.2.2.2.2.2.2.2.1=B.len/\y.2.2.2.2.2.2.2.2.2.2.2.1=B.fin/\y.2.2.2.2.2.2.2.2.2.2.2.2.1=B.x/\y.2.2.2.2.2.2.2.2.2.2.2.2.2.1=B.y/\y.2.2.2.2.2.2.2.2.2.2.2.2.2.2.1=B.k/\y.2.2.2.2.2.2.2.2.2.2.2.2.2.2.2.2.1=B.ops) (λy=>(l.length-y.2.2.1).toNat) ⟨rfl,rfl,by simp,by simp,_,rfl,rfl,rfl,rfl,rfl,rfl,w64 (by omega) (by omega),rfl⟩ ?_
 rintro⟨(l':List Ins),(n:Int),(i:Int),z1,z2,z3,z4,z5,z6,q1,q2,q3,q4,q5,q6,q7,q8,⟨⟩⟩ hI
 dsimp only at hI ⊢
 obtain⟨rfl,rfl,h1,h2,B,eB,rfl,rfl,rfl,rfl,rfl,rfl,rfl⟩:=hI
 have bl:B.ops.length<=40:=by
  have:=yN (l'.take i.toNat) 0 (lg pc l')
  rw [<-eB]at this
  have t:=List.length_take_le i.toNat l'
  have:(lg pc l').ops.length=0:=rfl
  omega
 by_cases c:i<l'.length
 ·obtain⟨o1,o2,o3⟩:=h.ok i.toNat (by omega)
  have H8:(((l').getD (i).toNat default)).op=8->0<=(((l').getD (i).toNat default)).k/\(((l').getD (i).toNat default)).k<=15:=λe=>⟨o1.2.2.2.1,o1.2.2.2.2.2.2.2.2.1 e⟩
  have H0:=o1.1
  simp (disch:=omega) only [RR,c,hp3 (((l').getD (i).toNat default)) B i (by omega) H8 H0,hf3 (((l').getD (i).toNat default)) B i (by omega) H8 H0]
  refine⟨h1,⟨by omega,by omega,bT i B (((l').getD (i).toNat default)),?_,rfl,rfl,rfl,rfl,rfl,rfl,rfl⟩,by omega⟩
  rw [<-uL (d:=default) h1 c rfl,oN,<-eB,List.length_take,show(0:Int)+((min i.toNat l'.length:Nat):Int)=i by omega]
 ·rw [List.take_of_length_le (by omega)]at eB
  simp (disch:=omega) only [RR,c,mE,hp2 B (by omega),hf2 B (by omega),<-eB]
end Go.TX.F
namespace Go.TX.F
open Go Go.AE Go.TX
def OKS (ops:List IOp) (len:Int):Prop:=∀j:Int,0<=j->j<ops.length->kZ ops len j ((ops).getD (j).toNat default)
theorem akb {ops w:List IOp} {x:Int} (h0:0<=x) (h:x<ops.length):((ops++w).getD (x).toNat default)=((ops).getD (x).toNat default):=by
 rw [List.getD_eq_getElem?_getD,List.getElem?_append_left (by omega),<-List.getD_eq_getElem?_getD]
theorem akc {ops w:List IOp} {t:Nat}:((ops++w).getD ((ops.length:Int)+t).toNat default)=w.getD t default:=by
 rw [List.getD_eq_getElem?_getD,List.getElem?_append_right (by omega),<-List.getD_eq_getElem?_getD,show((ops.length:Int)+t).toNat-ops.length=t by omega]
theorem Vl.mono {ops w:List IOp} {x n n':Int} (h:Vl ops x n) (h1:n<=ops.length) (h2:n<=n'):Vl (ops++w) x n':=by
 obtain⟨a,b,c⟩:=h
 exact⟨a,by omega,by rw [akb a (by omega)];exact c⟩
theorem kZ.mono {ops w:List IOp} {len i:Int} {o:IOp} (h:kZ ops len i o) (h1:i<=ops.length):kZ (ops++w) len i o:=
 {h with x1:=λg=>(h.x1 g).mono h1 (Int.le_refl _),y1:=λg=>(h.y1 g).mono h1 (Int.le_refl _)}
theorem OKS.app {ops w:List IOp} {len:Int} (h:OKS ops len) (hw:∀t:Nat,t<w.length->kZ (ops++w) len ((ops.length:Int)+t) (w.getD t default)):OKS (ops++w) len:=λj j0 j1=>by
 rw [List.length_append]at j1
 by_cases c:j<ops.length
 ·rw [akb j0 c];exact(h j j0 c).mono (by omega)
 ·obtain⟨t,rfl⟩:∃t:Nat,j=(ops.length:Int)+t:=⟨(j-ops.length).toNat,by omega⟩
  rw [akc];exact hw t (by omega)
theorem Sb (ops w:List IOp) (s t:Nat) (h:s<t) (m:mkV (w.getD s default)):Vl (ops++w) ((ops.length:Int)+s) ((ops.length:Int)+t):=⟨by omega,by omega,by rw [akc];exact m⟩
section
variable {ops:List IOp} {len i x y k n:Int}
theorem ok1 (h:0<=k/\k<=65535):kZ ops len i ⟨1,0,0,k,0⟩:=by constructor<;>simp [hX,hY,evO]<;>omega
theorem ok2 (h:0<=k/\k<=3):kZ ops len i ⟨2,0,0,k,0⟩:=by constructor<;>simp [hX,hY,evO]<;>omega
theorem ok3 (h:1<=k/\k<=5) (hx:Vl ops x i) (hy:Vl ops y i):kZ ops len i ⟨3,x,y,k,0⟩:=by constructor<;>simp [hX,hY,evO,hx,hy]<;>omega
theorem ok4 (h:0<=n/\n<len) (hx:Vl ops x i):kZ ops len i ⟨4,x,0,0,n⟩:=by constructor<;>simp [hX,hY,evO,hx]<;>omega
theorem ok5 (h:0<=n/\n<len) (hx:Vl ops x i) (hy:Vl ops y i):kZ ops len i ⟨5,x,y,0,n⟩:=by constructor<;>simp [hX,hY,evO,hx,hy]<;>omega
theorem ok6 (h:0<=n/\n<len):kZ ops len i ⟨6,0,0,0,n⟩:=by constructor<;>simp [hX,hY,evO]<;>omega
theorem ok7 (h:0<=n/\n<len) (hx:Vl ops x i):kZ ops len i ⟨7,x,0,0,n⟩:=by constructor<;>simp [hX,hY,evO,hx]<;>omega
theorem ok8 (h:0<=k/\k<=3) (hx:Vl ops x i):kZ ops len i ⟨8,x,0,k,0⟩:=by constructor<;>simp [hX,hY,evO,hx]<;>omega
end
theorem Sc {ops:List IOp} {len n:Int} {i:Ins} (h:OKS ops len) (hi:bI i) (h0:i.op≠0) (hn:0<=n/\n<len):OKS (ops++bH n ops.length i) len/\
  (i.op=11\/i.op=12->Vl (ops++bH n ops.length i) ops.length ((ops++bH n ops.length i).length)/\Vl (ops++bH n ops.length i) (ops.length+1) ((ops++bH n ops.length i).length))/\
  (i.op=13->Vl (ops++bH n ops.length i) ops.length ((ops++bH n ops.length i).length)):=by
 obtain⟨⟨o0,o1⟩,⟨d0,d1⟩,⟨a0,a1⟩,k0,_,r1,r2,r3,r8,r9,r13,r14⟩:=hi
 have v0:=λ(w:List IOp) (t:Nat) (h:0<t) (m:mkV (w.getD 0 default))=>show Vl (ops++w) (ops.length:Int) ((ops.length:Int)+t)from by have:=Sb ops w 0 t h m;rwa [Int.natCast_zero,Int.add_zero]at this
 have v1:=λ(w:List IOp) (t:Nat) (h:1<t) (m:mkV (w.getD 1 default))=>Sb ops w 1 t h m
 have v2:=λ(w:List IOp) (t:Nat) (h:2<t) (m:mkV (w.getD 2 default))=>Sb ops w 2 t h m
 have v3:=λ(w:List IOp) (t:Nat) (h:3<t) (m:mkV (w.getD 3 default))=>Sb ops w 3 t h m
 have m1:∀a b c d:Int,mkV ⟨1,a,b,c,d⟩:=λ_ _ _ _=>by unfold mkV;dsimp only;omega
 have m2:∀a b c d:Int,mkV ⟨2,a,b,c,d⟩:=λ_ _ _ _=>by unfold mkV;dsimp only;omega
 have m3:∀a b c d:Int,mkV ⟨3,a,b,c,d⟩:=λ_ _ _ _=>by unfold mkV;dsimp only;omega
 have m4:∀a b c d:Int,mkV ⟨4,a,b,c,d⟩:=λ_ _ _ _=>by unfold mkV;dsimp only;omega
 have m6:∀a b c d:Int,mkV ⟨6,a,b,c,d⟩:=λ_ _ _ _=>Or.inr rfl
 rcases(by omega:i.op=1\/i.op=2\/(3<=i.op/\i.op<=7)\/i.op=8\/i.op=9\/i.op=10\/(i.op=11\/i.op=12)\/i.op=13\/i.op=14\/i.op=15)with c | c | c | c | c | c | c | c | c | c
 ·have e:bH n ops.length i=[⟨1,0,0,i.k,0⟩,⟨8,ops.length,0,i.d,0⟩]:=by unfold bH;rw [if_pos c]
  rw [e]
  refine⟨h.app λt ht=> ?_,λg=>by omega,λg=>by omega⟩
  rcases t with _ | _ | t
  ·exact ok1 (by have:=r1 c;omega)
  ·exact ok8 ⟨d0,d1⟩ (v0 _ 1 (by decide) (m1 _ _ _ _))
  ·simp only [List.length_cons,List.length_nil]at ht;omega
 ·have e:bH n ops.length i=[⟨2,0,0,i.a,0⟩,⟨8,ops.length,0,i.d,0⟩]:=by unfold bH;rw [if_neg (by omega),if_pos c]
  rw [e]
  refine⟨h.app λt ht=> ?_,λg=>by omega,λg=>by omega⟩
  rcases t with _ | _ | t
  ·exact ok2 ⟨a0,a1⟩
  ·exact ok8 ⟨d0,d1⟩ (v0 _ 1 (by decide) (m2 _ _ _ _))
  ·simp only [List.length_cons,List.length_nil]at ht;omega
 ·have e:bH n ops.length i=[⟨2,0,0,i.a,0⟩,⟨2,0,0,i.k,0⟩,⟨3,ops.length,ops.length+1,i.op-2,0⟩,⟨8,ops.length+2,0,i.d,0⟩]:=by
   unfold bH
   iterate 9 rw [if_neg (by omega)]
  rw [e]
  refine⟨h.app λt ht=> ?_,λg=>by omega,λg=>by omega⟩
  rcases t with _ | _ | _ | _ | t
  ·exact ok2 ⟨a0,a1⟩
  ·exact ok2 ⟨k0,r3 c⟩
  ·exact ok3 (by omega) (v0 _ 2 (by decide) (m2 _ _ _ _)) (v1 _ 2 (by decide) (m2 _ _ _ _))
  ·exact ok8 ⟨d0,d1⟩ (v2 _ 3 (by decide) (m3 _ _ _ _))
  ·simp only [List.length_cons,List.length_nil]at ht;omega
 ·have e:bH n ops.length i=[⟨2,0,0,i.a,0⟩,⟨1,0,0,2^i.k.toNat,0⟩,⟨3,ops.length,ops.length+1,3,0⟩,⟨8,ops.length+2,0,i.d,0⟩]:=by
   unfold bH;rw [if_neg (by omega),if_neg (by omega),if_pos c]
  rw [e]
  refine⟨h.app λt ht=> ?_,λg=>by omega,λg=>by omega⟩
  rcases t with _ | _ | _ | _ | t
  ·exact ok2 ⟨a0,a1⟩
  ·exact ok1 (IL k0 (r8 c))
  ·exact ok3 (by decide) (v0 _ 2 (by decide) (m2 _ _ _ _)) (v1 _ 2 (by decide) (m1 _ _ _ _))
  ·exact ok8 ⟨d0,d1⟩ (v2 _ 3 (by decide) (m3 _ _ _ _))
  ·simp only [List.length_cons,List.length_nil]at ht;omega
 ·have e:bH n ops.length i=[⟨2,0,0,i.a,0⟩,⟨1,0,0,i.k,0⟩,⟨3,ops.length,ops.length+1,1,0⟩,⟨4,ops.length+2,0,0,n⟩,⟨8,ops.length+3,0,i.d,0⟩]:=by
   unfold bH;rw [if_neg (by omega),if_neg (by omega),if_neg (by omega),if_pos c]
  have r:=r9 (by omega)
  rw [e]
  refine⟨h.app λt ht=> ?_,λg=>by omega,λg=>by omega⟩
  rcases t with _ | _ | _ | _ | _ | t
  ·exact ok2 ⟨a0,a1⟩
  ·exact ok1 (by omega)
  ·exact ok3 (by decide) (v0 _ 2 (by decide) (m2 _ _ _ _)) (v1 _ 2 (by decide) (m1 _ _ _ _))
  ·exact ok4 hn (v2 _ 3 (by decide) (m3 _ _ _ _))
  ·exact ok8 ⟨d0,d1⟩ (v3 _ 4 (by decide) (m4 _ _ _ _))
  ·simp only [List.length_cons,List.length_nil]at ht;omega
 ·have e:bH n ops.length i=[⟨2,0,0,i.a,0⟩,⟨1,0,0,i.k,0⟩,⟨3,ops.length,ops.length+1,1,0⟩,⟨2,0,0,i.d,0⟩,⟨5,ops.length+2,ops.length+3,0,n⟩]:=by
   unfold bH;rw [if_neg (by omega),if_neg (by omega),if_neg (by omega),if_neg (by omega),if_pos c]
  have r:=r9 (by omega)
  rw [e]
  refine⟨h.app λt ht=> ?_,λg=>by omega,λg=>by omega⟩
  rcases t with _ | _ | _ | _ | _ | t
  ·exact ok2 ⟨a0,a1⟩
  ·exact ok1 (by omega)
  ·exact ok3 (by decide) (v0 _ 2 (by decide) (m2 _ _ _ _)) (v1 _ 2 (by decide) (m1 _ _ _ _))
  ·exact ok2 ⟨d0,d1⟩
  ·exact ok5 hn (v2 _ 4 (by decide) (m3 _ _ _ _)) (v3 _ 4 (by decide) (m2 _ _ _ _))
  ·simp only [List.length_cons,List.length_nil]at ht;omega
 ·have e:bH n ops.length i=[⟨2,0,0,i.d,0⟩,⟨2,0,0,i.a,0⟩]:=by
   unfold bH
   iterate 7 rw [if_neg (by omega)]
   rw [if_pos c]
  have el:∀a b:IOp,(((ops++ [a,b]).length:Nat):Int)=(ops.length:Int)+((2:Nat):Int):=λa b=>by rw [List.length_append];rfl
  rw [e]
  refine⟨h.app λt ht=> ?_,λg=> ?_,λg=>by omega⟩
  ·rcases t with _ | _ | t
   ·exact ok2 ⟨d0,d1⟩
   ·exact ok2 ⟨a0,a1⟩
   ·simp only [List.length_cons,List.length_nil]at ht;omega
  ·rw [el];exact⟨v0 _ 2 (by decide) (m2 _ _ _ _),v1 _ 2 (by decide) (m2 _ _ _ _)⟩
 ·have e:bH n ops.length i=[⟨2,0,0,i.a,0⟩]:=by
   unfold bH
   iterate 8 rw [if_neg (by omega)]
   rw [if_pos c]
  have el:∀a:IOp,(((ops++ [a]).length:Nat):Int)=(ops.length:Int)+((1:Nat):Int):=λa=>by rw [List.length_append];rfl
  rw [e]
  refine⟨h.app λt ht=> ?_,λg=>by omega,λg=> ?_⟩
  ·rcases t with _ | t
   ·exact ok2 ⟨a0,a1⟩
   ·simp only [List.length_cons,List.length_nil]at ht;omega
  ·rw [el];exact v0 _ 1 (by decide) (m2 _ _ _ _)
 ·have e:bH n ops.length i=[⟨2,0,0,i.d,0⟩,⟨7,ops.length,0,0,n⟩]:=by
   unfold bH
   iterate 5 rw [if_neg (by omega)]
   rw [if_pos c]
  rw [e]
  refine⟨h.app λt ht=> ?_,λg=>by omega,λg=>by omega⟩
  rcases t with _ | _ | t
  ·exact ok2 ⟨d0,d1⟩
  ·exact ok7 hn (v0 _ 1 (by decide) (m2 _ _ _ _))
  ·simp only [List.length_cons,List.length_nil]at ht;omega
 ·have e:bH n ops.length i=[⟨6,0,0,0,n⟩,⟨8,ops.length,0,i.d,0⟩]:=by
   unfold bH
   iterate 6 rw [if_neg (by omega)]
   rw [if_pos c]
  rw [e]
  refine⟨h.app λt ht=> ?_,λg=>by omega,λg=>by omega⟩
  rcases t with _ | _ | t
  ·exact ok6 hn
  ·exact ok8 ⟨d0,d1⟩ (v0 _ 1 (by decide) (m6 _ _ _ _))
  ·simp only [List.length_cons,List.length_nil]at ht;omega
end Go.TX.F
namespace Go.TX.F
open Go Go.AE Go.TX
def Mid (i:Ins):Prop:=bI i/\i.op≠0/\¬(11<=i.op/\i.op<=13)
theorem YQ {n:Int} {b:Blk} {i:Ins} (h:Mid i):bT n b i={b with ops:=b.ops++bH n b.ops.length i}:=by
 obtain⟨_,_,h3⟩:=h
 unfold bT;rw [if_neg (by omega),if_neg (by omega)]
theorem EY:∀(r:List Ins) (n:Int) (b:Blk),(∀i∈r,Mid i)->OKS b.ops b.len->0<=n->n+r.length<=b.len->OKS (gU n b r).ops b.len/\gU n b r={b with ops:=(gU n b r).ops}
 | [],n,b,_,h,_,_=>⟨h,rfl⟩
 | i::r,n,b,hr,h,h0,h1=>by
  have hi:=hr i (List.mem_cons_self ..)
  simp only [List.length_cons]at h1
  have k:=Sc (n:=n) h hi.1 hi.2.1 ⟨h0,by omega⟩
  have e:=YQ (n:=n) (b:=b) hi
  show OKS (gU (n+1) (bT n b i) r).ops b.len/\gU (n+1) (bT n b i) r={b with ops:=(gU (n+1) (bT n b i) r).ops}
  have ih:=EY r (n+1) (bT n b i) (λj hj=>hr j (List.mem_cons_of_mem _ hj)) (by rw [e];exact k.1) (by omega) (by rw [e];dsimp only;omega)
  rw [e]at ih ⊢
  exact ih
theorem sS (n:Int) (b:Blk) (i:Ins):(bT n b i).ops=b.ops++bH n b.ops.length i:=by
 unfold bT
 split
 ·rfl
 split<;>rfl
theorem Nk:∀(r:List Ins) (n:Int) (b:Blk),∃w,(gU n b r).ops=b.ops++w
 | [],n,b=>⟨[],by rw [List.append_nil];rfl⟩
 | i::r,n,b=>by
  obtain⟨w,e⟩:=Nk r (n+1) (bT n b i)
  exact⟨bH n b.ops.length i++w,by show(gU (n+1) (bT n b i) r).ops=_;rw [e,sS,List.append_assoc]⟩
theorem GJ {pc:Int} {l:List Ins} (h:iX pc l):∃r i,l=r++ [i]/\(∀j∈r,Mid j)/\bI i/\i.op≠0:=by
 have ln:=h.ln
 rcases List.eq_nil_or_concat l with e | ⟨r,i,e⟩
 ·subst e;simp at ln
 rw [List.concat_eq_append]at e
 subst e
 refine⟨r,i,rfl,λj hj=> ?_,?_,?_⟩
 ·obtain⟨t,ht,rfl⟩:=List.getElem_of_mem hj
  have:=h.ok t (by rw [List.length_append];omega)
  rw [List.getD_eq_getElem?_getD,List.getElem?_append_left ht,List.getElem?_eq_getElem ht]at this
  obtain⟨a,b,c⟩:=this
  refine⟨a,b,λg=> ?_⟩
  have:=c g
  rw [List.length_append,List.length_singleton]at this
  omega
 ·have:=h.ok r.length (by rw [List.length_append,List.length_singleton];omega)
  rw [List.getD_eq_getElem?_getD,List.getElem?_append_right (Nat.le_refl _),Nat.sub_self]at this
  exact this.1
 ·have:=h.ok r.length (by rw [List.length_append,List.length_singleton];omega)
  rw [List.getD_eq_getElem?_getD,List.getElem?_append_right (Nat.le_refl _),Nat.sub_self]at this
  exact this.2.1
theorem qd {pc:Int} {l:List Ins} (h:iX pc l):dN (lower pc l):=by
 have ln:=h.ln
 have hp:=h.pc
 have e0:lower pc l=gU 0 (lg pc l) l:=by unfold lower;rw [bN h,if_pos rfl]
 have sz:=yN l 0 (lg pc l)
 obtain⟨r,i,e,hr,hi,h0⟩:=GJ h
 have rl:l.length=r.length+1:=by rw [e,List.length_append,List.length_singleton]
 have k0:OKS (lg pc l).ops (lg pc l).len:=λj j0 j1=>absurd j1 (by show¬j< ((0:Nat):Int);omega)
 obtain⟨a1,a2⟩:=EY r 0 (lg pc l) hr k0 (by omega) (by show 0+(r.length:Int)<=(l.length:Int);omega)
 have e1:lower pc l=bT r.length (gU 0 (lg pc l) r) i:=by
  rw [e0]
  conv=>lhs;rw [e]
  rw [oN,<-e];simp
 obtain⟨b1,b2,b3⟩:=Sc (n:=r.length) a1 hi h0 ⟨by omega,by show(r.length:Int)< (l.length:Int);omega⟩
 have eo:=sS r.length (gU 0 (lg pc l) r) i
 rw [<-e0]at sz
 generalize hB:(gU 0 (lg pc l) r).ops=ops at*
 have z0:(lg pc l).ops.length=0:=rfl
 have F:(lower pc l).pc=pc/\(lower pc l).len=l.length:=by
  rw [e1,a2];unfold bT
  split
  ·exact⟨rfl,rfl⟩
  split<;>exact⟨rfl,rfl⟩
 have O:(lower pc l).ops=ops++bH r.length ops.length i:=by rw [e1];exact eo
 refine⟨by rw [F.2];omega,by rw [F.1,F.2];omega,by omega,?_,?_⟩
 ·rw [O,F.2];exact λj j0 j1=>b1 j j0 j1
 ·by_cases c:i.op=11\/i.op=12
  ·obtain⟨v1,v2⟩:=b2 c
   have E:lower pc l=⟨pc,l.length,ops++bH r.length ops.length i,i.op-8,ops.length,ops.length+1,i.k⟩:=by rw [e1,a2];unfold bT;rw [if_pos c];rfl
   have kk:=hi.2.2.2.2.2.2.2.2.2.1
   rw [E]
   refine⟨by dsimp only;omega,λ_=>v1,λg=>by dsimp only at g;omega,λ_=>v2,λg=>by dsimp only at g;omega,λ_=> ?_,λg=>by dsimp only at g;omega⟩
   have:=hi.2.2.2.1
   have:=kk (by omega)
   dsimp only;omega
  by_cases d:i.op=13
  ·have v1:=b3 d
   have E:lower pc l=⟨pc,l.length,ops++bH r.length ops.length i,2,ops.length,0,0⟩:=by rw [e1,a2];unfold bT;rw [if_neg c,if_pos d];rfl
   rw [E]
   exact⟨by dsimp only;omega,λ_=>v1,λg=>by dsimp only at g;omega,λg=>by dsimp only at g;omega,λ_=>rfl,λg=>absurd rfl g,λ_=>rfl⟩
  ·have E:lower pc l=⟨pc,l.length,ops++bH r.length ops.length i,1,0,0,pc+l.length⟩:=by rw [e1,a2];unfold bT;rw [if_neg c,if_neg d];rfl
   rw [E]
   exact⟨by dsimp only;omega,λg=>absurd rfl g,λ_=>rfl,λg=>by dsimp only at g;omega,λ_=>rfl,λ_=>by dsimp only;omega,λg=>by dsimp only at g;omega⟩
end Go.TX.F
namespace Go.TX.F
open Go Go.AE Go.TX
theorem Qf {m:aA} (h:MOK m) {i:Ins} (hi:bI i):MOK (eff m i):=by
 obtain⟨⟨o0,o1⟩,⟨d0,d1⟩,⟨a0,a1⟩,k0,r0,r1,r2,r3,r8,r9,r13,r14⟩:=hi
 have rs:∀(j:Nat) (v:Int),Wo v->MOK {m with regs:=m.regs.set j v}:=λj v w=> {h with r4:=by rw [List.length_set];exact h.r4,rw:=h.rw.set w j}
 unfold eff
 split
 ·exact rs _ _ ⟨k0,by have:=r1 ‹_›;omega⟩
 split
 ·exact rs _ _ (h.rw.at _)
 split
 ·exact rs _ _ (by unfold Wo;omega)
 split
 ·exact rs _ _ (h.mw.at _)
 split
 ·exact {h with m64:=by rw [List.length_set];exact h.m64,mw:=h.mw.set (h.rw.at _) _}
 split
 ·exact {h with ow:=h.ow.snoc (h.rw.at _)}
 split
 ·exact {rs i.d.toNat (m.ins.getD 0 default) h.iw.hd with iw:=h.iw.drop 1}
 split
 ·split
  ·exact {h with ha:=⟨show(0:Int)<=1 by decide,show(1:Int)<=4 by decide⟩}
  split
  ·exact {h with}
  ·exact {h with}
 split
 ·exact h
 ·exact rs _ _ (RF _ _ _)
def xr (pc len:Int):Int->aA->List Ins->aA×Bool
 | _,m,[]=>(m,false)
 | n,m,i::r=>if(i.op=9\/i.op=10)/\64<=adr m i then(leave m n 3,true)else if i.op=10/\pc+n+1<=adr m i/\adr m i<=pc+len-1 then(leave (eff m i) (n+1) m.halt,true)else xr pc len (n+1) (eff m i) r
theorem IV (B:Blk) {S:MS} (h:S.left=true) (w:List IOp):w.foldl (aT B) S=S:=by
 obtain⟨m,v,l⟩:=S
 dsimp only at h;subst h
 exact IQ B m v w
theorem Sd (B:Blk) (s:MS):∀(r:List Ins) (n:Int) (b:Blk) (m:aA) (v:List Int),(∀i∈r,Mid i)->b.ops.foldl (aT B) s=⟨m,v,false⟩->v.length=b.ops.length->MOK m->
  ((gU n b r).ops.foldl (aT B) s).left=(xr B.pc B.len n m r).2/\((gU n b r).ops.foldl (aT B) s).m=(xr B.pc B.len n m r).1/\
  ((xr B.pc B.len n m r).2=false->((gU n b r).ops.foldl (aT B) s).vals.length=(gU n b r).ops.length/\MOK (xr B.pc B.len n m r).1)
 | [],n,b,m,v,_,h1,h2,h3=>by
  show(b.ops.foldl (aT B) s).left=false/\(b.ops.foldl (aT B) s).m=m/\_
  rw [h1]
  exact⟨rfl,rfl,λ_=>⟨by show(b.ops.foldl (aT B) s).vals.length=b.ops.length;rw [h1];exact h2,h3⟩⟩
 | i::r,n,b,m,v,hr,h1,h2,h3=>by
  have hi:=hr i (List.mem_cons_self ..)
  obtain⟨s1,s2,s3⟩:=ajY B n h3 v hi.1 hi.2.1
  have e:(bT n b i).ops.foldl (aT B) s=(bH n v.length i).foldl (aT B) ⟨m,v,false⟩:=by rw [sS,List.foldl_append,h1,h2]
  obtain⟨w,ew⟩:=Nk r (n+1) (bT n b i)
  have fw:(gU n b (i::r)).ops.foldl (aT B) s=w.foldl (aT B) ((bH n v.length i).foldl (aT B) ⟨m,v,false⟩):=by
   show(gU (n+1) (bT n b i) r).ops.foldl (aT B) s=_
   rw [ew,List.foldl_append,e]
  by_cases c1:rch m i
  ·obtain⟨q1,q2⟩:=s1 c1
   have ex:xr B.pc B.len n m (i::r)=(leave m n 3,true):=by show(if _ then _ else _)=_;rw [if_pos (show(i.op=9\/i.op=10)/\64<=adr m i from c1)]
   rw [fw,IV B q1,ex]
   exact⟨q1,q2,λg=>by cases g⟩
  by_cases c2:ovr B n m i
  ·obtain⟨q1,q2⟩:=s2 c1 c2
   have ex:xr B.pc B.len n m (i::r)=(leave (eff m i) (n+1) m.halt,true):=by show(if _ then _ else if _ then _ else _)=_;rw [if_neg (show¬((i.op=9\/i.op=10)/\64<=adr m i)from c1),if_pos (show i.op=10/\B.pc+n+1<=adr m i/\adr m i<=B.pc+B.len-1 from c2)]
   rw [fw,IV B q1,ex]
   exact⟨q1,q2,λg=>by cases g⟩
  ·obtain⟨w',q1,q2,_,_⟩:=s3 c1 c2
   have ex:xr B.pc B.len n m (i::r)=xr B.pc B.len (n+1) (eff m i) r:=by show(if _ then _ else if _ then _ else _)=_;rw [if_neg (show¬((i.op=9\/i.op=10)/\64<=adr m i)from c1),if_neg (show¬(i.op=10/\B.pc+n+1<=adr m i/\adr m i<=B.pc+B.len-1)from c2)]
   rw [ex]
   exact Sd B s r (n+1) (bT n b i) (eff m i) (v++w') (λj hj=>hr j (List.mem_cons_of_mem _ hj)) (by rw [e,q1]) (by rw [sS,List.length_append,List.length_append,q2,h2]) (Qf h3 hi.1)
def epc (pc len:Int) (m:aA) (i:Ins):Int:=if i.op=11\/i.op=12 then(if FB (i.op-10) ((m.regs).getD (i.d).toNat default) ((m.regs).getD (i.a).toNat default)=true then i.k else pc+len)else if i.op=13 then((m.regs).getD (i.a).toNat default)else pc+len
theorem Sg {pc:Int} {r:List Ins} {i:Ins} {m:aA} (h:iX pc (r++ [i])) (hr:∀j∈r,Mid j) (hi:bI i) (h0:i.op≠0) (hm:MOK m) (g0:m.halt=0) (g1:m.pc=pc) (g2:m.count<=1000000- (r.length+1)):
  jr (lower pc (r++ [i])) m=if(xr pc (r.length+1) 0 m r).2=true then((xr pc (r.length+1) 0 m r).1,true)else
   if(xr pc (r.length+1) r.length (xr pc (r.length+1) 0 m r).1 [i]).2=true then((xr pc (r.length+1) r.length (xr pc (r.length+1) 0 m r).1 [i]).1,true)else
   ({eff (xr pc (r.length+1) 0 m r).1 i with count:=(eff (xr pc (r.length+1) 0 m r).1 i).count+(r.length+1),pc:=epc pc (r.length+1) (xr pc (r.length+1) 0 m r).1 i},true):=by
 have ok:=qd h
 have ll:(((r++ [i]).length:Nat):Int)=(r.length:Int)+1:=by rw [List.length_append];rfl
 have e0:lower pc (r++ [i])=bT r.length (gU 0 (lg pc (r++ [i])) r) i:=by
  unfold lower;rw [bN h,if_pos rfl,oN];simp
 have k0:OKS (lg pc (r++ [i])).ops (lg pc (r++ [i])).len:=λj j0 j1=>absurd j1 (by show¬j< ((0:Nat):Int);omega)
 obtain⟨_,a2⟩:=EY r 0 (lg pc (r++ [i])) hr k0 (by omega) (by show 0+(r.length:Int)<=(((r++ [i]).length:Nat):Int);omega)
 generalize hL:gU 0 (lg pc (r++ [i])) r=L at*
 have lp:L.pc=pc/\L.len=(r.length:Int)+1/\L.fin=1/\L.x=0/\L.y=0/\L.k=pc+(r.length+1):=by
  rw [a2];exact⟨rfl,ll,rfl,rfl,rfl,by show pc+(((r++ [i]).length:Nat):Int)=_;rw [ll]⟩
 obtain⟨l1,l2,l3,l4,l5,l6⟩:=lp
 generalize hB:lower pc (r++ [i])=B at*
 have Bp:B.pc=pc/\B.len=(r.length:Int)+1:=by
  rw [e0];unfold bT
  split
  ·exact⟨l1,l2⟩
  split<;>exact⟨l1,l2⟩
 obtain⟨b1,b2⟩:=Bp
 have S:=Sd B ⟨m,[],false⟩ r 0 (lg pc (r++ [i])) m [] hr rfl rfl hm
 rw [hL,b1,b2]at S
 obtain⟨s1,s2,s3⟩:=S
 have run:jr B m=(uX B (B.ops.foldl (aT B) ⟨m,[],false⟩),true):=by
  unfold jr;rw [bN ⟨ok,hm⟩,if_pos rfl,if_neg (by rw [b1,b2];omega)]
 have ops:B.ops=L.ops++bH r.length L.ops.length i:=by rw [e0];exact sS _ _ _
 rw [run,ops,List.foldl_append]
 by_cases c:(xr pc (r.length+1) 0 m r).2=true
 ·rw [if_pos c,IV B (by rw [s1];exact c)]
  unfold uX;rw [if_pos (by rw [s1];exact c),s2]
 have c':(xr pc (r.length+1) 0 m r).2=false:=by simpa using c
 rw [if_neg c]
 obtain⟨t1,t2⟩:=s3 c'
 generalize hq:(xr pc (r.length+1) 0 m r).1=q at*
 obtain⟨S,hS⟩:∃S,S=L.ops.foldl (aT B) ⟨m,[],false⟩:=⟨_,rfl⟩
 rw [<-hS]at s1 s2 t1 ⊢
 obtain⟨sm,sv,sl⟩:=S
 dsimp only at s1 s2 t1
 subst s2
 rw [c']at s1
 subst s1
 rw [<-t1]
 obtain⟨u1,u2,u3⟩:=ajY B r.length t2 sv hi h0
 have x1:∀m',xr pc (r.length+1) r.length m' [i]=if(i.op=9\/i.op=10)/\64<=adr m' i then(leave m' r.length 3,true)else if i.op=10/\pc+r.length+1<=adr m' i/\adr m' i<=pc+(r.length+1)-1 then(leave (eff m' i) (r.length+1) m'.halt,true)else(eff m' i,false):=λ_=>rfl
 by_cases c1:rch sm i
 ·obtain⟨q1,q2⟩:=u1 c1
  rw [x1,if_pos (show _/\_ from c1),if_pos rfl]
  unfold uX;rw [if_pos q1,q2]
 by_cases c2:ovr B r.length sm i
 ·unfold ovr at c2;rw [b1,b2]at c2;omega
 obtain⟨w,q1,q2,q3,q4⟩:=u3 c1 c2
 unfold ovr at c2
 rw [b1,b2]at c2
 rw [x1,if_neg (show¬(_/\_)from c1),if_neg c2,if_neg (show¬(false=true) by decide),q1]
 unfold uX
 rw [if_neg (show¬(false=true) by decide)]
 refine Prod.ext ?_ rfl
 have ef:B.fin=(if i.op=11\/i.op=12 then i.op-8 else if i.op=13 then 2 else 1)/\(i.op=11\/i.op=12->B.x=L.ops.length/\B.y=L.ops.length+1/\B.k=i.k)/\(i.op=13->B.x=L.ops.length)/\(¬(i.op=11\/i.op=12)->¬i.op=13->B.k=pc+(r.length+1)):=by
  rw [e0];unfold bT
  by_cases d1:i.op=11\/i.op=12
  ·rw [if_pos d1,if_pos d1];exact⟨rfl,λ_=>⟨rfl,rfl,rfl⟩,λg=>by omega,λg=>absurd d1 g⟩
  by_cases d2:i.op=13
  ·rw [if_neg d1,if_pos d2,if_neg d1,if_pos d2];exact⟨rfl,λg=>absurd g d1,λ_=>rfl,λ_ g=>absurd d2 g⟩
  ·rw [if_neg d1,if_neg d2,if_neg d1,if_neg d2];exact⟨l3,λg=>absurd g d1,λg=>absurd g d2,λ_ _=>l6⟩
 obtain⟨f1,f2,f3,f4⟩:=ef
 dsimp only
 rw [b1,b2]
 have pcE:(if B.fin=1 then B.k else if B.fin=2 then((sv++w).getD (B.x).toNat default)else if FB (B.fin-2) ((sv++w).getD (B.x).toNat default) ((sv++w).getD (B.y).toNat default)=true then B.k else pc+(r.length+1))=epc pc (r.length+1) sm i:=by
  unfold epc
  by_cases d1:i.op=11\/i.op=12
  ·obtain⟨x1,x2,x3⟩:=f2 d1
   have w':=q3 d1
   subst w'
   rw [if_pos d1,f1,if_pos d1,if_neg (by omega),if_neg (by omega),x1,x2,x3,<-t1,va0,va1,show i.op-8-2=i.op-10 by omega];rfl
  by_cases d2:i.op=13
  ·have w':=q4 d2
   subst w'
   rw [if_neg d1,if_pos d2,f1,if_neg d1,if_pos d2,if_neg (by decide),if_pos rfl,f3 d2,<-t1,va0];rfl
  ·rw [if_neg d1,if_neg d2,f1,if_neg d1,if_neg d2,if_pos rfl,f4 d1 d2]
 rw [pcE]
end Go.TX.F
namespace Go.TX.F
open Go Go.AE Go.TX
abbrev upd (m : aA) (u v : Int) : aA := { m with count := u, pc := v }
theorem aa4 (m:aA) (u v:Int) (i:Ins):eff (upd m u v) i=upd (eff m i) u v:=by
 have a:adr (upd m u v) i=adr m i:=rfl
 unfold eff
 rw [a]
 by_cases e1:i.op=1
 ·rw [if_pos e1,if_pos e1]
 rw [if_neg e1,if_neg e1]
 by_cases e2:i.op=2
 ·rw [if_pos e2,if_pos e2]
 rw [if_neg e2,if_neg e2]
 by_cases e8:i.op=8
 ·rw [if_pos e8,if_pos e8]
 rw [if_neg e8,if_neg e8]
 by_cases e9:i.op=9
 ·rw [if_pos e9,if_pos e9]
 rw [if_neg e9,if_neg e9]
 by_cases e10:i.op=10
 ·rw [if_pos e10,if_pos e10]
 rw [if_neg e10,if_neg e10]
 by_cases e14:i.op=14
 ·rw [if_pos e14,if_pos e14]
 rw [if_neg e14,if_neg e14]
 by_cases e15:i.op=15
 ·rw [if_pos e15,if_pos e15]
 rw [if_neg e15,if_neg e15]
 by_cases e0:i.op=0
 ·rw [if_pos e0,if_pos e0]
  by_cases k0:i.k=0
  ·rw [if_pos k0,if_pos k0]
  rw [if_neg k0,if_neg k0]
  by_cases k1:i.k=1
  ·rw [if_pos k1,if_pos k1]
  rw [if_neg k1,if_neg k1]
 rw [if_neg e0,if_neg e0]
 by_cases e11:11<=i.op
 ·rw [if_pos e11,if_pos e11]
 rw [if_neg e11,if_neg e11]
theorem uT (pc len n:Int) (m:aA) (i:Ins) (r:List Ins):xr pc len n m (i::r)=if(i.op=9\/i.op=10)/\64<=adr m i then(leave m n 3,true)else if i.op=10/\pc+n+1<=adr m i/\adr m i<=pc+len-1 then(leave (eff m i) (n+1) m.halt,true)else xr pc len (n+1) (eff m i) r:=rfl
theorem Nl {m:aA} {i:Ins} (h:i.op≠0):(eff m i).count=m.count/\(eff m i).pc=m.pc/\(eff m i).halt=m.halt:=by
 unfold eff
 repeat' split
 all_goals first | exact⟨rfl,rfl,rfl⟩ | (exfalso;omega)
theorem Qg (pc len:Int):∀(a c:List Ins) (n:Int) (m:aA),(xr pc len n m (a++c)).2=false->(xr pc len n m a).2=false/\xr pc len n m (a++c)=xr pc len (n+a.length) (xr pc len n m a).1 c
 | [],c,n,m,h=>⟨rfl,by rw [List.nil_append];simp [xr]⟩
 | i::a,c,n,m,h=>by
  rw [List.cons_append]at h ⊢
  simp only [uT]at h ⊢
  split at h
  ·cases h
  split at h
  ·cases h
  ·rename_i c1 c2
   rw [if_neg c1,if_neg c2]
   obtain⟨k1,k2⟩:=Qg pc len a c (n+1) (eff m i) h
   exact⟨k1,by rw [if_neg c1,if_neg c2,k2,List.length_cons,show n+1+(a.length:Int)=n+((a.length+1:Nat):Int) by omega]⟩
theorem GK {pc len len':Int} (hl:len'<=len):∀(a:List Ins) (n:Int) (m:aA),(xr pc len n m a).2=false->xr pc len' n m a=xr pc len n m a
 | [],n,m,h=>rfl
 | i::a,n,m,h=>by
  simp only [uT]at h ⊢
  split at h
  ·cases h
  split at h
  ·cases h
  ·rename_i c1 c2
   rw [if_neg c1,if_neg c1,if_neg c2,if_neg (λg=>c2 ⟨g.1,g.2.1,by omega⟩)]
   exact GK hl a (n+1) (eff m i) h
theorem EZ {pc len k u v:Int}:∀(a:List Ins) (n:Int) (m:aA),(xr pc len (k+n) m a).2=false->xr (pc+k) (len-k) n (upd m u v) a=(upd (xr pc len (k+n) m a).1 u v,false)
 | [],n,m,h=>rfl
 | i::a,n,m,h=>by
  simp only [uT]at h ⊢
  split at h
  ·cases h
  split at h
  ·cases h
  ·rename_i c1 c2
   have ea:adr (upd m u v) i=adr m i:=rfl
   rw [ea,if_neg c1,if_neg c1,if_neg c2,if_neg (λg=>c2 ⟨g.1,by omega,by omega⟩),aa4]
   have:=EZ (pc:=pc) (len:=len) (k:=k) (u:=u) (v:=v) a (n+1) (eff m i) (by rw [show k+(n+1)=k+n+1 by omega];exact h)
   rw [this,show k+(n+1)=k+n+1 by omega]
theorem Ca {pc len:Int}:∀(a:List Ins) (n:Int) (m:aA),(∀i∈a,bI i/\i.op≠0)->MOK m->(xr pc len n m a).2=false->(xr pc len n m a).1.count=m.count/\(xr pc len n m a).1.pc=m.pc/\(xr pc len n m a).1.halt=m.halt/\MOK (xr pc len n m a).1
 | [],n,m,_,hm,h=>⟨rfl,rfl,rfl,hm⟩
 | i::a,n,m,ha,hm,h=>by
  simp only [uT]at h ⊢
  split at h
  ·cases h
  split at h
  ·cases h
  ·rename_i c1 c2
   rw [if_neg c1,if_neg c2]
   have hi:=ha i (List.mem_cons_self ..)
   obtain⟨k1,k2,k3,k4⟩:=Ca a (n+1) (eff m i) (λj hj=>ha j (List.mem_cons_of_mem _ hj)) (Qf hm hi.1) h
   obtain⟨e1,e2,e3⟩:=Nl (m:=m) hi.2
   exact⟨k1.trans e1,k2.trans e2,k3.trans e3,k4⟩
theorem Qh {pc len:Int}:∀(a:List Ins) (n:Int) (m:aA),(∀i∈a,bI i/\i.op≠0)->n+a.length<=len->(xr pc len n m a).2=true->(xr pc len n m a).1.count<=m.count+len-1
 | [],n,m,_,_,h=>by cases h
 | i::a,n,m,ha,hl,h=>by
  simp only [List.length_cons]at hl
  simp only [uT]at h ⊢
  have hi:=ha i (List.mem_cons_self ..)
  obtain⟨e1,e2,e3⟩:=Nl (m:=m) hi.2
  by_cases c1:(i.op=9\/i.op=10)/\64<=adr m i
  ·rw [if_pos c1];show m.count+n<=_;omega
  by_cases c2:i.op=10/\pc+n+1<=adr m i/\adr m i<=pc+len-1
  ·rw [if_neg c1,if_pos c2];show(eff m i).count+(n+1)<=_;omega
  ·rw [if_neg c1,if_neg c2]at h ⊢
   have:=Qh (pc:=pc) (len:=len) a (n+1) (eff m i) (λj hj=>ha j (List.mem_cons_of_mem _ hj)) (by omega) h
   omega
theorem afa (pc len n:Int) (m:aA) (i:Ins):xr pc len n m [i]=if(i.op=9\/i.op=10)/\64<=adr m i then(leave m n 3,true)else if i.op=10/\pc+n+1<=adr m i/\adr m i<=pc+len-1 then(leave (eff m i) (n+1) m.halt,true)else(eff m i,false):=rfl
theorem IW {pc:Int} {r:List Ins} {i:Ins} {m:aA} (h:iX pc (r++ [i])) (hr:∀j∈r,Mid j) (hi:bI i) (h0:i.op≠0) (hm:MOK m) (g0:m.halt=0) (g1:m.pc=pc) (g2:m.count<=1000000- (r.length+1)) (hx:(xr pc (r.length+1) 0 m (r++ [i])).2=false):
  jr (lower pc (r++ [i])) m=(upd (xr pc (r.length+1) 0 m (r++ [i])).1 (m.count+(r.length+1)) (epc pc (r.length+1) (xr pc (r.length+1) 0 m r).1 i),true):=by
 obtain⟨x1,x2⟩:=Qg pc (r.length+1) r [i] 0 m hx
 rw [x2]at hx
 have k:=Ca (r++ [i]) 0 m (λj hj=>by
  rw [List.mem_append,List.mem_singleton]at hj
  rcases hj with hj | rfl
  ·exact⟨(hr j hj).1,(hr j hj).2.1⟩
  ·exact⟨hi,h0⟩) hm (by rw [x2];exact hx)
 rw [Int.zero_add]at x2 hx
 rw [Sg h hr hi h0 hm g0 g1 g2,if_neg (by rw [x1];decide),if_neg (by rw [hx];decide)]
 rw [x2]at k ⊢
 have e:(xr pc (r.length+1) r.length (xr pc (r.length+1) 0 m r).1 [i]).1=eff (xr pc (r.length+1) 0 m r).1 i:=by
  rw [afa]at hx ⊢
  split at hx
  ·cases hx
  split at hx
  ·cases hx
  ·rename_i c1 c2
   rw [if_neg c1,if_neg c2]
 rw [e]at k ⊢
 rw [k.1]
end Go.TX.F
namespace Go.TX.F
open Go Go.AE Go.TX
theorem IX (pc len:Int):∀(a c:List Ins) (n:Int) (m:aA),(xr pc len n m a).2=false->xr pc len n m (a++c)=xr pc len (n+a.length) (xr pc len n m a).1 c
 | [],c,n,m,h=>by rw [List.nil_append];simp [xr]
 | i::a,c,n,m,h=>by
  rw [List.cons_append]
  simp only [uT]at h ⊢
  split at h
  ·cases h
  split at h
  ·cases h
  ·rename_i c1 c2
   rw [if_neg c1,if_neg c2,if_neg c1,if_neg c2,IX pc len a c (n+1) (eff m i) h,List.length_cons,show n+1+(a.length:Int)=n+((a.length+1:Nat):Int) by omega]
theorem aa5 {pc:Int} {a:List Ins} (h:∀j∈a,Mid j) (l:1<=a.length/\a.length<=8) (p:0<=pc/\pc<=64-a.length):iX pc a:=
 ⟨l,p,λt ht=>by
  obtain⟨x,y,z⟩:=h _ (jo (d:=default) (i:=(t:Int)) (by omega) (by omega))
  exact⟨x,y,λg=>absurd g z⟩⟩
theorem YR {pc:Int} {l:List Ins} (h:iX pc l) {k:Nat} (hk:k<l.length):iX (pc+k) (l.drop k):=by
 have ln:=h.ln
 have hp:=h.pc
 have dl:(l.drop k).length=l.length-k:=List.length_drop
 refine⟨by omega,by omega,λt ht=> ?_⟩
 have:=h.ok (k+t) (by omega)
 rw [List.getD_eq_getElem?_getD,List.getElem?_drop,<-List.getD_eq_getElem?_getD]
 exact⟨this.1,this.2.1,λg=>by have:=this.2.2 g;omega⟩
theorem aa6 (pc len k u v:Int) (m:aA) (i:Ins):epc (pc+k) (len-k) (upd m u v) i=epc pc len m i:=by
 unfold epc;rw [show pc+k+(len-k)=pc+len by omega]
theorem Cb {b:Blk} {m:aA} (h:(jr b m).2=true):dN b/\MOK m/\m.halt=0/\m.pc=b.pc/\m.count<=1000000-b.len:=by
 unfold jr at h
 by_cases c:dN b/\MOK m
 ·rw [bN c,if_pos rfl]at h
  by_cases d:m.halt≠0\/m.pc≠b.pc\/1000000-b.len<m.count
  ·rw [if_pos d]at h;cases h
  ·exact⟨c.1,c.2,by omega,by omega,by omega⟩
 ·rw [dV c,if_neg (by decide)]at h;cases h
theorem aa7 {pc:Int} {l:List Ins} (h:dN (lower pc l)):iX pc l:=by
 by_cases c:iX pc l
 ·exact c
 ·have e:lower pc l=IC:=by unfold lower;rw [dV c,if_neg (by decide)]
  rw [e]at h
  have:=h.ln.1
  exact absurd this (by decide)
theorem afb {pc:Int} {l:List Ins} (h:iX pc l):(lower pc l).pc=pc/\(lower pc l).len=l.length:=by
 have k:∀(l':List Ins) (n:Int) (b:Blk),(gU n b l').pc=b.pc/\(gU n b l').len=b.len:=by
  intro l'
  induction l' with
  | nil=>exact λ_ _=>⟨rfl,rfl⟩
  | cons i r ih=>
   intro n b
   have e:(bT n b i).pc=b.pc/\(bT n b i).len=b.len:=by
    unfold bT
    split
    ·exact⟨rfl,rfl⟩
    split<;>exact⟨rfl,rfl⟩
   exact⟨(ih (n+1) (bT n b i)).1.trans e.1,(ih (n+1) (bT n b i)).2.trans e.2⟩
 unfold lower;rw [bN h,if_pos rfl]
 exact k l 0 (lg pc l)
theorem Nn {b:Blk} {m M:aA} (h:jr b m=(M,true)):M.outs.length<=m.outs.length+48/\M.ins.length<=m.ins.length:=by
 obtain⟨ok,hm,g0,g1,g2⟩:=Cb (b:=b) (m:=m) (by rw [h])
 have f:=IU b b.ops ⟨m,[],false⟩
 have sz:=ok.sz
 unfold jr at h
 rw [bN ⟨ok,hm⟩,if_pos rfl,if_neg (by omega)]at h
 have e:M=uX b (b.ops.foldl (aT b) ⟨m,[],false⟩):=(congrArg Prod.fst h).symm
 dsimp only at f
 rw [e]
 unfold uX
 split
 ·exact⟨by omega,f.1⟩
 ·exact⟨by dsimp only;omega,f.1⟩
theorem YS {pc:Int} {l:List Ins} {m:aA} (h1:(jr (lower pc l) m).2=true) (h2:¬(jr (lower pc l) m).1.count<m.count+l.length) {k:Nat} (k1:1<=k) (k2:k<l.length):
  ∃M,jr (lower pc (l.take k)) m=(M,true)/\jr (lower (pc+k) (l.drop k)) M=jr (lower pc l) m/\M.outs.length<=m.outs.length+48/\M.ins.length<=m.ins.length/\MOK M:=by
 obtain⟨ok,hm,g0,g1,g2⟩:=Cb h1
 have hB:=aa7 ok
 obtain⟨p1,p2⟩:=afb hB
 rw [p1]at g1
 rw [p2]at g2
 have ln:=hB.ln
 have hp:=hB.pc
 obtain⟨r,i,e,hr,hi,h0⟩:=GJ hB
 have rl:(l.length:Int)=(r.length:Int)+1:=by rw [e,List.length_append];rfl
 have g2':m.count<=1000000- ((r.length:Int)+1):=by omega
 have RL:=Sg (pc:=pc) (r:=r) (i:=i) (m:=m) (e▸hB) hr hi h0 hm g0 g1 g2'
 have ri:∀j∈r,bI j/\j.op≠0:=λj hj=>⟨(hr j hj).1,(hr j hj).2.1⟩
 rw [<-e]at RL
 have n1:(xr pc (r.length+1) 0 m r).2=false:=by
  cases c:(xr pc (r.length+1) 0 m r).2 with
  | false=>rfl
  | true=>
   exfalso
   rw [if_pos c]at RL
   rw [RL]at h2
   have:=Qh r 0 m ri (by omega) c
   dsimp only at h2;omega
 rw [if_neg (by rw [n1];decide)]at RL
 obtain⟨q1,q2,q3,q4⟩:=Ca r 0 m ri hm n1
 have n2:(xr pc (r.length+1) r.length (xr pc (r.length+1) 0 m r).1 [i]).2=false:=by
  cases c:(xr pc (r.length+1) r.length (xr pc (r.length+1) 0 m r).1 [i]).2 with
  | false=>rfl
  | true=>
   exfalso
   rw [if_pos c]at RL
   rw [RL]at h2
   have:=Qh [i] r.length (xr pc (r.length+1) 0 m r).1 (λj hj=>by rw [List.mem_singleton]at hj;subst hj;exact⟨hi,h0⟩) (by simp) c
   dsimp only at h2;omega
 have hx:(xr pc (r.length+1) 0 m (r++ [i])).2=false:=by rw [IX pc _ r [i] 0 m n1,Int.zero_add];exact n2
 have W:=IW (pc:=pc) (e▸hB) hr hi h0 hm g0 g1 g2' hx
 rw [<-e]at W
 have kr:k<=r.length:=by omega
 have ta:l.take k=r.take k:=by rw [e,List.take_append_of_le_length kr]
 have dc:l.drop k=r.drop k++ [i]:=by rw [e,List.drop_append_of_le_length kr]
 have am:∀j∈r.take k,Mid j:=λj hj=>hr j (List.mem_of_mem_take hj)
 have al:(r.take k).length=k:=by rw [List.length_take];omega
 have rs:r=r.take k++r.drop k:=(List.take_append_drop k r).symm
 obtain⟨r1,i1,ea⟩:∃r1 i1,r.take k=r1++ [i1]:=by
  rcases List.eq_nil_or_concat (r.take k)with z | ⟨x,y,z⟩
  ·rw [z]at al;simp at al;omega
  ·exact⟨x,y,by rw [z,List.concat_eq_append]⟩
 have a1l:((r1.length:Int)+1)=k:=by rw [ea,List.length_append,List.length_singleton]at al;omega
 have xa:=Qg pc (r.length+1) (r.take k) (r.drop k) 0 m (by rw [<-rs];exact n1)
 obtain⟨xa1,xa2⟩:=xa
 rw [<-rs,al,Int.zero_add]at xa2
 have sh:=GK (pc:=pc) (len:=r.length+1) (len':=k) (by omega) (r.take k) 0 m xa1
 have A:=IW (pc:=pc) (r:=r1) (i:=i1) (m:=m) (by rw [<-ea];exact aa5 am (by omega) (by omega)) (λj hj=>am j (by rw [ea];exact List.mem_append_left _ hj)) (am i1 (by rw [ea];exact List.mem_append_right _ (List.mem_singleton.2 rfl))).1 (am i1 (by rw [ea];exact List.mem_append_right _ (List.mem_singleton.2 rfl))).2.1 hm g0 g1 (by omega) (by rw [<-ea,a1l,sh];exact xa1)
 rw [<-ea,a1l,sh]at A
 have ep:epc pc k (xr pc k 0 m r1).1 i1=pc+k:=by
  have z:=(am i1 (by rw [ea];exact List.mem_append_right _ (List.mem_singleton.2 rfl))).2.2
  unfold epc;rw [if_neg (by omega),if_neg (by omega)]
 rw [ep]at A
 generalize hX:(xr pc (r.length+1) 0 m (r.take k)).1=X at*
 obtain⟨w1,w2,w3,w4⟩:=Ca (pc:=pc) (len:=r.length+1) (r.take k) 0 m (λj hj=>ri j (List.mem_of_mem_take hj)) hm xa1
 rw [hX]at w1 w2 w3 w4
 have mm:MOK (upd X (m.count+k) (pc+k)):={w4 with pc:=by unfold Wo;show 0<=pc+(k:Int)/\pc+(k:Int)<=65535;omega,ct:=by have:=hm.ct;show 0<=m.count+(k:Int)/\m.count+(k:Int)<=1000000;omega}
 have bl:iX (pc+k) (r.drop k++ [i]):=by rw [<-dc];exact YR hB k2
 have d1:(((r.drop k).length:Int)+1)=(r.length+1)-k:=by rw [List.length_drop];omega
 have n1':(xr pc (r.length+1) (k+0) X (r.drop k)).2=false:=by rw [Int.add_zero,<-xa2];exact n1
 have s1:=EZ (pc:=pc) (len:=r.length+1) (k:=k) (u:=m.count+k) (v:=pc+k) (r.drop k) 0 X n1'
 have xw:xr pc (r.length+1) k X (r.drop k++ [i])=xr pc (r.length+1) 0 m (r++ [i]):=by
  have e2:r++ [i]=r.take k++(r.drop k++ [i]):=by rw [<-List.append_assoc,<-rs]
  rw [e2,IX pc _ (r.take k) _ 0 m xa1,hX,al,Int.zero_add]
 have s2:=EZ (pc:=pc) (len:=r.length+1) (k:=k) (u:=m.count+k) (v:=pc+k) (r.drop k++ [i]) 0 X (by rw [Int.add_zero,xw];exact hx)
 rw [Int.add_zero]at s1 s2
 have C:=IW (pc:=pc+k) (r:=r.drop k) (i:=i) (m:=upd X (m.count+k) (pc+k)) bl (λj hj=>hr j (List.mem_of_mem_drop hj)) hi h0 mm (w3.trans g0) rfl (by show m.count+(k:Int)<=_;omega) (by rw [d1,s2])
 rw [d1,s2,s1,<-dc]at C
 refine⟨_,by rw [ta];exact A,?_,?_,?_,mm⟩
 ·rw [<-dc,<-e]at xw
  rw [C,W,aa6,xw,<-xa2]
  show(upd _ (m.count+(k:Int)+((r.length:Int)+1-k)) _,true)=_
  rw [show m.count+(k:Int)+((r.length:Int)+1-k)=m.count+((r.length:Int)+1) by omega]
 ·exact(Nn A).1
 ·exact(Nn A).2
end Go.TX.F
namespace Go.TX.F
open Go Go.AE Go.TX
abbrev mD (y : Blk × Int × List Int × Int × Bool × Bool × Int × List Int × Int × List Int × List Int × Unit) : aA := ⟨y.2.2.2.2.2.2.2.2.2.1, y.2.1, y.2.2.1, y.2.2.2.1, y.2.2.2.2.1, y.2.2.2.2.2.1, y.2.2.2.2.2.2.1, y.2.2.2.2.2.2.2.1, y.2.2.2.2.2.2.2.2.2.2.1, y.2.2.2.2.2.2.2.2.1⟩
theorem YT {b:Blk} {m M:aA} (h:jr b m=(M,true)) (hs:MSh m) (ho:m.outs.length<900000000):MSh M:=by
 obtain⟨ok,hm,g0,g1,g2⟩:=Cb (b:=b) (m:=m) (by rw [h])
 unfold jr at h
 rw [bN ⟨ok,hm⟩,if_pos rfl,if_neg (by omega)]at h
 have e:M=uX b (b.ops.foldl (aT b) ⟨m,[],false⟩):=(congrArg Prod.fst h).symm
 rw [e];exact R8 ok hs ho
set_option maxHeartbeats 1000000 in
theorem akd {p1:Int×List Ins×Unit->Bool} {f1:Int×List Ins×Unit->Int×Int×Int×Int×Int×Int×List IOp×Unit} (hp1:∀pc l,l.length<1000000000->p1 (pc,l,())=true) (hf1:∀pc l,l.length<1000000000->f1 (pc,l,())=bk7 (lower pc l)) {p2:Blk×aA×Unit->Bool} {f2:Blk×aA×Unit->Int×Int×Bool×Bool×Int×Int×Bool×List Int×List Int×List Int×List Int×Unit} (hp2:∀b m,b.ops.length<1000000000->MSh m->m.outs.length<900000000->p2 (b,m,())=true) (hf2:∀b m,b.ops.length<1000000000->MSh m->m.outs.length<900000000->f2 (b,m,())=mR (jr b m)) {p3:aA×aA×Unit->Bool} {f3:aA×aA×Unit->Bool×Unit} (hp3:∀a b,MSh a->p3 (a,b,())=true) (hf3:∀a b,MSh a->f3 (a,b,())=(bp (a=b),())) {p4:Unit->Bool} {f4:Unit->Bool×Unit} (hp4:p4 ()=true) (hf4:f4 ()=(true,())) {p5:Int×List Ins×Unit->Bool} {f5:Int×List Ins×Unit->Bool×Unit} (hp5:∀pc l,(l.length:Int)<1000->p5 (pc,l,())=true) {p6:List Int×Unit->Bool} {f6:List Int×Unit->Int×List Ins×Unit} (hp6:∀c,By c->c.length<1000000000->p6 (c,())=true) (hf6:∀c,By c->c.length<1000000000->(f6 (c,())).2.1.length<1000) {p7:List Int×Unit->Bool} {f7:List Int×Unit->Blk×Int×List Int×Int×Bool×Bool×Int×List Int×Int×List Int×List Int×Unit} (hp7:∀c,By c->c.length<1000000000->p7 (c,())=true) (hf7:∀c,By c->c.length<1000000000->MSh (mD (f7 (c,())))/\(mD (f7 (c,()))).outs.length<800000000) {p8:aA×Unit->Bool} {f8:aA×Unit->Bool×Unit} (hp8:∀m,MSh m->p8 (m,())=true) (c d:List Int) (hc:By c) (hd:By d):XZ (std 0).al p1 f1 p2 f2 p3 f3 p4 f4 p5 f5 p6 f6 p7 f7 p8 f8 (c,d,()) (λy=>y=(true,())):=by
 have mE:∀c:Blk,Co.mk .blk (c.pc,c.len,c.ops,c.fin,c.x,c.y,c.k,())=c:=λ_=>rfl
 have mK:∀(a1:List Int) (a2:Int) (a3:List Int) (a4:Int) (a5 a6:Bool) (a7:Int) (a8 a9:List Int) (a10:Int),Co.mk .aC (a1,a2,a3,a4,a5,a6,a7,a8,a9,a10,())=⟨a1,a2,a3,a4,a5,a6,a7,a8,a9,a10⟩:=λ_ _ _ _ _ _ _ _ _ _=>rfl
 dsimp only [XZ,Tup.q,Tup.o,QT,TS]at*
 simp (disch:=omega) only [RR]
 intro hh
 have hl:¬1048576< (c.length:Int):=λg=>by simp [g]at hh
 have hm:¬1048576< (d.length:Int):=λg=>by simp [g]at hh
 have D1:=hf6 c hc (by omega)
 have P1:=hp6 c hc (by omega)
 obtain⟨D2,D3⟩:=hf7 d hd (by omega)
 have P2:=hp7 d hd (by omega)
 generalize f6 (c,())=y1 at D1 ⊢
 generalize f7 (d,())=y3 at D2 D3 ⊢
 obtain⟨pc,l,⟨⟩⟩:=y1
 obtain⟨blk,pc0,mem,save,lt,wt,ha,ins,ct,regs,outs,⟨⟩⟩:=y3
 dsimp only [mD]at D1 D2 D3
 have P8:=hp8 ⟨regs,pc0,mem,save,lt,wt,ha,ins,outs,ct⟩ D2
 have P5:=hp5 pc l (by omega)
 have ms:MSh ⟨regs,pc,mem,save,lt,wt,0,ins,outs,ct⟩:=D2
 have mo:(⟨regs,pc,mem,save,lt,wt,0,ins,outs,ct⟩:aA).outs.length<900000000:=by show outs.length<900000000;omega
 have lb:∀(pc:Int) (l:List Ins),(lower pc l).ops.length<1000000000:=λpc l=>by
  by_cases h:iX pc l
  ·have:=(qd h).sz;omega
  ·have e:lower pc l=IC:=by unfold lower;rw [dV h,if_neg (by decide)]
   rw [e];decide
 simp (disch:=omega) only [RR,decide_true,decide_false,Bool.true_or,Bool.or_true,Bool.false_or,Bool.or_false,hl,hm,P1,P2,mK,P8,P5,hp4,hf4,hp1 pc l (by omega),hf1 pc l (by omega),mE,hp2 (lower pc l) ⟨regs,pc,mem,save,lt,wt,0,ins,outs,ct⟩ (lb _ _) ms mo,hf2 (lower pc l) ⟨regs,pc,mem,save,lt,wt,0,ins,outs,ct⟩ (lb _ _) ms mo]
 intro g1 g2
 generalize hX:jr (lower pc l) ⟨regs,pc,mem,save,lt,wt,0,ins,outs,ct⟩=X at*
 obtain⟨x,xo⟩:=X
 dsimp only at g1 g2 ⊢
 have G1:¬((l.length:Int)<2):=λg=>by simp [g]at g1
 have G2:xo=true:=by
  cases xo with
  | true=>rfl
  | false=>simp at g2
 subst G2
 have G4:=Cb (b:=lower pc l) (m:=⟨regs,pc,mem,save,lt,wt,0,ins,outs,ct⟩) (by rw [hX])
 have G5:=G4.2.1.ct
 dsimp only at G5
 have G3:¬(x.count<ct+l.length):=λg=>by
  rw [w64 (by omega) (by omega)]at g2
  simp [g]at g2
 refine aL (λy=>∃k:Nat,1<=k/\k<=l.length/\y=(pc,(k:Int),l,pc,mem,save,lt,wt,0,ins,ct,x.pc,x.save,x.bL,x.waits,x.halt,x.count,regs,outs,x.regs,x.mem,x.ins,x.outs,())) (λy=>(l.length-y.2.1).toNat) ⟨1,by omega,by omega,rfl⟩ ?_
 rintro y ⟨k,k1,k2,rfl⟩
 dsimp only
 have e1:List.drop (Int.toNat 0) (List.take (0+((k:Int)-0)).toNat l)=l.take k:=by rw [show(0+((k:Int)-0)).toNat=k by omega];rfl
 have e2:List.drop (Int.toNat (k:Int)) (List.take ((k:Int)+((l.length:Int)-k)).toNat l)=l.drop k:=by rw [show((k:Int)+((l.length:Int)-k)).toNat=l.length by omega,List.take_of_length_le (Nat.le_refl _)];rfl
 by_cases kk:k<l.length
 ·obtain⟨M,A,C,M1,M2,M3⟩:=YS (pc:=pc) (l:=l) (m:=⟨regs,pc,mem,save,lt,wt,0,ins,outs,ct⟩) (by rw [hX]) (by rw [hX];exact G3) k1 kk
  rw [hX]at C
  have tl:(l.take k).length<1000000000:=by rw [List.length_take];omega
  have dl:(l.drop k).length<1000000000:=by rw [List.length_drop];omega
  have sM:MSh M:=⟨by have:=M3.r4;omega,by have:=M3.m64;omega,by have:=D2.2.2.1;dsimp only at*;omega,by dsimp only at*;omega⟩
  have kl:(k:Int)<l.length:=by omega
  have pw:IntKind.i64.wrap (pc+k)=pc+k:=by
   have:=G4.2.1.pc
   unfold Wo at this
   dsimp only at this
   exact w64 (by omega) (by omega)
  simp (disch:=omega) only [RR,kl,e1,e2,pw,hp1 pc (l.take k) tl,hf1 pc (l.take k) tl,mE,hp2 (lower pc (l.take k)) ⟨regs,pc,mem,save,lt,wt,0,ins,outs,ct⟩ (lb _ _) ms mo,hf2 (lower pc (l.take k)) ⟨regs,pc,mem,save,lt,wt,0,ins,outs,ct⟩ (lb _ _) ms mo,A,hp1 (pc+k) (l.drop k) dl,hf1 (pc+k) (l.drop k) dl,hp2 (lower (pc+k) (l.drop k)) M (lb _ _) sM (by dsimp only at*;omega),hf2 (lower (pc+k) (l.drop k)) M (lb _ _) sM (by dsimp only at*;omega),C]
  have sx:=YT hX ms mo
  have h3:f3 (⟨x.regs,x.pc,x.mem,x.save,x.bL,x.waits,x.halt,x.ins,x.outs,x.count⟩,⟨x.regs,x.pc,x.mem,x.save,x.bL,x.waits,x.halt,x.ins,x.outs,x.count⟩,())=(true,()):=by have:=hf3 x x sx;rw [bN rfl]at this;exact this
  refine⟨by omega,by omega,by omega,by omega,by omega,by omega,by omega,by omega,by omega,by omega,by omega,by omega,hp3 x x sx,λg=>(by rw [h3]at g;cases g),λ_=>⟨⟨k+1,by omega,by omega,rfl⟩,by omega⟩⟩
 ·have kl:¬((k:Int)<l.length):=by omega
  simp (disch:=omega) only [RR,kl,hp4,hf4]
end Go.TX.F
namespace Go.TX.F
open Go Go.AE Go.TX
theorem ake {p1:Int×Unit->Bool} {f1:Int×Unit->Bool×Unit} (hp1:∀a,p1 (a,())=true) (hf1:∀a,f1 (a,())=(inB a 0 65535,())) (l:List Int) (h:l.length<1000000000):V6 (std 0).al p1 f1 (l,()) (λy=>y=(bp (Wos l),())):=by
 dsimp only [V6,Tup.q,Tup.o]
 simp (disch:=omega) only [RR]
 refine aL (λ(y:List Int×Int×Unit)=>y.1=l/\0<=y.2.1/\y.2.1<=l.length/\Wos (l.take y.2.1.toNat)) (λy=>(l.length-y.2.1).toNat) ⟨rfl,by simp,by simp,by intro n hn;cases hn⟩ ?_
 rintro⟨(l:List Int),(i:Int),⟨⟩⟩ hI
 dsimp only at hI ⊢
 obtain⟨rfl,h1,h2,h3⟩:=hI
 simp (disch:=omega) only [RR,hp1,hf1,cK,ku]
 refine⟨λg=>⟨h1,g,λe=> ?_,λe=>⟨⟨by omega,by omega,?_⟩,by omega⟩⟩,λg=> ?_⟩
 ·rw [dV];intro v;exact e (v _ (jo h1 g))
 ·rw [show(i+1).toNat=i.toNat+1 by omega]
  intro n hn
  rw [List.take_succ_eq_append_getElem (by omega),List.mem_append,List.mem_singleton]at hn
  rcases hn with hn | rfl
  ·exact h3 n hn
  ·rw [getD_lt (by omega)]at e;exact e
 ·rw [List.take_of_length_le (by omega)]at h3;rw [bN h3]
theorem akf {p1:Int×Unit->Bool} {f1:Int×Unit->Bool×Unit} (hp1:∀a,p1 (a,())=true) (hf1:∀a,f1 (a,())=(inB a 0 65535,())) {p2:Int×Int×Int×Unit->Bool} {f2:Int×Int×Int×Unit->Bool×Unit} (hp2:∀a b c,p2 (a,b,c,())=true) (hf2:∀a b c,f2 (a,b,c,())=(inB a b c,())) {p3:List Int×Unit->Bool} {f3:List Int×Unit->Bool×Unit} (hp3:∀l,l.length<1000000000->p3 (l,())=true) (hf3:∀l,l.length<1000000000->f3 (l,())=(bp (Wos l),())) (m:aA) (h:MSh m):Wp (std 0).al p1 f1 p2 f2 p3 f3 (m,()) (λy=>y=(bp (MOK m),())):=by
 obtain⟨a1,a2,a3,a4⟩:=h
 dsimp only [Wp,Tup.q,Tup.o]
 simp (disch:=omega) only [RR,MRB,hp1,hf1,hp2,hf2,hp3 _ a1,hf3 _ a1,hp3 _ a2,hf3 _ a2,hp3 _ a3,hf3 _ a3,hp3 _ a4,hf3 _ a4,xD,ET]
 simp only [<-w9]
 refine Prod.ext (xg ⟨λh=> ?_,λh=> ?_⟩) rfl
 ·obtain⟨⟨⟨⟨⟨⟨⟨⟨⟨h1,h2⟩,h3⟩,h4⟩,h5⟩,h6⟩,h7⟩,h8⟩,h9⟩,h10⟩:=h
  exact⟨by omega,h2,by omega,h5,h3,h6,h8,h9,h7,h10⟩
 ·exact⟨⟨⟨⟨⟨⟨⟨⟨⟨by have:=h.r4;omega,h.rw⟩,h.pc⟩,by have:=h.m64;omega⟩,h.mw⟩,h.sv⟩,h.ha⟩,h.iw⟩,h.ow⟩,h.ct⟩
theorem akg {p1:List Int×Unit->Bool} {f1:List Int×Unit->List Int×Int×Unit} (hp1:∀b,By b->b.length<1000000000->p1 (b,())=true) (hf1:∀b,By b->b.length<1000000000->Bt (f1 (b,())).1/\(f1 (b,())).2.1=0) {p2:Int×List Int×Int×Unit->Bool} {f2:Int×List Int×Int×Unit->Int×List Int×Int×List Ins×Unit} (hp2:∀n b p,Bt b->0<=p->p<600000000->p2 (n,b,p,())=true) (hf2:∀n b p,Bt b->0<=p->p<600000000->(f2 (n,b,p,())).2.1=b/\p<=(f2 (n,b,p,())).2.2.1/\(f2 (n,b,p,())).2.2.1<=p+10000/\(f2 (n,b,p,())).2.2.2.1.length<1000) (c:List Int) (hc:By c) (hl:c.length<1000000000):VU (std 0).al p1 f1 p2 f2 (c,()) (λy=>y.2.1.length<1000):=by
 obtain⟨hb,e0⟩:=hf1 c hc hl
 generalize hbe:(f1 (c,())).1=b at hb
 obtain⟨a1,a2,a3,a4⟩:=hf2 9 b 0 hb (by omega) (by omega)
 dsimp only [VU,Tup.q,Tup.o]
 simp (disch:=omega) only [RR,hp1 c hc hl,hbe,e0,hp2 9 b 0 hb (by omega) (by omega)]
 exact a4
theorem akh {p1:List Int×Int×Unit->Bool} {f1:List Int×Int×Unit->Int×Int×Int×Int×List Int×Int×Unit} (hp1:∀b p,Bt b->0<=p->p<900000000->p1 (b,p,())=true) (hf1:∀b p,Bt b->0<=p->p<900000000->InD 20 b p (f1 (b,p,()))) {p2:Int×List Int×Int×Unit->Bool} {f2:Int×List Int×Int×Unit->Bool×List Int×Int×Unit} (hp2:∀n b p,Bt b->0<=p->p<1000000000->p2 (n,b,p,())=true) (hf2:∀n b p,Bt b->0<=p->p<1000000000->(f2 (n,b,p,())).2.1=b/\(f2 (n,b,p,())).2.2.1=p+1) {p3:Int×List Int×Int×Unit->Bool} {f3:Int×List Int×Int×Unit->Int×List Int×Int×Unit} (hp3:∀n b p,Bt b->0<=p->p<1000000000->p3 (n,b,p,())=true) (hf3:∀n b p,Bt b->0<=p->p<1000000000->Pk n b p (f3 (n,b,p,()))) (n:Int) (b:List Int) (p:Int) (hb:Bt b) (h1:0<=p) (h2:p<700000000):VQ (std 0).al p1 f1 p2 f2 p3 f3 (n,b,p,()) (λ(y:Int×Int×Int×Int×List Int×Int×Unit)=>y.2.2.2.2.1=b/\p<=y.2.2.2.2.2.1/\y.2.2.2.2.2.1<=p+60):=by
 obtain⟨a1,a2,a3,a4⟩:=hf1 b p hb h1 (by omega)
 have R:=pkR hb hf3
 have P:=λn p h1 h2=>hp3 n b p hb h1 h2
 obtain⟨o1,o2⟩:=hf2 n b (f1 (b,p,())).2.2.2.2.2.1 hb (by omega) (by omega)
 have OP:=hp2 n b (f1 (b,p,())).2.2.2.2.2.1 hb (by omega) (by omega)
 dsimp only [VQ,Tup.q,Tup.o]
 simp (disch:=omega) only [RR,hp1 b p hb h1 (by omega),a1,OP,o1,o2,R,P,List.length_cons,List.length_nil]
 repeat' (first | (refine⟨?_,?_⟩) | intro _)
 all_goals first | rfl | omega | (dsimp only;omega)
theorem aki {p1:List Int×Int×Unit->Bool} {f1:List Int×Int×Unit->Int×Int×Int×Int×List Int×Int×Unit} (hp1:∀b p,Bt b->0<=p->p<800000000->p1 (b,p,())=true) (hf1:∀b p,Bt b->0<=p->p<800000000->InD 30 b p (f1 (b,p,()))) {p2:Int×List Int×Int×Unit->Bool} {f2:Int×List Int×Int×Unit->Int×Int×Int×Int×List Int×Int×Unit} (hp2:∀n b p,Bt b->0<=p->p<700000000->p2 (n,b,p,())=true) (hf2:∀n b p,Bt b->0<=p->p<700000000->(f2 (n,b,p,())).2.2.2.2.1=b/\p<=(f2 (n,b,p,())).2.2.2.2.2.1/\(f2 (n,b,p,())).2.2.2.2.2.1<=p+60) {p3:Int×List Int×Int×Unit->Bool} {f3:Int×List Int×Int×Unit->Bool×List Int×Int×Unit} (hp3:∀n b p,Bt b->0<=p->p<1000000000->p3 (n,b,p,())=true) (hf3:∀n b p,Bt b->0<=p->p<1000000000->(f3 (n,b,p,())).2.1=b/\(f3 (n,b,p,())).2.2.1=p+1) {p4:Int×List Int×Int×Unit->Bool} {f4:Int×List Int×Int×Unit->Int×List Int×Int×Unit} (hp4:∀n b p,Bt b->0<=p->p<1000000000->p4 (n,b,p,())=true) (hf4:∀n b p,Bt b->0<=p->p<1000000000->Pk n b p (f4 (n,b,p,()))) {p5:List Int×Int×Unit->Bool} {f5:List Int×Int×Unit->List Int×Int×List Ins×Unit} (hp5:∀b p,Bt b->0<=p->p<700000000->p5 (b,p,())=true) (hf5:∀b p,Bt b->0<=p->p<700000000->LiD b p (f5 (b,p,()))) (n:Int) (b:List Int) (p:Int) (hb:Bt b) (h1:0<=p) (h2:p<600000000):VR (std 0).al p1 f1 p2 f2 p3 f3 p4 f4 p5 f5 (n,b,p,()) (λ(y:Int×List Int×Int×List Ins×Unit)=>y.2.1=b/\p<=y.2.2.1/\y.2.2.1<=p+10000/\y.2.2.2.1.length<1000):=by
 have L:=hf5 b p hb h1 (by omega)
 have PL:=hp5 b p hb h1 (by omega)
 generalize hy:f5 (b,p,())=y at L
 obtain⟨b',q,l,⟨⟩⟩:=y
 have lb:=L.b
 have lo:=L.lo
 have hi:=L.hi
 have ll:=L.len
 have l1:=L.l1
 dsimp only at lb lo hi ll l1
 subst lb
 have R:=pkR hb hf4
 have P:=λn p h1 h2=>hp4 n b' p hb h1 h2
 obtain⟨o1,o2⟩:=hf3 n b' (q+1) hb (by omega) (by omega)
 have OP:=hp3 n b' (q+1) hb (by omega) (by omega)
 obtain⟨i1,i2,i3⟩:=hf2 1 b' (q+1+1+1+1) hb (by omega) (by omega)
 have IP:=hp2 1 b' (q+1+1+1+1) hb (by omega) (by omega)
 dsimp only [VR,Tup.q,Tup.o]
 simp (disch:=omega) only [RR,PL,hy,OP,o1,o2,R,P,i1,IP,List.length_cons,List.length_nil,List.length_set]
 have le:q+1+1+1+1+1<=p+2000:=by omega
 refine⟨λ_=>⟨λ_=>⟨by omega,by omega,by omega⟩,λ_=>⟨λ_=>⟨by omega,by omega,by omega⟩,λ_=>⟨λ_=>⟨Int.le_trans (by omega) i2,Int.le_trans i3 (by omega),by omega⟩,λ_=>⟨λ_=>⟨by omega,by omega,by omega⟩,λ_=>⟨λ_=> ?_,λ_=>⟨by omega,by omega,by omega⟩⟩⟩⟩⟩⟩,λ_=>⟨by omega,by omega,by omega⟩⟩
 refine aL (λ(y:Int×List Int×Int×List Ins×Unit)=>y.2.1=b'/\p<=y.2.2.1/\y.2.2.1<=p+2000+40*y.2.2.2.1.length/\y.2.2.2.1.length<=25) (λy=>9-y.2.2.2.1.length) ⟨rfl,by dsimp only;omega,by dsimp only;omega,by dsimp only;omega⟩ ?_
 rintro⟨(k:Int),(b2:List Int),(r:Int),(l2:List Ins),⟨⟩⟩ hI
 dsimp only at hI ⊢
 obtain⟨rfl,j1,j2,j3⟩:=hI
 obtain⟨c1,c2,c3,c4⟩:=hf1 b2 r hb (by omega) (by omega)
 simp (disch:=omega) only [RR,hp1 b2 r hb (by omega) (by omega),c1,List.length_cons,List.length_nil,List.length_append]
 refine⟨λg=>⟨by omega,⟨Int.le_trans j1 c2,Int.le_trans c3 (by omega),by omega⟩,by omega⟩,λg=>⟨j1,by omega,by omega⟩⟩
end Go.TX.F
namespace Go.TX.F
open Go Go.AE Go.TX
theorem YU (m:aA) (h:MSh m):O6 (std 0).al (m,()) (λy=>y=m10 m):=by
 obtain⟨a1,a2,a3,a4⟩:=h
 dsimp only [O6,Tup.q,Tup.o]
 simp (disch:=omega) only [RR,MRB,List.nil_append,List.length_nil]
 exact⟨by omega,by omega,by omega,by omega⟩
theorem YV (m:aA) (h:Int):O8 (std 0).al (m.pc,m.save,m.bL,m.waits,m.halt,m.ins,m.count,h,m.regs,m.mem,m.outs,()) (λy=>y=mB {m with halt:=h}):=by
 dsimp only [O8,Tup.q,Tup.o]
theorem afc {p1:Int×Unit->Bool} {f1:Int×Unit->Int×Unit} (hp1:∀a,p1 (a,())=true) (hf1:∀a,f1 (a,())=(a%65536,())) (m:aA) (n:Int) (h:0<=m.count/\m.count<=1000000):O9 (std 0).al p1 f1 (m.pc,m.save,m.bL,m.waits,m.halt,m.ins,m.count,n,m.regs,m.mem,m.outs,()) (λy=>y=mB {m with pc:=n%65536,count:=m.count+1}):=by
 dsimp only [O9,Tup.q,Tup.o]
 simp (disch:=omega) only [RR,hp1,hf1]
theorem YW {p1:Int×Int×Bool×Bool×Int×List Int×Int×Int×List Int×List Int×List Int×Unit->Bool} {f1:Int×Int×Bool×Bool×Int×List Int×Int×Int×List Int×List Int×List Int×Unit->Int×Int×Bool×Bool×Int×List Int×Int×List Int×List Int×List Int×Unit} (hp1:∀(m:aA) (n:Int),(0<=m.count/\m.count<=1000000)->p1 (m.pc,m.save,m.bL,m.waits,m.halt,m.ins,m.count,n,m.regs,m.mem,m.outs,())=true) (hf1:∀(m:aA) (n:Int),(0<=m.count/\m.count<=1000000)->f1 (m.pc,m.save,m.bL,m.waits,m.halt,m.ins,m.count,n,m.regs,m.mem,m.outs,())=mB {m with pc:=n%65536,count:=m.count+1}) (m:aA) (d v:Int) (h:MOK m) (d0:0<=d) (d1:d<=3):Pf (std 0).al p1 f1 (m.pc,m.save,m.bL,m.waits,m.halt,m.ins,m.count,d,v,m.regs,m.mem,m.outs,()) (λy=>y=mB {m with regs:=m.regs.set d.toNat v,pc:=(m.pc+1)%65536,count:=m.count+1}):=by
 have r4:=h.r4
 have c:=h.ct
 have pw:0<=m.pc/\m.pc<=65535:=h.pc
 have H:=hf1 {m with regs:=m.regs.set d.toNat v} (m.pc+1) c
 have P:=hp1 {m with regs:=m.regs.set d.toNat v} (m.pc+1) c
 dsimp only at H P
 dsimp only [Pf,Tup.q,Tup.o]
 simp (disch:=omega) only [RR,H,P,r4,d0]
 omega
theorem dbl (v:Int) (j:Nat):(v*2^j%65536+v*2^j%65536)%65536=v*2^ (j+1)%65536:=by
 rw [Int.pow_succ,<-Int.mul_assoc];omega
theorem afd {p1:Int×Unit->Bool} {f1:Int×Unit->Int×Unit} (hp1:∀a,p1 (a,())=true) (hf1:∀a,f1 (a,())=(a%65536,())) (v k:Int) (h:Wo v) (k0:0<=k) (k1:k<=15):Pg (std 0).al p1 f1 (v,k,()) (λy=>y=(v*2^k.toNat%65536,())):=by
 dsimp only [Pg,Tup.q,Tup.o]
 simp (disch:=omega) only [RR]
 refine aL (λ(y:Int×Int×Int×Unit)=>y.1=k/\0<=y.2.2.1/\y.2.2.1<=k/\y.2.1=v*2^y.2.2.1.toNat%65536) (λy=>(k-y.2.2.1).toNat) ⟨rfl,by simp,k0,by have:=h.1;have:=h.2;dsimp only;rw [show Int.toNat 0=0 from rfl,Int.pow_zero];omega⟩ ?_
 rintro⟨(z:Int),(a:Int),(i:Int),⟨⟩⟩ hI
 dsimp only at hI ⊢
 obtain⟨rfl,j1,j2,rfl⟩:=hI
 by_cases g:i<z
 ·simp (disch:=omega) only [RR,hp1,hf1,g]
  exact⟨⟨by omega,by omega,by rw [show(i+1).toNat=i.toNat+1 by omega];exact dbl v i.toNat⟩,by omega⟩
 ·simp (disch:=omega) only [RR,hp1,hf1,g]
  rw [show i=z by omega]
theorem IR:(∀i:Ins,dR .ins 0 i=i.op)/\(∀i:Ins,dR .ins 1 i=i.d)/\(∀i:Ins,dR .ins 2 i=i.a)/\(∀i:Ins,dR .ins 3 i=i.k):=⟨λ_=>rfl,λ_=>rfl,λ_=>rfl,λ_=>rfl⟩
theorem Si {m:aA} {i:Ins} {u:aA} (h:exec m i=u):mB u=mB (exec m i):=by rw [h]
theorem dX {m:aA} {i:Ins} (h:¬((i.op=9\/i.op=10)/\64<=adr m i)) {u:aA} (e:eff m i=u) {n:Int} (f:nxt m i=n):mB {u with pc:=n,count:=m.count+1}=mB (exec m i):=by
 refine Si ?_;unfold exec;rw [if_neg h,e,f]
theorem ef0 {m:aA} {i:Ins} (e:i.op=0):eff m i=(if i.k=0 then {m with halt:=1}else if i.k=1 then {m with bL:=true}else {m with bL:=decide (i.k=2)}):=by
 unfold eff;(iterate 7 rw [if_neg (by omega)]);rw [if_pos e]
theorem ef1 {m:aA} {i:Ins} (e:i.op=1):eff m i={m with regs:=m.regs.set i.d.toNat i.k}:=by unfold eff;rw [if_pos e]
theorem ef2 {m:aA} {i:Ins} (e:i.op=2):eff m i={m with regs:=m.regs.set i.d.toNat ((m.regs).getD (i.a).toNat default)}:=by unfold eff;rw [if_neg (by omega),if_pos e]
theorem ef8 {m:aA} {i:Ins} (e:i.op=8):eff m i={m with regs:=m.regs.set i.d.toNat (((m.regs).getD (i.a).toNat default)*2^i.k.toNat%65536)}:=by unfold eff;(iterate 2 rw [if_neg (by omega)]);rw [if_pos e]
theorem ef9 {m:aA} {i:Ins} (e:i.op=9):eff m i={m with regs:=m.regs.set i.d.toNat ((m.mem).getD (adr m i).toNat default)}:=by unfold eff;(iterate 3 rw [if_neg (by omega)]);rw [if_pos e]
theorem anm {m:aA} {i:Ins} (e:i.op=10):eff m i={m with mem:=m.mem.set (adr m i).toNat ((m.regs).getD (i.d).toNat default)}:=by unfold eff;(iterate 4 rw [if_neg (by omega)]);rw [if_pos e]
theorem ano {m:aA} {i:Ins} (e:i.op=14):eff m i={m with outs:=m.outs++ [((m.regs).getD (i.d).toNat default)]}:=by unfold eff;(iterate 5 rw [if_neg (by omega)]);rw [if_pos e]
theorem akj {m:aA} {i:Ins} (e:i.op=15):eff m i={m with regs:=m.regs.set i.d.toNat (m.ins.getD 0 default),ins:=m.ins.drop 1}:=by unfold eff;(iterate 6 rw [if_neg (by omega)]);rw [if_pos e]
theorem efj {m:aA} {i:Ins} (e:11<=i.op/\i.op<=13):eff m i=m:=by unfold eff;(iterate 8 rw [if_neg (by omega)]);rw [if_pos (by omega)]
theorem efd {m:aA} {i:Ins} (e:3<=i.op/\i.op<=7):eff m i={m with regs:=m.regs.set i.d.toNat (wdo (i.op-2) ((m.regs).getD (i.a).toNat default) ((m.regs).getD (i.k).toNat default))}:=by unfold eff;(iterate 9 rw [if_neg (by omega)])
theorem nxp {m:aA} {i:Ins} (h:(i.op=0->i.k≠1)/\¬(11<=i.op/\i.op<=13)):nxt m i=(m.pc+1)%65536:=by unfold nxt;rw [if_neg (λq=>h.1 q.1 q.2),if_neg (λq=>h.2 (by omega)),if_neg (by omega)]
theorem n9 {m:aA} {i:Ins} (h:¬(i.op=9\/i.op=10)):¬((i.op=9\/i.op=10)/\64<=adr m i):=λq=>h q.1
theorem afe {p1:Int×Unit->Bool} {f1:Int×Unit->Int×Unit} (hp1:∀a,p1 (a,())=true) (hf1:∀a,f1 (a,())=(a%65536,())) {p2:Int×Int×Bool×Bool×Int×List Int×Int×Int×List Int×List Int×List Int×Unit->Bool} {f2:Int×Int×Bool×Bool×Int×List Int×Int×Int×List Int×List Int×List Int×Unit->Int×Int×Bool×Bool×Int×List Int×Int×List Int×List Int×List Int×Unit} (hp2:∀(m:aA) (h:Int),p2 (m.pc,m.save,m.bL,m.waits,m.halt,m.ins,m.count,h,m.regs,m.mem,m.outs,())=true) (hf2:∀(m:aA) (h:Int),f2 (m.pc,m.save,m.bL,m.waits,m.halt,m.ins,m.count,h,m.regs,m.mem,m.outs,())=mB {m with halt:=h}) {p3:Int×Int×Bool×Bool×Int×List Int×Int×Int×List Int×List Int×List Int×Unit->Bool} {f3:Int×Int×Bool×Bool×Int×List Int×Int×Int×List Int×List Int×List Int×Unit->Int×Int×Bool×Bool×Int×List Int×Int×List Int×List Int×List Int×Unit} (hp3:∀(m:aA) (n:Int),(0<=m.count/\m.count<=1000000)->p3 (m.pc,m.save,m.bL,m.waits,m.halt,m.ins,m.count,n,m.regs,m.mem,m.outs,())=true) (hf3:∀(m:aA) (n:Int),(0<=m.count/\m.count<=1000000)->f3 (m.pc,m.save,m.bL,m.waits,m.halt,m.ins,m.count,n,m.regs,m.mem,m.outs,())=mB {m with pc:=n%65536,count:=m.count+1}) {p4:Int×Int×Bool×Bool×Int×List Int×Int×Int×Int×List Int×List Int×List Int×Unit->Bool} {f4:Int×Int×Bool×Bool×Int×List Int×Int×Int×Int×List Int×List Int×List Int×Unit->Int×Int×Bool×Bool×Int×List Int×Int×List Int×List Int×List Int×Unit} (hp4:∀(m:aA) (d v:Int),MOK m->0<=d->d<=3->p4 (m.pc,m.save,m.bL,m.waits,m.halt,m.ins,m.count,d,v,m.regs,m.mem,m.outs,())=true) (hf4:∀(m:aA) (d v:Int),MOK m->0<=d->d<=3->f4 (m.pc,m.save,m.bL,m.waits,m.halt,m.ins,m.count,d,v,m.regs,m.mem,m.outs,())=mB {m with regs:=m.regs.set d.toNat v,pc:=(m.pc+1)%65536,count:=m.count+1}) (m:aA) (i:Ins) (h:MOK m) (hi:bI i) (ho:i.op=9\/i.op=10):Ph (std 0).al p1 f1 p2 f2 p3 f3 p4 f4 (m.pc,m.save,m.bL,m.waits,m.halt,m.ins,m.count,i,m.regs,m.mem,m.outs,()) (λy=>y=mB (exec m i)):=by
 obtain⟨_,⟨d0,d1⟩,⟨a0,a1⟩,k0,_,_,_,_,_,r9,_⟩:=hi
 have k1:=r9 (by omega)
 have r4:=h.r4
 have m6:=h.m64
 have c:=h.ct
 have pw:0<=m.pc/\m.pc<=65535:=h.pc
 have H3:=λmem=>hf3 {m with mem:=mem} (m.pc+1) c
 have P3:=λmem=>hp3 {m with mem:=mem} (m.pc+1) c
 dsimp only at H3 P3
 have H4:=λv=>hf4 m i.d v h d0 d1
 have P4:=λv=>hp4 m i.d v h d0 d1
 have wa:0<=((m.regs).getD (i.a).toNat default)/\((m.regs).getD (i.a).toNat default)<=65535:=h.rw.at i.a
 dsimp only [Ph,Tup.q,Tup.o]
 simp (disch:=omega) only [RR,IR,hp1,hf1,hp2,hf2,H3,P3,H4,P4,r4,m6,d0,a0,pR]
 have ad:(((m.regs).getD (i.a).toNat default)+i.k)%65536=adr m i:=rfl
 rw [ad]
 have a0':0<=adr m i:=by unfold adr;omega
 refine⟨by omega,by omega,λg=>Si (by unfold exec;rw [if_pos ⟨ho,g⟩]),λg=>⟨λe=>⟨by omega,by omega,by omega,by omega,?_⟩,λe=>⟨by omega,by omega,by omega,by omega,by omega,by omega,?_⟩⟩⟩
 ·exact dX (u:={m with regs:=m.regs.set i.d.toNat ((m.mem).getD (adr m i).toNat default)}) (λq=>by omega) (ef9 e) (nxp (by omega))
 ·exact dX (u:={m with mem:=m.mem.set (adr m i).toNat ((m.regs).getD (i.d).toNat default)}) (λq=>by omega) (anm (ho.resolve_left e)) (nxp (by omega))
theorem aff {p1:Int×Int×Bool×Bool×Int×List Int×Int×Int×List Int×List Int×List Int×Unit->Bool} {f1:Int×Int×Bool×Bool×Int×List Int×Int×Int×List Int×List Int×List Int×Unit->Int×Int×Bool×Bool×Int×List Int×Int×List Int×List Int×List Int×Unit} (hp1:∀(m:aA) (n:Int),(0<=m.count/\m.count<=1000000)->p1 (m.pc,m.save,m.bL,m.waits,m.halt,m.ins,m.count,n,m.regs,m.mem,m.outs,())=true) (hf1:∀(m:aA) (n:Int),(0<=m.count/\m.count<=1000000)->f1 (m.pc,m.save,m.bL,m.waits,m.halt,m.ins,m.count,n,m.regs,m.mem,m.outs,())=mB {m with pc:=n%65536,count:=m.count+1}) {p2:Int×Int×Bool×Bool×Int×List Int×Int×Int×Int×List Int×List Int×List Int×Unit->Bool} {f2:Int×Int×Bool×Bool×Int×List Int×Int×Int×Int×List Int×List Int×List Int×Unit->Int×Int×Bool×Bool×Int×List Int×Int×List Int×List Int×List Int×Unit} (hp2:∀(m:aA) (d v:Int),MOK m->0<=d->d<=3->p2 (m.pc,m.save,m.bL,m.waits,m.halt,m.ins,m.count,d,v,m.regs,m.mem,m.outs,())=true) (hf2:∀(m:aA) (d v:Int),MOK m->0<=d->d<=3->f2 (m.pc,m.save,m.bL,m.waits,m.halt,m.ins,m.count,d,v,m.regs,m.mem,m.outs,())=mB {m with regs:=m.regs.set d.toNat v,pc:=(m.pc+1)%65536,count:=m.count+1}) (m:aA) (i:Ins) (h:MOK m) (hi:bI i) (hq:i.op=14\/i.op=15) (hn:m.ins.length<1000000000) (ho:m.outs.length<900000000):Pj (std 0).al p1 f1 p2 f2 (m.pc,m.save,m.bL,m.waits,m.halt,m.ins,m.count,i,m.regs,m.mem,m.outs,()) (λy=>y=mB (exec m i)):=by
 obtain⟨_,⟨d0,d1⟩,⟨a0,a1⟩,k0,_⟩:=hi
 have r4:=h.r4
 have m6:=h.m64
 have c:=h.ct
 have pw:0<=m.pc/\m.pc<=65535:=h.pc
 have H3:=λo=>hf1 {m with outs:=o} (m.pc+1) c
 have P3:=λo=>hp1 {m with outs:=o} (m.pc+1) c
 dsimp only at H3 P3
 have mk:∀l:List Int,l=m.ins\/l=m.ins.drop 1->MOK {m with ins:=l}:=λl hl=> {h with iw:=by rcases hl with rfl | rfl;exact h.iw;exact h.iw.drop 1}
 have H4:=λv=>hf2 m i.d v h d0 d1
 have P4:=λv=>hp2 m i.d v h d0 d1
 have H5:=λv=>hf2 {m with ins:=m.ins.drop 1} i.d v (mk _ (Or.inr rfl)) d0 d1
 have P5:=λv=>hp2 {m with ins:=m.ins.drop 1} i.d v (mk _ (Or.inr rfl)) d0 d1
 dsimp only at H5 P5
 have e1:List.drop (Int.toNat 1) (List.take (Int.toNat (m.ins.length:Int)) m.ins)=m.ins.drop 1:=by rw [show Int.toNat (m.ins.length:Int)=m.ins.length by omega,List.take_of_length_le (Nat.le_refl _)];rfl
 dsimp only [Pj,Tup.q,Tup.o]
 simp (disch:=omega) only [RR,IR,H3,P3,H4,P4,H5,P5,e1,r4,m6,d0,List.length_cons,List.length_nil,pR]
 have n9:¬((i.op=9\/i.op=10)/\64<=adr m i):=n9 (by omega)
 have nx:nxt m i=(m.pc+1)%65536:=nxp (by omega)
 refine⟨λe=>⟨by omega,by omega,by omega,?_⟩,λe=>⟨λg=>⟨by omega,g,by omega,by omega,by omega,?_⟩,λg=> ?_⟩⟩
 ·exact dX (u:={m with outs:=m.outs++ [((m.regs).getD (i.d).toNat default)]}) n9 (ano e) nx
 ·exact dX (u:={m with regs:=m.regs.set i.d.toNat (m.ins.getD 0 default),ins:=m.ins.drop 1}) n9 (akj (hq.resolve_left e)) nx
 ·have e0:m.ins=[]:=by
   cases hm:m.ins with
   | nil=>rfl
   | cons a r=>rw [hm]at g;simp only [List.length_cons]at g;omega
  have:=dX (u:={m with regs:=m.regs.set i.d.toNat (m.ins.getD 0 default),ins:=m.ins.drop 1}) n9 (akj (hq.resolve_left e)) nx
  rw [e0]at this
  rw [<-this,e0];rfl
theorem afg {p1:Int×Int×Bool×Bool×Int×List Int×Int×Int×List Int×List Int×List Int×Unit->Bool} {f1:Int×Int×Bool×Bool×Int×List Int×Int×Int×List Int×List Int×List Int×Unit->Int×Int×Bool×Bool×Int×List Int×Int×List Int×List Int×List Int×Unit} (hp1:∀(m:aA) (h:Int),p1 (m.pc,m.save,m.bL,m.waits,m.halt,m.ins,m.count,h,m.regs,m.mem,m.outs,())=true) (hf1:∀(m:aA) (h:Int),f1 (m.pc,m.save,m.bL,m.waits,m.halt,m.ins,m.count,h,m.regs,m.mem,m.outs,())=mB {m with halt:=h}) {p2:Int×Int×Bool×Bool×Int×List Int×Int×Int×List Int×List Int×List Int×Unit->Bool} {f2:Int×Int×Bool×Bool×Int×List Int×Int×Int×List Int×List Int×List Int×Unit->Int×Int×Bool×Bool×Int×List Int×Int×List Int×List Int×List Int×Unit} (hp2:∀(m:aA) (n:Int),(0<=m.count/\m.count<=1000000)->p2 (m.pc,m.save,m.bL,m.waits,m.halt,m.ins,m.count,n,m.regs,m.mem,m.outs,())=true) (hf2:∀(m:aA) (n:Int),(0<=m.count/\m.count<=1000000)->f2 (m.pc,m.save,m.bL,m.waits,m.halt,m.ins,m.count,n,m.regs,m.mem,m.outs,())=mB {m with pc:=n%65536,count:=m.count+1}) (m:aA) (i:Ins) (h:MOK m) (ho:i.op=0):Pb (std 0).al p1 f1 p2 f2 (m.pc,m.save,m.bL,m.waits,m.halt,m.ins,m.count,i.k,m.regs,m.mem,m.outs,()) (λy=>i.k<=3->0<=i.k->y=mB (exec m i)):=by
 have c:=h.ct
 have pw:0<=m.pc/\m.pc<=65535:=h.pc
 have sw:0<=m.save/\m.save<=65535:=h.sv
 have H1:=hf1 m 1
 have P1:=hp1 m 1
 have H2:=λb n=>hf2 {m with bL:=b} n c
 have P2:=λb n=>hp2 {m with bL:=b} n c
 have H3:=λn=>hf2 {m with halt:=1} n c
 have P3:=λn=>hp2 {m with halt:=1} n c
 dsimp only at H2 P2 H3 P3
 have n9:¬((i.op=9\/i.op=10)/\64<=adr m i):=n9 (by omega)
 have ef:=ef0 (m:=m) ho
 have nx:i.k≠1->nxt m i=(m.pc+1)%65536:=λe=>nxp ⟨λ_=>e,by omega⟩
 dsimp only [Pb,Tup.q,Tup.o]
 simp (disch:=omega) only [RR,H1,P1,H2,P2,H3,P3]
 refine⟨λe _ _=> ?_,λe=>⟨λe2 _ _=> ?_,λe2=>⟨λe3 _ _=> ?_,λe3 g0 g1=> ?_⟩⟩⟩
 ·rw [show m.save%65536=m.save by omega]
  exact dX (u:={m with bL:=true}) n9 (by rw [ef,if_neg (by omega),if_pos e]) (by unfold nxt;rw [if_pos ⟨ho,e⟩])
 ·exact dX (u:={m with bL:=true}) n9 (by rw [ef,if_neg (by omega),if_neg (by omega),e2];rfl) (nx (by omega))
 ·exact dX (u:={m with bL:=false}) n9 (by rw [ef,if_neg (by omega),if_neg (by omega),e3];rfl) (nx (by omega))
 ·exact dX (u:={m with halt:=1}) n9 (by rw [ef,if_pos (by omega)]) (nx (by omega))
theorem aa8 {a b:Int} (ha:Wo a) (hb:Wo b):(FB 1 a b=true↔a=b)/\(FB 2 a b=true↔a<b):=by
 rw [Qd,Qe,xD,xD,bN (show 0<=a/\a<=65535 from ha),bN (show 0<=b/\b<=65535 from hb)];simp
theorem afh {p1:Int×Int×Int×Unit->Bool} {f1:Int×Int×Int×Unit->Int×Unit} (hp1:∀op a b,p1 (op,a,b,())=true) (hf1:∀op a b,f1 (op,a,b,())=(wdo op a b,())) {p2:Int×Int×Bool×Bool×Int×List Int×Int×Int×List Int×List Int×List Int×Unit->Bool} {f2:Int×Int×Bool×Bool×Int×List Int×Int×Int×List Int×List Int×List Int×Unit->Int×Int×Bool×Bool×Int×List Int×Int×List Int×List Int×List Int×Unit} (hp2:∀(m:aA) (n:Int),(0<=m.count/\m.count<=1000000)->p2 (m.pc,m.save,m.bL,m.waits,m.halt,m.ins,m.count,n,m.regs,m.mem,m.outs,())=true) (hf2:∀(m:aA) (n:Int),(0<=m.count/\m.count<=1000000)->f2 (m.pc,m.save,m.bL,m.waits,m.halt,m.ins,m.count,n,m.regs,m.mem,m.outs,())=mB {m with pc:=n%65536,count:=m.count+1}) {p3:Int×Int×Bool×Bool×Int×List Int×Int×Ins×List Int×List Int×List Int×Unit->Bool} {f3:Int×Int×Bool×Bool×Int×List Int×Int×Ins×List Int×List Int×List Int×Unit->Int×Int×Bool×Bool×Int×List Int×Int×List Int×List Int×List Int×Unit} (hp3:∀(m:aA) (i:Ins),MOK m->bI i->(i.op=14\/i.op=15)->m.ins.length<1000000000->m.outs.length<900000000->p3 (m.pc,m.save,m.bL,m.waits,m.halt,m.ins,m.count,i,m.regs,m.mem,m.outs,())=true) (hf3:∀(m:aA) (i:Ins),MOK m->bI i->(i.op=14\/i.op=15)->m.ins.length<1000000000->m.outs.length<900000000->f3 (m.pc,m.save,m.bL,m.waits,m.halt,m.ins,m.count,i,m.regs,m.mem,m.outs,())=mB (exec m i)) {p4:Int×Int×Bool×Bool×Int×List Int×Int×Ins×List Int×List Int×List Int×Unit->Bool} {f4:Int×Int×Bool×Bool×Int×List Int×Int×Ins×List Int×List Int×List Int×Unit->Int×Int×Bool×Bool×Int×List Int×Int×List Int×List Int×List Int×Unit} (hp4:∀(m:aA) (i:Ins),MOK m->bI i->(i.op=9\/i.op=10)->p4 (m.pc,m.save,m.bL,m.waits,m.halt,m.ins,m.count,i,m.regs,m.mem,m.outs,())=true) (hf4:∀(m:aA) (i:Ins),MOK m->bI i->(i.op=9\/i.op=10)->f4 (m.pc,m.save,m.bL,m.waits,m.halt,m.ins,m.count,i,m.regs,m.mem,m.outs,())=mB (exec m i)) {p5:Int×Int×Bool×Bool×Int×List Int×Int×Int×Int×List Int×List Int×List Int×Unit->Bool} {f5:Int×Int×Bool×Bool×Int×List Int×Int×Int×Int×List Int×List Int×List Int×Unit->Int×Int×Bool×Bool×Int×List Int×Int×List Int×List Int×List Int×Unit} (hp5:∀(m:aA) (d v:Int),MOK m->0<=d->d<=3->p5 (m.pc,m.save,m.bL,m.waits,m.halt,m.ins,m.count,d,v,m.regs,m.mem,m.outs,())=true) (hf5:∀(m:aA) (d v:Int),MOK m->0<=d->d<=3->f5 (m.pc,m.save,m.bL,m.waits,m.halt,m.ins,m.count,d,v,m.regs,m.mem,m.outs,())=mB {m with regs:=m.regs.set d.toNat v,pc:=(m.pc+1)%65536,count:=m.count+1}) {p6:Int×Int×Unit->Bool} {f6:Int×Int×Unit->Int×Unit} (hp6:∀(v k:Int),Wo v->0<=k->k<=15->p6 (v,k,())=true) (hf6:∀(v k:Int),Wo v->0<=k->k<=15->f6 (v,k,())=(v*2^k.toNat%65536,())) {p7:Int×Int×Bool×Bool×Int×List Int×Int×Int×List Int×List Int×List Int×Unit->Bool} {f7:Int×Int×Bool×Bool×Int×List Int×Int×Int×List Int×List Int×List Int×Unit->Int×Int×Bool×Bool×Int×List Int×Int×List Int×List Int×List Int×Unit} (hp7:∀(m:aA) (i:Ins),MOK m->i.op=0->p7 (m.pc,m.save,m.bL,m.waits,m.halt,m.ins,m.count,i.k,m.regs,m.mem,m.outs,())=true) (hf7:∀(m:aA) (i:Ins),MOK m->i.op=0->i.k<=3->0<=i.k->f7 (m.pc,m.save,m.bL,m.waits,m.halt,m.ins,m.count,i.k,m.regs,m.mem,m.outs,())=mB (exec m i)) (m:aA) (i:Ins) (h:MOK m) (hi:bI i) (hn:m.ins.length<1000000000) (ho:m.outs.length<900000000):Pm (std 0).al p1 f1 p2 f2 p3 f3 p4 f4 p5 f5 p6 f6 p7 f7 (m.pc,m.save,m.bL,m.waits,m.halt,m.ins,m.count,i,m.regs,m.mem,m.outs,()) (λy=>y=mB (exec m i)):=by
 have hi':=hi
 obtain⟨⟨o0,o1⟩,⟨d0,d1⟩,⟨a0,a1⟩,k0,r0,r1,r2,r3,r8,r9,_⟩:=hi
 have r4:=h.r4
 have c:=h.ct
 have pw:0<=m.pc/\m.pc<=65535:=h.pc
 have wa:=h.rw.at i.a
 have wd:=h.rw.at i.d
 obtain⟨q1,q2⟩:=aa8 wd wa
 have wa':0<=((m.regs).getD (i.a).toNat default)/\((m.regs).getD (i.a).toNat default)<=65535:=wa
 have H5:=λv=>hf5 m i.d v h d0 d1
 have P5:=λv=>hp5 m i.d v h d0 d1
 have H2:=λn=>hf2 m n c
 have P2:=λn=>hp2 m n c
 dsimp only [Pm,Tup.q,Tup.o]
 rcases(by omega:i.op=0\/i.op=1\/i.op=2\/(3<=i.op/\i.op<=7)\/i.op=8\/(i.op=9\/i.op=10)\/i.op=11\/i.op=12\/i.op=13\/(i.op=14\/i.op=15))with e | e | e | e | e | e | e | e | e | e
 case inr.inr.inr.inl=>
  have n0:∀z:Int,z<3\/7<z->¬i.op=z:=λz g q=>by omega
  have kk:=r3 e
  simp (disch:=omega) only [RR,IR,n0 0 (by omega),n0 1 (by omega),n0 2 (by omega),n0 8 (by omega),n0 9 (by omega),n0 10 (by omega),n0 11 (by omega),n0 12 (by omega),n0 13 (by omega),n0 14 (by omega),n0 15 (by omega),hp1,hf1,H5,P5,r4,d0,a0,k0]
  refine⟨by omega,by omega,by omega,by omega,?_⟩
  rw [show i.op-3+1=i.op-2 by omega]
  exact dX (u:={m with regs:=m.regs.set i.d.toNat (wdo (i.op-2) ((m.regs).getD (i.a).toNat default) ((m.regs).getD (i.k).toNat default))}) (n9 (by omega)) (efd e) (nxp (by omega))
 case inr.inr.inr.inr.inr.inl=>
  rcases e with e | e<;>simp (disch:=omega) only [RR,IR,e,Int.reduceEq,hp4 m i h hi' (by omega),hf4 m i h hi' (by omega),r4,d0,a0,k0]
  all_goals exact⟨by omega,by omega⟩
 case inr.inr.inr.inr.inr.inr.inr.inr.inr=>
  rcases e with e | e<;>simp (disch:=omega) only [RR,IR,e,Int.reduceEq,hp3 m i h hi' (by omega) hn ho,hf3 m i h hi' (by omega) hn ho,r4,d0,a0,k0]
  all_goals exact⟨by omega,by omega⟩
 case inl=>
  simp (disch:=omega) only [RR,IR,e,Int.reduceEq,hp7 m i h e,r4,d0,a0,k0]
  exact⟨by omega,by omega,hf7 m i h e (r0 e).2.2 k0⟩
 case inr.inr.inr.inr.inl=>
  simp (disch:=omega) only [RR,IR,e,Int.reduceEq,hp6 _ _ wa k0 (r8 e),hf6 _ _ wa k0 (r8 e),H5,P5,r4,d0,a0,k0]
  exact⟨by omega,by omega,dX (u:={m with regs:=m.regs.set i.d.toNat (((m.regs).getD (i.a).toNat default)*2^i.k.toNat%65536)}) (n9 (by omega)) (ef8 e) (nxp (by omega))⟩
 all_goals simp (disch:=omega) only [RR,IR,e,Int.reduceEq,H5,P5,H2,P2,r4,d0,a0,k0]
 ·exact⟨by omega,by omega,dX (u:={m with regs:=m.regs.set i.d.toNat i.k}) (n9 (by omega)) (ef1 e) (nxp (by omega))⟩
 ·exact⟨by omega,by omega,dX (u:={m with regs:=m.regs.set i.d.toNat ((m.regs).getD (i.a).toNat default)}) (n9 (by omega)) (ef2 e) (nxp (by omega))⟩
 ·have ef:eff m i=m:=efj (by omega)
  have k1:=r9 (by omega)
  refine⟨by omega,by omega,by omega,by omega,λg=> ?_,λg=> ?_⟩
  ·rw [show i.k%65536=i.k by omega]
   exact dX (u:=m) (n9 (by omega)) ef (by unfold nxt;rw [if_neg (by omega),if_pos ⟨Or.inl e,by rw [e];exact q1.2 g⟩])
  ·exact dX (u:=m) (n9 (by omega)) ef (by unfold nxt;rw [if_neg (by omega),if_neg (λq=>g (q1.1 (by have:=q.2;rw [e]at this;exact this))),if_neg (by omega)])
 ·have ef:eff m i=m:=efj (by omega)
  have k1:=r9 (by omega)
  refine⟨by omega,by omega,by omega,by omega,λg=> ?_,λg=> ?_⟩
  ·rw [show i.k%65536=i.k by omega]
   exact dX (u:=m) (n9 (by omega)) ef (by unfold nxt;rw [if_neg (by omega),if_pos ⟨Or.inr e,by rw [e];exact q2.2 g⟩])
  ·exact dX (u:=m) (n9 (by omega)) ef (by unfold nxt;rw [if_neg (by omega),if_neg (λq=>g (q2.1 (by have:=q.2;rw [e]at this;exact this))),if_neg (by omega)])
 ·have ef:eff m i=m:=efj (by omega)
  rw [show((m.regs).getD (i.a).toNat default)%65536=((m.regs).getD (i.a).toNat default) by omega]
  exact⟨by omega,by omega,dX (u:=m) (n9 (by omega)) ef (by unfold nxt;rw [if_neg (by omega),if_neg (by omega),if_pos e];rfl)⟩
def smp (m:aA) (b:Bool):aA:=if(m.waits || b)=true/\m.bL=true then {m with waits:=false,bL:=false,save:=m.pc,pc:=48}else {m with waits:=m.waits || b}
theorem YX (m:aA) (b:Bool):O7 (std 0).al (m.pc,m.save,m.bL,m.waits,m.halt,m.ins,m.count,b,m.regs,m.mem,m.outs,()) (λy=>y=mB (smp m b)):=by
 dsimp only [O7,Tup.q,Tup.o]
 unfold smp
 cases hw:m.waits<;>cases hb:b<;>cases hl:m.bL<;>simp
theorem YZ (l:List Int) (n:Int) (h:l.length<1000000000):Pp (std 0).al (l,n,()) (λy=>y=(bp (n∈l),())):=by
 dsimp only [Pp,Tup.q,Tup.o]
 simp (disch:=omega) only [RR]
 refine aL (λ(y:List Int×Int×Int×Unit)=>y.1=l/\y.2.1=n/\0<=y.2.2.1/\y.2.2.1<=l.length/\n∉l.take y.2.2.1.toNat) (λy=>(l.length-y.2.2.1).toNat) ⟨rfl,rfl,by simp,by simp,by simp⟩ ?_
 rintro⟨(l:List Int),(n:Int),(i:Int),⟨⟩⟩ hI
 dsimp only at hI ⊢
 obtain⟨rfl,rfl,h1,h2,h3⟩:=hI
 simp (disch:=omega) only [RR]
 refine⟨λg=>⟨h1,g,λe=> ?_,λe=>⟨⟨by omega,by omega,λq=> ?_⟩,by omega⟩⟩,λg=> ?_⟩
 ·rw [bN (by rw [<-e];exact jo h1 g)]
 ·rw [show(i+1).toNat=i.toNat+1 by omega,List.take_succ_eq_append_getElem (by omega),List.mem_append,List.mem_singleton,<-getD_lt (d:=default) (show i.toNat<l.length by omega)]at q
  exact q.elim h3 (λz=>e z.symm)
 ·rw [List.take_of_length_le (by omega)]at h3
  rw [dV h3]
end Go.TX.F
namespace Go.TX.F
open Go Go.AE Go.TX
def fm (i:Ins):Bool:=if i.op=0 then decide (i.d=0)&&decide (i.a=0)&&decide (i.k<=3)else if i.op=1 then decide (i.a=0)else if i.op=2 then decide (i.k=0)else if 3<=i.op/\i.op<=7 then decide (i.k<4)else if i.op=8 then decide (i.k<16)else if i.op=13 then decide (i.d=0)&&decide (i.k=0)else if i.op=14\/i.op=15 then decide (i.a=0)&&decide (i.k=0)else true
theorem anp (b:Bool):bp (b=true)=b:=by
 cases b with
 | true=>exact bN rfl
 | false=>exact dV (by decide)
theorem afi (i:Ins):(inB i.op 0 15&&inB i.d 0 3&&inB i.a 0 3&&inB i.k 0 255&&fm i)=bp (bI i):=by
 have h:((0<=i.op/\i.op<=15)/\(0<=i.d/\i.d<=3)/\(0<=i.a/\i.a<=3)/\(0<=i.k/\i.k<=255)/\fm i=true)↔bI i:=by
  unfold bI fm
  split
  ·simp only [Bool.and_eq_true,decide_eq_true_eq];omega
  split
  ·simp only [decide_eq_true_eq];omega
  split
  ·simp only [decide_eq_true_eq];omega
  split
  ·simp only [decide_eq_true_eq];omega
  split
  ·simp only [decide_eq_true_eq];omega
  split
  ·simp only [Bool.and_eq_true,decide_eq_true_eq];omega
  split
  ·simp only [Bool.and_eq_true,decide_eq_true_eq];omega
  ·simp only [eq_self,and_true];omega
 rw [<-xg h]
 simp only [xD,w9,Bool.and_assoc,anp]
theorem sU (i:Ins):OM (std 0).al (i,()) (λy=>y=(fm i,())):=by
 dsimp only [OM,Tup.q,Tup.o]
 rcases(by omega:(i.op=0\/i.op=1\/i.op=2\/i.op=3\/i.op=4\/i.op=5\/i.op=6\/i.op=7\/i.op=8\/i.op=13\/i.op=14\/i.op=15)\/(¬(0<=i.op/\i.op<=8)/\¬(13<=i.op/\i.op<=15)))with(e | e | e | e | e | e | e | e | e | e | e | e) | ⟨n1,n2⟩
 case inr=>
  have n:∀z:Int,(0<=z/\z<=8)\/(13<=z/\z<=15)->¬i.op=z:=λz g q=>by omega
  have n3:¬(3<=i.op/\i.op<=7):=λq=>by omega
  simp (disch:=omega) only [RR,IR,n]
  unfold fm
  simp (disch:=omega) only [n,n3,if_false,or_self]
 all_goals simp (disch:=omega) only [RR,IR,e,Int.reduceEq]
 all_goals unfold fm
 all_goals simp [e]
end Go.TX.F
namespace Go.TX.F
open Go Go.AE Go.TX
theorem FC {p1:Int×Int×Int×Unit->Bool} {f1:Int×Int×Int×Unit->Bool×Unit} (hp1:∀a b c,p1 (a,b,c,())=true) (hf1:∀a b c,f1 (a,b,c,())=(inB a b c,())) {p2:Ins×Unit->Bool} {f2:Ins×Unit->Bool×Unit} (hp2:∀i,p2 (i,())=true) (hf2:∀i,f2 (i,())=(fm i,())) (i:Ins):VI (std 0).al p1 f1 p2 f2 (i,()) (λy=>y=(bp (bI i),())):=by
 dsimp only [VI,Tup.q,Tup.o]
 simp (disch:=omega) only [RR,IR,hp1,hf1,hp2,hf2]
 rw [afi]
noncomputable def tkI (w:Int):Int×Int×Int×Int×Bool×Unit:=if bp (Wo w/\bI (qO w))=true then((qO w).op,(qO w).d,(qO w).a,(qO w).k,true,())else(0,0,0,0,false,())
theorem akk {p1:Ins×Unit->Bool} {f1:Ins×Unit->Bool×Unit} (hp1:∀i,p1 (i,())=true) (hf1:∀i,f1 (i,())=(bp (bI i),())) {p2:Int×Unit->Bool} {f2:Int×Unit->Bool×Unit} (hp2:∀a,p2 (a,())=true) (hf2:∀a,f2 (a,())=(inB a 0 65535,())) (w:Int):Wq (std 0).al p1 f1 p2 f2 (w,()) (λy=>y=tkI w):=by
 dsimp only [Wq,Tup.q,Tup.o]
 simp (disch:=omega) only [RR,hp1,hf1,hp2,hf2,xD]
 by_cases h:Wo w
 ·obtain⟨w0,w1⟩:=id h
  have e:∀x y z u:Int,Co.mk .ins (x,y,z,u,())=⟨x,y,z,u⟩:=λ_ _ _ _=>rfl
  have q:∀n:Int,0<n->0<=w/n/\w/n<=65535:=λn hn=>⟨Int.ediv_nonneg w0 (by omega),Int.le_trans (Int.ediv_le_self _ w0) w1⟩
  have q1:=q 4096 (by decide)
  have q2:=q 1024 (by decide)
  have q3:=q 256 (by decide)
  rw [bN (show 0<=w/\w<=65535 from h)]
  simp (disch:=omega) only [RR,e,Int.tdiv_eq_ediv_of_nonneg,Int.tmod_eq_emod_of_nonneg]
  have ed:(⟨w/4096,w/1024%4,w/256%4,w%256⟩:Ins)=qO w:=rfl
  unfold tkI
  by_cases k:bI (qO w)
  ·rw [ed,bN k,bN ⟨h,k⟩];simp;rfl
  ·rw [ed,dV k,dV (λg=>k g.2)];simp
 ·rw [dV (show¬(0<=w/\w<=65535)from h)]
  unfold tkI
  rw [dV (λg=>h g.1)]
  simp
noncomputable def BJ (i:Ins):Int:=if bp (bI i)=true then Qc i else 0
theorem yO (i:Ins):Wo (BJ i):=by
 unfold BJ
 split
 ·rename_i h
  obtain⟨⟨o0,o1⟩,⟨d0,d1⟩,⟨a0,a1⟩,k0,h⟩:=dh.1 h
  unfold Qc Wo;omega
 ·exact wo0
theorem akl {p1:Ins×Unit->Bool} {f1:Ins×Unit->Bool×Unit} (hp1:∀i,p1 (i,())=true) (hf1:∀i,f1 (i,())=(bp (bI i),())) (i:Ins):Wh (std 0).al p1 f1 (i,()) (λy=>y=(BJ i,())):=by
 dsimp only [Wh,Tup.q,Tup.o]
 simp (disch:=omega) only [RR,IR,hp1,hf1]
 unfold BJ Qc
 refine⟨λh=>by rw [h];rfl,λh=> ?_⟩
 rw [if_pos h]
 obtain⟨⟨o0,o1⟩,⟨d0,d1⟩,⟨a0,a1⟩,k0,h⟩:=dh.1 h
 have k1:i.k<=255:=by omega
 simp (disch:=omega) only [w64]
theorem akm {p1:Ins×Unit->Bool} {f1:Ins×Unit->Int×Unit} (hp1:∀i,p1 (i,())=true) (hf1:∀i,f1 (i,())=(BJ i,())) (l:List Ins) (hl:l.length<1000000):Wi (std 0).al p1 f1 (l,()) (λy=>y=(l.map BJ,())):=by
 dsimp only [Wi,Tup.q,Tup.o]
 simp (disch:=omega) only [RR,List.length_nil]
 refine aL (λ(y:List Ins×Int×List Int×Unit)=>y.1=l/\0<=y.2.1/\y.2.1<=l.length/\y.2.2.1=(l.take y.2.1.toNat).map BJ) (λy=>(l.length-y.2.1).toNat) ⟨rfl,by simp,by simp,by simp⟩ ?_
 rintro⟨(l:List Ins),(i:Int),(o:List Int),⟨⟩⟩ hI
 dsimp only at hI ⊢
 obtain⟨rfl,h1,h2,rfl⟩:=hI
 simp (disch:=omega) only [RR,hp1,hf1,List.length_map,List.length_cons,List.length_nil]
 have h3:=List.length_take_le' i.toNat l
 refine⟨λh4=>⟨by omega,by omega,by omega,⟨by omega,by omega,?_⟩,by omega⟩,λh4=>by rw [List.take_of_length_le (by omega)]⟩
 rw [<-uL (d:=default) h1 h4 rfl,List.map_append];rfl
theorem afj {l:List Int} (h:Wos l) {n:Int} (w:Wo n):Wos (n::l):=λx hx=>(List.mem_cons.1 hx).elim (λe=>e▸w) (h x)
noncomputable def jv (w i:List Int):aA:=if bp (w.length<=64/\Wos w/\Wos i)=true then⟨[0,0,0,0],0,w++List.replicate (64-w.length) 0,0,false,false,0,i,[],0⟩else Qb
theorem aa9 {w i:List Int} (h:w.length<=64) (hw:Wos w) (hi:Wos i):MOK (jv w i):=by
 unfold jv
 rw [bN ⟨h,hw,hi⟩,if_pos rfl]
 have z:∀n:Nat,Wos (List.replicate n 0):=λn x hx=>by rw [List.eq_of_mem_replicate hx];exact wo0
 exact⟨rfl,z 4,by show(w++List.replicate (64-w.length) 0).length=64;rw [List.length_append,List.length_replicate];omega,λx hx=>(List.mem_append.1 hx).elim (hw x) (z _ x),wo0,wo0,hi,λx hx=>(by cases hx),⟨show(0:Int)<=0 by decide,show(0:Int)<=4 by decide⟩,⟨show(0:Int)<=0 by decide,show(0:Int)<=1000000 by decide⟩⟩
theorem akn {p1:List Int×Unit->Bool} {f1:List Int×Unit->Bool×Unit} (hp1:∀l,l.length<1000000000->p1 (l,())=true) (hf1:∀l,l.length<1000000000->f1 (l,())=(bp (Wos l),())) (w i:List Int) (hw:w.length<1000000) (hi:i.length<1000000):V7 (std 0).al p1 f1 (w,i,()) (λy=>y=((jv w i).pc,(jv w i).save,(jv w i).bL,(jv w i).waits,(jv w i).halt,(jv w i).count,(jv w i).regs,(jv w i).mem,(jv w i).ins,())):=by
 have P:=hp1 w (by omega)
 have P':=hp1 i (by omega)
 have Q:=hf1 w (by omega)
 have Q':=hf1 i (by omega)
 dsimp only [V7,Tup.q,Tup.o]
 simp (disch:=omega) only [RR,P,P',Q,Q',pR,List.nil_append,List.length_nil]
 by_cases c:w.length<=64/\Wos w/\Wos i
 ·have e:jv w i=⟨[0,0,0,0],0,w++List.replicate (64-w.length) 0,0,false,false,0,i,[],0⟩:=by unfold jv;rw [bN c,if_pos rfl]
  obtain⟨c1,c2,c3⟩:=c
  rw [e,bN c2,bN c3]
  refine⟨λq=>absurd q (by simp;omega),λ_=>⟨by omega,?_⟩⟩
  have lm:(w++List.replicate (64-w.length) (0:Int)).length=64:=by rw [List.length_append,List.length_replicate];omega
  have am:∀k:Nat,k<64->(w++List.replicate (64-w.length) (0:Int))[k]? =some (if k<w.length then w.getD k default else 0):=λk hk=>by
   by_cases g:k<w.length
   ·rw [if_pos g,List.getElem?_append_left g,List.getElem?_eq_getElem g,getD_lt g]
   ·rw [if_neg g,List.getElem?_append_right (by omega),List.getElem?_replicate,if_pos (by omega)]
  generalize w++List.replicate (64-w.length) (0:Int)=M at lm am
  refine aL (λ(y:List Int×Int×Int×Int×Bool×Bool×Int×Int×Int×Int×Bool×Bool×Int×Int×List Int×List Int×List Int×Unit)=>y.1=w/\0<=y.2.1/\y.2.1<=64/\y.2.2.2.2.2.2.2.2=(0,0,false,false,0,0,[0,0,0,0],M.take y.2.1.toNat,i,())) (λy=>(64-y.2.1).toNat) ⟨rfl,by simp,by simp,rfl⟩ ?_
  rintro⟨(w:List Int),(k:Int),u1,u2,u3,u4,u5,u6,v1,v2,v3,v4,v5,v6,r,l,j,⟨⟩⟩ hI
  dsimp only at hI ⊢
  obtain⟨rfl,h1,h2,h3⟩:=hI
  simp only [Prod.mk.injEq,and_true]at h3
  obtain⟨rfl,rfl,rfl,rfl,rfl,rfl,rfl,rfl,rfl⟩:=h3
  have tl:(M.take k.toNat).length<=64:=by rw [List.length_take];omega
  have nx:k<64->M.take (k+1).toNat=M.take k.toNat++ [if k.toNat<w.length then w.getD k.toNat default else 0]:=λg=>by
   rw [show(k+1).toNat=k.toNat+1 by omega,List.take_add_one,am _ (by omega)];rfl
  simp (disch:=omega) only [RR,List.length_cons,List.length_nil]
  refine⟨λg=>⟨λg2=>⟨h1,g2,by omega,⟨by omega,by omega,?_⟩,by omega⟩,λg2=>⟨by omega,⟨by omega,by omega,?_⟩,by omega⟩⟩,λg=> ?_⟩
  ·rw [nx g,if_pos (by omega)]
  ·rw [nx g,if_neg (by omega)]
  ·rw [List.take_of_length_le (by omega)]
 ·have e:jv w i=Qb:=by unfold jv;rw [dV c,if_neg (by decide)]
  rw [e]
  refine⟨λ_=>rfl,λg=>absurd ⟨by omega,dh.1 g.1.2,dh.1 g.2⟩ c⟩
end Go.TX.F
namespace Go.TX.F
open Go Go.AE Go.TX
theorem E5 (m:aA) (b:Bool):stepM m b=(if 64<=(smp m b).pc then {smp m b with halt:=4}else if bp (bI (qO (((smp m b).mem).getD ((smp m b).pc).toNat default)))=false then {smp m b with halt:=2}else exec (smp m b) (qO (((smp m b).mem).getD ((smp m b).pc).toNat default))):=rfl
theorem Y0 {m:aA} (h:MOK m) (b:Bool):MOK (smp m b):=by
 unfold smp
 split
 ·exact {h with sv:=h.pc,pc:=⟨show(0:Int)<=48 by decide,show(48:Int)<=65535 by decide⟩}
 ·exact {h with}
theorem Qi (m:aA) (b:Bool):(smp m b).ins=m.ins/\(smp m b).outs=m.outs/\(smp m b).count=m.count:=by unfold smp;split<;>exact⟨rfl,rfl,rfl⟩
theorem afk {m:aA} (h:MOK m) {i:Ins} (hi:bI i):Wo (nxt m i):=by
 obtain⟨_,_,_,k0,_,_,_,_,_,r9,_⟩:=hi
 unfold nxt
 split
 ·exact h.sv
 split
 ·rename_i c;exact⟨k0,by have:=r9 (by omega);omega⟩
 split
 ·exact h.rw.at _
 ·unfold Wo;omega
theorem abb (m:aA) (i:Ins):(eff m i).count=m.count/\(eff m i).ins.length<=m.ins.length/\(eff m i).outs.length<=m.outs.length+1:=by
 unfold eff
 repeat' split
 all_goals refine⟨rfl,?_,?_⟩
 all_goals first | exact Nat.le_refl _ | exact Nat.le_succ _ | (simp only [List.length_append,List.length_cons,List.length_nil];omega) | (simp only [List.length_drop];omega)
theorem kY {m:aA} (h:MOK m) {i:Ins} (hi:bI i) (c:m.count<1000000):MOK (exec m i):=by
 unfold exec
 split
 ·exact {h with ha:=⟨show(0:Int)<=3 by decide,show(3:Int)<=4 by decide⟩}
 ·have:=h.ct
  exact {Qf h hi with pc:=afk h hi,ct:=⟨show 0<=m.count+1 by omega,show m.count+1<=1000000 by omega⟩}
theorem abd (m:aA) (i:Ins):(exec m i).ins.length<=m.ins.length/\(exec m i).outs.length<=m.outs.length+1:=by
 unfold exec
 split
 ·exact⟨Nat.le_refl _,Nat.le_succ _⟩
 ·exact(abb m i).2
theorem Np {m:aA} (h:MOK m) (c:m.count<1000000) (b:Bool):MOK (stepM m b):=by
 have s:=Y0 h b
 rw [E5]
 split
 ·exact {s with ha:=⟨show(0:Int)<=4 by decide,show(4:Int)<=4 by decide⟩}
 split
 ·exact {s with ha:=⟨show(0:Int)<=2 by decide,show(2:Int)<=4 by decide⟩}
 ·rename_i g
  exact kY s (dh.1 (by simpa using g)) (by rw [(Qi m b).2.2];exact c)
theorem Nq (m:aA) (b:Bool):(stepM m b).ins.length<=m.ins.length/\(stepM m b).outs.length<=m.outs.length+1:=by
 obtain⟨e1,e2,_⟩:=Qi m b
 rw [E5]
 split
 ·exact⟨by rw [<-e1];exact Nat.le_refl _,by rw [<-e2];exact Nat.le_succ _⟩
 split
 ·exact⟨by rw [<-e1];exact Nat.le_refl _,by rw [<-e2];exact Nat.le_succ _⟩
 ·rw [<-e1,<-e2];exact abd _ _
noncomputable def stS (m:aA) (b:Bool):aA:=if bp (MOK m)=true then(if m.halt≠0\/m.count=1000000 then m else stepM m b)else Qb
theorem ako {p1:Int×Unit->Bool} {f1:Int×Unit->Int×Int×Int×Int×Bool×Unit} (hp1:∀w,p1 (w,())=true) (hf1:∀w,f1 (w,())=tkI w) {p2:aA×Unit->Bool} {f2:aA×Unit->Bool×Unit} (hp2:∀m,MSh m->p2 (m,())=true) (hf2:∀m,MSh m->f2 (m,())=(bp (MOK m),())) {p3:aA×Unit->Bool} {f3:aA×Unit->Int×Int×Bool×Bool×Int×Int×List Int×List Int×List Int×List Int×Unit} (hp3:∀m,MSh m->p3 (m,())=true) (hf3:∀m,MSh m->f3 (m,())=m10 m) {p4:Int×Int×Bool×Bool×Int×List Int×Int×Ins×List Int×List Int×List Int×Unit->Bool} {f4:Int×Int×Bool×Bool×Int×List Int×Int×Ins×List Int×List Int×List Int×Unit->Int×Int×Bool×Bool×Int×List Int×Int×List Int×List Int×List Int×Unit} (hp4:∀(m:aA) (i:Ins),MOK m->bI i->m.ins.length<1000000000->m.outs.length<900000000->p4 (m.pc,m.save,m.bL,m.waits,m.halt,m.ins,m.count,i,m.regs,m.mem,m.outs,())=true) (hf4:∀(m:aA) (i:Ins),MOK m->bI i->m.ins.length<1000000000->m.outs.length<900000000->f4 (m.pc,m.save,m.bL,m.waits,m.halt,m.ins,m.count,i,m.regs,m.mem,m.outs,())=mB (exec m i)) {p5:Int×Int×Bool×Bool×Int×List Int×Int×Int×List Int×List Int×List Int×Unit->Bool} {f5:Int×Int×Bool×Bool×Int×List Int×Int×Int×List Int×List Int×List Int×Unit->Int×Int×Bool×Bool×Int×List Int×Int×List Int×List Int×List Int×Unit} (hp5:∀(m:aA) (h:Int),p5 (m.pc,m.save,m.bL,m.waits,m.halt,m.ins,m.count,h,m.regs,m.mem,m.outs,())=true) (hf5:∀(m:aA) (h:Int),f5 (m.pc,m.save,m.bL,m.waits,m.halt,m.ins,m.count,h,m.regs,m.mem,m.outs,())=mB {m with halt:=h}) {p6:Int×Int×Bool×Bool×Int×List Int×Int×Bool×List Int×List Int×List Int×Unit->Bool} {f6:Int×Int×Bool×Bool×Int×List Int×Int×Bool×List Int×List Int×List Int×Unit->Int×Int×Bool×Bool×Int×List Int×Int×List Int×List Int×List Int×Unit} (hp6:∀(m:aA) (b:Bool),p6 (m.pc,m.save,m.bL,m.waits,m.halt,m.ins,m.count,b,m.regs,m.mem,m.outs,())=true) (hf6:∀(m:aA) (b:Bool),f6 (m.pc,m.save,m.bL,m.waits,m.halt,m.ins,m.count,b,m.regs,m.mem,m.outs,())=mB (smp m b)) (m:aA) (b:Bool) (h:MSh m) (ho:m.outs.length<900000000):Ww (std 0).al p1 f1 p2 f2 p3 f3 p4 f4 p5 f5 p6 f6 (m,b,()) (λy=>y=mB (stS m b)):=by
 have P6:=hp6 m b
 have H6:=hf6 m b
 dsimp only [Ww,Tup.q,Tup.o]
 simp (disch:=omega) only [RR,MRB,hp1,hf1,hp2 m h,hf2 m h,hp3 m h,hf3 m h,P6,H6]
 unfold stS
 refine⟨λg=>by rw [if_neg (by rw [g];decide)];rfl,λg=> ?_⟩
 have ok:=dh.1 g
 have s:=Y0 ok b
 obtain⟨e1,e2,_⟩:=Qi m b
 have m64:=s.m64
 have pw:0<=(smp m b).pc/\(smp m b).pc<=65535:=s.pc
 have P5:=hp5 (smp m b)
 have H5:=hf5 (smp m b)
 rw [if_pos g]
 refine⟨λq=>by rw [if_pos q],λq=> ?_⟩
 rw [if_neg (by omega),E5]
 have wm:=s.mw.at (smp m b).pc
 simp only [P5,H5]
 refine⟨λq=>⟨trivial,by rw [if_pos q]⟩,λq=>⟨by omega,by omega,by omega,by omega,?_⟩⟩
 rw [if_neg (by omega)]
 by_cases k:bI (qO (((smp m b).mem).getD ((smp m b).pc).toNat default))
 ·have t:tkI (((smp m b).mem).getD ((smp m b).pc).toNat default)=((qO (((smp m b).mem).getD ((smp m b).pc).toNat default)).op,(qO (((smp m b).mem).getD ((smp m b).pc).toNat default)).d,(qO (((smp m b).mem).getD ((smp m b).pc).toNat default)).a,(qO (((smp m b).mem).getD ((smp m b).pc).toNat default)).k,true,()):=by unfold tkI;rw [bN ⟨wm,k⟩,if_pos rfl]
  rw [t,bN k,if_neg (by decide)]
  have P4:=hp4 (smp m b) _ s k (by rw [e1];exact h.2.2.1) (by rw [e2];exact ho)
  have H4:=hf4 (smp m b) _ s k (by rw [e1];exact h.2.2.1) (by rw [e2];exact ho)
  exact⟨λc=>(by cases c),λ_=>⟨P4,H4⟩⟩
 ·have t:tkI (((smp m b).mem).getD ((smp m b).pc).toNat default)=(0,0,0,0,false,()):=by unfold tkI;rw [dV (λq=>k q.2),if_neg (by decide)]
  rw [t,dV k,if_pos rfl]
  exact⟨λ_=>⟨trivial,rfl⟩,λc=>(by cases c)⟩
noncomputable def BK (q:List Int):Nat->aA->aA
 | 0,m=>m
 | k+1,m=>if m.halt=0/\m.count<1000000 then BK q k (stepM m (bp (m.count∈q)))else m
theorem Sj (q:List Int):∀(k:Nat) {m:aA},MOK m->MOK (BK q k m)
 | 0,m,h=>h
 | k+1,m,h=>by
  unfold BK
  split
  ·rename_i c;exact Sj q k (Np h c.2 _)
  ·exact h
theorem Sk (q:List Int):∀(k:Nat) (m:aA),(BK q k m).ins.length<=m.ins.length/\(BK q k m).outs.length<=m.outs.length+k
 | 0,m=>⟨Nat.le_refl _,Nat.le_refl _⟩
 | k+1,m=>by
  unfold BK
  split
  ·have a:=Sk q k (stepM m (bp (m.count∈q)))
   have b:=Nq m (bp (m.count∈q))
   omega
  ·omega
noncomputable def pI (q:List Int) (n:Int) (m:aA):aA:=if bp (MOK m/\n<=400)=true then BK q n.toNat m else Qb
theorem akp {p1:aA×Unit->Bool} {f1:aA×Unit->Bool×Unit} (hp1:∀m,MSh m->p1 (m,())=true) (hf1:∀m,MSh m->f1 (m,())=(bp (MOK m),())) {p2:aA×Bool×Unit->Bool} {f2:aA×Bool×Unit->Int×Int×Bool×Bool×Int×List Int×Int×List Int×List Int×List Int×Unit} (hp2:∀m b,MSh m->m.outs.length<900000000->p2 (m,b,())=true) (hf2:∀m b,MSh m->m.outs.length<900000000->f2 (m,b,())=mB (stS m b)) {p3:aA×Unit->Bool} {f3:aA×Unit->Int×Int×Bool×Bool×Int×Int×List Int×List Int×List Int×List Int×Unit} (hp3:∀m,MSh m->p3 (m,())=true) (hf3:∀m,MSh m->f3 (m,())=m10 m) {p4:List Int×Int×Unit->Bool} {f4:List Int×Int×Unit->Bool×Unit} (hp4:∀l n,l.length<1000000000->p4 (l,n,())=true) (hf4:∀l n,l.length<1000000000->f4 (l,n,())=(bp (n∈l),())) (m:aA) (q:List Int) (n:Int) (h:MSh m) (hq:q.length<1000000000) (ho:m.outs.length<800000000):Wx (std 0).al p1 f1 p2 f2 p3 f3 p4 f4 (m,q,n,()) (λy=>y=mB (pI q n m)):=by
 dsimp only [Wx,Tup.q,Tup.o]
 simp (disch:=omega) only [RR,MRB,hp1 m h,hf1 m h,hp3 m h,hf3 m h]
 refine⟨λg=> ?_,λg=> ?_⟩
 ·unfold pI
  rw [w9,if_neg]
  ·rfl
  ·rcases g with g | g
   ·rw [g];simp
   ·rw [dV (show¬n<=400 by omega)];simp
 have ok:=dh.1 g.1
 have e:pI q n m=BK q n.toNat m:=by unfold pI;rw [bN ⟨ok,by omega⟩,if_pos rfl]
 rw [e]
 have n4:n<=400:=by omega
 refine aL (λ(y:List Int×Int×Int×Int×Int×Bool×Bool×Int×Int×Int×Int×Bool×Bool×Int×List Int×Int×List Int×List Int×List Int×Unit)=>∃(x:aA) (k:Nat),y.1=q/\y.2.1=n/\y.2.2.1=k/\k<=n.toNat/\y.2.2.2.2.2.2.2.2.2=mB x/\MOK x/\x.ins.length<=m.ins.length/\x.outs.length<=m.outs.length+k/\BK q (n.toNat-k) x=BK q n.toNat m) (λy=>(n-y.2.2.1).toNat)
  ⟨m,0,rfl,rfl,rfl,by omega,rfl,ok,Nat.le_refl _,Nat.le_refl _,rfl⟩ ?_
 rintro⟨(q:List Int),(n:Int),(i:Int),u1,u2,u3,u4,u5,u6,v1,v2,v3,v4,v5,v6,v7,v8,v9,v10,⟨⟩⟩ ⟨x,k,hI⟩
 dsimp only at hI ⊢
 obtain⟨rfl,rfl,rfl,h1,h2,h3,h4,h5,h6⟩:=hI
 simp only [Prod.mk.injEq,and_true]at h2
 obtain⟨rfl,rfl,rfl,rfl,rfl,rfl,rfl,rfl,rfl,rfl⟩:=h2
 have xs:MSh x:=⟨by rw [h3.r4];decide,by rw [h3.m64];decide,by have:=h.2.2.1;omega,by omega⟩
 have mK:Co.mk .aC (x.regs,x.pc,x.mem,x.save,x.bL,x.waits,x.halt,x.ins,x.outs,x.count,())=x:=rfl
 simp (disch:=omega) only [RR,mK,hp4 _ _ hq,hf4 _ _ hq,hp2 x _ xs (by omega),hf2 x _ xs (by omega)]
 refine⟨λg=> ?_,λg=> ?_⟩
 ·have e:stS x (bp (x.count∈q))=stepM x (bp (x.count∈q)):=by unfold stS;rw [bN h3,if_pos rfl,if_neg (by omega)]
  rw [e]
  have l:=Nq x (bp (x.count∈q))
  refine⟨⟨stepM x (bp (x.count∈q)),k+1,rfl,by omega,rfl,Np h3 (by omega) _,by omega,by omega,?_⟩,by omega⟩
  rw [<-h6,show n.toNat-k=(n.toNat- (k+1))+1 by omega]
  conv=>rhs;unfold BK
  rw [if_pos (by omega)]
 ·rw [<-h6]
  by_cases c:(k:Int)<n
  ·rw [show n.toNat-k=(n.toNat- (k+1))+1 by omega]
   unfold BK
   rw [if_neg (λz=>by rw [decide_eq_true c,decide_eq_true z.1,decide_eq_true z.2]at g;cases g)]
  ·rw [show n.toNat-k=0 by omega];rfl
end Go.TX.F
namespace Go.TX.F
open Go Go.AE Go.TX
theorem akq {p1:Int×List Int×Int×Unit->Bool} {f1:Int×List Int×Int×Unit->Int×List Int×Int×Unit} (hp1:∀n b p,Bt b->0<=p->p<1000000000->p1 (n,b,p,())=true) (hf1:∀n b p,Bt b->0<=p->p<1000000000->Pk n b p (f1 (n,b,p,()))) (b:List Int) (p:Int) (hb:Bt b) (h1:0<=p) (h2:p<900000000):Wy (std 0).al p1 f1 (b,p,()) (λ(y:List Int×Int×List Int×Unit)=>y.1=b/\p<=y.2.1/\y.2.1<=p+10/\y.2.2.1.length<=5):=by
 obtain⟨a1,a2,a3,a4⟩:=hf1 5 b p hb h1 (by omega)
 dsimp only [Wy,Tup.q,Tup.o]
 simp (disch:=omega) only [RR,hp1 5 b p hb h1 (by omega),a1,a2,List.length_nil]
 refine aL (λ(y:Int×List Int×Int×List Int×Unit)=>0<=y.1/\y.1<=5/\y.2.1=b/\p<=y.2.2.1/\y.2.2.1+y.1<=p+6/\(y.2.2.2.1.length:Int)+y.1<=5) (λy=>y.1.toNat) ⟨a3,by dsimp only;omega,rfl,by dsimp only;omega,by dsimp only;omega,by dsimp only [List.length_nil];omega⟩ ?_
 rintro⟨(k:Int),(b':List Int),(q:Int),(l:List Int),⟨⟩⟩ hI
 dsimp only at hI ⊢
 obtain⟨k1,k2,rfl,k3,k4,k5⟩:=hI
 obtain⟨c1,c2,_,_⟩:=hf1 50 b' q hb (by omega) (by omega)
 simp (disch:=omega) only [RR,hp1 50 b' q hb (by omega) (by omega),c1,c2,List.length_cons,List.length_nil,List.length_append]
 exact⟨λg=>⟨by omega,⟨by omega,by omega,by omega,by omega,by omega⟩,by omega⟩,λg=>⟨by omega,by omega,by omega⟩⟩
theorem akr {p1:Int×List Int×Int×Unit->Bool} {f1:Int×List Int×Int×Unit->Int×List Int×Int×Unit} (hp1:∀n b p,Bt b->0<=p->p<1000000000->p1 (n,b,p,())=true) (hf1:∀n b p,Bt b->0<=p->p<1000000000->Pk n b p (f1 (n,b,p,()))) (t:Int) (b:List Int) (p:Int) (hb:Bt b) (t0:0<=t/\t<=1000) (h1:0<=p) (h2:p<900000000):V9 (std 0).al p1 f1 (t,b,p,()) (λ(y:List Int×Int×List Ins×Unit)=>y.1=b/\p<=y.2.1/\y.2.1<=p+500/\y.2.2.1.length<=10):=by
 have R:=pkR hb hf1
 have P:=λn p h1 h2=>hp1 n b p hb h1 h2
 dsimp only [V9,Tup.q,Tup.o]
 simp (disch:=omega) only [RR,R,P,List.length_cons,List.length_nil]
 exact⟨by omega,by omega,by omega⟩
theorem aks {p1:List Int×Int×Unit->Bool} {f1:List Int×Int×Unit->Int×Int×Int×Int×List Int×Int×Unit} (hp1:∀b p,Bt b->0<=p->p<800000000->p1 (b,p,())=true) (hf1:∀b p,Bt b->0<=p->p<800000000->InD 30 b p (f1 (b,p,()))) {p2:Int×List Int×Int×Unit->Bool} {f2:Int×List Int×Int×Unit->Int×List Int×Int×Unit} (hp2:∀n b p,Bt b->0<=p->p<1000000000->p2 (n,b,p,())=true) (hf2:∀n b p,Bt b->0<=p->p<1000000000->Pk n b p (f2 (n,b,p,()))) (t:Int) (b:List Int) (p:Int) (hb:Bt b) (t0:0<=t/\t<=1000) (h1:0<=p) (h2:p<700000000):V8 (std 0).al p1 f1 p2 f2 (t,b,p,()) (λ(y:List Int×Int×List Ins×Unit)=>y.1=b/\p<=y.2.1/\y.2.1<=p+500/\y.2.2.1.length<=10):=by
 have R:=pkR hb hf2
 have P:=λn p h1 h2=>hp2 n b p hb h1 h2
 obtain⟨_,_,a3,a4⟩:=hf2 4 b (p+1+1) hb (by omega) (by omega)
 dsimp only [V8,Tup.q,Tup.o]
 simp (disch:=omega) only [RR,R,P,List.length_cons,List.length_nil,List.length_append]
 refine aL (λ(y:Int×Int×List Int×Int×List Ins×Unit)=>0<=y.2.1/\y.2.1<=4/\y.2.2.1=b/\p<=y.2.2.2.1/\y.2.2.2.1+50*y.2.1<=p+300/\(y.2.2.2.2.1.length:Int)+y.2.1<=7) (λy=>y.2.1.toNat) ⟨a3,by dsimp only;omega,rfl,by dsimp only;omega,by dsimp only;omega,by dsimp only [List.length_cons,List.length_nil];omega⟩ ?_
 rintro⟨(t:Int),(k:Int),(b':List Int),(q:Int),(l:List Ins),⟨⟩⟩ hI
 dsimp only at hI ⊢
 obtain⟨k1,k2,rfl,k3,k4,k5⟩:=hI
 obtain⟨c1,c2,c3,c4⟩:=hf1 b' q hb (by omega) (by omega)
 simp (disch:=omega) only [RR,hp1 b' q hb (by omega) (by omega),c1,List.length_cons,List.length_nil,List.length_append]
 refine⟨λg=>⟨λ_=>⟨by omega,⟨by omega,by omega,by omega,by omega,by omega⟩,by omega⟩,λ_=>⟨by omega,⟨by omega,by omega,by omega,by omega,by omega⟩,by omega⟩⟩,λg=>⟨by omega,by omega,by omega,by omega⟩⟩
end Go.TX.F
namespace Go.TX.F
open Go Go.AE Go.TX
structure ImD (b:List Int) (p:Int) (y:List Int×Int×List Int×Unit):Prop where
 b:y.1=b
 lo:p<=y.2.1
 hi:y.2.1<=p+8000
 len:y.2.2.1.length<=64
 w:Wos y.2.2.1
theorem akt {p1:List Ins×Unit->Bool} {f1:List Ins×Unit->List Int×Unit} (hp1:∀l,l.length<1000000->p1 (l,())=true) (hf1:∀l,l.length<1000000->f1 (l,())=(l.map BJ,())) {p2:Ins×Unit->Bool} {f2:Ins×Unit->Int×Unit} (hp2:∀i,p2 (i,())=true) (hf2:∀i,f2 (i,())=(BJ i,())) {p3:Int×List Int×Int×Unit->Bool} {f3:Int×List Int×Int×Unit->List Int×Int×List Ins×Unit} (hp3:∀t b p,Bt b->(0<=t/\t<=1000)->0<=p->p<700000000->p3 (t,b,p,())=true) (hf3:∀t b p,Bt b->(0<=t/\t<=1000)->0<=p->p<700000000->(f3 (t,b,p,())).1=b/\p<=(f3 (t,b,p,())).2.1/\(f3 (t,b,p,())).2.1<=p+500/\(f3 (t,b,p,())).2.2.1.length<=10) {p4:List Int×Int×Unit->Bool} {f4:List Int×Int×Unit->Int×Int×Int×Int×List Int×Int×Unit} (hp4:∀b p,Bt b->0<=p->p<800000000->p4 (b,p,())=true) (hf4:∀b p,Bt b->0<=p->p<800000000->InD 30 b p (f4 (b,p,()))) {p5:List Int×Int×Unit->Bool} {f5:List Int×Int×Unit->Int×Int×Int×Int×List Int×Int×Unit} (hp5:∀b p,Bt b->0<=p->p<900000000->p5 (b,p,())=true) (hf5:∀b p,Bt b->0<=p->p<900000000->InD 20 b p (f5 (b,p,()))) {p6:Int×List Int×Int×Unit->Bool} {f6:Int×List Int×Int×Unit->List Int×Int×List Ins×Unit} (hp6:∀t b p,Bt b->(0<=t/\t<=1000)->0<=p->p<900000000->p6 (t,b,p,())=true) (hf6:∀t b p,Bt b->(0<=t/\t<=1000)->0<=p->p<900000000->(f6 (t,b,p,())).1=b/\p<=(f6 (t,b,p,())).2.1/\(f6 (t,b,p,())).2.1<=p+500/\(f6 (t,b,p,())).2.2.1.length<=10) {p7:Int×List Int×Int×Unit->Bool} {f7:Int×List Int×Int×Unit->Bool×List Int×Int×Unit} (hp7:∀n b p,Bt b->0<=p->p<1000000000->p7 (n,b,p,())=true) (hf7:∀n b p,Bt b->0<=p->p<1000000000->(f7 (n,b,p,())).2.1=b/\(f7 (n,b,p,())).2.2.1=p+1) {p8:Int×List Int×Int×Unit->Bool} {f8:Int×List Int×Int×Unit->Int×List Int×Int×Unit} (hp8:∀n b p,Bt b->0<=p->p<1000000000->p8 (n,b,p,())=true) (hf8:∀n b p,Bt b->0<=p->p<1000000000->Pk n b p (f8 (n,b,p,()))) {p9:List Int×Int×Unit->Bool} {f9:List Int×Int×Unit->Int×List Int×Int×Unit} (hp9:∀b p,Bt b->0<=p->p<900000000->p9 (b,p,())=true) (hf9:∀b p,Bt b->0<=p->p<900000000->Wd b p (f9 (b,p,()))) (b:List Int) (p:Int) (hb:Bt b) (h1:0<=p) (h2:p<600000000):Wm (std 0).al p1 f1 p2 f2 p3 f3 p4 f4 p5 f5 p6 f6 p7 f7 p8 f8 p9 f9 (b,p,()) (λy=>ImD b p y):=by
 have R:=pkR hb hf8
 have P:=λn p h1 h2=>hp8 n b p hb h1 h2
 obtain⟨_,_,a3,a4⟩:=hf8 5 b (p+1) hb (by omega) (by omega)
 dsimp only [Wm,Tup.q,Tup.o]
 simp (disch:=omega) only [RR,R,P,List.length_cons,List.length_nil,List.length_append]
 refine⟨λ_=>⟨by omega,?_⟩,λ_=> ?_⟩
 all_goals refine aL (λ(y:Int×List Int×Int×List Ins×Unit)=>0<=y.1/\y.1<=5/\y.2.1=b/\p<=y.2.2.1/\y.2.2.1+550*y.1<=p+2800/\(y.2.2.2.1.length:Int)<=44) (λy=>y.1.toNat) ⟨by dsimp only;omega,by dsimp only;omega,rfl,by dsimp only;omega,by dsimp only;omega,by simp⟩ ?_
 all_goals
  rintro⟨(k:Int),(b':List Int),(q:Int),(l:List Ins),⟨⟩⟩ hI
  dsimp only at hI ⊢
  obtain⟨k1,k2,rfl,k3,k4,k5⟩:=hI
  obtain⟨_,_,d3,d4⟩:=hf8 8 b' (q+1) hb (by omega) (by omega)
  simp (disch:=omega) only [RR,R,P,List.length_cons,List.length_nil,List.length_append]
  refine⟨λg=>⟨λ_=> ?_,λ_=>⟨λ_=> ?_,λ_=> ?_⟩⟩,λg=>⟨by omega,hp1 _ (by simp;omega),?_⟩⟩
  ·obtain⟨z1,z2,z3,z4⟩:=hf3 l.length b' (q+1) hb (by omega) (by omega) (by omega)
   exact⟨hp3 l.length b' (q+1) hb (by omega) (by omega) (by omega),by omega,⟨by omega,by omega,z1,by omega,by omega,by omega⟩,by omega⟩
  ·obtain⟨z1,z2,z3,z4⟩:=hf6 l.length b' (q+1) hb (by omega) (by omega) (by omega)
   exact⟨hp6 l.length b' (q+1) hb (by omega) (by omega) (by omega),by omega,⟨by omega,by omega,z1,by omega,by omega,by omega⟩,by omega⟩
  ·refine aL (λ(y:Int×Int×List Int×Int×List Ins×Unit)=>y.1=k/\0<=y.2.1/\y.2.1<=8/\y.2.2.1=b'/\q<=y.2.2.2.1/\y.2.2.2.1+30*y.2.1<=q+300/\(y.2.2.2.2.1.length:Int)+y.2.1<=42) (λy=>y.2.1.toNat) ⟨rfl,by dsimp only;omega,by dsimp only;omega,rfl,by dsimp only;omega,by dsimp only;omega,by dsimp only;omega⟩ ?_
   rintro⟨(k:Int),(j:Int),(b'':List Int),(q':Int),(l':List Ins),⟨⟩⟩ hI
   dsimp only at hI ⊢
   obtain⟨rfl,j1,j2,rfl,j3,j4,j5⟩:=hI
   obtain⟨c1,c2,c3,_⟩:=hf5 b'' q' hb (by omega) (by omega)
   simp (disch:=omega) only [RR,hp5 b'' q' hb (by omega) (by omega),c1,List.length_cons,List.length_nil,List.length_append]
   exact⟨λ_=>⟨by omega,⟨by omega,by omega,by omega,by omega,by omega⟩,by omega⟩,λ_=>⟨⟨by omega,by omega,by omega,by omega,by omega⟩,by omega⟩⟩
  ·rw [hf1 _ (by simp;omega)]
   have ww:∀l:List Ins,Wos (l.map BJ):=λl x hx=>by obtain⟨i,_,rfl⟩:=List.mem_map.1 hx;exact yO i
   refine aL (λ(y:List Int×Int×List Int×Unit)=>y.1=b'/\q<=y.2.1/\y.2.1<=q+40*y.2.2.1.length/\y.2.2.1.length<=48/\Wos y.2.2.1) (λy=>48-y.2.2.1.length) ⟨rfl,by dsimp only;omega,by dsimp only;omega,by simp;omega,ww _⟩ ?_
   rintro⟨(b'':List Int),(r:Int),(o:List Int),⟨⟩⟩ hI
   dsimp only at hI ⊢
   obtain⟨rfl,j1,j2,j3,j4⟩:=hI
   obtain⟨e1,e2,e3,e4⟩:=hf9 b'' r hb (by omega) (by omega)
   obtain⟨c1,c2,c3,_⟩:=hf5 b'' (f9 (b'',r,())).2.2.1 hb (by omega) (by omega)
   have p5':=hp5 b'' (f9 (b'',r,())).2.2.1 hb (by omega) (by omega)
   obtain⟨_,_,g3,g4⟩:=hf8 4 b'' r hb (by omega) (by omega)
   simp (disch:=omega) only [RR,R,P,hp9 b'' r hb (by omega) (by omega),e1,p5',c1,hp2,hf2,List.length_cons,List.length_nil,List.length_append,pR]
   refine⟨λ_=>⟨by omega,⟨by omega,by omega,by omega,j4.snoc (Wos.at (afj (afj (afj (λ_ h=>(by cases h)) (yO _)) e4) wo0) _)⟩,by omega⟩,λ_=>⟨by omega,by omega,by omega,by omega,by omega,?_⟩⟩
   refine aL (λ(y:Int×List Int×Int×List Int×Unit)=>0<=y.1/\y.1<=4/\y.2.1=b''/\r<=y.2.2.1/\y.2.2.1+50*y.1<=r+300/\(y.2.2.2.1.length:Int)+y.1<=52/\Wos y.2.2.2.1) (λy=>y.1.toNat) ⟨g3,by dsimp only;omega,rfl,by dsimp only;omega,by dsimp only;omega,by simp only [List.length_drop,List.length_take];omega,λx hx=>j4 x (List.mem_of_mem_take (List.mem_of_mem_drop hx))⟩ ?_
   rintro⟨(m:Int),(b3:List Int),(t:Int),(u:List Int),⟨⟩⟩ hI
   dsimp only at hI ⊢
   obtain⟨m1,m2,rfl,m3,m4,m5,m6⟩:=hI
   obtain⟨c1,c2,c3,_⟩:=hf4 b3 t hb (by omega) (by omega)
   obtain⟨o1,o2⟩:=hf7 9 b3 t hb (by omega) (by omega)
   have OP:=hp7 9 b3 t hb (by omega) (by omega)
   obtain⟨_,_,n3,n4⟩:=hf8 (u.length+2) b3 (t+1) hb (by omega) (by omega)
   obtain⟨e1,e2,e3,e4⟩:=hf9 b3 (t+1+1) hb (by omega) (by omega)
   have W9:=hp9 b3 (t+1+1) hb (by omega) (by omega)
   simp (disch:=omega) only [RR,R,P,hp4 b3 t hb (by omega) (by omega),c1,hp2,hf2,OP,o1,o2,W9,e1,List.length_cons,List.length_nil,List.length_append,pR]
   have w2:Wos (u++ [BJ (Co.mk .ins (14,3,0,0,())),BJ (Co.mk .ins (0,0,0,1,()))]):=by
    rw [show∀x y:Int,u++ [x,y]=(u++ [x])++ [y] by simp]
    exact(m6.snoc (yO _)).snoc (yO _)
   refine⟨λ_=>⟨by omega,⟨by omega,by omega,by omega,by omega,by omega,m6.snoc (yO _)⟩,by omega⟩,λ_=>⟨by omega,λ_=>⟨rfl,?_,?_,?_,w2.set e4 _⟩,λ_=>⟨rfl,?_,?_,?_,w2⟩⟩⟩
   ·dsimp only;omega
   ·dsimp only;omega
   ·dsimp only;rw [List.length_set,List.length_append,List.length_cons,List.length_cons,List.length_nil];omega
   ·dsimp only;omega
   ·dsimp only;omega
   ·dsimp only;rw [List.length_append,List.length_cons,List.length_cons,List.length_nil];omega
end Go.TX.F
namespace Go.TX.F
open Go Go.AE Go.TX
abbrev YMc:=Int×Int×Bool×Bool×Int×List Int×Int×List Int×Int×List Int×List Int×List Int×Unit
abbrev mE (y : YMc) : aA := ⟨y.2.2.2.2.2.2.2.2.2.1, y.1, y.2.2.2.2.2.2.2.2.2.2.1, y.2.1, y.2.2.1, y.2.2.2.1, y.2.2.2.2.1, y.2.2.2.2.2.1, y.2.2.2.2.2.2.2.2.2.2.2.1, y.2.2.2.2.2.2.1⟩
structure McD (b:List Int) (p:Int) (y:YMc):Prop where
 b:y.2.2.2.2.2.2.2.1=b
 lo:p<=y.2.2.2.2.2.2.2.2.1
 hi:y.2.2.2.2.2.2.2.2.1<=p+9500
 ok:MOK (mE y)
 i:(mE y).ins.length<=10
 o:(mE y).outs.length<=100
theorem aku {X:aA} (h:MOK X) {r:List Int} {pc ha:Int} {l w:Bool} (h1:Wo pc) (h2:0<=ha/\ha<=4) (h3:r.length=4) (h4:Wos r):MOK ⟨r,pc,X.mem,X.save,l,w,ha,X.ins,X.outs,X.count⟩:=
 {h with r4:=h3,rw:=h4,pc:=h1,ha:=h2}
theorem akv {p1:List Int×List Int×Unit->Bool} {f1:List Int×List Int×Unit->Int×Int×Bool×Bool×Int×Int×List Int×List Int×List Int×Unit} (hp1:∀w i,w.length<1000000->i.length<1000000->p1 (w,i,())=true) (hf1:∀w i,w.length<1000000->i.length<1000000->f1 (w,i,())=((jv w i).pc,(jv w i).save,(jv w i).bL,(jv w i).waits,(jv w i).halt,(jv w i).count,(jv w i).regs,(jv w i).mem,(jv w i).ins,())) {p2:aA×List Int×Int×Unit->Bool} {f2:aA×List Int×Int×Unit->Int×Int×Bool×Bool×Int×List Int×Int×List Int×List Int×List Int×Unit} (hp2:∀m q n,MSh m->q.length<1000000000->m.outs.length<800000000->p2 (m,q,n,())=true) (hf2:∀m q n,MSh m->q.length<1000000000->m.outs.length<800000000->f2 (m,q,n,())=mB (pI q n m)) {p3:List Int×Int×Unit->Bool} {f3:List Int×Int×Unit->List Int×Int×List Int×Unit} (hp3:∀b p,Bt b->0<=p->p<600000000->p3 (b,p,())=true) (hf3:∀b p,Bt b->0<=p->p<600000000->ImD b p (f3 (b,p,()))) {p4:List Int×Int×Unit->Bool} {f4:List Int×Int×Unit->List Int×Int×List Int×Unit} (hp4:∀b p,Bt b->0<=p->p<900000000->p4 (b,p,())=true) (hf4:∀b p,Bt b->0<=p->p<900000000->(f4 (b,p,())).1=b/\p<=(f4 (b,p,())).2.1/\(f4 (b,p,())).2.1<=p+10/\(f4 (b,p,())).2.2.1.length<=5) {p5:Int×List Int×Int×Unit->Bool} {f5:Int×List Int×Int×Unit->Bool×List Int×Int×Unit} (hp5:∀n b p,Bt b->0<=p->p<1000000000->p5 (n,b,p,())=true) (hf5:∀n b p,Bt b->0<=p->p<1000000000->(f5 (n,b,p,())).2.1=b/\(f5 (n,b,p,())).2.2.1=p+1) {p6:Int×List Int×Int×Unit->Bool} {f6:Int×List Int×Int×Unit->Int×List Int×Int×Unit} (hp6:∀n b p,Bt b->0<=p->p<1000000000->p6 (n,b,p,())=true) (hf6:∀n b p,Bt b->0<=p->p<1000000000->Pk n b p (f6 (n,b,p,()))) {p7:Int×List Int×Int×Unit->Bool} {f7:Int×List Int×Int×Unit->List Int×Int×List Int×Unit} (hp7:∀n b p,Bt b->(0<=n/\n<=100)->0<=p->p<800000000->p7 (n,b,p,())=true) (hf7:∀n b p,Bt b->(0<=n/\n<=100)->0<=p->p<800000000->(f7 (n,b,p,())).1=b/\p<=(f7 (n,b,p,())).2.1/\(f7 (n,b,p,())).2.1<=p+300/\(f7 (n,b,p,())).2.2.1.length=n/\wOK (f7 (n,b,p,())).2.2.1) (b:List Int) (p:Int) (hb:Bt b) (h1:0<=p) (h2:p<500000000):Wz (std 0).al p1 f1 p2 f2 p3 f3 p4 f4 p5 f5 p6 f6 p7 f7 (b,p,()) (λy=>McD b p y):=by
 obtain⟨i1,i2,i3,i4,i5⟩:=hf3 b p hb h1 (by omega)
 have P3:=hp3 b p hb h1 (by omega)
 generalize hy:f3 (b,p,())=y at i1 i2 i3 i4 i5
 obtain⟨b',q0,w,⟨⟩⟩:=y
 dsimp only at i1 i2 i3 i4 i5
 subst i1
 have R:=pkR hb hf6
 have P:=λn p h1 h2=>hp6 n b' p hb h1 h2
 obtain⟨_,_,a3,a4⟩:=hf6 5 b' q0 hb (by omega) (by omega)
 obtain⟨w1,w2,w3,w4,w5⟩:=hf7 (f6 (5,b',q0,())).1 b' (q0+1) hb (by omega) (by omega) (by omega)
 have P7:=hp7 (f6 (5,b',q0,())).1 b' (q0+1) hb (by omega) (by omega) (by omega)
 generalize hz:f7 ((f6 (5,b',q0,())).1,b',q0+1,())=z at w1 w2 w3 w4 w5
 obtain⟨b2,q1,is,⟨⟩⟩:=z
 dsimp only at w1 w2 w3 w4 w5
 subst w1
 have P1:=hp1 w is (by omega) (by omega)
 have H1:=hf1 w is (by omega) (by omega)
 have ok:=aa9 i4 i5 w5
 have oe:(jv w is).outs=[]:=by unfold jv;split<;>rfl
 have ie:(jv w is).ins.length<=10:=by unfold jv;split;(dsimp only;omega);exact Nat.zero_le _
 generalize jv w is=M at P1 H1 ok oe ie
 have mK:Co.mk .aC (M.regs,M.pc,M.mem,M.save,M.bL,M.waits,M.halt,M.ins,[],M.count,())=M:=by cases M;dsimp only at oe;subst oe;rfl
 have P4:=hp4 b2 q1 hb (by omega) (by omega)
 obtain⟨q1',q2',q3',q4'⟩:=hf4 b2 q1 hb (by omega) (by omega)
 generalize hr:f4 (b2,q1,())=r at q1' q2' q3' q4'
 obtain⟨b3,q2,qs,⟨⟩⟩:=r
 dsimp only at q1' q2' q3' q4'
 subst q1'
 have ms:MSh M:=⟨by rw [ok.r4];decide,by rw [ok.m64];decide,by omega,by rw [oe];decide⟩
 obtain⟨_,_,n3,n4⟩:=hf6 40 b3 q2 hb (by omega) (by omega)
 have P2:=hp2 M qs (f6 (40,b3,q2,())).1 ms (by omega) (by rw [oe];decide)
 have H2:=hf2 M qs (f6 (40,b3,q2,())).1 ms (by omega) (by rw [oe];decide)
 have hX:MOK (pI qs (f6 (40,b3,q2,())).1 M):=by unfold pI;rw [bN ⟨ok,by omega⟩,if_pos rfl];exact Sj _ _ ok
 have lX:(pI qs (f6 (40,b3,q2,())).1 M).ins.length<=10/\(pI qs (f6 (40,b3,q2,())).1 M).outs.length<=100:=by
  unfold pI;rw [bN ⟨ok,by omega⟩,if_pos rfl]
  have:=Sk qs (f6 (40,b3,q2,())).1.toNat M
  rw [oe]at this
  simp only [List.length_nil]at this
  omega
 generalize pI qs (f6 (40,b3,q2,())).1 M=X at P2 H2 hX lX
 obtain⟨v1,v2,v3,v4,v5⟩:=hf7 4 b3 (q2+1+1) hb (by omega) (by omega) (by omega)
 have P7':=hp7 4 b3 (q2+1+1) hb (by omega) (by omega) (by omega)
 generalize hv:f7 (4,b3,q2+1+1,())=v at v1 v2 v3 v4 v5
 obtain⟨b4,q3,vs,⟨⟩⟩:=v
 dsimp only at v1 v2 v3 v4 v5
 subst v1
 have O:=λn p h1 h2=>(hf5 n b4 p hb h1 h2).1
 have O':=λn p h1 h2=>(hf5 n b4 p hb h1 h2).2
 have OP:=λn p h1 h2=>hp5 n b4 p hb h1 h2
 dsimp only [Wz,Tup.q,Tup.o]
 simp (disch:=omega) only [RR,P3,hy,R,P,P7,hz,P1,H1,mK,P4,hr,P2,H2,P7',hv,O,O',OP]
 have pk:∀t:Int,0<=t->t<1000000000->Wo (f6 (66,b4,t,())).1:=λt h1 h2=>by obtain⟨_,_,c3,c4⟩:=hf6 66 b4 t hb h1 h2;unfold Wo;omega
 have v4':vs.length=4:=by omega
 repeat' (first | (refine⟨?_,?_⟩) | intro _)
 all_goals first | omega | (refine⟨rfl,by dsimp only;omega,by dsimp only;omega,aku hX (by first | exact hX.pc | exact pk _ (by omega) (by omega)) (by first | exact hX.ha | exact⟨show(0:Int)<=0 by decide,show(0:Int)<=4 by decide⟩) (by first | exact hX.r4 | exact v4') (by first | exact hX.rw | exact v5),lX.1,lX.2⟩)
abbrev YMo:=Int×List Int×Int×Bool×Bool×Int×List Int×Int×List Int×Int×List Int×List Int×Unit
structure MoD (b:List Int) (p:Int) (y:YMo):Prop where
 b:y.2.2.2.2.2.2.2.2.1=b
 lo:p<=y.2.2.2.2.2.2.2.2.2.1
 hi:y.2.2.2.2.2.2.2.2.2.1<=p+9600
 r:y.2.2.2.2.2.2.2.2.2.2.1.length<=10
 m:y.2.1.length<=64
 i:y.2.2.2.2.2.2.1.length<=10
 o:y.2.2.2.2.2.2.2.2.2.2.2.1.length<=110
theorem akw {p1:List Int×Int×Unit->Bool} {f1:List Int×Int×Unit->YMc} (hp1:∀b p,Bt b->0<=p->p<500000000->p1 (b,p,())=true) (hf1:∀b p,Bt b->0<=p->p<500000000->McD b p (f1 (b,p,()))) {p2:Int×List Int×Int×Unit->Bool} {f2:Int×List Int×Int×Unit->Bool×List Int×Int×Unit} (hp2:∀n b p,Bt b->0<=p->p<1000000000->p2 (n,b,p,())=true) (hf2:∀n b p,Bt b->0<=p->p<1000000000->(f2 (n,b,p,())).2.1=b/\(f2 (n,b,p,())).2.2.1=p+1) {p3:Int×List Int×Int×Unit->Bool} {f3:Int×List Int×Int×Unit->Int×List Int×Int×Unit} (hp3:∀n b p,Bt b->0<=p->p<1000000000->p3 (n,b,p,())=true) (hf3:∀n b p,Bt b->0<=p->p<1000000000->Pk n b p (f3 (n,b,p,()))) (n:Int) (b:List Int) (p:Int) (hb:Bt b) (h1:0<=p) (h2:p<400000000):Xm (std 0).al p1 f1 p2 f2 p3 f3 (n,b,p,()) (λy=>MoD b p y):=by
 obtain⟨i1,i2,i3,i4,i5,i6⟩:=hf1 b p hb h1 (by omega)
 have P1:=hp1 b p hb h1 (by omega)
 generalize hy:f1 (b,p,())=y at i1 i2 i3 i4 i5 i6
 obtain⟨pc,sv,lt,wt,ha,ins,ct,b',q,regs,mem,outs,⟨⟩⟩:=y
 have r4:=i4.r4
 have m6:=i4.m64
 dsimp only at i1 i2 i3 i5 i6 r4 m6
 subst i1
 have R:=pkR hb hf3
 have P:=λn p h1 h2=>hp3 n b' p hb h1 h2
 obtain⟨O,O'⟩:=hf2 n b' q hb (by omega) (by omega)
 have OP:=hp2 n b' q hb (by omega) (by omega)
 dsimp only [Xm,Tup.q,Tup.o]
 simp (disch:=omega) only [RR,P1,hy,R,P,O,O',OP,List.length_cons,List.length_nil]
 have tl:∀n:Nat,(List.drop (Int.toNat 1) (List.take n mem)).length<=64:=λn=>by rw [List.length_drop,List.length_take];omega
 repeat' (first | (refine⟨?_,?_⟩) | intro _)
 all_goals first | omega | (refine⟨rfl,by dsimp only;omega,by dsimp only;omega,?_,?_,by dsimp only;omega,?_⟩<;>first | (dsimp only;omega) | exact tl _ | (dsimp only;simp only [List.length_append,List.length_set,List.length_cons,List.length_nil];omega))
structure MaD (b:List Int) (p:Int) (y:YMc):Prop where
 b:y.2.2.2.2.2.2.2.1=b
 lo:p<=y.2.2.2.2.2.2.2.2.1
 hi:y.2.2.2.2.2.2.2.2.1<=p+9700
 r:(mE y).regs.length=4
 m:(mE y).mem.length=64
 i:(mE y).ins.length<=10
 o:(mE y).outs.length<=100
theorem akx {p1:List Int×Int×Unit->Bool} {f1:List Int×Int×Unit->YMc} (hp1:∀b p,Bt b->0<=p->p<500000000->p1 (b,p,())=true) (hf1:∀b p,Bt b->0<=p->p<500000000->McD b p (f1 (b,p,()))) {p2:Int×List Int×Int×Unit->Bool} {f2:Int×List Int×Int×Unit->Int×List Int×Int×Unit} (hp2:∀n b p,Bt b->0<=p->p<1000000000->p2 (n,b,p,())=true) (hf2:∀n b p,Bt b->0<=p->p<1000000000->Pk n b p (f2 (n,b,p,()))) (c:Blk) (b:List Int) (p:Int) (hb:Bt b) (h1:0<=p) (h2:p<400000000):WA (std 0).al p1 f1 p2 f2 (c,b,p,()) (λy=>MaD b p y):=by
 obtain⟨i1,i2,i3,i4,i5,i6⟩:=hf1 b p hb h1 (by omega)
 have P1:=hp1 b p hb h1 (by omega)
 generalize hy:f1 (b,p,())=y at i1 i2 i3 i4 i5 i6
 obtain⟨pc,sv,lt,wt,ha,ins,ct,b',q,regs,mem,outs,⟨⟩⟩:=y
 have r4:=i4.r4
 have m6:=i4.m64
 dsimp only at i1 i2 i3 i5 i6 r4 m6
 subst i1
 dsimp only [WA,Tup.q,Tup.o]
 simp (disch:=omega) only [RR,P1,hy]
 refine aL (λ(y:Int×List Int×Int×Blk×Int×Int×Bool×Bool×Int×Int×Int×Int×Bool×Bool×Int×List Int×Int×List Int×List Int×List Int×Unit)=>0<=y.1/\y.1<=4/\y.2.1=b'/\q<=y.2.2.1/\y.2.2.1<=q+3*y.1/\y.2.2.2.2.2.2.2.2.2.2.2.2.2.2.2.1.length<=10/\y.2.2.2.2.2.2.2.2.2.2.2.2.2.2.2.2.2.1.length=4/\y.2.2.2.2.2.2.2.2.2.2.2.2.2.2.2.2.2.2.1.length=64/\y.2.2.2.2.2.2.2.2.2.2.2.2.2.2.2.2.2.2.2.1.length<=100) (λy=>(4-y.1).toNat) ⟨by dsimp only;omega,by dsimp only;omega,rfl,by dsimp only;omega,by dsimp only;omega,i5,r4,m6,i6⟩ ?_
 rintro⟨(k:Int),(b2:List Int),(t:Int),(c:Blk),u1,u2,u3,u4,u5,u6,v1,v2,v3,v4,v5,(v6:List Int),v7,(r:List Int),(m:List Int),(o:List Int),⟨⟩⟩ hI
 dsimp only at hI ⊢
 obtain⟨k1,k2,rfl,k3,k4,k5,k6,k7,k8⟩:=hI
 have R:=pkR hb hf2
 have P:=λn p h1 h2=>hp2 n b2 p hb h1 h2
 simp (disch:=omega) only [RR,R,P,List.length_cons,List.length_nil,List.length_set,k6]
 refine⟨λg=>⟨λ_=> ?_,λ_=> ?_⟩,λg=>⟨rfl,by dsimp only;omega,by dsimp only;omega,k6,k7,k5,k8⟩⟩
 ·repeat' (first | (refine⟨?_,?_⟩) | intro _)
  all_goals omega
 ·repeat' (first | (refine⟨?_,?_⟩) | intro _)
  all_goals omega
end Go.TX.F
namespace Go.TX.F
open Go Go.AE Go.TX
theorem vV (a1 a2 a3 a4 a5 a6:Int) (o:IOp) (ops:List IOp) (h:ops.length<1000000):OQ (std 0).al (a1,a2,a3,a4,a5,a6,o,ops,()) (λy=>y=(a1,a2,a3,a4,a5,a6,(ops.length:Int),ops++ [o],())):=by
 dsimp only [OQ,Tup.q,Tup.o]
 simp (disch:=omega) only [RR,List.length_append,List.length_cons,List.length_nil]
 rw [show((ops.length+(0+1):Nat):Int)-1=ops.length by omega]
 exact⟨by omega,rfl⟩
theorem vW {p1:Int×Int×Int×Int×Int×Int×IOp×List IOp×Unit->Bool} {f1:Int×Int×Int×Int×Int×Int×IOp×List IOp×Unit->Int×Int×Int×Int×Int×Int×Int×List IOp×Unit} (hp1:∀(a1 a2 a3 a4 a5 a6:Int) (o:IOp) (ops:List IOp),ops.length<1000000->p1 (a1,a2,a3,a4,a5,a6,o,ops,())=true) (hf1:∀(a1 a2 a3 a4 a5 a6:Int) (o:IOp) (ops:List IOp),ops.length<1000000->f1 (a1,a2,a3,a4,a5,a6,o,ops,())=(a1,a2,a3,a4,a5,a6,(ops.length:Int),ops++ [o],())) (a1 a2 a3 a4 a5 a6 k:Int) (ops:List IOp) (h:ops.length<1000000):OU (std 0).al p1 f1 (a1,a2,a3,a4,a5,a6,k,ops,()) (λy=>y=(a1,a2,a3,a4,a5,a6,(ops.length:Int),ops++ [⟨2,0,0,k,0⟩],())):=by
 dsimp only [OU,Tup.q,Tup.o]
 simp (disch:=omega) only [RR,hp1,hf1,h]
 rfl
theorem vX {p1:Int×Int×Int×Int×Int×Int×IOp×List IOp×Unit->Bool} {f1:Int×Int×Int×Int×Int×Int×IOp×List IOp×Unit->Int×Int×Int×Int×Int×Int×Int×List IOp×Unit} (hp1:∀(a1 a2 a3 a4 a5 a6:Int) (o:IOp) (ops:List IOp),ops.length<1000000->p1 (a1,a2,a3,a4,a5,a6,o,ops,())=true) (hf1:∀(a1 a2 a3 a4 a5 a6:Int) (o:IOp) (ops:List IOp),ops.length<1000000->f1 (a1,a2,a3,a4,a5,a6,o,ops,())=(a1,a2,a3,a4,a5,a6,(ops.length:Int),ops++ [o],())) (a1 a2 a3 a4 a5 a6 k x:Int) (ops:List IOp) (h:ops.length<1000000):OT (std 0).al p1 f1 (a1,a2,a3,a4,a5,a6,k,x,ops,()) (λy=>y=(a1,a2,a3,a4,a5,a6,ops++ [⟨8,x,0,k,0⟩],())):=by
 dsimp only [OT,Tup.q,Tup.o]
 simp (disch:=omega) only [RR,hp1,hf1,h]
 rfl
theorem n1a (l:List IOp) (o:IOp):((l++ [o]).length:Int)=l.length+1:=by rw [List.length_append];rfl
theorem Ad {p1:Int×Int×Int×Int×Int×Int×Int×List IOp×Unit->Bool} {f1:Int×Int×Int×Int×Int×Int×Int×List IOp×Unit->Int×Int×Int×Int×Int×Int×Int×List IOp×Unit} (hp1:∀(a1 a2 a3 a4 a5 a6 k:Int) (ops:List IOp),ops.length<1000000->p1 (a1,a2,a3,a4,a5,a6,k,ops,())=true) (hf1:∀(a1 a2 a3 a4 a5 a6 k:Int) (ops:List IOp),ops.length<1000000->f1 (a1,a2,a3,a4,a5,a6,k,ops,())=(a1,a2,a3,a4,a5,a6,(ops.length:Int),ops++ [⟨2,0,0,k,0⟩],())) {p2:Int×Int×Int×Int×Int×Int×IOp×List IOp×Unit->Bool} {f2:Int×Int×Int×Int×Int×Int×IOp×List IOp×Unit->Int×Int×Int×Int×Int×Int×Int×List IOp×Unit} (hp2:∀(a1 a2 a3 a4 a5 a6:Int) (o:IOp) (ops:List IOp),ops.length<1000000->p2 (a1,a2,a3,a4,a5,a6,o,ops,())=true) (hf2:∀(a1 a2 a3 a4 a5 a6:Int) (o:IOp) (ops:List IOp),ops.length<1000000->f2 (a1,a2,a3,a4,a5,a6,o,ops,())=(a1,a2,a3,a4,a5,a6,(ops.length:Int),ops++ [o],())) (a1 a2 a3 a4 a5 a6 k a:Int) (o:IOp) (ops:List IOp) (h:ops.length<990000):OV (std 0).al p1 f1 p2 f2 (a1,a2,a3,a4,a5,a6,k,a,o,ops,()) (λy=>y=(a1,a2,a3,a4,a5,a6,(ops.length:Int)+2,ops++ [⟨2,0,0,a,0⟩,o,⟨3,ops.length,ops.length+1,k,0⟩],())):=by
 have m1:∀(l:List IOp) (o:IOp),l.length<990000->(l++ [o]).length<1000000:=λl o h=>by rw [List.length_append];simp only [List.length_cons,List.length_nil];omega
 have m2:∀(l:List IOp) (o o2:IOp),l.length<990000->((l++ [o])++ [o2]).length<1000000:=λl o o2 h=>by simp only [List.length_append,List.length_cons,List.length_nil];omega
 dsimp only [OV,Tup.q,Tup.o]
 simp (disch:=first | omega | (apply m1;omega) | (apply m2;omega)) only [RR,hp1,hf1,hp2,hf2,n1a]
 simp
 rfl
theorem BL {p1:Int×Int×Int×Int×Int×Int×Int×List IOp×Unit->Bool} {f1:Int×Int×Int×Int×Int×Int×Int×List IOp×Unit->Int×Int×Int×Int×Int×Int×Int×List IOp×Unit} (hp1:∀(a1 a2 a3 a4 a5 a6 k:Int) (ops:List IOp),ops.length<1000000->p1 (a1,a2,a3,a4,a5,a6,k,ops,())=true) (hf1:∀(a1 a2 a3 a4 a5 a6 k:Int) (ops:List IOp),ops.length<1000000->f1 (a1,a2,a3,a4,a5,a6,k,ops,())=(a1,a2,a3,a4,a5,a6,(ops.length:Int),ops++ [⟨2,0,0,k,0⟩],())) {p2:Int×Int×Int×Int×Int×Int×IOp×List IOp×Unit->Bool} {f2:Int×Int×Int×Int×Int×Int×IOp×List IOp×Unit->Int×Int×Int×Int×Int×Int×Int×List IOp×Unit} (hp2:∀(a1 a2 a3 a4 a5 a6:Int) (o:IOp) (ops:List IOp),ops.length<1000000->p2 (a1,a2,a3,a4,a5,a6,o,ops,())=true) (hf2:∀(a1 a2 a3 a4 a5 a6:Int) (o:IOp) (ops:List IOp),ops.length<1000000->f2 (a1,a2,a3,a4,a5,a6,o,ops,())=(a1,a2,a3,a4,a5,a6,(ops.length:Int),ops++ [o],())) {p3:Int×Int×Int×Int×Int×Int×Int×Int×IOp×List IOp×Unit->Bool} {f3:Int×Int×Int×Int×Int×Int×Int×Int×IOp×List IOp×Unit->Int×Int×Int×Int×Int×Int×Int×List IOp×Unit} (hp3:∀(a1 a2 a3 a4 a5 a6 k a:Int) (o:IOp) (ops:List IOp),ops.length<990000->p3 (a1,a2,a3,a4,a5,a6,k,a,o,ops,())=true) (hf3:∀(a1 a2 a3 a4 a5 a6 k a:Int) (o:IOp) (ops:List IOp),ops.length<990000->f3 (a1,a2,a3,a4,a5,a6,k,a,o,ops,())=(a1,a2,a3,a4,a5,a6,(ops.length:Int)+2,ops++ [⟨2,0,0,a,0⟩,o,⟨3,ops.length,ops.length+1,k,0⟩],())) {p4:Int×Int×Int×Int×Int×Int×Int×Int×List IOp×Unit->Bool} {f4:Int×Int×Int×Int×Int×Int×Int×Int×List IOp×Unit->Int×Int×Int×Int×Int×Int×List IOp×Unit} (hp4:∀(a1 a2 a3 a4 a5 a6 k x:Int) (ops:List IOp),ops.length<1000000->p4 (a1,a2,a3,a4,a5,a6,k,x,ops,())=true) (hf4:∀(a1 a2 a3 a4 a5 a6 k x:Int) (ops:List IOp),ops.length<1000000->f4 (a1,a2,a3,a4,a5,a6,k,x,ops,())=(a1,a2,a3,a4,a5,a6,ops++ [⟨8,x,0,k,0⟩],())) (a1 a2 a3 a4 a5 a6:Int) (i:Ins) (n:Int) (ops:List IOp) (hi:i.op=9\/i.op=10) (h:ops.length<950000):OY (std 0).al p1 f1 p2 f2 p3 f3 p4 f4 (a1,a2,a3,a4,a5,a6,i,n,ops,()) (λy=>y=(a1,a2,a3,a4,a5,a6,ops++bH n ops.length i,())):=by
 have m3:∀(l:List IOp) (o1 o2 o3:IOp),l.length<950000->(l++ [o1,o2,o3]).length<1000000:=λl o1 o2 o3 h=>by simp only [List.length_append,List.length_cons,List.length_nil];omega
 have m4:∀(l:List IOp) (o1 o2 o3 o4:IOp),l.length<950000->((l++ [o1,o2,o3])++ [o4]).length<1000000:=λl o1 o2 o3 o4 h=>by simp only [List.length_append,List.length_cons,List.length_nil];omega
 have n3:∀(l:List IOp) (o1 o2 o3:IOp),((l++ [o1,o2,o3]).length:Int)=l.length+3:=λl o1 o2 o3=>by rw [List.length_append];rfl
 dsimp only [OY,Tup.q,Tup.o]
 simp (disch:=first | omega | (apply m3;omega) | (apply m4;omega)) only [RR,IR,hp1,hf1,hp2,hf2,hp3,hf3,hp4,hf4,n3]
 unfold bH
 refine⟨λe=> ?_,λe=> ?_⟩
 ·rw [if_neg (by omega),if_neg (by omega),if_neg (by omega),if_pos e]
  simp;rfl
 ·rw [if_neg (by omega),if_neg (by omega),if_neg (by omega),if_neg (by omega),if_pos (by omega)]
  simp;rfl
theorem qC (k:Int) (k0:0<=k) (k1:k<=15):OX (std 0).al (k,()) (λy=>y=(2^k.toNat,())):=by
 dsimp only [OX,Tup.q,Tup.o]
 simp (disch:=omega) only [RR]
 refine aL (λ(y:Int×Int×Int×Unit)=>y.1=k/\0<=y.2.2.1/\y.2.2.1<=k/\y.2.1=2^y.2.2.1.toNat) (λy=>(k-y.2.2.1).toNat) ⟨rfl,by simp,k0,rfl⟩ ?_
 rintro⟨(z:Int),(a:Int),(i:Int),⟨⟩⟩ hI
 dsimp only at hI ⊢
 obtain⟨rfl,j1,j2,rfl⟩:=hI
 have pw:=IL j1 (by omega)
 unfold Wo at pw
 simp (disch:=omega) only [RR]
 refine⟨λg=>⟨⟨by omega,by omega,?_⟩,by omega⟩,λg=>by rw [show i=z by omega]⟩
 rw [show(i+1).toNat=i.toNat+1 by omega,Int.pow_succ];omega
theorem E8 {p1:Int×Int×Int×Int×Int×Int×Int×List IOp×Unit->Bool} {f1:Int×Int×Int×Int×Int×Int×Int×List IOp×Unit->Int×Int×Int×Int×Int×Int×Int×List IOp×Unit} (hp1:∀(a1 a2 a3 a4 a5 a6 k:Int) (ops:List IOp),ops.length<1000000->p1 (a1,a2,a3,a4,a5,a6,k,ops,())=true) (hf1:∀(a1 a2 a3 a4 a5 a6 k:Int) (ops:List IOp),ops.length<1000000->f1 (a1,a2,a3,a4,a5,a6,k,ops,())=(a1,a2,a3,a4,a5,a6,(ops.length:Int),ops++ [⟨2,0,0,k,0⟩],())) (B:Blk) (i:Ins) (hi:11<=i.op/\i.op<=13) (h:B.ops.length<950000):OZ (std 0).al p1 f1 (B.pc,B.len,B.fin,B.x,B.y,B.k,i,B.ops,()) (λy=>y=bk7 (bT 0 B i)):=by
 have m1:∀(l:List IOp) (o:IOp),l.length<950000->(l++ [o]).length<1000000:=λl o h=>by rw [List.length_append];simp only [List.length_cons,List.length_nil];omega
 dsimp only [OZ,Tup.q,Tup.o]
 unfold bT bH
 rcases(by omega:i.op=11\/i.op=12\/i.op=13)with e | e | e
 all_goals
  simp (disch:=first | omega | (apply m1;omega)) only [RR,IR,e,hp1,hf1,n1a,Int.reduceEq,or_self,true_or,or_true]
  try simp
theorem FD {p1:Int×Int×Int×Int×Int×Int×Int×List IOp×Unit->Bool} {f1:Int×Int×Int×Int×Int×Int×Int×List IOp×Unit->Int×Int×Int×Int×Int×Int×Int×List IOp×Unit} (hp1:∀(a1 a2 a3 a4 a5 a6 k:Int) (ops:List IOp),ops.length<1000000->p1 (a1,a2,a3,a4,a5,a6,k,ops,())=true) (hf1:∀(a1 a2 a3 a4 a5 a6 k:Int) (ops:List IOp),ops.length<1000000->f1 (a1,a2,a3,a4,a5,a6,k,ops,())=(a1,a2,a3,a4,a5,a6,(ops.length:Int),ops++ [⟨2,0,0,k,0⟩],())) {p2:Int×Int×Int×Int×Int×Int×Ins×List IOp×Unit->Bool} {f2:Int×Int×Int×Int×Int×Int×Ins×List IOp×Unit->Int×Int×Int×Int×Int×Int×List IOp×Unit} (hp2:∀(B:Blk) (i:Ins),(11<=i.op/\i.op<=13)->B.ops.length<950000->p2 (B.pc,B.len,B.fin,B.x,B.y,B.k,i,B.ops,())=true) (hf2:∀(B:Blk) (i:Ins),(11<=i.op/\i.op<=13)->B.ops.length<950000->f2 (B.pc,B.len,B.fin,B.x,B.y,B.k,i,B.ops,())=bk7 (bT 0 B i)) {p3:Int×Int×Int×Int×Int×Int×IOp×List IOp×Unit->Bool} {f3:Int×Int×Int×Int×Int×Int×IOp×List IOp×Unit->Int×Int×Int×Int×Int×Int×Int×List IOp×Unit} (hp3:∀(a1 a2 a3 a4 a5 a6:Int) (o:IOp) (ops:List IOp),ops.length<1000000->p3 (a1,a2,a3,a4,a5,a6,o,ops,())=true) (hf3:∀(a1 a2 a3 a4 a5 a6:Int) (o:IOp) (ops:List IOp),ops.length<1000000->f3 (a1,a2,a3,a4,a5,a6,o,ops,())=(a1,a2,a3,a4,a5,a6,(ops.length:Int),ops++ [o],())) {p4:Int×Int×Int×Int×Int×Int×Ins×Int×List IOp×Unit->Bool} {f4:Int×Int×Int×Int×Int×Int×Ins×Int×List IOp×Unit->Int×Int×Int×Int×Int×Int×List IOp×Unit} (hp4:∀(a1 a2 a3 a4 a5 a6:Int) (i:Ins) (n:Int) (ops:List IOp),(i.op=9\/i.op=10)->ops.length<950000->p4 (a1,a2,a3,a4,a5,a6,i,n,ops,())=true) (hf4:∀(a1 a2 a3 a4 a5 a6:Int) (i:Ins) (n:Int) (ops:List IOp),(i.op=9\/i.op=10)->ops.length<950000->f4 (a1,a2,a3,a4,a5,a6,i,n,ops,())=(a1,a2,a3,a4,a5,a6,ops++bH n ops.length i,())) {p5:Int×Int×Int×Int×Int×Int×Int×Int×IOp×List IOp×Unit->Bool} {f5:Int×Int×Int×Int×Int×Int×Int×Int×IOp×List IOp×Unit->Int×Int×Int×Int×Int×Int×Int×List IOp×Unit} (hp5:∀(a1 a2 a3 a4 a5 a6 k a:Int) (o:IOp) (ops:List IOp),ops.length<990000->p5 (a1,a2,a3,a4,a5,a6,k,a,o,ops,())=true) (hf5:∀(a1 a2 a3 a4 a5 a6 k a:Int) (o:IOp) (ops:List IOp),ops.length<990000->f5 (a1,a2,a3,a4,a5,a6,k,a,o,ops,())=(a1,a2,a3,a4,a5,a6,(ops.length:Int)+2,ops++ [⟨2,0,0,a,0⟩,o,⟨3,ops.length,ops.length+1,k,0⟩],())) {p6:Int×Int×Int×Int×Int×Int×Int×Int×List IOp×Unit->Bool} {f6:Int×Int×Int×Int×Int×Int×Int×Int×List IOp×Unit->Int×Int×Int×Int×Int×Int×List IOp×Unit} (hp6:∀(a1 a2 a3 a4 a5 a6 k x:Int) (ops:List IOp),ops.length<1000000->p6 (a1,a2,a3,a4,a5,a6,k,x,ops,())=true) (hf6:∀(a1 a2 a3 a4 a5 a6 k x:Int) (ops:List IOp),ops.length<1000000->f6 (a1,a2,a3,a4,a5,a6,k,x,ops,())=(a1,a2,a3,a4,a5,a6,ops++ [⟨8,x,0,k,0⟩],())) {p7:Int×Unit->Bool} {f7:Int×Unit->Int×Unit} (hp7:∀k,0<=k->k<=15->p7 (k,())=true) (hf7:∀k,0<=k->k<=15->f7 (k,())=(2^k.toNat,())) (B:Blk) (i:Ins) (n:Int) (hi:bI i) (h0:i.op≠0) (h:B.ops.length<900000):O5 (std 0).al p1 f1 p2 f2 p3 f3 p4 f4 p5 f5 p6 f6 p7 f7 (B.pc,B.len,B.fin,B.x,B.y,B.k,i,n,B.ops,()) (λy=>y=bk7 (bT n B i)):=by
 have m1:∀(l:List IOp) (o:IOp),l.length<950000->(l++ [o]).length<1000000:=λl o h=>by rw [List.length_append];simp only [List.length_cons,List.length_nil];omega
 have m3:∀(l:List IOp) (o1 o2 o3:IOp),l.length<950000->(l++ [o1,o2,o3]).length<1000000:=λl o1 o2 o3 h=>by simp only [List.length_append,List.length_cons,List.length_nil];omega
 obtain⟨⟨o0,o1⟩,_,_,k0,_,_,_,r3,r8,_⟩:=hi
 have P2:=hp2 B i
 have H2:=hf2 B i
 dsimp only [O5,Tup.q,Tup.o]
 rcases(by omega:i.op=1\/i.op=2\/i.op=8\/(i.op=9\/i.op=10)\/i.op=14\/i.op=15\/(i.op=11\/i.op=12\/i.op=13)\/(3<=i.op/\i.op<=7))with e | e | e | e | e | e | e | e
 case inr.inr.inr.inl=>
  have e':bT n B i={B with ops:=B.ops++bH n B.ops.length i}:=by unfold bT;rw [if_neg (by omega),if_neg (by omega)]
  rw [e']
  have P4:=hp4 B.pc B.len B.fin B.x B.y B.k i n B.ops e (by omega)
  have H4:=hf4 B.pc B.len B.fin B.x B.y B.k i n B.ops e (by omega)
  rcases e with e | e<;>simp (disch:=omega) only [RR,IR,e,Int.reduceEq,P4,H4,or_true,true_or]
 case inr.inr.inr.inr.inr.inr.inl=>
  have e':bT n B i=bT 0 B i:=by unfold bT bH;rcases e with e | e | e<;>simp [e]
  rw [e']
  have P2:=P2 (by omega) (by omega)
  have H2:=H2 (by omega) (by omega)
  rcases e with e | e | e<;>simp (disch:=omega) only [RR,IR,e,Int.reduceEq,P2,H2,or_true,true_or]
 case inr.inr.inr.inr.inr.inr.inr=>
  have n0:∀z:Int,z<3\/7<z->¬i.op=z:=λz g q=>by omega
  have e':bT n B i={B with ops:=B.ops++ [⟨2,0,0,i.a,0⟩,⟨2,0,0,i.k,0⟩,⟨3,B.ops.length,B.ops.length+1,i.op-2,0⟩,⟨8,B.ops.length+2,0,i.d,0⟩]}:=by
   unfold bT bH;simp (disch:=omega) only [n0,if_false,or_self]
  rw [e']
  simp (disch:=first | omega | (apply m3;omega)) only [RR,IR,n0,hp5,hf5,hp6,hf6,or_self]
  simp
  rw [show i.op-3+1=i.op-2 by omega];rfl
 all_goals
  unfold bT bH
  simp (disch:=first | omega | (apply m1;omega) | (apply m3;omega)) only [RR,IR,e,Int.reduceEq,hp1,hf1,hp3,hf3,hp5,hf5,hp6,hf6,hp7 i.k k0,hf7 i.k k0,r8,n1a,or_self,true_and,and_true]
  try simp
  try rfl
theorem qD (a:Int):VJ (std 0).al (a,()) (λy=>y=(inB a 11 13,())):=by
 dsimp only [VJ,Tup.q,Tup.o]
 refine Prod.ext ?_ rfl
 dsimp only
 rw [Bool.eq_iff_iff,cK]
 simp [Yd]
 omega
theorem BM {p1:Int×Unit->Bool} {f1:Int×Unit->Bool×Unit} (hp1:∀a,p1 (a,())=true) (hf1:∀a,f1 (a,())=(inB a 11 13,())) {p2:Ins×Unit->Bool} {f2:Ins×Unit->Bool×Unit} (hp2:∀i,p2 (i,())=true) (hf2:∀i,f2 (i,())=(bp (bI i),())) (i:Ins):OO (std 0).al p1 f1 p2 f2 (i,()) (λy=>y=(bp (bI i)&& !decide (i.op=0)&& !inB i.op 11 13,())):=by
 dsimp only [OO,Tup.q,Tup.o]
 simp (disch:=omega) only [RR,IR,hp1,hf1,hp2,hf2]
theorem FH {p1:Int×Unit->Bool} {f1:Int×Unit->Bool×Unit} (hp1:∀a,p1 (a,())=true) (hf1:∀a,f1 (a,())=(inB a 11 13,())) {p2:Ins×Unit->Bool} {f2:Ins×Unit->Bool×Unit} (hp2:∀i,p2 (i,())=true) (hf2:∀i,f2 (i,())=(bp (bI i),())) {p3:Int×Int×Int×Unit->Bool} {f3:Int×Int×Int×Unit->Bool×Unit} (hp3:∀a b c,p3 (a,b,c,())=true) (hf3:∀a b c,f3 (a,b,c,())=(inB a b c,())) {p4:Ins×Unit->Bool} {f4:Ins×Unit->Bool×Unit} (hp4:∀i,p4 (i,())=true) (hf4:∀i,f4 (i,())=(bp (bI i)&& !decide (i.op=0)&& !inB i.op 11 13,())) (pc:Int) (l:List Ins) (hl:(l.length:Int)<1000):VY (std 0).al p1 f1 p2 f2 p3 f3 p4 f4 (pc,l,()) (λy=>y=(bp (iX pc l),())):=by
 dsimp only [VY,Tup.q,Tup.o]
 simp (disch:=omega) only [RR,IR,hp1,hf1,hp2,hf2,hp3,hf3,hp4,hf4,cK,ku]
 refine⟨λh=> ?_,λh=> ?_⟩
 ·rw [dV]
  intro g
  have a:=g.ln
  have c:=g.pc
  omega
 refine aL (λ(y:List Ins×Int×Unit)=>y.1=l/\0<=y.2.1/\y.2.1<=l.length/\∀j:Nat,j<y.2.1->bI (l.getD j default)/\(l.getD j default).op≠0/\(11<=(l.getD j default).op/\(l.getD j default).op<=13->j+1=l.length)) (λy=>(l.length-y.2.1).toNat) ⟨rfl,by simp,by simp,λj hj=>absurd hj (by dsimp only;omega)⟩ ?_
 rintro⟨(l:List Ins),(i:Int),⟨⟩⟩ hI
 dsimp only at hI ⊢
 obtain⟨rfl,h1,h2,h3⟩:=hI
 by_cases g:i<l.length
 ·have nx:bI ((l).getD (i).toNat default)/\(((l).getD (i).toNat default)).op≠0/\(11<=(((l).getD (i).toNat default)).op/\(((l).getD (i).toNat default)).op<=13->i+1=l.length)->∀j:Nat,(j:Int)<i+1->bI (l.getD j default)/\(l.getD j default).op≠0/\(11<=(l.getD j default).op/\(l.getD j default).op<=13->j+1=l.length):=λq j hj=>by
   by_cases c:(j:Int)<i
   ·exact h3 j c
   ·obtain rfl:j=i.toNat:=by omega
    exact⟨q.1,q.2.1,λz=>by have:=q.2.2 z;omega⟩
  have bad:¬(bI ((l).getD (i).toNat default)/\(((l).getD (i).toNat default)).op≠0/\(11<=(((l).getD (i).toNat default)).op/\(((l).getD (i).toNat default)).op<=13->i+1=l.length))->bp (iX pc l)=false:=λq=>dV λv=>q (by
   have:=v.ok i.toNat (by omega)
   exact⟨this.1,this.2.1,λz=>by have:=this.2.2 z;omega⟩)
  have gi:(i< (l.length:Int)-1)↔¬(i+1=l.length):=by omega
  simp (disch:=omega) only [RR,IR,hp1,hf1,hp2,hf2,hp4,hf4,g]
  refine⟨h1,Or.inr h1,Or.inr h1,λe=> ?_,λe=>⟨⟨by omega,by omega,nx ?_⟩,by omega⟩⟩
  ·rw [bad]
   rintro⟨q1,q2,q3⟩
   rw [bN q1,decide_eq_false q2]at e
   have e1:=cK.1 (show inB (((l).getD (i).toNat default)).op 11 13=true by simpa using e.1)
   have:=q3 e1
   rcases e.2 with(z | z) | z
   ·omega
   ·cases z
   ·exact z e1
  ·have a:bI ((l).getD (i).toNat default):=Classical.byContradiction λn=>by rw [dV n]at e;simp at e
   refine⟨a,λz=> ?_,λq=> ?_⟩
   ·rw [z]at e;simp [inB]at e
   ·rw [bN a,cK.2 q]at e
    simp at e
    omega
 ·simp (disch:=omega) only [RR,g]
  rw [bN ⟨by omega,by omega,λj hj=>h3 j (by omega)⟩]
theorem Ae {p1:Int×List Ins×Unit->Bool} {f1:Int×List Ins×Unit->Bool×Unit} (hp1:∀(pc:Int) (l:List Ins),(l.length:Int)<1000->p1 (pc,l,())=true) (hf1:∀(pc:Int) (l:List Ins),(l.length:Int)<1000->f1 (pc,l,())=(bp (iX pc l),())) {p2:Int×Int×Int×Int×Int×Int×Ins×Int×List IOp×Unit->Bool} {f2:Int×Int×Int×Int×Int×Int×Ins×Int×List IOp×Unit->Int×Int×Int×Int×Int×Int×List IOp×Unit} (hp2:∀(B:Blk) (i:Ins) (n:Int),bI i->i.op≠0->B.ops.length<900000->p2 (B.pc,B.len,B.fin,B.x,B.y,B.k,i,n,B.ops,())=true) (hf2:∀(B:Blk) (i:Ins) (n:Int),bI i->i.op≠0->B.ops.length<900000->f2 (B.pc,B.len,B.fin,B.x,B.y,B.k,i,n,B.ops,())=bk7 (bT n B i)) (pc:Int) (l:List Ins) (hl:(l.length:Int)<1000):VZ (std 0).al p1 f1 p2 f2 (pc,l,()) (λy=>y=bk7 (lower pc l)):=by
 dsimp only [VZ,Tup.q,Tup.o]
 simp (disch:=omega) only [RR,hp1 pc l hl,hf1 pc l hl,dh,MQ]
 unfold lower
 refine⟨λh=>by rw [dV h,if_neg (by decide)];rfl,λh=> ?_⟩
 rw [bN h,if_pos rfl]
 have ln:=h.ln
 have pp:=h.pc
 refine aL (λ(y:List Ins×Int×Int×Int×Int×Int×Int×Int×Int×Int×Int×Int×Int×Int×List IOp×Unit)=>y.1=l/\0<=y.2.1/\y.2.1<=l.length/\y.2.2.2.2.2.2.2.2=bk7 (gU 0 (lg pc l) (l.take y.2.1.toNat))) (λy=>(l.length-y.2.1).toNat) ⟨rfl,by simp,by simp,by rw [w64 (by omega) (by omega)];rfl⟩ ?_
 rintro⟨(l':List Ins),(i:Int),z1,z2,z3,z4,z5,z6,q1,q2,q3,q4,q5,q6,q7,⟨⟩⟩ hI
 dsimp only at hI ⊢
 obtain⟨rfl,h1,h2,h3⟩:=hI
 generalize eB:gU 0 (lg pc l') (l'.take i.toNat)=B at h3
 simp only [bk7,Prod.mk.injEq,and_true]at h3
 obtain⟨rfl,rfl,rfl,rfl,rfl,rfl,rfl⟩:=h3
 have bl:B.ops.length<=40:=by
  have:=yN (l'.take i.toNat) 0 (lg pc l')
  rw [eB]at this
  have t:=List.length_take_le i.toNat l'
  have:(lg pc l').ops.length=0:=rfl
  omega
 by_cases c:i<l'.length
 ·obtain⟨o1,o2,o3⟩:=h.ok i.toNat (by omega)
  simp (disch:=omega) only [RR,c,hp2 B (((l').getD (i).toNat default)) i o1 o2 (by omega),hf2 B (((l').getD (i).toNat default)) i o1 o2 (by omega)]
  refine⟨h1,⟨by omega,by omega,?_⟩,by omega⟩
  rw [<-uL (d:=default) h1 c rfl,oN,eB,List.length_take,show(0:Int)+((min i.toNat l'.length:Nat):Int)=i by omega]
 ·rw [List.take_of_length_le (by omega)]at eB
  simp (disch:=omega) only [RR,c,eB]
theorem Y1 (pc:Int) (l:List Ins):((lower pc l).ops.length:Int)<=5000:=by
 by_cases h:iX pc l
 ·have:=(qd h).sz;omega
 ·have e:lower pc l=IC:=by unfold lower;rw [dV h,if_neg (by decide)]
  rw [e];decide
theorem abe {pc:Int} {l:List Ins} {y:Int×Int×Int×Int×Int×Int×List IOp×Unit} (h:y=bk7 (lower pc l)):(y.2.2.2.2.2.2.1.length:Int)<=5000:=by rw [h];exact Y1 pc l
end Go.TX.F
namespace Go.TX.F
open Go Go.AE Go.TX
abbrev YOw:=Int×Int×Int×Int×Int×Int×Int×Int×Bool×Bool×Int×List Int×Int×List Int×Int×List IOp×List Int×List Int×List Int×Unit
structure OwD (b:List Int) (p:Int) (y:YOw):Prop where
 b:y.2.2.2.2.2.2.2.2.2.2.2.2.2.1=b
 lo:p<=y.2.2.2.2.2.2.2.2.2.2.2.2.2.2.1
 hi:y.2.2.2.2.2.2.2.2.2.2.2.2.2.2.1<=p+12000
 r:y.2.2.2.2.2.2.2.2.2.2.2.2.2.2.2.2.1.length=4
 m:y.2.2.2.2.2.2.2.2.2.2.2.2.2.2.2.2.2.1.length=64
 i:y.2.2.2.2.2.2.2.2.2.2.2.1.length<=10
 o:y.2.2.2.2.2.2.2.2.2.2.2.2.2.2.2.2.2.2.1.length<=100
theorem afl {p1:Int×List Ins×Unit->Bool} {f1:Int×List Ins×Unit->Int×Int×Int×Int×Int×Int×List IOp×Unit} (hp1:∀(pc:Int) (l:List Ins),(l.length:Int)<1000->p1 (pc,l,())=true) (hf1:∀(pc:Int) (l:List Ins),(l.length:Int)<1000->f1 (pc,l,())=bk7 (lower pc l)) {p2:Blk×Unit->Bool} {f2:Blk×Unit->Int×Int×Int×Int×Int×Int×List IOp×Unit} (hp2:∀b,b.ops.length<1000000->p2 (b,())=true) (hf2:∀b,b.ops.length<1000000->f2 (b,())=bk7 (IG b)) {p3:Int×List Int×Int×Unit->Bool} {f3:Int×List Int×Int×Unit->Int×List Int×Int×Unit} (hp3:∀n b p,Bt b->0<=p->p<1000000000->p3 (n,b,p,())=true) (hf3:∀n b p,Bt b->0<=p->p<1000000000->Pk n b p (f3 (n,b,p,()))) {p4:Blk×List Int×Int×Unit->Bool} {f4:Blk×List Int×Int×Unit->YMc} (hp4:∀c b p,Bt b->0<=p->p<400000000->p4 (c,b,p,())=true) (hf4:∀c b p,Bt b->0<=p->p<400000000->MaD b p (f4 (c,b,p,()))) {p5:List Int×Int×Unit->Bool} {f5:List Int×Int×Unit->List Int×Int×List Ins×Unit} (hp5:∀b p,Bt b->0<=p->p<700000000->p5 (b,p,())=true) (hf5:∀b p,Bt b->0<=p->p<700000000->LiD b p (f5 (b,p,()))) {p6:Ins×Unit->Bool} {f6:Ins×Unit->Bool×Unit} (hp6:∀i,p6 (i,())=true) (b:List Int) (p:Int) (hb:Bt b) (h1:0<=p) (h2:p<300000000):Pz (std 0).al p1 f1 p2 f2 p3 f3 p4 f4 p5 f5 p6 f6 (b,p,()) (λy=>OwD b p y):=by
  obtain⟨i1,i2,i3,i4,i5,i6⟩:=hf5 b p hb h1 (by omega)
  have P5:=hp5 b p hb h1 (by omega)
  generalize hy:f5 (b,p,())=y at i1 i2 i3 i4 i5 i6
  obtain⟨b',q,l,⟨⟩⟩:=y
  dsimp only at i1 i2 i3 i4 i5 i6
  subst i1
  have R:=pkR hb hf3
  have P:=λn p h1 h2=>hp3 n b' p hb h1 h2
  dsimp only [Pz,Tup.q,Tup.o]
  simp (disch:=omega) only [RR,P5,hy,R,P,hp6,List.length_cons,List.length_nil,List.length_append,List.length_set]
  generalize hL:List.drop (Int.toNat 0) (List.take (0+((if 7< (l.length:Int)then 7 else(l.length:Int))-0)).toNat l)=L
  have l7:1<=L.length/\L.length<=7:=by
    rw [<-hL,List.length_drop,List.length_take];split<;>omega
  refine⟨by omega,by split<;>omega,by split<;>omega,by omega,by split<;>omega,by split<;>omega,by omega,by omega,?_⟩
  have mE:∀c:Blk,Co.mk .blk (c.pc,c.len,c.ops,c.fin,c.x,c.y,c.k,())=c:=λ_=>rfl
  have lb:∀(pc:Int) (l:List Ins),(lower pc l).ops.length<1000000:=λpc l=>by
    by_cases h:iX pc l
    · have:=(qd h).sz;omega
    · have e:lower pc l=IC:=by unfold lower;rw [dV h,if_neg (by decide)]
      rw [e];decide
  have M4:=λB t h1 h2=>hf4 B b' t hb h1 h2
  have lt4:∀l:List Int,l.length=4->3< (l.length:Int):=λl h=>by omega
  have L0:∀B t,0<=t->t<400000000->(0<=(f4 (B,b',t,())).2.2.2.2.2.2.2.2.1)=True:=λB t h1 h2=>eq_true (Int.le_trans h1 (M4 B t h1 h2).lo)
  have L1:∀B t,0<=t->t<400000000->((f4 (B,b',t,())).2.2.2.2.2.2.2.2.1<1000000000)=True:=λB t h1 h2=>eq_true (Int.lt_of_le_of_lt (M4 B t h1 h2).hi (by omega))
  have A:=λB t h1 h2=>(hf4 B b' t hb h1 h2).b
  simp (disch:=first | omega | exact lb _ _ | (simp only [List.length_set,List.length_append,List.length_cons,List.length_nil];omega) | (simp (disch:=omega) only [L0,L1])) only [RR,R,P,hp1,hf1,hp2,hf2,mE,lb,hp4,A]
  repeat' (first | (refine⟨?_,?_⟩) | intro _)
  all_goals first
    | omega
    | exact lt4 _ (M4 _ _ (by omega) (by omega)).r
    | (refine ⟨rfl, ?_, ?_, (List.length_set ..).trans (M4 _ _ (by omega) (by omega)).r, (M4 _ _ (by omega) (by omega)).m, (M4 _ _ (by omega) (by omega)).i, (M4 _ _ (by omega) (by omega)).o⟩
       · dsimp only;exact Int.le_trans (Int.le_trans (by omega) (M4 _ _ (by omega) (by omega)).lo) (Int.le_add_one (Int.le_refl _))
       · dsimp only;exact Int.le_trans (Int.add_le_add_right (M4 _ _ (by omega) (by omega)).hi 1) (by omega))
theorem aky {p1:Int×List Int×Int×Unit->Bool} {f1:Int×List Int×Int×Unit->YMo} (hp1:∀n b p,Bt b->0<=p->p<400000000->p1 (n,b,p,())=true) (hf1:∀n b p,Bt b->0<=p->p<400000000->MoD b p (f1 (n,b,p,()))) {p2:List Int×Unit->Bool} {f2:List Int×Unit->List Int×Int×Unit} (hp2:∀b,By b->b.length<1000000000->p2 (b,())=true) (hf2:∀b,By b->b.length<1000000000->Bt (f2 (b,())).1/\(f2 (b,())).2.1=0) {p3:Int×List Int×Int×Unit->Bool} {f3:Int×List Int×Int×Unit->Bool×List Int×Int×Unit} (hp3:∀n b p,Bt b->0<=p->p<1000000000->p3 (n,b,p,())=true) (hf3:∀n b p,Bt b->0<=p->p<1000000000->(f3 (n,b,p,())).2.1=b/\(f3 (n,b,p,())).2.2.1=p+1) {p4:Int×List Int×Int×Unit->Bool} {f4:Int×List Int×Int×Unit->Int×List Int×Int×Unit} (hp4:∀n b p,Bt b->0<=p->p<1000000000->p4 (n,b,p,())=true) (hf4:∀n b p,Bt b->0<=p->p<1000000000->Pk n b p (f4 (n,b,p,()))) {p5:Blk×List Int×Int×Unit->Bool} {f5:Blk×List Int×Int×Unit->YMc} (hp5:∀c b p,Bt b->0<=p->p<400000000->p5 (c,b,p,())=true) (hf5:∀c b p,Bt b->0<=p->p<400000000->MaD b p (f5 (c,b,p,()))) {p6:Int×List Int×Int×Unit->Bool} {f6:Int×List Int×Int×Unit->Blk×List Int×Int×Unit} (hp6:∀n b p,Bt b->0<=p->p<500000000->p6 (n,b,p,())=true) (hf6:∀n b p,Bt b->0<=p->p<500000000->BoD b p (f6 (n,b,p,()))) {p7:List Int×Int×Unit->Bool} {f7:List Int×Int×Unit->YOw} (hp7:∀b p,Bt b->0<=p->p<300000000->p7 (b,p,())=true) (hf7:∀b p,Bt b->0<=p->p<300000000->OwD b p (f7 (b,p,()))) (c:List Int) (hc:By c) (hl:c.length<1000000000):Xo (std 0).al p1 f1 p2 f2 p3 f3 p4 f4 p5 f5 p6 f6 p7 f7 (c,()) (λy=>MSh (mD y)/\(mD y).outs.length<800000000):=by
 obtain⟨hb,e0⟩:=hf2 c hc hl
 generalize hbe:(f2 (c,())).1=b at hb
 have R:=pkR hb hf4
 have P:=λn p h1 h2=>hp4 n b p hb h1 h2
 have OW:=hf7 b (0+1) hb (by omega) (by omega)
 have OP:=hp7 b (0+1) hb (by omega) (by omega)
 obtain⟨k1,k2,k3,k4⟩:=hf6 14 b (0+1) hb (by omega) (by omega)
 have KP:=hp6 14 b (0+1) hb (by omega) (by omega)
 generalize hk:f6 (14,b,0+1,())=k at k1 k2 k3 k4
 obtain⟨B,b1,q1,⟨⟩⟩:=k
 dsimp only at k1 k2 k3 k4
 subst k2
 have AT:=hf5 B b1 q1 hb (by omega) (by omega)
 have AP:=hp5 B b1 q1 hb (by omega) (by omega)
 generalize hm:f5 (B,b1,q1,())=m at AT
 obtain⟨pc,sv,lt,wt,ha,ins,ct,b2,q2,regs,mem,outs,⟨⟩⟩:=m
 obtain⟨a1,a2,a3,a4,a5,a6,a7⟩:=AT
 dsimp only at a1 a2 a3 a4 a5 a6 a7
 subst a1
 obtain⟨o1,o2⟩:=hf3 14 b2 q2 hb (by omega) (by omega)
 have O3:=hp3 14 b2 q2 hb (by omega) (by omega)
 have MO:=hf1 2 b2 (q2+1) hb (by omega) (by omega)
 have MP:=hp1 2 b2 (q2+1) hb (by omega) (by omega)
 dsimp only [Xo,Tup.q,Tup.o]
 simp (disch:=omega) only [RR,hp2 c hc hl,hbe,e0,R,P,OP,KP,hk,AP,hm,O3,o1,o2,MP]
 have m3:=MO.m
 have m4:=MO.r
 have m5:=MO.i
 have m6:=MO.o
 have w3:=OW.m
 have w4:=OW.r
 have w5:=OW.i
 have w6:=OW.o
 unfold MSh mD
 refine⟨λ_=>⟨⟨?_,?_,?_,?_⟩,?_⟩,λ_=>⟨λ_=>⟨⟨?_,?_,?_,?_⟩,?_⟩,λ_=>⟨⟨?_,?_,?_,?_⟩,?_⟩⟩⟩
 all_goals try dsimp only
 all_goals omega
end Go.TX.F
namespace Go.TX
open Go Go.AE
theorem enters_of {P:Program} {f:FuncId} {fn:Func} {c:Code} (hf:P.funcs[f]? =some fn) (hname:(fn.name== "runtime.NumGoroutine")=false) (hb:fn.body=some c):Enters P f:=by
 intro args w
 have h1:fn.name≠ "runtime.NumGoroutine" :=by simpa using hname
 simp [callFunc,hf,h1,hb,mark]
def Sl (P:Program):Nat->List Field->Bool
 | _,[]=>true
 | k,f::fs=> !(f.name== "_")&&f.offset==k&& (match P.underlying f.type with | some (.int _)=>true | _=>false)&&Sl P (k+1) fs
theorem Sn {P:Program} (w:World) (d:Nat) (xs ys:List Int) (hl:xs.length=ys.length):∀(fs:List Field) (k:Nat),Sl P k fs=true->k+fs.length=xs.length->
  (Op.eqFields (d+1) (xs.map (Value.int .i64)).toArray (ys.map (Value.int .i64)).toArray fs).run P w= .ok (xs.drop k==ys.drop k) w
 | [],k,_,h2=>by
  rw [List.drop_eq_nil_of_le (show xs.length<=k by simp only [List.length_nil]at h2;omega),List.drop_eq_nil_of_le (show ys.length<=k by simp only [List.length_nil]at h2;omega)]
  simp [Op.eqFields]
 | f::fs,k,h1,h2=>by
  simp only [List.length_cons]at h2
  simp only [Sl,Bool.and_eq_true,Bool.not_eq_true',beq_eq_false_iff_ne,beq_iff_eq]at h1
  obtain⟨⟨⟨n1,n2⟩,n3⟩,n4⟩:=h1
  have hk:k<xs.length:=by omega
  have hk':k<ys.length:=by omega
  obtain⟨kd,hu⟩:∃kd,P.underlying f.type=some (.int kd):=by
   cases hu:P.underlying f.type with
   | none=>rw [hu]at n3;cases n3
   | some z=>cases z<;>(first | exact⟨_,rfl⟩ | (rw [hu]at n3;cases n3))
  have pk:P.plainKey f.type=true:=by unfold Program.plainKey;rw [hu]
  have p1:=run_part_plain w pk (xs:=(xs.map (Value.int .i64)).toArray) (off:=f.offset) (v:= .int .i64 xs[k]) (by rw [n2];simp [hk])
  have p2:=run_part_plain w pk (xs:=(ys.map (Value.int .i64)).toArray) (off:=f.offset) (v:= .int .i64 ys[k]) (by rw [n2];simp [hk'])
  have ih:=Sn w d xs ys hl fs (k+1) n4 (by omega)
  simp only [Op.eqFields,if_pos n1,Sem.run_bind,p1,p2,Result.andThen_ok,run_equalIn_int w d f.type .i64 kd _ _ hu]
  have e:(xs.drop k==ys.drop k)=((xs[k]==ys[k])&& (xs.drop (k+1)==ys.drop (k+1))):=by rw [List.drop_eq_getElem_cons hk,List.drop_eq_getElem_cons hk'];rfl
  rw [e]
  by_cases c:(xs[k]==ys[k])=true
  ·rw [c]
   simp only [Bool.not_true,Bool.false_eq_true,if_false,ih,Bool.true_and]
  ·have c2:(xs[k]==ys[k])=false:=by simpa using c
   rw [c2]
   simp only [Bool.not_false,if_true,Sem.run_pure,Bool.false_and]
theorem afm {P:Program} {t:TypeId} {n:Nat} (hu:P.underlying t=some (.struct (P.fieldsOf t))) (hs:P.stoodInHeld t=false) (hg:P.eqGuardType P.depth t=false) (hf:Sl P 0 (P.fieldsOf t).toList=true) (hn:(P.fieldsOf t).size=n) (xs ys:List Int) (hx:xs.length=n) (hy:ys.length=n) (w:World):
  (Op.equal t (.agg (xs.map (Value.int .i64)).toArray) (.agg (ys.map (Value.int .i64)).toArray)).run P w= .ok (xs==ys) w/\
  (eqGuard .eql t (.tmp 0) (.tmp 0) (.agg (xs.map (Value.int .i64)).toArray) (.agg (ys.map (Value.int .i64)).toArray)).run P w= .ok () w:=by
 refine⟨?_,run_eqGuard_agg w _ _ _ _ _ _ hg⟩
 show(Op.equalIn (9999+1) t _ _).run P w=_
 rw [run_equalIn_struct w 9999 t _ _ hu hs,Sn w 9998 xs ys (by omega) _ 0 hf (by rw [Array.length_toList];omega)]
 rfl
abbrev anq:Sig:={args:=[.c (.rows true .u8),.c (.rows true .u8)],objs:=[],res:=[.c .bool],dx:=[]}
def entry (W:World):Ctx:={K:=λ_ b=>b<W.heap.size,μ:=λ_=>none,n:=0}
theorem Qj (W:World):bD (entry W) W []:=
 ⟨λl o h=>(by cases h),λl o l' o' b h=>(by cases h),λf b ⟨l,o,h,_⟩=>(by cases h),λf b h=>h,λb h=>h⟩
theorem Nr {W W':World} {c':Ctx} {h':Heap} (g:Grow (entry W) W [] c' W' h'):RowKit.Below W.heap.size W W':=
 ⟨g.os,g.tape,g.output,g.size,λk hk=>g.kept k hk λ⟨l,o,h,_⟩=>by cases h⟩
theorem abf {c:Ctx} {w:World} {v:Value} {r:PV} {N:NM} {b:Bool} (h1:bC c w v r) (h2:PVR N r (.c (.d true (.bool b)))):v= .bool b:=by
 cases h2 with
 | one h=>
  cases h with
  | c h=>
   cases h with
   | d h3 _=>
    subst h3
    cases h1 with
    | c _ _ h4=>cases h4 with
     | d _ _ _ h5=>cases h5;rfl
  | agg h=>cases h
theorem anr {E:Tab} {f:FuncId} {c:Ct aB anq} (hc:iy E f (gP c)) {xs ys:List Int} {W:World} {v u:Value} (hv:bU (λb=>b<W.heap.size) W v (.rows 1 (aH .u8 xs))) (hu:bU (λb=>b<W.heap.size) W u (.rows 1 (aH .u8 ys)))
  (hg:nC E (entry W) W) (hp:c.pre (xs,ys,())=true):Go.Calls E.P f #[v,u] W λe W'=>e= .returned (.bool (c.fn (xs,ys,())).1)/\RowKit.Below W.heap.size W W':=by
 refine(hc.calls [.c (.d true (.rows 1 (aH .u8 xs))),.c (.d true (.rows 1 (aH .u8 ys)))] [] 0 (λr _ _=>PVR (nmh []) r (.c (.d true (.bool (c.fn (xs,ys,())).1)))) ?_ (entry W) W [v,u] rfl
  (.cons (.c _ _ (.d true _ _ hv)) (.cons (.c _ _ (.d true _ _ hu)) .nil)) (Qj W) hg).mono ?_
 ·refine⟨0,[.c (.d true (.rows .u8 xs)),.c (.d true (.rows .u8 ys))],[],.cons (.one (.c (.d rfl λ_=> .inl rfl))) (.cons (.one (.c (.d rfl λ_=> .inl rfl))) .nil),⟨λl o h=>(by cases h),λ_ _=>rfl⟩,rfl,_,rfl,?_,_,_,rfl,?_⟩
  ·intro b hb
   rcases List.mem_append.1 hb with h | h
   ·cases h
   ·rw [List.mem_singleton]at h;rw [h];exact hp
  ·intro r _ _ h _ _ _;exact h
 ·rintro e W' he
  cases e with
  | returned u=>
   obtain⟨c',r,h',j,g,_,_,h1,h2⟩:=he
   exact⟨by rw [abf h1 h2],Nr g⟩
  | outgrown=>exact he.elim
  | panicked _=>exact he.elim
open Go.RowKit Go.ChangeShapes Go.WideShapes Go.ChangeAt in
theorem Ns {H:Type} {enc:TypeId×Value->H} {P:Program} {t e:TypeId} (ht:P.underlying t=some (.slice e)) (he:P.underlying e=some (.int .u8)) (hc:P.cellsOf e=1) {W:World} {base:Nat} {v:Value} {d:DataW H} {p:List MemPlace}
  (hval:Value.okWide P W .any base t v) (h:DataW.Trod enc P W 0 (λ_=>true) true t v d p) (hlt:∀x∈p,x.block<W.heap.size):
  ∃xs:List Int,bU (λb=>b<W.heap.size) W v (.rows 1 (aH .u8 xs))/\∀z∈xs,0<=z/\z<=255:=by
 obtain⟨a0,len,cap,rfl⟩:=okWide_slice ht hval
 obtain⟨fuel,hf⟩:=h
 rcases open_ints ht he hc hf with⟨hcs,hx⟩ | ⟨a,len',cap',zs,hcs,_,hl,hm,hz,hx,hcell,hwz⟩
 ·simp [Value.cells]at hcs
  obtain⟨rfl,rfl,rfl⟩:=hcs
  exact⟨[],.none _ _ _,λ_ h=>by cases h⟩
 ·simp [Value.cells]at hcs
  obtain⟨rfl,rfl,rfl⟩:=hcs
  simp only [Prod.mk.injEq]at hx
  obtain⟨rfl,rfl⟩:=hx
  simp only [if_true]at hz
  have rng:∀z∈zs,0<=z/\z<=255:=λz hz=>by
   obtain⟨i,hi,rfl⟩:=List.getElem_of_mem hz
   have:=range_u8 hwz i
   rwa [List.getElem?_eq_getElem hi]at this
  refine⟨zs.take len,?_,λz h=>rng z (List.mem_of_mem_take h)⟩
  by_cases h0:len=0
  ·subst h0;exact .none _ _ _
  ·obtain⟨b,off,spot⟩:=a
   have hspot:spot=none:=by simpa [Addr.add]using World.cell?_spot (hcell 0 (by omega))
   subst hspot
   have hbW:b<W.heap.size:=hlt (.cell b off) (MemPlace.mem_row.2 ⟨0,by omega,by simp⟩)
   have hlen:(aH .u8 (zs.take len)).length=len:=by simp only [aH,List.length_map,List.length_take];omega
   have hget:∀i,i<len->(aH .u8 (zs.take len)).getD i []=[.int .u8 (zs.getD i 0)]:=λi hi=>by
    simp only [aH,List.getD,List.getElem?_map,List.getElem?_take_of_lt hi,List.getElem?_eq_getElem (show i<zs.length by omega)]
    rfl
   refine .rows b off cap 1 len _ (λi j=> .int .u8 (zs.getD i 0)) hbW hlen.symm hl (λi j hi hj=> ?_) (λi hi=> ?_) (λi j hi hj=> ?_)
   ·rw [hlen]at hi
    have:=hcell i (by omega)
    rw [add_plain]at this
    rw [show off+i*1+j=off+i by omega]
    exact this
   ·rw [hlen]at hi;rw [hget i hi];rfl
   ·rw [hlen]at hi
    have hj0:j=0:=by omega
    subst hj0
    unfold gd;rw [hget i hi];exact .int _ _
end Go.TX
namespace Go.TX
open Go Go.AE Go.ChangeShapes Go.WideShapes Go.ChangeAt
theorem Sq {w:World} {a:Addr} {v:Value} (h:w.cell? a=some v):a.block<w.heap.size:=by
 unfold World.cell? at h
 cases hb:w.heap[a.block]? with
 | none=>rw [hb]at h;simp at h
 | some o=>exact(Array.getElem?_eq_some_iff.1 hb).1
section
variable {H:Type} {enc:TypeId×Value->H} {P:Program} {W:World} {sp:Nat->Bool} {hd:Bool}
def akz:DataW H->Bool
 | .lit (.bool b)=>b
 | _=>default
def qO:DataW H->Int
 | .lit (.int _ n)=>n
 | _=>default
def Y2:DataW H->ByteArray
 | .lit (.string b)=>⟨b.toArray⟩
 | _=>default
def afn {α:Type} (f:DataW H->α):DataW H->List α
 | .slice l _=>l.map f
 | _=> []
def akA:DataW H->Form
 | .agg [a,b,n,s]=>⟨akz a,akz b,qO n,afn Y2 s⟩
 | _=>default
variable (enc P W sp hd) in
def ED (c:Co) (dec:DataW H->c.den) (t:TypeId):Prop:=∀fuel cs x,DataW.trod enc P W 0 sp hd fuel t cs=some x->F2 (bU (λb=>b<W.heap.size) W) cs (c.row (dec x.1))
theorem akB {α β:Type} {R:α->β->Prop} {l:List α} {m:List β} (h:F2 R l m) {j:Nat} (a:α) (b:β) (hj:j<m.length):R (l.getD j a) (m.getD j b):=by
 obtain⟨x,h1,h2⟩:=F2.get h (List.getElem?_eq_getElem hj)
 rw [List.getD_eq_getElem?_getD,h1,List.getD_eq_getElem?_getD,List.getElem?_eq_getElem hj];exact h2
theorem ace {c:Co} {dec:DataW H->c.den} {t e:TypeId} (ht:P.underlying t=some (.slice e)) (hc:P.cellsOf e=c.size) (hs:0<c.size) (hE:ED enc P W sp hd c dec e) {fuel:Nat} {cs:List Value} {x:DataW H×List MemPlace}
  (h:DataW.trod enc P W 0 sp hd fuel t cs=some x):∃v,cs=[v]/\bU (λb=>b<W.heap.size) W v (.rows c.size (aH c (afn dec x.1))):=by
 rcases Deep.open_slice ht h with⟨rfl,rfl⟩ | ⟨a,len,cap,m,n,D,Pl,rfl,_,hl,hm,hmm,rfl,hx⟩
 ·exact⟨_,rfl,.none _ _ _⟩
 have lm:len<=m:=by rw [hmm];split<;>omega
 have each:∀i,i<len->∃q:List Value,W.cells? 0 (a.add (i*c.size)) c.size=some q/\F2 (bU (λb=>b<W.heap.size) W) q (c.row (dec (D i))):=λi hi=>by
  obtain⟨cs',h1,h2⟩:=hx i (by omega)
  exact⟨cs',by rw [<-hc];exact h1,hE n cs' _ h2⟩
 obtain⟨q,hq⟩:=Deep.choose_lt each
 refine⟨_,rfl,?_⟩
 by_cases h0:len=0
 ·subst h0;exact .none _ _ _
 obtain⟨b,off,spot⟩:=a
 have cell:∀i j,i<len->j<c.size->W.cell? (((⟨b,off,spot⟩:Addr).add (i*c.size)).add j)=(q i)[j]? :=λi j hi hj=>(World.cells?_some (hq i hi).1).2.2 j hj
 have ql:∀i,i<len->(q i).length=c.size:=λi hi=>(World.cells?_some (hq i hi).1).2.1
 have c0:=cell 0 0 (by omega) hs
 rw [List.getElem?_eq_getElem (by rw [ql 0 (by omega)];exact hs)]at c0
 have hspot:spot=none:=by simpa [Addr.add]using World.cell?_spot c0
 subst hspot
 have hbW:b<W.heap.size:=by have:=Sq c0;simpa [Addr.add]using this
 have e0:afn dec (.slice ((List.range len).map D) ((List.range (m-len)).map λj=>D (len+j)))=(List.range len).map λi=>dec (D i):=by show((List.range len).map D).map dec=_;rw [List.map_map];rfl
 dsimp only
 rw [e0]
 have len':(aH c ((List.range len).map λi=>dec (D i))).length=len:=by rw [aH,List.length_map,List.length_map,List.length_range]
 have hget:∀i,i<len->(aH c ((List.range len).map λi=>dec (D i))).getD i []=c.row (dec (D i)):=λi hi=>by
  rw [List.getD_eq_getElem?_getD,aH,List.map_map,List.getElem?_map,List.getElem?_range hi];rfl
 refine .rows b off cap c.size len _ (λi j=>(q i).getD j undef) hbW len'.symm hl (λi j hi hj=> ?_) (λi hi=> ?_) (λi j hi hj=> ?_)
 ·rw [len']at hi
  have:=cell i j hi hj
  rw [add_plain,add_plain]at this
  rw [this,List.getD_eq_getElem?_getD,List.getElem?_eq_getElem (by rw [ql i hi];exact hj)];rfl
 ·rw [len']at hi;rw [hget i hi];exact mH c _
 ·rw [len']at hi
  unfold gd;rw [hget i hi]
  exact akB (hq i hi).2 _ _ (by rw [mH];exact hj)
theorem afo {t:TypeId} (ht:P.underlying t=some .string):ED enc P W sp hd .str Y2 t:=by
 intro fuel cs x h
 obtain⟨s,rfl,rfl,_⟩:=DataW.trod_string ht h
 have e:Y2 (.lit (.string s.data.toList):DataW H)=s:=by unfold Y2;simp
 dsimp only;rw [e]
 exact .cons (.str s) .nil
theorem abg {t tR tB tI tS:TypeId} {f0 f1 f2 f3:Field} (ht:P.underlying t=some (.struct #[f0,f1,f2,f3])) (hn:P.cellsOf t=4) (o:f0.offset=0/\f1.offset=1/\f2.offset=2/\f3.offset=3) (y:f0.type=tB/\f1.type=tB/\f2.type=tI/\f3.type=tR)
  (hB:P.underlying tB=some .bool) (hI:P.underlying tI=some (.int .i64)) (hR:P.underlying tR=some (.slice tS)) (hS:P.underlying tS=some .string) (k:P.cellsOf tB=1/\P.cellsOf tI=1/\P.cellsOf tR=1/\P.cellsOf tS=1):ED enc P W sp hd .form akA t:=by
 intro fuel cs x h
 obtain⟨xs,n,rfl,rfl,hl,hx,hf⟩:=DataW.trod_struct ht h
 rw [hn]at hl
 obtain⟨o0,o1,o2,o3⟩:=o
 obtain⟨y0,y1,y2,y3⟩:=y
 obtain⟨k0,k1,k2,k3⟩:=k
 match cs,hl with
 | [v0,v1,v2,v3],_=>
  match xs,hx with
  | [x0,x1,x2,x3],_=>
   have g0:=hf 0 f0 rfl
   have g1:=hf 1 f1 rfl
   have g2:=hf 2 f2 rfl
   have g3:=hf 3 f3 rfl
   rw [y0,o0,k0]at g0
   rw [y1,o1,k0]at g1
   rw [y2,o2,k1]at g2
   rw [y3,o3,k2]at g3
   obtain⟨b0,e0,rfl⟩:=DataW.trod_bool hB (show _=some x0 from g0)
   obtain⟨b1,e1,rfl⟩:=DataW.trod_bool hB (show _=some x1 from g1)
   obtain⟨n2,e2,rfl,_⟩:=DataW.trod_int hI (show _=some x2 from g2)
   obtain⟨v,e3,r⟩:=ace (c:= .str) (dec:=Y2) hR k3 (by decide) (afo hS) (show _=some x3 from g3)
   cases e0;cases e1;cases e2;cases e3
   exact .cons (.bool _) (.cons (.bool _) (.cons (.int _ _) (.cons r .nil)))
end
end Go.TX
namespace Go.TX.Seat
open Go Go.AE Go.TX Go.TX.F Go.Proofs
set_option maxRecDepth 100000
theorem ant:∀t n,E.ieq t=some n->∀(xs ys:List Int),xs.length=n->ys.length=n->∀w,
  (Op.equal t (.agg (xs.map (Value.int .i64)).toArray) (.agg (ys.map (Value.int .i64)).toArray)).run E.P w= .ok (xs==ys) w/\
  (eqGuard .eql t (.tmp 0) (.tmp 0) (.agg (xs.map (Value.int .i64)).toArray) (.agg (ys.map (Value.int .i64)).toArray)).run E.P w= .ok () w:=by
 intro t n h
 obtain⟨c,hc,rfl⟩:∃c,ieq t=some c/\c.size=n:=by
  have h':(ieq t).map (λc=>c.size)=some n:=h
  cases hi:ieq t with
  | none=>rw [hi]at h';cases h'
  | some c=>rw [hi]at h';cases h';exact⟨c,rfl,rfl⟩
 unfold ieq at hc
 split at hc
 all_goals first | (cases hc;exact afm (by kernel_rfl) (by kernel_rfl) (by kernel_rfl) (by kernel_rfl) (by kernel_rfl)) | cases hc
theorem hE:aM E:=⟨am1,ant⟩
theorem anu:∀t c,X.ieq t=some c->(c= .ins/\E.ieq t=some 4)\/(c= .iop/\E.ieq t=some 5):=by
 intro t c h
 have h:ieq t=some c:=h
 have e:E.ieq t=(ieq t).map λc=>c.size:=rfl
 rw [e,h]
 unfold ieq at h
 split at h
 all_goals first | (cases h;first | exact Or.inl ⟨rfl,rfl⟩ | exact Or.inr ⟨rfl,rfl⟩) | cases h
theorem xok:XOK X E:=⟨rfl,λg c h=>(by
    first
    | (cases h;done)
    | (dsimp only [X] at h
       split at h
       · rename_i e;cases h;unfold E;dsimp only;rw [if_pos e];rfl
       · cases h)),anu⟩
theorem hm:E.P.follows .mixedOrders=true:=by kernel_rfl
theorem hlN:∀p∈([]:List (FuncId×Sigma (Ct aB))),iy E p.1 (gP p.2.2):=λ_ h=>by cases h
theorem hlC {f:FuncId} {s:Sig} {c:Ct aB s} {l:List (FuncId×Sigma (Ct aB))} (h:iy E f (gP c)) (r:∀p∈l,iy E p.1 (gP p.2.2)):∀p∈(f,⟨s,c⟩)::l,iy E p.1 (gP p.2.2):=λp hp=>by
 rcases List.mem_cons.1 hp with rfl | hp
 ·exact h
 ·exact r p hp
abbrev _root_.Go.TX.Fn.c {E : Tab} {f : FuncId} {s : Sig} {F : fK s.inp -> (fK s.out -> Prop) -> Prop} {c : Ct aB s} (_ : Fn E f F c) : Ct aB s := c
theorem mk {lk:aN} {f:FuncId} {fn:Func} (hf:E.P.funcs[f]? =some fn) {l:List (FuncId×Sigma (Ct aB))} (hl:∀p∈l,iy E p.1 (gP p.2.2)) {ord:List (Nat×List dU)} {s:Sig} {an:Ann}
 {F:fK s.inp->(fK s.out->Prop)->Prop} (h:Ru X E (std 0) ord an s fn l F) (hb:fn.body.isSome=true:=by rfl) (hn:(fn.name== "runtime.NumGoroutine")=false:=by kernel_rfl):Fn E f F (cn F):=amO hE xok hm hf hb (λ_=>enters_of hf hn) hl h
end Go.TX.Seat
namespace Go.TX.F
open Go Go.AE Go.TX Go.TX.Seat Go.Proofs
set_option maxRecDepth 100000
def gX:=mk Tryz.func21 hlN (ahY (std 0))
noncomputable def aK:=gX.c
def jw:=λn b p hb h1 h2=>(gX.cs (abU n b p hb h1 h2)).1
def jy:=λn b p hb h1 h2=>(gX.cs (abU n b p hb h1 h2)).2
def yQ:=mk Tryz.func25 (hlC gX.ok hlN) (ahZ (std 0) aK)
noncomputable def dA:=yQ.c
def oO:=λn b p hb h1 h2=>yQ.cs (ajq jw jy n b p hb h1 h2)
def E9:=λn b p hb h1 h2=>(oO n b p hb h1 h2).1
def Fa:=λn b p hb h1 h2=>(oO n b p hb h1 h2).2
def sV:=mk Tryz.func27 hlN (ah0 (std 0))
noncomputable def bY:=sV.c
def yR:=λa b c=>(sV.cs (abQ a b c)).1
def yT:=λa b c=>(sV.cs (abQ a b c)).2
def IY:=mk Tryz.func55 hlN (aed (std 0))
noncomputable def El:=IY.c
def afp:=λi=>(IY.cs (sU i)).1
def afq:=λi=>(IY.cs (sU i)).2
def GL:=mk Tryz.func29 (hlC sV.ok (hlC IY.ok hlN)) (ah1 (std 0) bY El)
noncomputable def iQ:=GL.c
def yU:=λi=>GL.cs (FC yR yT afp afq i)
def Sr:=λi=>(yU i).1
def Sv:=λi=>(yU i).2
def Nt:=mk Tryz.func30 hlN (ah2 (std 0))
noncomputable def vE:=Nt.c
def acf:=λa=>(Nt.cs (qD a)).1
def acg:=λa=>(Nt.cs (qD a)).2
def Fb:=mk Tryz.func28 (hlC Nt.ok (hlC GL.ok hlN)) (aee (std 0) vE iQ)
noncomputable def iE:=Fb.c
def sW:=λi=>Fb.cs (BM acf acg Sr Sv i)
def Qk:=λi=>(sW i).1
def afr:=λi=>(sW i).2
def Nu:=mk Tryz.func81 (hlC gX.ok hlN) (ah3 (std 0) aK)
noncomputable def lW:=Nu.c
def vY:=λb p hb h1 h2=>Nu.cs (ajI jw jy b p hb h1 h2)
def Y3:=λb p hb h1 h2=>(vY b p hb h1 h2).1
def Y4:=λb p hb h1 h2=>(vY b p hb h1 h2).2
def GN:=mk Tryz.func50 (hlC Nu.ok (hlC gX.ok (hlC Fb.ok hlN))) (ah4 (std 0) lW aK iE)
noncomputable def iR:=GN.c
def sZ:=λb p hb h1 h2=>GN.cs (ajJ Y3 Y4 jw jy Qk b p hb h1 h2)
def Sw:=λb p hb h1 h2=>(sZ b p hb h1 h2).1
def Sy:=λb p hb h1 h2=>(sZ b p hb h1 h2).2
def Nv:=mk Tryz.func48 (hlC GN.ok (hlC gX.ok hlN)) (ah5 (std 0) iR aK)
noncomputable def lY:=Nv.c
def tq:=λb p hb h1 h2=>Nv.cs (ajK Sw Sy jw jy b p hb h1 h2)
def Y5:=λb p hb h1 h2=>(tq b p hb h1 h2).1
def Y6:=λb p hb h1 h2=>(tq b p hb h1 h2).2
def Y7:=mk Tryz.func49 (hlC Nu.ok (hlC yQ.ok (hlC gX.ok hlN))) (ah6 (std 0) lW dA aK)
noncomputable def Lv:=Y7.c
def qE:=λn b p hb h1 h2=>Y7.cs (akh Y3 Y4 E9 Fa jw jy n b p hb h1 h2)
def akC:=λn b p hb h1 h2=>(qE n b p hb h1 h2).1
def akD:=λn b p hb h1 h2=>(qE n b p hb h1 h2).2
def Y8:=mk Tryz.func19 (hlC GN.ok (hlC Y7.ok (hlC yQ.ok (hlC gX.ok (hlC Nv.ok hlN))))) (ah7 (std 0) iR Lv dA aK lY)
noncomputable def Lx:=Y8.c
def oP:=λn b p hb h1 h2=>Y8.cs (aki Sw Sy akC akD E9 Fa jw jy Y5 Y6 n b p hb h1 h2)
def akE:=λn b p hb h1 h2=>(oP n b p hb h1 h2).1
def akF:=λn b p hb h1 h2=>(oP n b p hb h1 h2).2
def Nw:=mk Tryz.func20 hlN (ah8 (std 0))
noncomputable def vF:=Nw.c
def ach:=λb hb hl=>(Nw.cs (abT b hb hl)).1
def aci:=λb hb hl=>(Nw.cs (abT b hb hl)).2
def Y9:=mk Tryz.func5 (hlC Nw.ok (hlC Y8.ok hlN)) (ah9 (std 0) vF Lx)
noncomputable def ML:=Y9.c
def kQ:=λc hc hl=>Y9.cs (akg ach aci akE akF c hc hl)
def akG:=λc hc hl=>(kQ c hc hl).1
def akH:=λc hc hl=>(kQ c hc hl).2
def Sz:=mk Tryz.func7 (hlC Nt.ok (hlC GL.ok (hlC sV.ok (hlC Fb.ok hlN)))) (aia (std 0) vE iQ bY iE)
noncomputable def vG:=Sz.c
def yV:=λpc l hl=>Sz.cs (FH acf acg Sr Sv yR yT Qk afr pc l hl)
def acj:=λpc l hl=>(yV pc l hl).1
def akI:=λpc l hl=>(yV pc l hl).2
def tu:=mk Tryz.func66 hlN (aef (std 0))
noncomputable def dL:=tu.c
def xE:=λa1 a2 a3 a4 a5 a6 o ops h=>(tu.cs (vV a1 a2 a3 a4 a5 a6 o ops h)).1
def xG:=λa1 a2 a3 a4 a5 a6 o ops h=>(tu.cs (vV a1 a2 a3 a4 a5 a6 o ops h)).2
def Fe:=mk Tryz.func67 (hlC tu.ok hlN) (aeg (std 0) dL)
noncomputable def nP:=Fe.c
def Za:=λa1 a2 a3 a4 a5 a6 k x ops h=>(Fe.cs (vX xE xG a1 a2 a3 a4 a5 a6 k x ops h)).1
def Zb:=λa1 a2 a3 a4 a5 a6 k x ops h=>(Fe.cs (vX xE xG a1 a2 a3 a4 a5 a6 k x ops h)).2
def xH:=mk Tryz.func68 (hlC tu.ok hlN) (aeh (std 0) dL)
noncomputable def fA:=xH.c
def IZ:=λa1 a2 a3 a4 a5 a6 k ops h=>(xH.cs (vW xE xG a1 a2 a3 a4 a5 a6 k ops h)).1
def I4:=λa1 a2 a3 a4 a5 a6 k ops h=>(xH.cs (vW xE xG a1 a2 a3 a4 a5 a6 k ops h)).2
def I5:=mk Tryz.func69 (hlC xH.ok (hlC tu.ok hlN)) (aei (std 0) fA dL)
noncomputable def nO:=I5.c
def qF:=λa1 a2 a3 a4 a5 a6 k a o ops h=>I5.cs (Ad IZ I4 xE xG a1 a2 a3 a4 a5 a6 k a o ops h)
def Zc:=λa1 a2 a3 a4 a5 a6 k a o ops h=>(qF a1 a2 a3 a4 a5 a6 k a o ops h).1
def Zd:=λa1 a2 a3 a4 a5 a6 k a o ops h=>(qF a1 a2 a3 a4 a5 a6 k a o ops h).2
def I6:=mk Tryz.func70 hlN (aej (std 0))
noncomputable def Eo:=I6.c
def afs:=λk k0 k1=>(I6.cs (qC k k0 k1)).1
def aft:=λk k0 k1=>(I6.cs (qC k k0 k1)).2
def Ql:=mk Tryz.func71 (hlC xH.ok (hlC tu.ok (hlC I5.ok (hlC Fe.ok hlN)))) (aek (std 0) fA dL nO nP)
noncomputable def En:=Ql.c
def tC:=λa1 a2 a3 a4 a5 a6 i n ops hi h=>Ql.cs (BL IZ I4 xE xG Zc Zd Za Zb a1 a2 a3 a4 a5 a6 i n ops hi h)
def afu:=λa1 a2 a3 a4 a5 a6 i n ops hi h=>(tC a1 a2 a3 a4 a5 a6 i n ops hi h).1
def afv:=λa1 a2 a3 a4 a5 a6 i n ops hi h=>(tC a1 a2 a3 a4 a5 a6 i n ops hi h).2
end Go.TX.F
namespace Go.TX.F
open Go Go.AE Go.TX Go.TX.Seat Go.Proofs
set_option maxRecDepth 100000
def Qm:=mk Tryz.func72 (hlC xH.ok hlN) (ael (std 0) fA)
noncomputable def Em:=Qm.c
def vZ:=λB i hi h=>Qm.cs (E8 IZ I4 B i hi h)
def afw:=λB i hi h=>(vZ B i hi h).1
def afx:=λB i hi h=>(vZ B i hi h).2
def Qn:=mk Tryz.func40 (hlC xH.ok (hlC Qm.ok (hlC tu.ok (hlC Ql.ok (hlC I5.ok (hlC Fe.ok (hlC I6.ok hlN))))))) (aem (std 0) fA Em dL En nO nP Eo)
noncomputable def Ep:=Qn.c
def yX:=λB i n hi h0 h=>Qn.cs (FD IZ I4 afw afx xE xG afu afv Zc Zd Za Zb afs aft B i n hi h0 h)
def afy:=λB i n hi h0 h=>(yX B i n hi h0 h).1
def afz:=λB i n hi h0 h=>(yX B i n hi h0 h).2
def SA:=mk Tryz.func14 (hlC Sz.ok (hlC Qn.ok hlN)) (aib (std 0) vG Ep)
noncomputable def vQ:=SA.c
def qG:=λpc l hl=>SA.cs (Ae acj akI afy afz pc l hl)
def acn:=λpc l hl=>(qG pc l hl).1
def aco:=λpc l hl=>(qG pc l hl).2
def yY:=mk Tryz.func32 hlN (aic (std 0))
noncomputable def dY:=yY.c
def GQ:=λa=>(yY.cs (abR a)).1
def GU:=λa=>(yY.cs (abR a)).2
def SB:=mk Tryz.func31 (hlC yY.ok hlN) (aie (std 0) dY)
noncomputable def vH:=SB.c
def tF:=λl h=>SB.cs (ake GQ GU l h)
def acp:=λl h=>(tF l h).1
def acr:=λl h=>(tF l h).2
def Ze:=mk Tryz.func87 (hlC SB.ok hlN) (aif (std 0) vH)
noncomputable def LH:=Ze.c
def wo:=λw i hw hi=>Ze.cs (akn acp acr w i hw hi)
def akJ:=λw i hw hi=>(wo w i hw hi).1
def akK:=λw i hw hi=>(wo w i hw hi).2
def Zf:=mk Tryz.func106 (hlC GN.ok (hlC gX.ok hlN)) (aii (std 0) iR aK)
noncomputable def LB:=Zf.c
def tH:=λt b p hb t0 h1 h2=>Zf.cs (aks Sw Sy jw jy t b p hb t0 h1 h2)
def akL:=λt b p hb t0 h1 h2=>(tH t b p hb t0 h1 h2).1
def akM:=λt b p hb t0 h1 h2=>(tH t b p hb t0 h1 h2).2
def Zg:=mk Tryz.func107 (hlC gX.ok hlN) (aij (std 0) aK)
noncomputable def LC:=Zg.c
def tJ:=λt b p hb t0 h1 h2=>Zg.cs (akr jw jy t b p hb t0 h1 h2)
def akN:=λt b p hb t0 h1 h2=>(tJ t b p hb t0 h1 h2).1
def akO:=λt b p hb t0 h1 h2=>(tJ t b p hb t0 h1 h2).2
def SE:=mk Tryz.func110 (hlC GL.ok hlN) (aik (std 0) iQ)
noncomputable def vI:=SE.c
def wu:=λi=>SE.cs (akl Sr Sv i)
def acs:=λi=>(wu i).1
def acu:=λi=>(wu i).2
def Zh:=mk Tryz.func108 (hlC SE.ok hlN) (ail (std 0) vI)
noncomputable def LA:=Zh.c
def qH:=λl hl=>Zh.cs (akm acs acu l hl)
def akP:=λl hl=>(qH l hl).1
def akQ:=λl hl=>(qH l hl).2
def SF:=mk Tryz.func109 (hlC gX.ok hlN) (ain (std 0) aK)
noncomputable def vJ:=SF.c
def tK:=λb p hb h1 h2=>SF.cs (ajr jw jy b p hb h1 h2)
def Zi:=λb p hb h1 h2=>(tK b p hb h1 h2).1
def Zj:=λb p hb h1 h2=>(tK b p hb h1 h2).2
def Zk:=mk Tryz.func88 (hlC Zh.ok (hlC SE.ok (hlC Zf.ok (hlC GN.ok (hlC Nu.ok (hlC Zg.ok (hlC yQ.ok (hlC gX.ok (hlC SF.ok hlN))))))))) (aio (std 0) LA vI LB iR lW LC dA aK vJ)
noncomputable def LK:=Zk.c
def qI:=λb p hb h1 h2=>Zk.cs (akt akP akQ acs acu akL akM Sw Sy Y3 Y4 akN akO E9 Fa jw jy Zi Zj b p hb h1 h2)
def akR:=λb p hb h1 h2=>(qI b p hb h1 h2).1
def akS:=λb p hb h1 h2=>(qI b p hb h1 h2).2
def SG:=mk Tryz.func89 (hlC SF.ok hlN) (aip (std 0) vJ)
noncomputable def LP:=SG.c
def akT:=λn b p hb hn h1 h2=>(SG.cs (abV Zi Zj n b p hb hn h1 h2)).1
def akU:=λn b p hb hn h1 h2=>(SG.cs (abV Zi Zj n b p hb hn h1 h2)).2
def Ny:=mk Tryz.func8 (hlC yY.ok (hlC sV.ok (hlC SB.ok hlN))) (aiq (std 0) dY bY vH)
noncomputable def lZ:=Ny.c
def yZ:=λm h=>Ny.cs (akf GQ GU yR yT acp acr m h)
def Zl:=λm h=>(yZ m h).1
def acv:=λm h=>(yZ m h).2
def Fg:=mk Tryz.func111 hlN (aen (std 0))
noncomputable def nQ:=Fg.c
def Zm:=λm h=>(Fg.cs (YU m h)).1
def Zn:=λm h=>(Fg.cs (YU m h)).2
def I7:=mk Tryz.func118 hlN (aeo (std 0))
noncomputable def Ez:=I7.c
def afA:=λm b=>(I7.cs (YX m b)).1
def afB:=λm b=>(I7.cs (YX m b)).2
def Af:=mk Tryz.func119 hlN (aep (std 0))
noncomputable def iF:=Af.c
def Qo:=λm h=>(Af.cs (YV m h)).1
def Qp:=λm h=>(Af.cs (YV m h)).2
def Zo:=mk Tryz.func120 (hlC GL.ok (hlC yY.ok hlN)) (air (std 0) iQ dY)
noncomputable def LD:=Zo.c
def tL:=λw=>Zo.cs (akk Sr Sv GQ GU w)
def akV:=λw=>(tL w).1
def akW:=λw=>(tL w).2
def Fh:=mk Tryz.func116 hlN (ais (std 0))
noncomputable def iT:=Fh.c
def SH:=λa=>(Fh.cs (abS a)).1
def SK:=λa=>(Fh.cs (abS a)).2
def SL:=mk Tryz.func103 (hlC Fh.ok (hlC yY.ok hlN)) (ait (std 0) iT dY)
noncomputable def vK:=SL.c
def y7:=λop a b=>SL.cs (ajp GQ GU SH SK op a b)
def acw:=λop a b=>(y7 op a b).1
def acy:=λop a b=>(y7 op a b).2
def xI:=mk Tryz.func127 (hlC Fh.ok hlN) (aer (std 0) iT)
noncomputable def dM:=xI.c
def wz:=λm n h=>xI.cs (afc SH SK m n h)
def Ag:=λm n h=>(wz m n h).1
def Ah:=λm n h=>(wz m n h).2
def Qq:=mk Tryz.func123 (hlC Af.ok (hlC xI.ok hlN)) (aes (std 0) iF dM)
noncomputable def Ew:=Qq.c
def wB:=λm i h ho=>Qq.cs (afg Qo Qp Ag Ah m i h ho)
def afC:=λm i h ho=>(wB m i h ho).1
def afD:=λm i h ho=>(wB m i h ho).2
end Go.TX.F
namespace Go.TX.F
open Go Go.AE Go.TX Go.TX.Seat Go.Proofs
set_option maxRecDepth 100000
def Ai:=mk Tryz.func124 (hlC xI.ok hlN) (aeu (std 0) dM)
noncomputable def iG:=Ai.c
def Qr:=λm d v h d0 d1=>(Ai.cs (YW Ag Ah m d v h d0 d1)).1
def Qs:=λm d v h d0 d1=>(Ai.cs (YW Ag Ah m d v h d0 d1)).2
def Qt:=mk Tryz.func125 (hlC Fh.ok hlN) (aev (std 0) iT)
noncomputable def Eu:=Qt.c
def tN:=λv k h k0 k1=>Qt.cs (afd SH SK v k h k0 k1)
def afE:=λv k h k0 k1=>(tN v k h k0 k1).1
def afF:=λv k h k0 k1=>(tN v k h k0 k1).2
def Qu:=mk Tryz.func126 (hlC Fh.ok (hlC Af.ok (hlC xI.ok (hlC Ai.ok hlN)))) (aew (std 0) iT iF dM iG)
noncomputable def Es:=Qu.c
def tO:=λm i h hi ho=>Qu.cs (afe SH SK Qo Qp Ag Ah Qr Qs m i h hi ho)
def afG:=λm i h hi ho=>(tO m i h hi ho).1
def afH:=λm i h hi ho=>(tO m i h hi ho).2
def Qv:=mk Tryz.func128 (hlC xI.ok (hlC Ai.ok hlN)) (aex (std 0) dM iG)
noncomputable def Er:=Qv.c
def wC:=λm i h hi hq hn ho=>Qv.cs (aff Ag Ah Qr Qs m i h hi hq hn ho)
def afI:=λm i h hi hq hn ho=>(wC m i h hi hq hn ho).1
def afJ:=λm i h hi hq hn ho=>(wC m i h hi hq hn ho).2
def Qw:=mk Tryz.func121 (hlC SL.ok (hlC xI.ok (hlC Qv.ok (hlC Qu.ok (hlC Ai.ok (hlC Qt.ok (hlC Qq.ok hlN))))))) (aey (std 0) vK dM Er Es iG Eu Ew)
noncomputable def Ey:=Qw.c
def Br:=λm i h hi hn ho=>Qw.cs (afh acw acy Ag Ah afI afJ afG afH Qr Qs afE afF afC afD m i h hi hn ho)
def afK:=λm i h hi hn ho=>(Br m i h hi hn ho).1
def afL:=λm i h hi hn ho=>(Br m i h hi hn ho).2
def Zp:=mk Tryz.func112 (hlC Zo.ok (hlC Ny.ok (hlC Fg.ok (hlC Qw.ok (hlC Af.ok (hlC I7.ok hlN)))))) (aiu (std 0) LD lZ nQ Ey iF Ez)
noncomputable def LG:=Zp.c
def tQ:=λm b h ho=>Zp.cs (ako akV akW Zl acv Zm Zn afK afL Qo Qp afA afB m b h ho)
def akX:=λm b h ho=>(tQ m b h ho).1
def akY:=λm b h ho=>(tQ m b h ho).2
def I8:=mk Tryz.func113 hlN (aez (std 0))
noncomputable def EA:=I8.c
def afM:=λl n h=>(I8.cs (YZ l n h)).1
def afN:=λl n h=>(I8.cs (YZ l n h)).2
def Zq:=mk Tryz.func90 (hlC Ny.ok (hlC Zp.ok (hlC Fg.ok (hlC I8.ok hlN)))) (aiv (std 0) lZ LG nQ EA)
noncomputable def LJ:=Zq.c
def wD:=λm q n h hq ho=>Zq.cs (akp Zl acv akX akY Zm Zn afM afN m q n h hq ho)
def akZ:=λm q n h hq ho=>(wD m q n h hq ho).1
def ak0:=λm q n h hq ho=>(wD m q n h hq ho).2
def Zr:=mk Tryz.func91 (hlC gX.ok hlN) (aiw (std 0) aK)
noncomputable def LM:=Zr.c
def tT:=λb p hb h1 h2=>Zr.cs (akq jw jy b p hb h1 h2)
def ak1:=λb p hb h1 h2=>(tT b p hb h1 h2).1
def ak2:=λb p hb h1 h2=>(tT b p hb h1 h2).2
def SN:=mk Tryz.func54 (hlC Ze.ok (hlC Zq.ok (hlC Zk.ok (hlC Zr.ok (hlC yQ.ok (hlC gX.ok (hlC SG.ok hlN))))))) (aix (std 0) LH LJ LK LM dA aK LP)
noncomputable def vL:=SN.c
def tV:=λb p hb h1 h2=>SN.cs (akv akJ akK akZ ak0 akR akS ak1 ak2 E9 Fa jw jy akT akU b p hb h1 h2)
def acz:=λb p hb h1 h2=>(tV b p hb h1 h2).1
def acA:=λb p hb h1 h2=>(tV b p hb h1 h2).2
def SQ:=mk Tryz.func24 (hlC SN.ok (hlC gX.ok hlN)) (aiy (std 0) vL aK)
noncomputable def vS:=SQ.c
def y8:=λc b p hb h1 h2=>SQ.cs (akx acz acA jw jy c b p hb h1 h2)
def acB:=λc b p hb h1 h2=>(y8 c b p hb h1 h2).1
def acC:=λc b p hb h1 h2=>(y8 c b p hb h1 h2).2
def Qx:=mk Tryz.func129 (hlC sV.ok hlN) (aeA (std 0) bY)
noncomputable def EB:=Qx.c
def tX:=λk=>Qx.cs (aeY yR yT k)
def afO:=λk=>(tX k).1
def afP:=λk=>(tX k).2
def I9:=mk Tryz.func122 (hlC Qx.ok hlN) (aeB (std 0) EB)
noncomputable def nS:=I9.c
def y9:=λops x n h1=>I9.cs (aeZ afO afP ops x n h1)
def Zt:=λops x n h1=>(y9 ops x n h1).1
def Zu:=λops x n h1=>(y9 ops x n h1).2
def Qy:=mk Tryz.func114 (hlC yY.ok (hlC sV.ok (hlC I9.ok hlN))) (aeC (std 0) dY bY nS)
noncomputable def EF:=Qy.c
def Bu:=λops i len h0 h1 h3=>Qy.cs (ae0 GQ GU yR yT Zt Zu ops i len h0 h1 h3)
def afQ:=λops i len h0 h1 h3=>(Bu ops i len h0 h1 h3).1
def afR:=λops i len h0 h1 h3=>(Bu ops i len h0 h1 h3).2
def Qz:=mk Tryz.func115 (hlC yY.ok (hlC I9.ok hlN)) (aeD (std 0) dY nS)
noncomputable def EC:=Qz.c
def za:=λb=>Qz.cs (ae1 GQ GU Zt Zu b)
def afS:=λb=>(za b).1
def afT:=λb=>(za b).2
def Fj:=mk Tryz.func98 (hlC sV.ok (hlC Qz.ok (hlC Qy.ok hlN))) (aiz (std 0) bY EC EF)
noncomputable def fU:=Fj.c
def Bv:=λb h2=>Fj.cs (ajF yR yT afS afT afQ afR b h2)
def Nz:=λb h2=>(Bv b h2).1
def NA:=λb h2=>(Bv b h2).2
def NC:=mk Tryz.func105 (hlC sV.ok hlN) (aiA (std 0) bY)
noncomputable def vM:=NC.c
def acD:=λo al hk hx hy=>(NC.cs (ab2 yR yT o al hk hx hy)).1
def acE:=λo al hk hx hy=>(NC.cs (ab2 yR yT o al hk hx hy)).2
def SX:=mk Tryz.func99 (hlC NC.ok hlN) (aiB (std 0) vM)
noncomputable def vN:=SX.c
def tY:=λb kp ok hk=>SX.cs (ajP acD acE b kp ok hk)
def acF:=λb kp ok hk=>(tY b kp ok hk).1
def acG:=λb kp ok hk=>(tY b kp ok hk).2
def Zv:=mk Tryz.func100 (hlC Fj.ok (hlC sV.ok hlN)) (aiC (std 0) fU bY)
noncomputable def LQ:=Zv.c
def tZ:=λb hb=>Zv.cs (ajO Nz NA yR yT b hb)
def ak3:=λb hb=>(tZ b hb).1
def ak4:=λb hb=>(tZ b hb).2
end Go.TX.F
namespace Go.TX.F
open Go Go.AE Go.TX Go.TX.Seat Go.Proofs
set_option maxRecDepth 100000
def Zw:=mk Tryz.func82 (hlC Fj.ok (hlC Zv.ok (hlC SX.ok hlN))) (aiD (std 0) fU LQ vN)
noncomputable def L6:=Zw.c
def uf:=λb hb=>Zw.cs (ajQ Nz NA ak3 ak4 acF acG b hb)
def ak5:=λb hb=>(uf b hb).1
def ak6:=λb hb=>(uf b hb).2
def SY:=mk Tryz.func101 hlN (aiE (std 0))
noncomputable def LU:=SY.c
def ak7:=λops k h0 h1 h2=>(SY.cs (ab3 ops k h0 h1 h2)).1
def ak8:=λops k h0 h1 h2=>(SY.cs (ab3 ops k h0 h1 h2)).2
def Zx:=mk Tryz.func83 (hlC Fj.ok (hlC SX.ok (hlC SY.ok hlN))) (aiF (std 0) fU vN LU)
noncomputable def L8:=Zx.c
def ug:=λb hb=>Zx.cs (ajR Nz NA acF acG ak7 ak8 b hb)
def ak9:=λb hb=>(ug b hb).1
def ala:=λb hb=>(ug b hb).2
def Aj:=mk Tryz.func86 hlN (aeE (std 0))
noncomputable def iH:=Aj.c
def QA:=λb hb=>(Aj.cs (YA b hb)).1
def QB:=λb hb=>(Aj.cs (YA b hb)).2
def ND:=mk Tryz.func102 hlN (aiG (std 0))
noncomputable def vO:=ND.c
def acH:=λops k=>(ND.cs (ab0 ops k)).1
def acI:=λops k=>(ND.cs (ab0 ops k)).2
def S9:=mk Tryz.func117 hlN (aiH (std 0))
noncomputable def LW:=S9.c
def alb:=λb k=>(S9.cs (ab1 b k)).1
def alc:=λb k=>(S9.cs (ab1 b k)).2
def Zy:=mk Tryz.func104 (hlC S9.ok (hlC ND.ok hlN)) (aiI (std 0) LW vO)
noncomputable def LY:=Zy.c
def uh:=λb h=>Zy.cs (ajL alb alc acH acI b h)
def ald:=λb h=>(uh b h).1
def ale:=λb h=>(uh b h).2
def Zz:=mk Tryz.func84 (hlC Fj.ok (hlC SL.ok (hlC Zy.ok (hlC ND.ok (hlC Aj.ok hlN))))) (aiJ (std 0) fU vK LY vO iH)
noncomputable def LZ:=Zz.c
def qJ:=λb hb=>Zz.cs (ajN Nz NA acw acy ald ale acH acI QA QB b hb)
def alf:=λb hb=>(qJ b hb).1
def alg:=λb hb=>(qJ b hb).2
def Ta:=mk Tryz.func85 (hlC Fj.ok (hlC NC.ok (hlC Aj.ok hlN))) (aiK (std 0) fU vM iH)
noncomputable def vP:=Ta.c
def uj:=λb hb=>Ta.cs (ajS Nz NA acD acE QA QB b hb)
def acJ:=λb hb=>(uj b hb).1
def acK:=λb hb=>(uj b hb).2
def Tc:=mk Tryz.func51 (hlC Zz.ok (hlC Ta.ok (hlC Zw.ok (hlC Zx.ok hlN)))) (aiL (std 0) LZ vP L6 L8)
noncomputable def vR:=Tc.c
def wE:=λb hb=>Tc.cs (ajM alf alg acJ acK ak5 ak6 ak9 ala b hb)
def acL:=λb hb=>(wE b hb).1
def acM:=λb hb=>(wE b hb).2
def QC:=mk Tryz.func22 (hlC SA.ok (hlC Tc.ok (hlC gX.ok (hlC SQ.ok (hlC Nv.ok (hlC Fb.ok hlN)))))) (aeF (std 0) vQ vR aK vS lY iE)
noncomputable def EG:=QC.c
def wF:=λb p hb h1 h2=>QC.cs (afl acn aco acL acM jw jy acB acC Y5 Y6 Qk b p hb h1 h2)
def afU:=λb p hb h1 h2=>(wF b p hb h1 h2).1
def afV:=λb p hb h1 h2=>(wF b p hb h1 h2).2
def ZA:=mk Tryz.func52 (hlC SA.ok (hlC Tc.ok (hlC Ta.ok (hlC gX.ok (hlC Nv.ok hlN))))) (aiM (std 0) vQ vR vP aK lY)
noncomputable def Ma:=ZA.c
def qK:=λb p hb h1 h2=>ZA.cs (ajT (λpc l h _=>acn pc l h) (λpc l h _=>abe (aco pc l h)) acL acM acJ acK jw jy Y5 Y6 b p hb h1 h2)
def alh:=λb p hb h1 h2=>(qK b p hb h1 h2).1
def ali:=λb p hb h1 h2=>(qK b p hb h1 h2).2
def ZB:=mk Tryz.func53 (hlC gX.ok (hlC Aj.ok hlN)) (aiN (std 0) aK iH)
noncomputable def L9:=ZB.c
def um:=λc b p hc hb h1 h2=>ZB.cs (ajU jw jy QA QB c b p hc hb h1 h2)
def alj:=λc b p hc hb h1 h2=>(um c b p hc hb h1 h2).1
def alk:=λc b p hc hb h1 h2=>(um c b p hc hb h1 h2).2
def ZE:=mk Tryz.func23 (hlC yQ.ok (hlC gX.ok (hlC ZB.ok (hlC ZA.ok hlN)))) (aiO (std 0) dA aK L9 Ma)
noncomputable def Md:=ZE.c
def nu:=λn b p hb h1 h2=>ZE.cs (ajV E9 Fa jw jy alj alk alh ali n b p hb h1 h2)
def alm:=λn b p hb h1 h2=>(nu n b p hb h1 h2).1
def aln:=λn b p hb h1 h2=>(nu n b p hb h1 h2).2
def ZF:=mk Tryz.func26 (hlC SN.ok (hlC yQ.ok (hlC gX.ok hlN))) (aiP (std 0) vL dA aK)
noncomputable def Mc:=ZF.c
def oQ:=λn b p hb h1 h2=>ZF.cs (akw acz acA E9 Fa jw jy n b p hb h1 h2)
def alo:=λn b p hb h1 h2=>(oQ n b p hb h1 h2).1
def alp:=λn b p hb h1 h2=>(oQ n b p hb h1 h2).2
def ZG:=mk Tryz.func6 (hlC ZF.ok (hlC Nw.ok (hlC yQ.ok (hlC gX.ok (hlC SQ.ok (hlC ZE.ok (hlC QC.ok hlN))))))) (aiQ (std 0) Mc vF dA aK vS Md EG)
noncomputable def MN:=ZG.c
def oU:=λc hc hl=>ZG.cs (aky alo alp ach aci E9 Fa jw jy acB acC alm aln afU afV c hc hl)
def alq:=λc hc hl=>(oU c hc hl).1
def alr:=λc hc hl=>(oU c hc hl).2
def jE:=mk Tryz.func41 hlN (aiR (std 0))
noncomputable def aU:=jE.c
def jF:=λa b c=>(jE.cs (abJ a b c)).1
def jG:=λa b c=>(jE.cs (abJ a b c)).2
def wG:=mk Tryz.func33 (hlC jE.ok hlN) (aiS (std 0) aU)
noncomputable def dB:=wG.c
def Fp:=λa=>(wG.cs (abK jF jG a)).1
def Fq:=λa=>(wG.cs (abK jF jG a)).2
end Go.TX.F
namespace Go.TX.F
open Go Go.AE Go.TX Go.TX.Seat Go.Proofs
set_option maxRecDepth 100000
def ZH:=mk Tryz.func9 (hlC wG.ok hlN) (aiT (std 0) dB)
noncomputable def MK:=ZH.c
def Bw:=ZH.cs (ajo Fp Fq)
def als:=(Bw).1
def alu:=(Bw).2
def NG:=mk Tryz.func73 (hlC jE.ok hlN) (aiU (std 0) aU)
noncomputable def vU:=NG.c
def acN:=λa=>(NG.cs (abM jF jG a)).1
def acO:=λa=>(NG.cs (abM jF jG a)).2
def ZI:=mk Tryz.func74 (hlC jE.ok hlN) (aiV (std 0) aU)
noncomputable def Mf:=ZI.c
def qL:=λo=>ZI.cs (ajy jF jG o)
def alv:=λo=>(qL o).1
def alx:=λo=>(qL o).2
def Td:=mk Tryz.func75 (hlC jE.ok hlN) (aiW (std 0) aU)
noncomputable def Mg:=Td.c
def aly:=λa=>(Td.cs (abL jF jG a)).1
def alz:=λa=>(Td.cs (abL jF jG a)).2
def ZJ:=mk Tryz.func94 (hlC jE.ok hlN) (aiX (std 0) aU)
noncomputable def Me:=ZJ.c
def kD:=λo=>ZJ.cs (ajz jF jG o)
def alA:=λo=>(kD o).1
def alB:=λo=>(kD o).2
def Te:=mk Tryz.func76 (hlC ZJ.ok (hlC jE.ok hlN)) (aiY (std 0) Me aU)
noncomputable def vT:=Te.c
def kE:=λb x n h0 h1 h2=>Te.cs (ajB alA alB jF jG b x n h0 h1 h2)
def acP:=λb x n h0 h1 h2=>(kE b x n h0 h1 h2).1
def acQ:=λb x n h0 h1 h2=>(kE b x n h0 h1 h2).2
def ZK:=mk Tryz.func44 (hlC Te.ok (hlC ZI.ok (hlC wG.ok (hlC jE.ok (hlC Td.ok (hlC NG.ok hlN)))))) (aiZ (std 0) vT Mf dB aU Mg vU)
noncomputable def Mh:=ZK.c
def kR:=λb i h0 h1 h2 h3=>ZK.cs (ajC acP acQ alv alx Fp Fq jF jG aly alz acN acO b i h0 h1 h2 h3)
def alC:=λb i h0 h1 h2 h3=>(kR b i h0 h1 h2 h3).1
def alD:=λb i h0 h1 h2 h3=>(kR b i h0 h1 h2 h3).2
def abh:=mk Tryz.func77 hlN (am2 (std 0))
noncomputable def X6:=abh.c
def anv:=λb=>(abh.cs (ajD b)).1
def anw:=λb=>(abh.cs (ajD b)).2
def afW:=mk Tryz.func45 (hlC abh.ok (hlC Te.ok (hlC wG.ok (hlC jE.ok hlN)))) (am3 (std 0) X6 vT dB aU)
noncomputable def X7:=afW.c
def kF:=λb h2=>afW.cs (ana anv anw acP acQ Fp Fq jF jG b h2)
def anx:=λb h2=>(kF b h2).1
def anz:=λb h2=>(kF b h2).2
def ZL:=mk Tryz.func16 (hlC afW.ok (hlC ZK.ok (hlC jE.ok hlN))) (ai0 (std 0) X7 Mh aU)
noncomputable def Mt:=ZL.c
def Bz:=λb h2=>ZL.cs (ajE anx anz alC alD jF jG b h2)
def alE:=λb h2=>(Bz b h2).1
def alF:=λb h2=>(Bz b h2).2
def ZM:=mk Tryz.func56 (hlC wG.ok hlN) (ai1 (std 0) dB)
noncomputable def Mi:=ZM.c
def uo:=λa ha=>ZM.cs (ajs Fp Fq a ha)
def alG:=λa ha=>(uo a ha).1
def alH:=λa ha=>(uo a ha).2
def ZN:=mk Tryz.func34 (hlC wG.ok (hlC jE.ok (hlC ZM.ok hlN))) (ai2 (std 0) dB aU Mi)
noncomputable def Mw:=ZN.c
def ze:=λm h=>ZN.cs (ajZ Fp Fq jF jG alG alH m h)
def alI:=λm h=>(ze m h).1
def alJ:=λm h=>(ze m h).2
def Tf:=mk Tryz.func57 hlN (ai3 (std 0))
noncomputable def Mj:=Tf.c
def alK:=λa ha=>(Tf.cs (abO a ha)).1
def alL:=λa ha=>(Tf.cs (abO a ha)).2
def ZO:=mk Tryz.func35 (hlC Tf.ok hlN) (ai4 (std 0) Mj)
noncomputable def Mv:=ZO.c
def kG:=λm h=>ZO.cs (aj0 alK alL m h)
def alM:=λm h=>(kG m h).1
def alN:=λm h=>(kG m h).2
def Tg:=mk Tryz.func92 hlN (ai5 (std 0))
noncomputable def Mk:=Tg.c
def alO:=λa=>(Tg.cs (abN a)).1
def alP:=λa=>(Tg.cs (abN a)).2
def ZP:=mk Tryz.func58 (hlC wG.ok (hlC Tg.ok hlN)) (ai6 (std 0) dB Mk)
noncomputable def Mq:=ZP.c
def zf:=λop a b=>ZP.cs (ajn Fp Fq alO alP op a b)
def alQ:=λop a b=>(zf op a b).1
def alR:=λop a b=>(zf op a b).2
def Ti:=mk Tryz.func59 hlN (ai7 (std 0))
noncomputable def Ml:=Ti.c
def alS:=λpc sv lt wt ha ins ct regs mem outs h=>(Ti.cs (ab4 pc sv lt wt ha ins ct regs mem outs h)).1
def alT:=λpc sv lt wt ha ins ct regs mem outs h=>(Ti.cs (ab4 pc sv lt wt ha ins ct regs mem outs h)).2
def ZQ:=mk Tryz.func60 (hlC wG.ok hlN) (ai8 (std 0) dB)
noncomputable def Mr:=ZQ.c
def wH:=λr a b=>ZQ.cs (ajG Fp Fq r a b)
def alU:=λr a b=>(wH r a b).1
def alV:=λr a b=>(wH r a b).2
def ZR:=mk Tryz.func36 (hlC Ti.ok (hlC ZP.ok (hlC ZQ.ok (hlC jE.ok hlN)))) (ai9 (std 0) Ml Mq Mr aU)
noncomputable def Ms:=ZR.c
def l8:=λb m hb hm hs ho=>ZR.cs (aj6 alS alT alQ alR alU alV jF jG b m hb hm hs ho)
def alW:=λb m hb hm hs ho=>(l8 b m hb hm hs ho).1
def alX:=λb m hb hm hs ho=>(l8 b m hb hm hs ho).2
def ZT:=mk Tryz.func10 (hlC ZR.ok (hlC ZL.ok (hlC ZO.ok (hlC ZN.ok hlN)))) (aja (std 0) Ms Mt Mv Mw)
noncomputable def MI:=ZT.c
def zh:=λb m hb hs ho=>ZT.cs (aj7 alW alX alE alF alM alN alI alJ b m hb hs ho)
def alY:=λb m hb hs ho=>(zh b m hb hs ho).1
def alZ:=λb m hb hs ho=>(zh b m hb hs ho).2
def afX:=mk Tryz.func42 (hlC jE.ok (hlC NG.ok hlN)) (am4 (std 0) aU vU)
noncomputable def X9:=afX.c
def zi:=λi=>afX.cs (ani jF jG acN acO i)
def anA:=λi=>(zi i).1
def anB:=λi=>(zi i).2
end Go.TX.F
namespace Go.TX.F
open Go Go.AE Go.TX Go.TX.Seat Go.Proofs
set_option maxRecDepth 100000
def afY:=mk Tryz.func43 (hlC jE.ok hlN) (am5 (std 0) aU)
noncomputable def X8:=afY.c
def uw:=λa=>afY.cs (anj jF jG a)
def anC:=λa=>(uw a).1
def anD:=λa=>(uw a).2
def afZ:=mk Tryz.func15 (hlC afY.ok (hlC afX.ok (hlC jE.ok hlN))) (am6 (std 0) X8 X9 aU)
noncomputable def Ya:=afZ.c
def zk:=λpc l hl=>afZ.cs (ank anC anD anA anB jF jG pc l hl)
def anE:=λpc l hl=>(zk pc l hl).1
def anF:=λpc l hl=>(zk pc l hl).2
def ZU:=mk Tryz.func93 (hlC jE.ok hlN) (ajb (std 0) aU)
noncomputable def Mx:=ZU.c
def ny:=λo=>ZU.cs (ajA jF jG o)
def acR:=λo=>(ny o).1
def acS:=λo=>(ny o).2
def BA:=mk Tryz.func62 (hlC ZU.ok hlN) (ajc (std 0) Mx)
noncomputable def fV:=BA.c
def zl:=λkd x y k a1 a2 a3 a4 a5 a6 a ops h=>(BA.cs (ab6 acR acS kd x y k a1 a2 a3 a4 a5 a6 a ops h)).1
def zm:=λkd x y k a1 a2 a3 a4 a5 a6 a ops h=>(BA.cs (ab6 acR acS kd x y k a1 a2 a3 a4 a5 a6 a ops h)).2
def Tj:=mk Tryz.func61 (hlC BA.ok hlN) (ajd (std 0) fV)
noncomputable def ME:=Tj.c
def al0:=λv i a1 a2 a3 a4 a5 a6 a ops h=>(Tj.cs (acd zl zm v i a1 a2 a3 a4 a5 a6 a ops h)).1
def al1:=λv i a1 a2 a3 a4 a5 a6 a ops h=>(Tj.cs (acd zl zm v i a1 a2 a3 a4 a5 a6 a ops h)).2
def Tk:=mk Tryz.func63 (hlC BA.ok hlN) (aje (std 0) fV)
noncomputable def MF:=Tk.c
def al2:=λk a1 a2 a3 a4 a5 a6 a ops h=>(Tk.cs (ab7 zl zm k a1 a2 a3 a4 a5 a6 a ops h)).1
def al3:=λk a1 a2 a3 a4 a5 a6 a ops h=>(Tk.cs (ab7 zl zm k a1 a2 a3 a4 a5 a6 a ops h)).2
def Tm:=mk Tryz.func64 (hlC BA.ok hlN) (ajf (std 0) fV)
noncomputable def MC:=Tm.c
def al4:=λk a1 a2 a3 a4 a5 a6 a ops h=>(Tm.cs (ab8 zl zm k a1 a2 a3 a4 a5 a6 a ops h)).1
def al5:=λk a1 a2 a3 a4 a5 a6 a ops h=>(Tm.cs (ab8 zl zm k a1 a2 a3 a4 a5 a6 a ops h)).2
def Tn:=mk Tryz.func65 (hlC BA.ok hlN) (ajg (std 0) fV)
noncomputable def MB:=Tn.c
def al6:=λop x y a1 a2 a3 a4 a5 a6 a ops h=>(Tn.cs (ab9 zl zm op x y a1 a2 a3 a4 a5 a6 a ops h)).1
def al7:=λop x y a1 a2 a3 a4 a5 a6 a ops h=>(Tn.cs (ab9 zl zm op x y a1 a2 a3 a4 a5 a6 a ops h)).2
def ZV:=mk Tryz.func37 (hlC Tn.ok (hlC Tm.ok (hlC Tj.ok (hlC BA.ok (hlC Tk.ok hlN))))) (ajh (std 0) MB MC ME fV MF)
noncomputable def MG:=ZV.c
def kH:=λi B a h h8 h0=>ZV.cs (aj9 al6 al7 al4 al5 al0 al1 zl zm al2 al3 i B a h h8 h0)
def al8:=λi B a h h8 h0=>(kH i B a h h8 h0).1
def al9:=λi B a h h8 h0=>(kH i B a h h8 h0).2
def abj:=mk Tryz.func38 hlN (am7 (std 0))
noncomputable def Yb:=abj.c
def anG:=λb hb=>(abj.cs (ajW b hb)).1
def anH:=λb hb=>(abj.cs (ajW b hb)).2
def af0:=mk Tryz.func11 (hlC afZ.ok (hlC abj.ok (hlC ZV.ok hlN))) (am8 (std 0) Ya Yb MG)
noncomputable def Yc:=af0.c
def qM:=λpc l hl=>af0.cs (anl anE anF anG anH al8 al9 pc l hl)
def anI:=λpc l hl=>(qM pc l hl).1
def anJ:=λpc l hl=>(qM pc l hl).2
def Tp:=mk Tryz.func39 hlN (aji (std 0))
noncomputable def MH:=Tp.c
def ama:=λa b ha=>(Tp.cs (abP a b ha)).1
def amb:=λa b ha=>(Tp.cs (abP a b ha)).2
def ZW:=mk Tryz.func12 (hlC Tp.ok hlN) (ajj (std 0) MH)
noncomputable def MJ:=ZW.c
def wI:=λa b h=>ZW.cs (aj1 ama amb a b h)
def amc:=λa b h=>(wI a b h).1
def amd:=λa b h=>(wI a b h).2
def acT:=mk Tryz.func3 (hlC af0.ok (hlC ZT.ok (hlC ZW.ok (hlC ZH.ok (hlC Sz.ok (hlC Y9.ok (hlC ZG.ok (hlC Ny.ok hlN)))))))) (ajk (std 0) Yc MI MJ MK vG ML MN lZ)
def oV:=λc d hc hd=>acT.cs (akd anI anJ alY alZ amc amd als alu acj akG akH alq alr Zl c d hc hd)
def ame:=λc d hc hd=>(oV c d hc hd).1
def amf:=λc d hc hd=>(oV c d hc hd).2
end Go.TX.F
namespace Go.Proofs.YtomdenodojmcgaaGreatDoor
open Go.ChangeShapes Go.WideShapes Go.ChangeAt Go.RowKit
theorem anK:ownKnob Tryz.prog.godebug=Option.none:=by kernel_rfl
theorem ZX:laidOutB Tryz.prog=true:=by kernel_rfl
theorem ZY:Tryz.prog.cellsOf 5=1:=by kernel_rfl
abbrev NH:List (String×DataW Unit):=Rows.fnBlkJoinRow.laid
theorem af2:Tryz.prog.globalNamed (Rows.fnBlkJoinRow.named.getD 0 Rows.fnBlkJoinRow.func)=some 0:=by kernel_rfl
theorem af3:(Tryz.prog.globals[0]?).map (·.type)=some 97:=by kernel_rfl
theorem Z0 (os:Os) (args:Array Value):laidMetH Tryz.prog NH ((World.doorLaid Tryz.prog 400 os).forCall (λ_ _=>0) ⟨#[],args,[]⟩).memory:=
 laidMetH_of_parts3 (fuel:=8) (laidMet_of_run' 8 (by kernel_rfl) (by kernel_rfl)) (by kernel_rfl) (by kernel_rfl)
theorem abk {W:World} (h:laidMetH Tryz.prog NH W):Go.AE.nC Go.TX.Seat.E (Go.TX.entry W) W:=by
 rw [MakeChecks.laidMetH_plain _ _ _ (by kernel_rfl)]at h
 obtain⟨ps,⟨g0,t0,cs0,f0,p0,q0,hg0,ht0,hv0,hd0,_,_⟩,_⟩:=h
 obtain rfl:=Option.some.inj (af2.symm.trans hg0)
 obtain rfl:=Option.some.inj (af3.symm.trans ht0)
 obtain⟨v,e,r⟩:=Go.TX.ace (c:= .form) (dec:=Go.TX.akA) Tryz.underlying97 (by kernel_rfl) (by decide) (Go.TX.abg Tryz.underlying96 (by kernel_rfl) ⟨rfl,rfl,rfl,rfl⟩ ⟨rfl,rfl,rfl,rfl⟩ Tryz.underlying4 Tryz.underlying3 Tryz.underlying94 Tryz.underlying9 ⟨by kernel_rfl,by kernel_rfl,by kernel_rfl,by kernel_rfl⟩) hd0
 have hc:=World.var?_cell hg0 hv0 0
 rw [Array.eq_one_of_toList e]at hc
 have hc:W.cell? ⟨0,0,none⟩=some v:=by simpa using hc
 intro g d hg
 have hg':(if g==0 then some (.rows 4 (Go.TX.aH .form Go.TX.rR))else none)=some d:=hg
 split at hg'
 ·rename_i c
  have c:=beq_iff_eq.1 c
  subst c
  cases hg'
  exact⟨Go.TX.Sq hc,v,hc,r⟩
 ·cases hg'
set_option maxRecDepth 100000 in
theorem lifted (os:Os) (started:os.Started) (H:Type) (enc:TypeId×Value->H):
  ReturnsInHanded {} Tryz.checked os 3 .any (λw args=>(Rows.fnBlkJoinSpec.pre enc Tryz.prog Tryz.f3 [] false w args/\laidMetH Tryz.prog NH w)/\sizedMet enc Tryz.prog Tryz.f3 (OpenSpec.ofChange Rows.fnBlkJoinSpec) false w args) (Rows.fnBlkJoinSpec.post enc Tryz.prog Tryz.f3 false true false false):=by
 refine returnsInHanded_of_change_and (C:=Tryz.checked) (X:=λw _=>laidMetH Tryz.prog NH w) (λ_ _ _ hh h=>h.of_heap hh) anK started (by kernel_rfl) Tryz.func3
  (ChangeSpec.witness_shaped (enc:=enc) (C:=Tryz.checked) (os:=os) (X:=λw _=>laidMetH Tryz.prog NH w) false (World.doorLaid Tryz.prog 400 os) #[.slice none 0 0,.slice none 0 0] 8 rfl (World.shaped_of_RefB (by kernel_rfl) (by kernel_rfl)) (by kernel_rfl) (by kernel_rfl) (by kernel_rfl) (Z0 os _)) ?_
 intro W base args ds gs before hval0 hW _ _ hL _
 have hval:∀(j:Nat) t v,Tryz.f3.params[j]? =some t->args[j]? =some v->Value.okWide Tryz.prog W .any base t v:=hval0
 have hW':=hW
 obtain⟨p,q,hA0,hV,rfl,_,_⟩:=hW
 have hA:DataW.TrodAll enc Tryz.prog W 0 (λ_=>true) true Tryz.f3.params.toList args.toList ds p:=hA0
 rw [Tryz.params3]at hA hval
 obtain⟨v0,v1,d0,d1,p0,p1,rfl,rfl,rfl,h0,h1⟩:=trodAll_two hA
 obtain⟨_,_,_,_,g0,_,rfl,_,_,_,_,_⟩:=trodVars_one hV
 clear hA0 hval0
 have hlt:∀x∈p0++p1,x.block<W.heap.size:=λx hx=>by simpa using hW'.lt x (List.mem_append_left _ hx)
 have hl0:∀x∈p0,x.block<W.heap.size:=λx hx=>hlt x (List.mem_append_left _ hx)
 have hl1:∀x∈p1,x.block<W.heap.size:=λx hx=>hlt x (List.mem_append_right _ hx)
 obtain⟨xs,hr,hb⟩:=Go.TX.Ns Tryz.underlying22 Tryz.underlying5 ZY (hval 0 22 v0 rfl rfl) h0 hl0
 obtain⟨ys,hs,hc⟩:=Go.TX.Ns Tryz.underlying22 Tryz.underlying5 ZY (hval 1 22 v1 rfl rfl) h1 hl1
 have hp:=Go.TX.F.ame xs ys hb hc
 have hq:=Go.TX.F.amf xs ys hb hc
 refine(Go.TX.anr Go.TX.F.acT.ok hr hs (abk hL) hp).mono λe W' ⟨he,hw⟩=> ?_
 have he:e= .returned (.bool true):=he.trans (congrArg (λz:Bool×Unit=>Ending.returned (.bool z.1)) hq)
 refine⟨_,he,[d0,d1],[g0],(p0++p1)++q,[],p0++p1,q,hW',trodAll_mk1 (shut_bool Tryz.underlying4 true),?_,hw.trodVars ZX (by kernel_rfl) hV,hw.frame _,λh=>by cases h⟩
 exact trodAll_mk2 (Below.trod ZX (by kernel_rfl) (of_decide_eq_true (by kernel_rfl)) h0 hw hl0) (Below.trod ZX (by kernel_rfl) (of_decide_eq_true (by kernel_rfl)) h1 hw hl1)
theorem y1:Tryz.pinned.checked.prog.funcNamed Rows.fnBlkJoinRow.func=some 3:=by kernel_rfl
theorem aS {a b:Bool} (h:a=true) (k:b=true):(a&&b)=true:=by rw [h,k];rfl
set_option maxHeartbeats 4000000 in
theorem y2:joinedFacts Tryz.pinned.checked.prog 3 Tryz.f3 Rows.fnBlkJoinSpec Rows.fnBlkJoinRow=true:=by
 unfold joinedFacts
 repeat' with_reducible apply aS
 all_goals (as_aux_lemma=>kernel_rfl)
theorem y3:Func.isWrapper Tryz.prog Tryz.f3 Rows.fnBlkJoinRow.wrapper Rows.fnBlkJoinRow.mainSum:=(by unfold Func.isWrapper;first | (rw [if_pos (by decide+kernel)];kernel_rfl) | (rw [if_neg (by decide+kernel)];exact⟨rfl,rfl⟩))
theorem Uu:Rows.FnBlkJoinSaid:=
 OpenClaim.holds_of_wide 3 Tryz.f3 rfl rfl rfl rfl rfl rfl rfl ⟨rfl,rfl,rfl,rfl,rfl⟩ rfl rfl rfl rfl rfl y1 Tryz.func3 y2
  (of_decide_eq_true (by kernel_rfl)) y3
  (λos started H enc _=>lifted os started H enc)
theorem x_holds:Rows.FnBlkJoinCardSaid:=
 Claim7.holds_tied_plain_at .later [] [.widerDeep] true (true, "3890f5ec9a84ff03a9cac87f8a5a0191030c45f0fe960d1215d6eea77a5f3452") false Uu (λ_ h=>by cases h) (by kernel_rfl) (λ_ h=>by cases h) fnBlkJoin_row_tie rfl ⟨rfl,rfl⟩ (by kernel_rfl) rfl
  (λf fn hf hfn=>by
   obtain rfl:f=3:=Option.some.inj ((show Tryz.prog.funcNamed Rows.fnBlkJoinRow.func=some 3 by kernel_rfl).symm.trans hf) |>.symm
   obtain rfl:fn=Tryz.f3:=(Option.some.inj (Tryz.func3.symm.trans hfn)).symm
   refine⟨by kernel_rfl,λj t ht=> ?_⟩
   rw [Tryz.params3]at ht
   have h3:t=22:=by
    rcases j with _ | _ | j<;>simp at ht<;>first | exact ht.symm | exact ht
   subst h3
   exact(show Tryz.prog.wantsStandIn 22=false by kernel_rfl))
  (by kernel_rfl)
end Go.Proofs.YtomdenodojmcgaaGreatDoor
