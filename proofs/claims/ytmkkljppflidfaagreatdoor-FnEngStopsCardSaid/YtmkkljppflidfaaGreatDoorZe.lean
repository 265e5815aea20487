/- Part 5 of a proof: what the last part needs. No condition. -/
import Derived.Test.YtmkkljppflidfaaGreatDoorZd
import Derived.ChangeSlices
import Derived.ChangeSame
import Derived.JoinedOf
import Derived.JoinedAt
import Derived.Handed
import Derived.Below
import Derived.Carry
import Derived.OpenShut
import Derived.ChangeKeysEq
import Derived.Deep.Slices
import Derived.OpenVars
import Derived.LaidMore
import Derived.MakeChecks
import Derived.Test.YtmkkljppflidfaaGreatDoorY
set_option maxHeartbeats 1000000
set_option linter.all false
set_option linter.unusedSectionVars false
set_option linter.unusedVariables false
set_option linter.unusedSimpArgs false
namespace Go.TX.F
open Go Go.AE Go.TX List
variable{l:List Ins}
def Mid(i:Ins):Prop:=bF i/\i.op≠0/\¬(11<=i.op/\i.op<=13)
def ai9{n:Int}{b:Blk}{i:Ins}(h:Mid i):dR n b i={b with ops:=b.ops++gM n b.ops.length i}:=by
 obtain⟨_,_,a⟩:=h;unfold dR;rw [if_neg ah,if_neg ah]
def Tk:∀(r:List Ins) (n:Int) (b:Blk),(∀i∈r,Mid i)->OKS b.ops b.len->0<=n->n+r.length<=b.len->OKS (pO n b r).ops b.len/\pO n b r={b with ops:=(pO n b r).ops}
 | [],n,b,_,h,_,_=>⟨h,rfl⟩
 | i::r,n,b,hr,h,h0,h1=>by
  have a:=hr i (mem_cons_self ..);simp only [length_cons]at h1;have k:=acZ (n:=n) h a.1 a.2.1 ⟨h0,ah⟩;have e:=ai9 (n:=n) (b:=b) a;show OKS (pO (n+1) (dR n b i) r).ops b.len/\pO (n+1) (dR n b i) r={b with ops:=(pO (n+1) (dR n b i) r).ops};have c:=Tk r (n+1) (dR n b i) (λj d=>hr j (mem_cons_of_mem _ d)) (by rw [e];exact k.1) ah (by rw [e];dsimp only;omega);rw [e]at c ⊢;exact c
def aja(n:Int)(b:Blk)(i:Ins):(dR n b i).ops=b.ops++gM n b.ops.length i:=by
 unfold dR;split
 .rfl
 split<;>rfl
def aen{k:Int}(h:nC k l):∃r i,l=r++ [i]/\(∀j∈r,Mid j)/\bF i/\i.op≠0:=by
 have f:=h.ln;rcases eq_nil_or_concat l with e | ⟨r,i,e⟩
 .subst e;simp at f
 rw [concat_eq_append]at e;subst e;refine⟨r,i,rfl,λj d=> ?_,?_,?_⟩
 .obtain⟨t,ht,rfl⟩:=getElem_of_mem d;have:=h.ok t (by rw [length_append];omega);rw [getD_eq_getElem?_getD,getElem?_append_left ht,getElem?_eq_getElem ht]at this;obtain⟨a,b,c⟩:=this;refine⟨a,b,λg=> ?_⟩;have:=c g;rw [length_append,length_singleton]at this;omega
 .have:=h.ok r.length (by rw [length_append,length_singleton];omega);rw [getD_eq_getElem?_getD,getElem?_append_right (Nat.le_refl _),Nat.sub_self]at this;exact this.1
 .have:=h.ok r.length (by rw [length_append,length_singleton];omega);rw [getD_eq_getElem?_getD,getElem?_append_right (Nat.le_refl _),Nat.sub_self]at this;exact this.2.1
theorem jB{a:Int}(h:nC a l):bQ (lower a l):=by
 have G:=h.ln;have C:=h.pc;have p:lower a l=pO 0 (wI a l) l:=by unfold lower;rw [aI h,if_pos rfl]
 have x:=D6 l 0 (wI a l);obtain⟨r,i,e,z,o,t⟩:=aen h;have D:l.length=r.length+1:=by rw [e,length_append,length_singleton]
 have w:OKS (wI a l).ops (wI a l).len:=λj q m=>absurd m (by show¬j< ((0:Nat):Int);omega)
 obtain⟨B,k⟩:=Tk r 0 (wI a l) z w ah (by show 0+(r.length:Int)<=(l.length:Int);omega);have f:lower a l=dR r.length (pO 0 (wI a l) r) i:=by
  rw [p]
  conv=>lhs;rw [e]
  rw [AZ,<-e];simp
 obtain⟨s,A,u⟩:=acZ (n:=r.length) B o t ⟨ah,by show(r.length:Int)< (l.length:Int);omega⟩;have y:=aja r.length (pO 0 (wI a l) r) i;rw [<-p]at x;generalize H:(pO 0 (wI a l) r).ops=b at*;have z0:(wI a l).ops.length=0:=rfl;have F:(lower a l).pc=a/\(lower a l).len=l.length:=by
  rw [f,k];unfold dR;split
  .exact⟨rfl,rfl⟩
  split<;>exact⟨rfl,rfl⟩
 have O:(lower a l).ops=b++gM r.length b.length i:=by rw [f];exact y
 refine⟨by rw [F.2];omega,by rw [F.1,F.2];omega,ah,?_,?_⟩
 .rw [O,F.2];exact λj q m=>s j q m
 .by_cases c:i.op=11\/i.op=12
  .obtain⟨v1,v2⟩:=A c;have E:lower a l=⟨a,l.length,b++gM r.length b.length i,i.op-8,b.length,b.length+1,i.k⟩:=by rw [f,k];unfold dR;rw [if_pos c];rfl
   have v:=o.2.2.2.2.2.2.2.2.2.1;rw [E];refine⟨by dsimp only;omega,λ_=>v1,λg=>by dsimp only at g;omega,λ_=>v2,λg=>by dsimp only at g;omega,λ_=> ?_,λg=>by dsimp only at g;omega⟩;have:=o.2.2.2.1;have:=v ah;dsimp only;omega
  by_cases d:i.op=13
  .have v1:=u d;have E:lower a l=⟨a,l.length,b++gM r.length b.length i,2,b.length,0,0⟩:=by rw [f,k];unfold dR;rw [if_neg c,if_pos d];rfl
   rw [E];exact⟨by dsimp only;omega,λ_=>v1,λg=>by dsimp only at g;omega,λg=>by dsimp only at g;omega,λ_=>rfl,λg=>absurd rfl g,λ_=>rfl⟩
  .have E:lower a l=⟨a,l.length,b++gM r.length b.length i,1,0,0,a+l.length⟩:=by rw [f,k];unfold dR;rw [if_neg c,if_neg d];rfl
   rw [E];exact⟨by dsimp only;omega,λg=>absurd rfl g,λ_=>rfl,λg=>by dsimp only at g;omega,λ_=>rfl,λ_=>by dsimp only;omega,λg=>by dsimp only at g;omega⟩
end Go.TX.F
namespace Go.TX.F
open Go Go.AE Go.TX List
def ate{m:aD}(h:MOK m){i:Ins}(e:bF i):MOK (eff m i):=by
 obtain⟨⟨s,n⟩,⟨o,l⟩,⟨r,t⟩,c,k,b,q,g,u,p,d,f⟩:=e;have a:∀(j:Nat) (v:Int),Wo v->MOK {m with regs:=m.regs.set j v}:=λj v w=> {h with r4:=by rw [length_set];exact h.r4,rw:=h.rw.set w j}
 unfold eff;split
 .exact a _ _ ⟨c,by have:=b ‹_›;omega⟩
 split
 .exact a _ _ (h.rw.at _)
 split
 .exact a _ _ (by unfold Wo;omega)
 split
 .exact a _ _ (h.mw.at _)
 split
 .exact {h with m64:=by rw [length_set];exact h.m64,mw:=h.mw.set (h.rw.at _) _}
 split
 .exact {h with ow:=h.ow.snoc (h.rw.at _)}
 split
 .exact {a i.d.toNat (m.ins.getD 0 default) h.iw.hd with iw:=h.iw.drop 1}
 split
 .split
  .exact {h with ha:=⟨show(0:Int)<=1 by decide,show(1:Int)<=4 by decide⟩}
  split
  .exact {h with}
  .exact {h with}
 split
 .exact h
 .exact a _ _ (DT _ _ _)
abbrev upd(m:aD)(u v:Int):aD:={m with count:=u,pc:=v}
def atf{a:Int}{l:List Ins}(h:nC a l):(lower a l).pc=a/\(lower a l).len=l.length:=by
 have k:∀(c:List Ins) (n:Int) (b:Blk),(pO n b c).pc=b.pc/\(pO n b c).len=b.len:=by
  intro c
  induction c with
  | nil=>exact λ_ _=>⟨rfl,rfl⟩
  | cons i r d=>
   intro n b;have e:(dR n b i).pc=b.pc/\(dR n b i).len=b.len:=by
    unfold dR;split
    .exact⟨rfl,rfl⟩
    split<;>exact⟨rfl,rfl⟩
   exact⟨(d (n+1) (dR n b i)).1.trans e.1,(d (n+1) (dR n b i)).2.trans e.2⟩
 unfold lower;rw [aI h,if_pos rfl];exact k l 0 (wI a l)
abbrev ajb(c:l6->Bool)(b:l6->bf):Prop:=∀a l,l.length<1000000000->c (a,l,())=true/\b (a,l,())=bk7 (lower a l)
abbrev ayz(d:aD×aAP->Bool)(c:aD×aAP->fA):Prop:=∀a b,MSh a->d (a,b,())=true/\c (a,b,())=(bp (a=b),())
def atg{p1 f1}(c:Y9 p1 f1)(l:List Int)(h:l.length<1000000000):VJ.F (p1,f1,()) (l,()) (λy=>y=(bp (Wos l),())):=by
 dsimp only [VJ,gm];simp (disch:=omega) only [RR];refine ay (λ(y:eG)=>y.1=l/\0<=y.2.1/\y.2.1<=l.length/\Wos (l.take y.2.1.toNat)) (λy=>(l.length-y.2.1).toNat) ⟨rfl,by simp,by simp,by intro n hn;cases hn⟩ ?_;rintro⟨(l:List Int),(i:Int),⟨⟩⟩ hI;dsimp only at hI ⊢;obtain⟨rfl,b,d,a⟩:=hI;simp (disch:=omega) only [RR,c,bB,jJ];refine⟨λg=>⟨b,g,λe=> ?_,λe=>⟨⟨ah,ah,?_⟩,ah⟩⟩,λg=> ?_⟩
 .rw [aT];intro v;exact e (v _ (bV b g))
 .rw [show(i+1).toNat=i.toNat+1 by omega];intro n hn;rw [take_succ_eq_append_getElem ah,mem_append,mem_singleton]at hn;rcases hn with hn | rfl
  .exact a n hn
  .rw [getD_lt ah]at e;exact e
 .rw [take_of_length_le ah]at a;rw [aI a]
def ath{p1 f1 p2 f2 p3 f3}(c:Y9 p1 f1)(f:Y1 p2 f2)(a:as3 p3 f3)(m:aD)(h:MSh m):V5.F (p1,f1,p2,f2,p3,f3,()) (m,()) (λy=>y=(bp (MOK m),())):=by
 obtain⟨d,e,g,b⟩:=h;dsimp only [V5,gm];simp (disch:=omega) only [RR,MRB,c,f,a _ d,a _ e,a _ g,a _ b,zy,nU];simp only [<-fH];refine Prod.ext (ig ⟨λh=> ?_,λh=> ?_⟩) rfl
 .obtain⟨⟨⟨⟨⟨⟨⟨⟨⟨h1,h2⟩,h3⟩,h4⟩,h5⟩,h6⟩,h7⟩,h8⟩,h9⟩,h10⟩:=h;exact⟨ah,h2,ah,h5,h3,h6,h8,h9,h7,h10⟩
 .exact⟨⟨⟨⟨⟨⟨⟨⟨⟨by have:=h.r4;omega,h.rw⟩,h.pc⟩,by have:=h.m64;omega⟩,h.mw⟩,h.sv⟩,h.ha⟩,h.iw⟩,h.ow⟩,h.ct⟩
variable{m:aD}{i:Ins}
def ati(m:aD)(h:MSh m):V6.F () (m,()) (λy=>y=m10 m):=by
 obtain⟨b,c,d,a⟩:=h;dsimp only [V6,gm];simp (disch:=omega) only [RR,MRB,nil_append,length_nil];exact⟨ah,ah,ah,ah⟩
def atj(m:aD)(h:Int):Wh.F () (m.pc,m.save,m.aR,m.waits,m.halt,m.ins,m.count,h,m.regs,m.mem,m.outs,()) (λy=>y=mB {m with halt:=h}):=by
 dsimp only [Wh,gm]
def atl{p1 f1}(a:Y10 p1 f1)(m:aD)(n:Int)(h:0<=m.count/\m.count<=1000000):Wm.F (p1,f1,()) (m.pc,m.save,m.aR,m.waits,m.halt,m.ins,m.count,n,m.regs,m.mem,m.outs,()) (λy=>y=mB {m with pc:=n%65536,count:=m.count+1}):=by
 dsimp only [Wm,gm];simp (disch:=omega) only [RR,a]
abbrev ajc(b:ny->Bool)(a:ny->fE):Prop:=∀(m:aD) (n:Int),(0<=m.count/\m.count<=1000000)->b (m.pc,m.save,m.aR,m.waits,m.halt,m.ins,m.count,n,m.regs,m.mem,m.outs,())=true/\a (m.pc,m.save,m.aR,m.waits,m.halt,m.ins,m.count,n,m.regs,m.mem,m.outs,())=mB {m with pc:=n%65536,count:=m.count+1}
def atm{p1 f1}(e:ajc p1 f1)(m:aD)(d v:Int)(h:MOK m)(b:0<=d)(g:d<=3):Wp.F (p1,f1,()) (m.pc,m.save,m.aR,m.waits,m.halt,m.ins,m.count,d,v,m.regs,m.mem,m.outs,()) (λy=>y=mB {m with regs:=m.regs.set d.toNat v,pc:=(m.pc+1)%65536,count:=m.count+1}):=by
 have a:=h.r4;have c:=h.ct;have f:0<=m.pc/\m.pc<=65535:=h.pc;obtain⟨P,H⟩:=e {m with regs:=m.regs.set d.toNat v} (m.pc+1) c;dsimp only at H P;dsimp only [Wp,gm];simp (disch:=omega) only [RR,H,P,a,b];omega
def dbl(v:Int)(j:Nat):(v*2^j%65536+v*2^j%65536)%65536=v*2^ (j+1)%65536:=by
 rw [Int.pow_succ,<-Int.mul_assoc];omega
def atn{p1 f1}(b:Y10 p1 f1)(v k:Int)(h:Wo v)(c:0<=k)(d:k<=15):Wq.F (p1,f1,()) (v,k,()) (λy=>y=(v*2^k.toNat%65536,())):=by
 dsimp only [Wq,gm];simp (disch:=omega) only [RR];refine ay (λ(y:aAV)=>y.1=k/\0<=y.2.2.1/\y.2.2.1<=k/\y.2.1=v*2^y.2.2.1.toNat%65536) (λy=>(k-y.2.2.1).toNat) ⟨rfl,by simp,c,by have:=h.1;have:=h.2;dsimp only;rw [show Int.toNat 0=0 from rfl,Int.pow_zero];omega⟩ ?_;rintro⟨(z:Int),(a:Int),(i:Int),⟨⟩⟩ hI;dsimp only at hI ⊢;obtain⟨rfl,e,f,rfl⟩:=hI;by_cases g:i<z
 .simp (disch:=omega) only [RR,b,g];exact⟨⟨ah,ah,by rw [show(i+1).toNat=i.toNat+1 by omega];exact dbl v i.toNat⟩,ah⟩
 .simp (disch:=omega) only [RR,b,g];rw [show i=z by omega]
def IR:(∀i:Ins,cO .ins 0 i=i.op)/\(∀i:Ins,cO .ins 1 i=i.d)/\(∀i:Ins,cO .ins 2 i=i.a)/\(∀i:Ins,cO .ins 3 i=i.k):=⟨λ_=>rfl,λ_=>rfl,λ_=>rfl,λ_=>rfl⟩
def ac0{u:aD}(h:exec m i=u):mB u=mB (exec m i):=by rw [h]
def gV(h:¬((i.op=9\/i.op=10)/\64<=adr m i)){u:aD}(e:eff m i=u){n:Int}(f:nxt m i=n):mB {u with pc:=n,count:=m.count+1}=mB (exec m i):=by
 refine ac0 ?_;unfold exec;rw [if_neg h,e,f]
def ef0(e:i.op=0):eff m i=(if i.k=0 then {m with halt:=1}else if i.k=1 then {m with aR:=true}else {m with aR:=decide (i.k=2)}):=by
 unfold eff;(iterate 7 rw [if_neg ah]);rw [if_pos e]
def ef1(e:i.op=1):eff m i={m with regs:=m.regs.set i.d.toNat i.k}:=by unfold eff;rw [if_pos e]
def ef2(e:i.op=2):eff m i={m with regs:=m.regs.set i.d.toNat ((m.regs).getD (i.a).toNat default)}:=by unfold eff;rw [if_neg ah,if_pos e]
def ef8(e:i.op=8):eff m i={m with regs:=m.regs.set i.d.toNat (((m.regs).getD (i.a).toNat default)*2^i.k.toNat%65536)}:=by unfold eff;(iterate 2 rw [if_neg ah]);rw [if_pos e]
def ef9(e:i.op=9):eff m i={m with regs:=m.regs.set i.d.toNat ((m.mem).getD (adr m i).toNat default)}:=by unfold eff;(iterate 3 rw [if_neg ah]);rw [if_pos e]
def ayA(e:i.op=10):eff m i={m with mem:=m.mem.set (adr m i).toNat ((m.regs).getD (i.d).toNat default)}:=by unfold eff;(iterate 4 rw [if_neg ah]);rw [if_pos e]
def ayB(e:i.op=14):eff m i={m with outs:=m.outs++ [((m.regs).getD (i.d).toNat default)]}:=by unfold eff;(iterate 5 rw [if_neg ah]);rw [if_pos e]
def ato(e:i.op=15):eff m i={m with regs:=m.regs.set i.d.toNat (m.ins.getD 0 default),ins:=m.ins.drop 1}:=by unfold eff;(iterate 6 rw [if_neg ah]);rw [if_pos e]
def efj(e:11<=i.op/\i.op<=13):eff m i=m:=by unfold eff;(iterate 8 rw [if_neg ah]);rw [if_pos ah]
def efd(e:3<=i.op/\i.op<=7):eff m i={m with regs:=m.regs.set i.d.toNat (wdo (i.op-2) ((m.regs).getD (i.a).toNat default) ((m.regs).getD (i.k).toNat default))}:=by unfold eff;(iterate 9 rw [if_neg ah])
def nxp(h:(i.op=0->i.k≠1)/\¬(11<=i.op/\i.op<=13)):nxt m i=(m.pc+1)%65536:=by unfold nxt;rw [if_neg (λq=>h.1 q.1 q.2),if_neg (λq=>h.2 ah),if_neg ah]
def n9(h:¬(i.op=9\/i.op=10)):¬((i.op=9\/i.op=10)/\64<=adr m i):=λq=>h q.1
abbrev atp(b:ny->Bool)(a:ny->fE):Prop:=∀(m:aD) (h:Int),b (m.pc,m.save,m.aR,m.waits,m.halt,m.ins,m.count,h,m.regs,m.mem,m.outs,())=true/\a (m.pc,m.save,m.aR,m.waits,m.halt,m.ins,m.count,h,m.regs,m.mem,m.outs,())=mB {m with halt:=h}
abbrev atq(b:aBo->Bool)(a:aBo->fE):Prop:=∀(m:aD) (d v:Int),MOK m->0<=d->d<=3->b (m.pc,m.save,m.aR,m.waits,m.halt,m.ins,m.count,d,v,m.regs,m.mem,m.outs,())=true/\a (m.pc,m.save,m.aR,m.waits,m.halt,m.ins,m.count,d,v,m.regs,m.mem,m.outs,())=mB {m with regs:=m.regs.set d.toNat v,pc:=(m.pc+1)%65536,count:=m.count+1}
theorem atr{p1 f1 p2 f2 p3 f3 p4 f4}(A:Y10 p1 f1)(t:atp p2 f2)(k:ajc p3 f3)(l:atq p4 f4)(m:aD)(i:Ins)(h:MOK m)(x:bF i)(j:i.op=9\/i.op=10):Ws.F (p1,f1,p2,f2,p3,f3,p4,f4,()) (m.pc,m.save,m.aR,m.waits,m.halt,m.ins,m.count,i,m.regs,m.mem,m.outs,()) (λy=>y=mB (exec m i)):=by
 obtain⟨_,⟨a,f⟩,⟨z,F⟩,D,_,_,_,_,_,w,_⟩:=x;have C:=w ah;have p:=h.r4;have n:=h.m64;have c:=h.ct;have E:0<=m.pc/\m.pc<=65535:=h.pc;have b:=λmem=>(k {m with mem:=mem} (m.pc+1) c).2
 have d:=λmem=>(k {m with mem:=mem} (m.pc+1) c).1
 dsimp only at b d;have r:=λv=>(l m i.d v h a f).2
 have o:=λv=>(l m i.d v h a f).1
 have G:0<=((m.regs).getD (i.a).toNat default)/\((m.regs).getD (i.a).toNat default)<=65535:=h.rw.at i.a;dsimp only [Ws,gm];simp (disch:=omega) only [RR,IR,A,t,b,d,r,o,p,n,a,z,jw];have s:(((m.regs).getD (i.a).toNat default)+i.k)%65536=adr m i:=rfl;rw [s];have B:0<=adr m i:=by unfold adr;omega
 refine⟨ah,ah,λg=>ac0 (by unfold exec;rw [if_pos ⟨j,g⟩]),λg=>⟨λe=>⟨ah,ah,ah,ah,?_⟩,λe=>⟨ah,ah,ah,ah,ah,ah,?_⟩⟩⟩
 .exact gV (u:={m with regs:=m.regs.set i.d.toNat ((m.mem).getD (adr m i).toNat default)}) (λq=>by omega) (ef9 e) (nxp ah)
 .exact gV (u:={m with mem:=m.mem.set (adr m i).toNat ((m.regs).getD (i.d).toNat default)}) (λq=>by omega) (ayA (j.resolve_left e)) (nxp ah)
def att{p1 f1 p2 f2}(s:ajc p1 f1)(f:atq p2 f2)(m:aD)(i:Ins)(h:MOK m)(C:bF i)(q:i.op=14\/i.op=15)(hn:m.ins.length<1000000000)(F:m.outs.length<900000000):Wt.F (p1,f1,p2,f2,()) (m.pc,m.save,m.aR,m.waits,m.halt,m.ins,m.count,i,m.regs,m.mem,m.outs,()) (λy=>y=mB (exec m i)):=by
 obtain⟨_,⟨b,d⟩,⟨H,I⟩,E,_⟩:=C;have z:=h.r4;have w:=h.m64;have c:=h.ct;have G:0<=m.pc/\m.pc<=65535:=h.pc;have n:=λo=>(s {m with outs:=o} (m.pc+1) c).2
 have p:=λo=>(s {m with outs:=o} (m.pc+1) c).1
 dsimp only at n p;have mk:∀l:List Int,l=m.ins\/l=m.ins.drop 1->MOK {m with ins:=l}:=λl B=> {h with iw:=by rcases B with rfl | rfl;exact h.iw;exact h.iw.drop 1}
 have A:=λv=>(f m i.d v h b d).2
 have x:=λv=>(f m i.d v h b d).1
 have k:=λv=>(f {m with ins:=m.ins.drop 1} i.d v (mk _ (Or.inr rfl)) b d).2
 have t:=λv=>(f {m with ins:=m.ins.drop 1} i.d v (mk _ (Or.inr rfl)) b d).1
 dsimp only at k t;have D:drop (Int.toNat 1) (take (Int.toNat (m.ins.length:Int)) m.ins)=m.ins.drop 1:=by rw [show Int.toNat (m.ins.length:Int)=m.ins.length by omega,take_of_length_le (Nat.le_refl _)];rfl
 dsimp only [Wt,gm];simp (disch:=omega) only [RR,IR,n,p,A,x,k,t,D,z,w,b,length_cons,length_nil,jw];have n9:¬((i.op=9\/i.op=10)/\64<=adr m i):=n9 ah;have j:nxt m i=(m.pc+1)%65536:=nxp ah;refine⟨λe=>⟨ah,ah,ah,?_⟩,λe=>⟨λg=>⟨ah,g,ah,ah,ah,?_⟩,λg=> ?_⟩⟩
 .exact gV (u:={m with outs:=m.outs++ [((m.regs).getD (i.d).toNat default)]}) n9 (ayB e) j
 .exact gV (u:={m with regs:=m.regs.set i.d.toNat (m.ins.getD 0 default),ins:=m.ins.drop 1}) n9 (ato (q.resolve_left e)) j
 .have e0:m.ins=[]:=by
   cases hm:m.ins with
   | nil=>rfl
   | cons a r=>rw [hm]at g;simp only [length_cons]at g;omega
  have:=gV (u:={m with regs:=m.regs.set i.d.toNat (m.ins.getD 0 default),ins:=m.ins.drop 1}) n9 (ato (q.resolve_left e)) j;rw [e0]at this;rw [<-this,e0];rfl
def atu{p1 f1 p2 f2}(t:atp p1 f1)(d:ajc p2 f2)(m:aD)(i:Ins)(h:MOK m)(o:i.op=0):Wn.F (p1,f1,p2,f2,()) (m.pc,m.save,m.aR,m.waits,m.halt,m.ins,m.count,i.k,m.regs,m.mem,m.outs,()) (λy=>i.k<=3->0<=i.k->y=mB (exec m i)):=by
 have c:=h.ct;have x:0<=m.pc/\m.pc<=65535:=h.pc;have z:0<=m.save/\m.save<=65535:=h.sv;obtain⟨r,s⟩:=t m 1;have p:=λb n=>(d {m with aR:=b} n c).2
 have l:=λb n=>(d {m with aR:=b} n c).1
 have g:=λn=>(d {m with halt:=1} n c).2
 have j:=λn=>(d {m with halt:=1} n c).1
 dsimp only at p l g j;have n9:¬((i.op=9\/i.op=10)/\64<=adr m i):=n9 ah;have a:=ef0 (m:=m) o;have f:i.k≠1->nxt m i=(m.pc+1)%65536:=λe=>nxp ⟨λ_=>e,ah⟩
 dsimp only [Wn,gm];simp (disch:=omega) only [RR,s,r,p,l,g,j];refine⟨λe _ _=> ?_,λe=>⟨λk _ _=> ?_,λk=>⟨λq _ _=> ?_,λq v w=> ?_⟩⟩⟩
 .rw [show m.save%65536=m.save by omega];exact gV (u:={m with aR:=true}) n9 (by rw [a,if_neg ah,if_pos e]) (by unfold nxt;rw [if_pos ⟨o,e⟩])
 .exact gV (u:={m with aR:=true}) n9 (by rw [a,if_neg ah,if_neg ah,k];rfl) (f ah)
 .exact gV (u:={m with aR:=false}) n9 (by rw [a,if_neg ah,if_neg ah,q];rfl) (f ah)
 .exact gV (u:={m with halt:=1}) n9 (by rw [a,if_pos ah]) (f ah)
def ac1{a b:Int}(c:Wo a)(d:Wo b):(Kg 1 a b=true↔a=b)/\(Kg 2 a b=true↔a<b):=by
 rw [Qe,Qf,zy,zy,aI (show 0<=a/\a<=65535 from c),aI (show 0<=b/\b<=65535 from d)];simp
def atv{p1 f1 p2 f2 p5 f5}{s:oz->Bool}{K:oz->fE}{t:oz->Bool}{J:oz->fE}{x:ni->Bool}{H:ni->dY}{A:ny->Bool}{B:ny->fE}(W:Y24 p1 f1)(F:ajc p2 f2)(T:∀(m:aD) (i:Ins),MOK m->bF i->(i.op=14\/i.op=15)->m.ins.length<1000000000->m.outs.length<900000000->s (m.pc,m.save,m.aR,m.waits,m.halt,m.ins,m.count,i,m.regs,m.mem,m.outs,())=true/\K (m.pc,m.save,m.aR,m.waits,m.halt,m.ins,m.count,i,m.regs,m.mem,m.outs,())=mB (exec m i))(V:∀(m:aD) (i:Ins),MOK m->bF i->(i.op=9\/i.op=10)->t (m.pc,m.save,m.aR,m.waits,m.halt,m.ins,m.count,i,m.regs,m.mem,m.outs,())=true/\J (m.pc,m.save,m.aR,m.waits,m.halt,m.ins,m.count,i,m.regs,m.mem,m.outs,())=mB (exec m i))(E:atq p5 f5)(Q:∀(v k:Int),Wo v->0<=k->k<=15->x (v,k,())=true/\H (v,k,())=(v*2^k.toNat%65536,()))(w:∀(m:aD) (i:Ins),MOK m->i.op=0->A (m.pc,m.save,m.aR,m.waits,m.halt,m.ins,m.count,i.k,m.regs,m.mem,m.outs,())=true/\(i.k<=3->0<=i.k->B (m.pc,m.save,m.aR,m.waits,m.halt,m.ins,m.count,i.k,m.regs,m.mem,m.outs,())=mB (exec m i)))(m:aD)(i:Ins)(h:MOK m)(I:bF i)(hn:m.ins.length<1000000000)(S:m.outs.length<900000000):Wu.F (p1,f1,p2,f2,s,K,t,J,p5,f5,x,H,A,B,()) (m.pc,m.save,m.aR,m.waits,m.halt,m.ins,m.count,i,m.regs,m.mem,m.outs,()) (λy=>y=mB (exec m i)):=by
 have l:=I;obtain⟨⟨o0,o1⟩,⟨d,C⟩,⟨j,a1⟩,b,P,Z,r2,N,X,G,_⟩:=I;have f:=h.r4;have c:=h.ct;have pw:0<=m.pc/\m.pc<=65535:=h.pc;have r:=h.rw.at i.a;have Y:=h.rw.at i.d;obtain⟨D,L⟩:=ac1 Y r;have O:0<=((m.regs).getD (i.a).toNat default)/\((m.regs).getD (i.a).toNat default)<=65535:=r;have o:=λv=>(E m i.d v h d C).2
 have p:=λv=>(E m i.d v h d C).1
 have U:=λn=>(F m n c).2
 have R:=λn=>(F m n c).1
 dsimp only [Wu,gm];rcases(by omega:i.op=0\/i.op=1\/i.op=2\/(3<=i.op/\i.op<=7)\/i.op=8\/(i.op=9\/i.op=10)\/i.op=11\/i.op=12\/i.op=13\/(i.op=14\/i.op=15))with e | e | e | e | e | e | e | e | e | e
 case inr.inr.inr.inl=>
  have a:∀z:Int,z<3\/7<z->¬i.op=z:=λz g q=>by omega
  have kk:=N e;simp (disch:=omega) only [RR,IR,a 0 ah,a 1 ah,a 2 ah,a 8 ah,a 9 ah,a 10 ah,a 11 ah,a 12 ah,a 13 ah,a 14 ah,a 15 ah,W,o,p,f,d,j,b];refine⟨ah,ah,ah,ah,?_⟩;rw [show i.op-3+1=i.op-2 by omega];exact gV (u:={m with regs:=m.regs.set i.d.toNat (wdo (i.op-2) ((m.regs).getD (i.a).toNat default) ((m.regs).getD (i.k).toNat default))}) (n9 ah) (efd e) (nxp ah)
 case inr.inr.inr.inr.inr.inl=>
  rcases e with e | e<;>simp (disch:=omega) only [RR,IR,e,Int.reduceEq,V m i h l ah,f,d,j,b]
  all_goals exact⟨ah,ah⟩
 case inr.inr.inr.inr.inr.inr.inr.inr.inr=>
  rcases e with e | e<;>simp (disch:=omega) only [RR,IR,e,Int.reduceEq,T m i h l ah hn S,f,d,j,b]
  all_goals exact⟨ah,ah⟩
 case inl=>
  simp (disch:=omega) only [RR,IR,e,Int.reduceEq,(w m i h e).1,f,d,j,b];exact⟨ah,ah,(w m i h e).2 (P e).2.2 b⟩
 case inr.inr.inr.inr.inl=>
  simp (disch:=omega) only [RR,IR,e,Int.reduceEq,Q _ _ r b (X e),o,p,f,d,j,b];exact⟨ah,ah,gV (u:={m with regs:=m.regs.set i.d.toNat (((m.regs).getD (i.a).toNat default)*2^i.k.toNat%65536)}) (n9 ah) (ef8 e) (nxp ah)⟩
 all_goals simp (disch:=omega) only [RR,IR,e,Int.reduceEq,o,p,U,R,f,d,j,b]
 .exact⟨ah,ah,gV (u:={m with regs:=m.regs.set i.d.toNat i.k}) (n9 ah) (ef1 e) (nxp ah)⟩
 .exact⟨ah,ah,gV (u:={m with regs:=m.regs.set i.d.toNat ((m.regs).getD (i.a).toNat default)}) (n9 ah) (ef2 e) (nxp ah)⟩
 .have ef:eff m i=m:=efj ah;have M:=G ah;refine⟨ah,ah,ah,ah,λg=> ?_,λg=> ?_⟩
  .rw [show i.k%65536=i.k by omega];exact gV (u:=m) (n9 ah) ef (by unfold nxt;rw [if_neg ah,if_pos ⟨Or.inl e,by rw [e];exact D.2 g⟩])
  .exact gV (u:=m) (n9 ah) ef (by unfold nxt;rw [if_neg ah,if_neg (λq=>g (D.1 (by have:=q.2;rw [e]at this;exact this))),if_neg ah])
 .have ef:eff m i=m:=efj ah;have M:=G ah;refine⟨ah,ah,ah,ah,λg=> ?_,λg=> ?_⟩
  .rw [show i.k%65536=i.k by omega];exact gV (u:=m) (n9 ah) ef (by unfold nxt;rw [if_neg ah,if_pos ⟨Or.inr e,by rw [e];exact L.2 g⟩])
  .exact gV (u:=m) (n9 ah) ef (by unfold nxt;rw [if_neg ah,if_neg (λq=>g (L.1 (by have:=q.2;rw [e]at this;exact this))),if_neg ah])
 .have ef:eff m i=m:=efj ah;rw [show((m.regs).getD (i.a).toNat default)%65536=((m.regs).getD (i.a).toNat default) by omega];exact⟨ah,ah,gV (u:=m) (n9 ah) ef (by unfold nxt;rw [if_neg ah,if_neg ah,if_pos e];rfl)⟩
def smp(m:aD)(b:Bool):aD:=if(m.waits || b)=true/\m.aR=true then {m with waits:=false,aR:=false,save:=m.pc,pc:=48}else {m with waits:=m.waits || b}
def atw(m:aD)(b:Bool):V9.F () (m.pc,m.save,m.aR,m.waits,m.halt,m.ins,m.count,b,m.regs,m.mem,m.outs,()) (λy=>y=mB (smp m b)):=by
 dsimp only [V9,gm];unfold smp;cases hw:m.waits<;>cases hb:b<;>cases hl:m.aR<;>simp
def atx(l:List Int)(n:Int)(h:l.length<1000000000):V7.F () (l,n,()) (λy=>y=(bp (n∈l),())):=by
 dsimp only [V7,gm];simp (disch:=omega) only [RR];refine ay (λ(y:aAN)=>y.1=l/\y.2.1=n/\0<=y.2.2.1/\y.2.2.1<=l.length/\n∉l.take y.2.2.1.toNat) (λy=>(l.length-y.2.2.1).toNat) ⟨rfl,rfl,by simp,by simp,by simp⟩ ?_;rintro⟨(l:List Int),(n:Int),(i:Int),⟨⟩⟩ hI;dsimp only at hI ⊢;obtain⟨rfl,rfl,b,c,a⟩:=hI;simp (disch:=omega) only [RR];refine⟨λg=>⟨b,g,λe=> ?_,λe=>⟨⟨ah,ah,λq=> ?_⟩,ah⟩⟩,λg=> ?_⟩
 .rw [aI (by rw [<-e];exact bV b g)]
 .rw [show(i+1).toNat=i.toNat+1 by omega,take_succ_eq_append_getElem ah,mem_append,mem_singleton,<-getD_lt (d:=default) (show i.toNat<l.length by omega)]at q;exact q.elim a (λz=>e z.symm)
 .rw [take_of_length_le ah]at a;rw [aT a]
end Go.TX.F
namespace Go.TX.F
open Go Go.AE Go.TX List
def fm(i:Ins):Bool:=if i.op=0 then decide (i.d=0)&&decide (i.a=0)&&decide (i.k<=3)else if i.op=1 then decide (i.a=0)else if i.op=2 then decide (i.k=0)else if 3<=i.op/\i.op<=7 then decide (i.k<4)else if i.op=8 then decide (i.k<16)else if i.op=13 then decide (i.d=0)&&decide (i.k=0)else if i.op=14\/i.op=15 then decide (i.a=0)&&decide (i.k=0)else true
def aAm(b:Bool):bp (b=true)=b:=by
 cases b with
 | true=>exact aI rfl
 | false=>exact aT (by decide)
def aty(i:Ins):(inB i.op 0 15&&inB i.d 0 3&&inB i.a 0 3&&inB i.k 0 255&&fm i)=bp (bF i):=by
 have h:((0<=i.op/\i.op<=15)/\(0<=i.d/\i.d<=3)/\(0<=i.a/\i.a<=3)/\(0<=i.k/\i.k<=255)/\fm i=true)↔bF i:=by
  unfold bF fm;split
  .simp only [Bool.and_eq_true,decide_eq_true_eq];omega
  split
  .simp only [decide_eq_true_eq];omega
  split
  .simp only [decide_eq_true_eq];omega
  split
  .simp only [decide_eq_true_eq];omega
  split
  .simp only [decide_eq_true_eq];omega
  split
  .simp only [Bool.and_eq_true,decide_eq_true_eq];omega
  split
  .simp only [Bool.and_eq_true,decide_eq_true_eq];omega
  .simp only [eq_self,and_true];omega
 rw [<-ig h];simp only [zy,fH,Bool.and_assoc,aAm]
def Kh(i:Ins):VQ.F () (i,()) (λy=>y=(fm i,())):=by
 dsimp only [VQ,gm];rcases(by omega:(i.op=0\/i.op=1\/i.op=2\/i.op=3\/i.op=4\/i.op=5\/i.op=6\/i.op=7\/i.op=8\/i.op=13\/i.op=14\/i.op=15)\/(¬(0<=i.op/\i.op<=8)/\¬(13<=i.op/\i.op<=15)))with(e | e | e | e | e | e | e | e | e | e | e | e) | ⟨n1,n2⟩
 case inr=>
  have n:∀z:Int,(0<=z/\z<=8)\/(13<=z/\z<=15)->¬i.op=z:=λz g q=>by omega
  have a:¬(3<=i.op/\i.op<=7):=λq=>by omega
  simp (disch:=omega) only [RR,IR,n];unfold fm;simp (disch:=omega) only [n,a,if_false,or_self]
 all_goals simp (disch:=omega) only [RR,IR,e,Int.reduceEq]
 all_goals unfold fm
 all_goals simp [e]
def LQ{p1 f1}{b:aAY->Bool}{a:aAY->fA}(c:Y1 p1 f1)(d:∀i,b (i,())=true/\a (i,())=(fm i,()))(i:Ins):VR.F (p1,f1,b,a,()) (i,()) (λy=>y=(bp (bF i),())):=by
 dsimp only [VR,gm];simp (disch:=omega) only [RR,IR,c,d];rw [aty]
noncomputable def tkI (w:Int):Int×Int×Int×Int×fA:=if bp (Wo w/\bF (dI w))=true then((dI w).op,(dI w).d,(dI w).a,(dI w).k,true,())else(0,0,0,0,false,())
theorem atz{p1 f1 p2 f2}(c:aaH p1 f1)(b:Y9 p2 f2)(w:Int):V8.F (p1,f1,p2,f2,()) (w,()) (λy=>y=tkI w):=by
 dsimp only [V8,gm];simp (disch:=omega) only [RR,c,b,zy];by_cases h:Wo w
 .obtain⟨w0,w1⟩:=id h;have e:∀x y z u:Int,Co.mk .ins (x,y,z,u,())=⟨x,y,z,u⟩:=λ_ _ _ _=>rfl
  have q:∀n:Int,0<n->0<=w/n/\w/n<=65535:=λn hn=>⟨Int.ediv_nonneg w0 ah,Int.le_trans (Int.ediv_le_self _ w0) w1⟩
  have d:=q 4096 (by decide);have i:=q 1024 (by decide);have f:=q 256 (by decide);rw [aI (show 0<=w/\w<=65535 from h)];simp (disch:=omega) only [RR,e,Int.tdiv_eq_ediv_of_nonneg,Int.tmod_eq_emod_of_nonneg];have a:(⟨w/4096,w/1024%4,w/256%4,w%256⟩:Ins)=dI w:=rfl;unfold tkI;by_cases k:bF (dI w)
  .rw [a,aI k,aI ⟨h,k⟩];simp;rfl
  .rw [a,aT k,aT (λg=>k g.2)];simp
 .rw [aT (show¬(0<=w/\w<=65535)from h)];unfold tkI;rw [aT (λg=>h g.1)];simp
noncomputable def gN (i:Ins):Int:=if bp (bF i)=true then FD i else 0
def A8(i:Ins):Wo (gN i):=by
 unfold gN;split
 .rename_i h;obtain⟨⟨c,g⟩,⟨a,f⟩,⟨b,d⟩,e,h⟩:=aF.1 h;unfold FD Wo;omega
 .exact wo0
def atA{p1 f1}(a:aaH p1 f1)(i:Ins):VY.F (p1,f1,()) (i,()) (λy=>y=(gN i,())):=by
 dsimp only [VY,gm];simp (disch:=omega) only [RR,IR,a];unfold gN FD;refine⟨λh=>by rw [h];rfl,λh=> ?_⟩;rw [if_pos h];obtain⟨⟨e,k⟩,⟨c,j⟩,⟨d,f⟩,g,h⟩:=aF.1 h;have b:i.k<=255:=by omega
 simp (disch:=omega) only [w64]
abbrev atB(b:aAY->Bool)(a:aAY->dY):Prop:=∀i,b (i,())=true/\a (i,())=(gN i,())
def atC{p1 f1}(b:atB p1 f1)(l:List Ins)(e:l.length<1000000):VZ.F (p1,f1,()) (l,()) (λy=>y=(l.map gN,())):=by
 dsimp only [VZ,gm];simp (disch:=omega) only [RR,length_nil];refine ay (λ(y:List Ins×Int×bn)=>y.1=l/\0<=y.2.1/\y.2.1<=l.length/\y.2.2.1=(l.take y.2.1.toNat).map gN) (λy=>(l.length-y.2.1).toNat) ⟨rfl,by simp,by simp,by simp⟩ ?_;rintro⟨(l:List Ins),(i:Int),(o:List Int),⟨⟩⟩ hI;dsimp only at hI ⊢;obtain⟨rfl,c,f,rfl⟩:=hI;simp (disch:=omega) only [RR,b,length_map,length_cons,length_nil];have g:=length_take_le' i.toNat l;refine⟨λa=>⟨ah,ah,ah,⟨ah,ah,?_⟩,ah⟩,λa=>by rw [take_of_length_le ah]⟩;rw [<-bg (d:=default) c a rfl,map_append];rfl
def atD{l:List Int}(h:Wos l){n:Int}(w:Wo n):Wos (n::l):=λx a=>(mem_cons.1 a).elim (λe=>e▸w) (h x)
noncomputable def kX (w i:List Int):aD:=if bp (w.length<=64/\Wos w/\Wos i)=true then⟨[0,0,0,0],0,w++replicate (64-w.length) 0,0,false,false,0,i,[],0⟩else Ti
def ac2{w i:List Int}(h:w.length<=64)(b:Wos w)(c:Wos i):MOK (kX w i):=by
 unfold kX;rw [aI ⟨h,b,c⟩,if_pos rfl];have z:∀n:Nat,Wos (replicate n 0):=λn x a=>by rw [eq_of_mem_replicate a];exact wo0
 exact⟨rfl,z 4,by show(w++replicate (64-w.length) 0).length=64;rw [length_append,length_replicate];omega,λx a=>(mem_append.1 a).elim (b x) (z _ x),wo0,wo0,c,λx a=>(by cases a),⟨show(0:Int)<=0 by decide,show(0:Int)<=4 by decide⟩,⟨show(0:Int)<=0 by decide,show(0:Int)<=1000000 by decide⟩⟩
def atE{p1 f1}(f:as3 p1 f1)(w i:List Int)(x:w.length<1000000)(z:i.length<1000000):VK.F (p1,f1,()) (w,i,()) (λy=>y=((kX w i).pc,(kX w i).save,(kX w i).aR,(kX w i).waits,(kX w i).halt,(kX w i).count,(kX w i).regs,(kX w i).mem,(kX w i).ins,())):=by
 obtain⟨P,Q⟩:=f w ah;obtain⟨s,p⟩:=f i ah;dsimp only [VK,gm];simp (disch:=omega) only [RR,P,s,Q,p,jw,nil_append,length_nil];by_cases c:w.length<=64/\Wos w/\Wos i
 .have e:kX w i=⟨[0,0,0,0],0,w++replicate (64-w.length) 0,0,false,false,0,i,[],0⟩:=by unfold kX;rw [aI c,if_pos rfl]
  obtain⟨v,n,o⟩:=c;rw [e,aI n,aI o];refine⟨λq=>absurd q (by simp;omega),λ_=>⟨ah,?_⟩⟩;have t:(w++replicate (64-w.length) (0:Int)).length=64:=by rw [length_append,length_replicate];omega
  have a:∀k:Nat,k<64->(w++replicate (64-w.length) (0:Int))[k]? =some (if k<w.length then w.getD k default else 0):=λk hk=>by
   by_cases g:k<w.length
   .rw [if_pos g,getElem?_append_left g,getElem?_eq_getElem g,getD_lt g]
   .rw [if_neg g,getElem?_append_right ah,getElem?_replicate,if_pos ah]
  generalize w++replicate (64-w.length) (0:Int)=M at t a;refine ay (λ(y:List Int×Int×Int×Int×Bool×Bool×Int×Int×Int×Int×Bool×Bool×aAS)=>y.1=w/\0<=y.2.1/\y.2.1<=64/\y.2.2.2.2.2.2.2.2=(0,0,false,false,0,0,[0,0,0,0],M.take y.2.1.toNat,i,())) (λy=>(64-y.2.1).toNat) ⟨rfl,by simp,by simp,rfl⟩ ?_;rintro⟨(w:List Int),(k:Int),u1,u2,u3,u4,u5,u6,v1,v2,v3,v4,v5,v6,r,l,j,⟨⟩⟩ hI;dsimp only at hI ⊢;obtain⟨rfl,m,u,d⟩:=hI;simp only [Prod.mk.injEq,and_true]at d;obtain⟨rfl,rfl,rfl,rfl,rfl,rfl,rfl,rfl,rfl⟩:=d;have tl:(M.take k.toNat).length<=64:=by rw [length_take];omega
  have h:k<64->M.take (k+1).toNat=M.take k.toNat++ [if k.toNat<w.length then w.getD k.toNat default else 0]:=λg=>by
   rw [show(k+1).toNat=k.toNat+1 by omega,take_add_one,a _ ah];rfl
  simp (disch:=omega) only [RR,length_cons,length_nil];refine⟨λg=>⟨λb=>⟨m,b,ah,⟨ah,ah,?_⟩,ah⟩,λb=>⟨ah,⟨ah,ah,?_⟩,ah⟩⟩,λg=> ?_⟩
  .rw [h g,if_pos ah]
  .rw [h g,if_neg ah]
  .rw [take_of_length_le ah]
 .have e:kX w i=Ti:=by unfold kX;rw [aT c,if_neg (by decide)]
  rw [e];refine⟨λ_=>rfl,λg=>absurd ⟨ah,aF.1 g.1.2,aF.1 g.2⟩ c⟩
variable{m:aD}
theorem zB(m:aD)(b:Bool):stepM m b=(if 64<=(smp m b).pc then {smp m b with halt:=4}else if bp (bF (dI (((smp m b).mem).getD ((smp m b).pc).toNat default)))=false then {smp m b with halt:=2}else exec (smp m b) (dI (((smp m b).mem).getD ((smp m b).pc).toNat default))):=rfl
def aaI(h:MOK m)(b:Bool):MOK (smp m b):=by
 unfold smp;split
 .exact {h with sv:=h.pc,pc:=⟨show(0:Int)<=48 by decide,show(48:Int)<=65535 by decide⟩}
 .exact {h with}
def Ki(m:aD)(b:Bool):(smp m b).ins=m.ins/\(smp m b).outs=m.outs/\(smp m b).count=m.count:=by unfold smp;split<;>exact⟨rfl,rfl,rfl⟩
def atF(h:MOK m){i:Ins}(d:bF i):Wo (nxt m i):=by
 obtain⟨_,_,_,a,_,_,_,_,_,b,_⟩:=d;unfold nxt;split
 .exact h.sv
 split
 .rename_i c;exact⟨a,by have:=b ah;omega⟩
 split
 .exact h.rw.at _
 .unfold Wo;omega
def ano(m:aD)(i:Ins):(eff m i).count=m.count/\(eff m i).ins.length<=m.ins.length/\(eff m i).outs.length<=m.outs.length+1:=by
 unfold eff
 repeat' split
 all_goals refine⟨rfl,?_,?_⟩
 all_goals first | exact Nat.le_refl _ | exact Nat.le_succ _ | (simp only [length_append,length_cons,length_nil];omega) | (simp only [length_drop];omega)
def qE(h:MOK m){i:Ins}(a:bF i)(c:m.count<1000000):MOK (exec m i):=by
 unfold exec;split
 .exact {h with ha:=⟨show(0:Int)<=3 by decide,show(3:Int)<=4 by decide⟩}
 .have:=h.ct;exact {ate h a with pc:=atF h a,ct:=⟨show 0<=m.count+1 by omega,show m.count+1<=1000000 by omega⟩}
def anp(m:aD)(i:Ins):(exec m i).ins.length<=m.ins.length/\(exec m i).outs.length<=m.outs.length+1:=by
 unfold exec;split
 .exact⟨Nat.le_refl _,Nat.le_succ _⟩
 .exact(ano m i).2
def zC(h:MOK m)(c:m.count<1000000)(b:Bool):MOK (stepM m b):=by
 have s:=aaI h b;rw [zB];split
 .exact {s with ha:=⟨show(0:Int)<=4 by decide,show(4:Int)<=4 by decide⟩}
 split
 .exact {s with ha:=⟨show(0:Int)<=2 by decide,show(2:Int)<=4 by decide⟩}
 .rename_i g;exact qE s (aF.1 (by simpa using g)) (by rw [(Ki m b).2.2];exact c)
def Kj(m:aD)(b:Bool):(stepM m b).ins.length<=m.ins.length/\(stepM m b).outs.length<=m.outs.length+1:=by
 obtain⟨a,c,_⟩:=Ki m b;rw [zB];split
 .exact⟨by rw [<-a];exact Nat.le_refl _,by rw [<-c];exact Nat.le_succ _⟩
 split
 .exact⟨by rw [<-a];exact Nat.le_refl _,by rw [<-c];exact Nat.le_succ _⟩
 .rw [<-a,<-c];exact anp _ _
noncomputable def stS (m:aD) (b:Bool):aD:=if bp (MOK m)=true then(if m.halt≠0\/m.count=1000000 then m else stepM m b)else Ti
abbrev aeo(b:dY->Bool)(a:dY->Int×Int×Int×Int×fA):Prop:=∀w,b (w,())=true/\a (w,())=tkI w
def atG{p1 f1 p2 f2 p3 f3 p5 f5}{a:oz->Bool}{j:oz->fE}{d:yw->Bool}{f:yw->fE}(D:aeo p1 f1)(z:Tj p2 f2)(x:aem p3 f3)(B:∀(m:aD) (i:Ins),MOK m->bF i->m.ins.length<1000000000->m.outs.length<900000000->a (m.pc,m.save,m.aR,m.waits,m.halt,m.ins,m.count,i,m.regs,m.mem,m.outs,())=true/\j (m.pc,m.save,m.aR,m.waits,m.halt,m.ins,m.count,i,m.regs,m.mem,m.outs,())=mB (exec m i))(e:atp p5 f5)(r:∀(m:aD) (b:Bool),d (m.pc,m.save,m.aR,m.waits,m.halt,m.ins,m.count,b,m.regs,m.mem,m.outs,())=true/\f (m.pc,m.save,m.aR,m.waits,m.halt,m.ins,m.count,b,m.regs,m.mem,m.outs,())=mB (smp m b))(m:aD)(b:Bool)(h:MSh m)(w:m.outs.length<900000000):Wv.F (p1,f1,p2,f2,p3,f3,a,j,p5,f5,d,f,()) (m,b,()) (λy=>y=mB (stS m b)):=by
 obtain⟨A,l⟩:=r m b;dsimp only [Wv,gm];simp (disch:=omega) only [RR,MRB,D,z m h,x m h,A,l];unfold stS;refine⟨λg=>by rw [if_neg (by rw [g];decide)];rfl,λg=> ?_⟩;have ok:=aF.1 g;have s:=aaI ok b;obtain⟨C,u,_⟩:=Ki m b;have E:=s.m64;have G:0<=(smp m b).pc/\(smp m b).pc<=65535:=s.pc;have F:=(λz1=>(e (smp m b) z1).1);have o:=(λz1=>(e (smp m b) z1).2);rw [if_pos g];refine⟨λq=>by rw [if_pos q],λq=> ?_⟩;rw [if_neg ah,zB];have v:=s.mw.at (smp m b).pc;simp only [F,o];refine⟨λq=>⟨trivial,by rw [if_pos q]⟩,λq=>⟨ah,ah,ah,ah,?_⟩⟩;rw [if_neg ah];by_cases k:bF (dI (((smp m b).mem).getD ((smp m b).pc).toNat default))
 .have t:tkI (((smp m b).mem).getD ((smp m b).pc).toNat default)=((dI (((smp m b).mem).getD ((smp m b).pc).toNat default)).op,(dI (((smp m b).mem).getD ((smp m b).pc).toNat default)).d,(dI (((smp m b).mem).getD ((smp m b).pc).toNat default)).a,(dI (((smp m b).mem).getD ((smp m b).pc).toNat default)).k,true,()):=by unfold tkI;rw [aI ⟨v,k⟩,if_pos rfl]
  rw [t,aI k,if_neg (by decide)];obtain⟨n,p⟩:=B (smp m b) _ s k (by rw [C];exact h.2.2.1) (by rw [u];exact w);exact⟨λc=>(by cases c),λ_=>⟨n,p⟩⟩
 .have t:tkI (((smp m b).mem).getD ((smp m b).pc).toNat default)=(0,0,0,0,false,()):=by unfold tkI;rw [aT (λq=>k q.2),if_neg (by decide)]
  rw [t,aT k,if_pos rfl];exact⟨λ_=>⟨trivial,rfl⟩,λc=>(by cases c)⟩
noncomputable def GK (q:List Int):Nat->aD->aD
 | 0,m=>m
 | k+1,m=>if m.halt=0/\m.count<1000000 then GK q k (stepM m (bp (m.count∈q)))else m
def ac3(q:List Int):∀(k:Nat) {m:aD},MOK m->MOK (GK q k m)
 | 0,m,h=>h
 | k+1,m,h=>by
  unfold GK;split
  .rename_i c;exact ac3 q k (zC h c.2 _)
  .exact h
def ac4(q:List Int):∀(k:Nat) (m:aD),(GK q k m).ins.length<=m.ins.length/\(GK q k m).outs.length<=m.outs.length+k
 | 0,m=>⟨Nat.le_refl _,Nat.le_refl _⟩
 | k+1,m=>by
  unfold GK;split
  .have a:=ac4 q k (stepM m (bp (m.count∈q)));have b:=Kj m (bp (m.count∈q));omega
  .omega
noncomputable def uW (q:List Int) (n:Int) (m:aD):aD:=if bp (MOK m/\n<=400)=true then GK q n.toNat m else Ti
abbrev ayC(c:aD×fA->Bool)(a:aD×fA->fE):Prop:=∀m b,MSh m->m.outs.length<900000000->c (m,b,())=true/\a (m,b,())=mB (stS m b)
abbrev ajd(b:eG->Bool)(a:eG->fA):Prop:=∀l n,l.length<1000000000->b (l,n,())=true/\a (l,n,())=(bp (n∈l),())
theorem atH{p1 f1 p2 f2 p3 f3 p4 f4}(s:Tj p1 f1)(o:ayC p2 f2)(j:aem p3 f3)(r:ajd p4 f4)(m:aD)(q:List Int)(n:Int)(h:MSh m)(f:q.length<1000000000)(A:m.outs.length<800000000):Ww.F (p1,f1,p2,f2,p3,f3,p4,f4,()) (m,q,n,()) (λy=>y=mB (uW q n m)):=by
 dsimp only [Ww,gm];simp (disch:=omega) only [RR,MRB,s m h,j m h];refine⟨λg=> ?_,λg=> ?_⟩
 .unfold uW;rw [fH,if_neg]
  .rfl
  .rcases g with g | g
   .rw [g];simp
   .rw [aT (show¬n<=400 by omega)];simp
 have ok:=aF.1 g.1;have e:uW q n m=GK q n.toNat m:=by unfold uW;rw [aI ⟨ok,ah⟩,if_pos rfl]
 rw [e];have t:n<=400:=by omega
 refine ay (λ(y:List Int×Int×Int×Int×Int×Bool×Bool×Int×Int×fE)=>∃(x:aD) (k:Nat),y.1=q/\y.2.1=n/\y.2.2.1=k/\k<=n.toNat/\y.2.2.2.2.2.2.2.2.2=mB x/\MOK x/\x.ins.length<=m.ins.length/\x.outs.length<=m.outs.length+k/\GK q (n.toNat-k) x=GK q n.toNat m) (λy=>(n-y.2.2.1).toNat)
  ⟨m,0,rfl,rfl,rfl,ah,rfl,ok,Nat.le_refl _,Nat.le_refl _,rfl⟩ ?_
 rintro⟨(q:List Int),(n:Int),(i:Int),u1,u2,u3,u4,u5,u6,v1,v2,v3,v4,v5,v6,v7,v8,v9,v10,⟨⟩⟩ ⟨x,k,hI⟩;dsimp only at hI ⊢;obtain⟨rfl,rfl,rfl,v,b,a,u,w,d⟩:=hI;simp only [Prod.mk.injEq,and_true]at b;obtain⟨rfl,rfl,rfl,rfl,rfl,rfl,rfl,rfl,rfl,rfl⟩:=b;have p:MSh x:=⟨by rw [a.r4];decide,by rw [a.m64];decide,by have:=h.2.2.1;omega,ah⟩;have mK:Co.mk .aj (x.regs,x.pc,x.mem,x.save,x.aR,x.waits,x.halt,x.ins,x.outs,x.count,())=x:=rfl;simp (disch:=omega) only [RR,mK,r _ _ f,o x _ p ah];refine⟨λg=> ?_,λg=> ?_⟩
 .have e:stS x (bp (x.count∈q))=stepM x (bp (x.count∈q)):=by unfold stS;rw [aI a,if_pos rfl,if_neg ah]
  rw [e];have l:=Kj x (bp (x.count∈q));refine⟨⟨stepM x (bp (x.count∈q)),k+1,rfl,ah,rfl,zC a ah _,ah,ah,?_⟩,ah⟩;rw [<-d,show n.toNat-k=(n.toNat- (k+1))+1 by omega]
  conv=>rhs;unfold GK
  rw [if_pos ah]
 .rw [<-d];by_cases c:(k:Int)<n
  .rw [show n.toNat-k=(n.toNat- (k+1))+1 by omega];unfold GK;rw [if_neg (λz=>by rw [decide_eq_true c,decide_eq_true z.1,decide_eq_true z.2]at g;cases g)]
  .rw [show n.toNat-k=0 by omega];rfl
end Go.TX.F
namespace Go.TX.F
open Go Go.AE Go.TX List
def atI{p1 f1}(c:Y38 p1 f1)(b:List Int)(p:Int)(a:Bt b)(e:0<=p)(o:p<900000000):VH.F (p1,f1,()) (b,p,()) (λ(y:r9)=>y.1=b/\p<=y.2.1/\y.2.1<=p+10/\y.2.2.1.length<=5):=by
 obtain⟨j,m,f,s⟩:=(c 5 b p a e ah).2;dsimp only [VH,gm];simp (disch:=omega) only [RR,(c 5 b p a e ah).1,j,m,length_nil];refine ay (λ(y:Int×r9)=>0<=y.1/\y.1<=5/\y.2.1=b/\p<=y.2.2.1/\y.2.2.1+y.1<=p+6/\(y.2.2.2.1.length:Int)+y.1<=5) (λy=>y.1.toNat) ⟨f,by dsimp only;omega,rfl,by dsimp only;omega,by dsimp only;omega,by dsimp only [length_nil];omega⟩ ?_;rintro⟨(k:Int),(d:List Int),(q:Int),(l:List Int),⟨⟩⟩ hI;dsimp only at hI ⊢;obtain⟨n,t,rfl,k3,u,r⟩:=hI;obtain⟨h,i,_,_⟩:=(c 50 d q a ah ah).2;simp (disch:=omega) only [RR,(c 50 d q a ah ah).1,h,i,length_cons,length_nil,length_append];exact⟨λg=>⟨ah,⟨ah,ah,ah,ah,ah⟩,ah⟩,λg=>⟨ah,ah,ah⟩⟩
def atJ{p1 f1}(a:Y38 p1 f1)(t:Int)(b:List Int)(p:Int)(e:Bt b)(f:0<=t/\t<=1000)(d:0<=p)(c:p<900000000):VX.F (p1,f1,()) (t,b,p,()) (λ(y:O1)=>y.1=b/\p<=y.2.1/\y.2.1<=p+500/\y.2.2.1.length<=10):=by
 have R:=pkS e a;have P:=λn p d c=>(a n b p e d c).1
 dsimp only [VX,gm];simp (disch:=omega) only [RR,R,P,length_cons,length_nil];exact⟨ah,ah,ah⟩
def atK{p1 f1 p2 f2}(h:Y71 p1 f1)(c:Y38 p2 f2)(t:Int)(b:List Int)(p:Int)(a:Bt b)(r:0<=t/\t<=1000)(f:0<=p)(d:p<700000000):VW.F (p1,f1,p2,f2,()) (t,b,p,()) (λ(y:O1)=>y.1=b/\p<=y.2.1/\y.2.1<=p+500/\y.2.2.1.length<=10):=by
 have R:=pkS a c;have P:=λn p f d=>(c n b p a f d).1
 obtain⟨_,_,i,s⟩:=(c 4 b (p+1+1) a ah ah).2;dsimp only [VW,gm];simp (disch:=omega) only [RR,R,P,length_cons,length_nil,length_append];refine ay (λ(y:Int×Int×O1)=>0<=y.2.1/\y.2.1<=4/\y.2.2.1=b/\p<=y.2.2.2.1/\y.2.2.2.1+50*y.2.1<=p+300/\(y.2.2.2.2.1.length:Int)+y.2.1<=7) (λy=>y.2.1.toNat) ⟨i,by dsimp only;omega,rfl,by dsimp only;omega,by dsimp only;omega,by dsimp only [length_cons,length_nil];omega⟩ ?_;rintro⟨(t:Int),(k:Int),(e:List Int),(q:Int),(l:List Ins),⟨⟩⟩ hI;dsimp only at hI ⊢;obtain⟨m,x,rfl,k3,z,o⟩:=hI;obtain⟨j,u,w,v⟩:=(h e q a ah ah).2;simp (disch:=omega) only [RR,(h e q a ah ah).1,j,length_cons,length_nil,length_append];refine⟨λg=>⟨λ_=>⟨ah,⟨ah,ah,ah,ah,ah⟩,ah⟩,λ_=>⟨ah,⟨ah,ah,ah,ah,ah⟩,ah⟩⟩,λg=>⟨ah,ah,ah,ah⟩⟩
structure ImD(b:List Int)(p:Int)(y:r9):Prop where
 b:y.1=b
 lo:p<=y.2.1
 hi:y.2.1<=p+8000
 len:y.2.2.1.length<=64
 w:Wos y.2.2.1
abbrev atL(b:aAW->Bool)(a:aAW->bn):Prop:=∀l,l.length<1000000->b (l,())=true/\a (l,())=(l.map gN,())
def atM{p1 f1 p2 f2 p4 f4 p5 f5 p7 f7 p8 f8 p9 f9}{G:Bp->Bool}{w:Bp->O1}{O:Bp->Bool}{v:Bp->O1}(N:atL p1 f1)(T:atB p2 f2)(S:∀t b p,Bt b->(0<=t/\t<=1000)->0<=p->p<700000000->G (t,b,p,())=true/\(w (t,b,p,())).1=b/\p<=(w (t,b,p,())).2.1/\(w (t,b,p,())).2.1<=p+500/\(w (t,b,p,())).2.2.1.length<=10)(U:Y71 p4 f4)(F:Y70 p5 f5)(H:∀t b p,Bt b->(0<=t/\t<=1000)->0<=p->p<900000000->O (t,b,p,())=true/\(v (t,b,p,())).1=b/\p<=(v (t,b,p,())).2.1/\(v (t,b,p,())).2.1<=p+500/\(v (t,b,p,())).2.2.1.length<=10)(X:Y39 p7 f7)(e:Y38 p8 f8)(A:Y40 p9 f9)(b:List Int)(p:Int)(a:Bt b)(Q:0<=p)(M:p<600000000):V3.F (p1,f1,p2,f2,G,w,p4,f4,p5,f5,O,v,p7,f7,p8,f8,p9,f9,()) (b,p,()) (λy=>ImD b p y):=by
 have R:=pkS a e;have P:=λn p Q M=>(e n b p a Q M).1
 obtain⟨_,_,a3,a4⟩:=(e 5 b (p+1) a ah ah).2;dsimp only [V3,gm];simp (disch:=omega) only [RR,R,P,length_cons,length_nil,length_append];refine⟨λ_=>⟨ah,?_⟩,λ_=> ?_⟩
 all_goals refine ay (λ(y:Int×O1)=>0<=y.1/\y.1<=5/\y.2.1=b/\p<=y.2.2.1/\y.2.2.1+550*y.1<=p+2800/\(y.2.2.2.1.length:Int)<=44) (λy=>y.1.toNat) ⟨by dsimp only;omega,by dsimp only;omega,rfl,by dsimp only;omega,by dsimp only;omega,by simp⟩ ?_
 all_goals
  rintro⟨(k:Int),(d:List Int),(q:Int),(l:List Ins),⟨⟩⟩ hI;dsimp only at hI ⊢;obtain⟨k1,k2,rfl,k3,k4,k5⟩:=hI;obtain⟨_,_,d3,d4⟩:=(e 8 d (q+1) a ah ah).2;simp (disch:=omega) only [RR,R,P,length_cons,length_nil,length_append];refine⟨λg=>⟨λ_=> ?_,λ_=>⟨λ_=> ?_,λ_=> ?_⟩⟩,λg=>⟨ah,(N _ (by simp;omega)).1,?_⟩⟩
  .obtain⟨z1,z2,z3,z4⟩:=(S l.length d (q+1) a ah ah ah).2;exact⟨(S l.length d (q+1) a ah ah ah).1,ah,⟨ah,ah,z1,ah,ah,ah⟩,ah⟩
  .obtain⟨z1,z2,z3,z4⟩:=(H l.length d (q+1) a ah ah ah).2;exact⟨(H l.length d (q+1) a ah ah ah).1,ah,⟨ah,ah,z1,ah,ah,ah⟩,ah⟩
  .refine ay (λ(y:Int×Int×O1)=>y.1=k/\0<=y.2.1/\y.2.1<=8/\y.2.2.1=d/\q<=y.2.2.2.1/\y.2.2.2.1+30*y.2.1<=q+300/\(y.2.2.2.2.1.length:Int)+y.2.1<=42) (λy=>y.2.1.toNat) ⟨rfl,by dsimp only;omega,by dsimp only;omega,rfl,by dsimp only;omega,by dsimp only;omega,by dsimp only;omega⟩ ?_;rintro⟨(k:Int),(j:Int),(c:List Int),(J:Int),(l':List Ins),⟨⟩⟩ hI;dsimp only at hI ⊢;obtain⟨rfl,W,j2,rfl,Y,z,j5⟩:=hI;obtain⟨s,I,L,_⟩:=(F c J a ah ah).2;simp (disch:=omega) only [RR,(F c J a ah ah).1,s,length_cons,length_nil,length_append];exact⟨λ_=>⟨ah,⟨ah,ah,ah,ah,ah⟩,ah⟩,λ_=>⟨⟨ah,ah,ah,ah,ah⟩,ah⟩⟩
  .rw [(N _ (by simp;omega)).2];have ww:∀l:List Ins,Wos (l.map gN):=λl x B=>by obtain⟨i,_,rfl⟩:=mem_map.1 B;exact A8 i
   refine ay (λ(y:r9)=>y.1=d/\q<=y.2.1/\y.2.1<=q+40*y.2.2.1.length/\y.2.2.1.length<=48/\Wos y.2.2.1) (λy=>48-y.2.2.1.length) ⟨rfl,by dsimp only;omega,by dsimp only;omega,by simp;omega,ww _⟩ ?_;rintro⟨(c:List Int),(r:Int),(o:List Int),⟨⟩⟩ hI;dsimp only at hI ⊢;obtain⟨rfl,W,j2,Y,z⟩:=hI;obtain⟨C,e2,e3,E⟩:=(A c r a ah ah).2;obtain⟨D,⟨s,I,L,_⟩⟩:=F c (f9 (c,r,())).2.2.1 a ah ah;obtain⟨_,_,g3,g4⟩:=(e 4 c r a ah ah).2;simp (disch:=omega) only [RR,R,P,(A c r a ah ah).1,C,D,s,T,length_cons,length_nil,length_append,jw];refine⟨λ_=>⟨ah,⟨ah,ah,ah,z.snoc (Wos.at (atD (atD (atD (λ_ h=>(by cases h)) (A8 _)) E) wo0) _)⟩,ah⟩,λ_=>⟨ah,ah,ah,ah,ah,ah,?_⟩⟩;refine ay (λ(y:Int×r9)=>0<=y.1/\y.1<=4/\y.2.1=c/\r<=y.2.2.1/\y.2.2.1+50*y.1<=r+300/\(y.2.2.2.1.length:Int)+y.1<=52/\Wos y.2.2.2.1) (λy=>y.1.toNat) ⟨g3,by dsimp only;omega,rfl,by dsimp only;omega,by dsimp only;omega,by simp only [length_drop,length_take];omega,λx B=>z x (mem_of_mem_take (mem_of_mem_drop B))⟩ ?_;rintro⟨(m:Int),(f:List Int),(t:Int),(u:List Int),⟨⟩⟩ hI;dsimp only at hI ⊢;obtain⟨m1,m2,rfl,m3,m4,m5,K⟩:=hI;obtain⟨s,I,L,_⟩:=(U f t a ah ah).2;obtain⟨OP,⟨o1,Z⟩⟩:=X 9 f t a ah ah;obtain⟨_,_,n3,n4⟩:=(e (u.length+2) f (t+1) a ah ah).2;obtain⟨W9,⟨C,e2,e3,E⟩⟩:=A f (t+1+1) a ah ah;simp (disch:=omega) only [RR,R,P,(U f t a ah ah).1,s,T,OP,o1,Z,W9,C,length_cons,length_nil,length_append,jw];have V:Wos (u++ [gN (Co.mk .ins (14,3,0,0,())),gN (Co.mk .ins (0,0,0,1,()))]):=by
    rw [show∀x y:Int,u++ [x,y]=(u++ [x])++ [y] by simp];exact(K.snoc (A8 _)).snoc (A8 _)
   refine⟨λ_=>⟨ah,⟨ah,ah,ah,ah,ah,K.snoc (A8 _)⟩,ah⟩,λ_=>⟨ah,λ_=>⟨rfl,?_,?_,?_,V.set E _⟩,λ_=>⟨rfl,?_,?_,?_,V⟩⟩⟩
   .dsimp only;omega
   .dsimp only;omega
   .dsimp only;rw [length_set,length_append,length_cons,length_cons,length_nil];omega
   .dsimp only;omega
   .dsimp only;omega
   .dsimp only;rw [length_append,length_cons,length_cons,length_nil];omega
abbrev YMc:=Int×Int×Bool×Bool×Int×List Int×Int×List Int×Int×eB
abbrev mE(y:YMc):aD:=⟨y.2.2.2.2.2.2.2.2.2.1,y.1,y.2.2.2.2.2.2.2.2.2.2.1,y.2.1,y.2.2.1,y.2.2.2.1,y.2.2.2.2.1,y.2.2.2.2.2.1,y.2.2.2.2.2.2.2.2.2.2.2.1,y.2.2.2.2.2.2.1⟩
structure McD(b:List Int)(p:Int)(y:YMc):Prop where
 b:y.2.2.2.2.2.2.2.1=b
 lo:p<=y.2.2.2.2.2.2.2.2.1
 hi:y.2.2.2.2.2.2.2.2.1<=p+9500
 ok:MOK (mE y)
 i:(mE y).ins.length<=10
 o:(mE y).outs.length<=100
def ayD{X:aD}(h:MOK X){r:List Int}{pc ha:Int}{l w:Bool}(c:Wo pc)(a:0<=ha/\ha<=4)(d:r.length=4)(b:Wos r):MOK ⟨r,pc,X.mem,X.save,l,w,ha,X.ins,X.outs,X.count⟩:=
 {h with r4:=d,rw:=b,pc:=c,ha:=a}
abbrev ayE(b:wm->Bool)(a:wm->Int×Int×Bool×Bool×aAS):Prop:=∀w i,w.length<1000000->i.length<1000000->b (w,i,())=true/\a (w,i,())=((kX w i).pc,(kX w i).save,(kX w i).aR,(kX w i).waits,(kX w i).halt,(kX w i).count,(kX w i).regs,(kX w i).mem,(kX w i).ins,())
abbrev ayF(c:eG->Bool)(a:eG->r9):Prop:=∀b p,Bt b->0<=p->p<600000000->c (b,p,())=true/\ImD b p (a (b,p,()))
abbrev atN(c:eG->Bool)(a:eG->r9):Prop:=∀b p,Bt b->0<=p->p<900000000->c (b,p,())=true/\(a (b,p,())).1=b/\p<=(a (b,p,())).2.1/\(a (b,p,())).2.1<=p+10/\(a (b,p,())).2.2.1.length<=5
abbrev ayG(c:Bp->Bool)(a:Bp->r9):Prop:=∀n b p,Bt b->(0<=n/\n<=100)->0<=p->p<800000000->c (n,b,p,())=true/\(a (n,b,p,())).1=b/\p<=(a (n,b,p,())).2.1/\(a (n,b,p,())).2.1<=p+300/\(a (n,b,p,())).2.2.1.length=n/\wOK (a (n,b,p,())).2.2.1
def atO{p1 f1 p3 f3 p4 f4 p5 f5 p6 f6 p7 f7}{Q:aD×eG->Bool}{T:aD×eG->fE}(U1:ayE p1 f1)(U2:∀m q n,MSh m->q.length<1000000000->m.outs.length<800000000->Q (m,q,n,())=true/\T (m,q,n,())=mB (uW q n m))(U3:ayF p3 f3)(U4:atN p4 f4)(K:Y39 p5 f5)(l:Y38 p6 f6)(N:ayG p7 f7)(b:List Int)(p:Int)(a:Bt b)(c:0<=p)(d:p<500000000):Wx.F (p1,f1,Q,T,p3,f3,p4,f4,p5,f5,p6,f6,p7,f7,()) (b,p,()) (λy=>McD b p y):=by
 obtain⟨P3,⟨G,i2,Z,C,D⟩⟩:=U3 b p a c ah;generalize hy:f3 (b,p,())=y at G i2 Z C D;obtain⟨i,s,w,⟨⟩⟩:=y;dsimp only at G i2 Z C D;subst G;have R:=pkS a l;have P:=λn p c d=>(l n i p a c d).1
 obtain⟨_,_,a3,a4⟩:=(l 5 i s a ah ah).2;obtain⟨P7,⟨I,w2,V,w4,L⟩⟩:=N (f6 (5,i,s,())).1 i (s+1) a ah ah ah;generalize hz:f7 ((f6 (5,i,s,())).1,i,s+1,())=z at I w2 V w4 L;obtain⟨b2,q1,A,⟨⟩⟩:=z;dsimp only at I w2 V w4 L;subst I;obtain⟨W,S⟩:=U1 w A ah ah;have ok:=ac2 C D L;have j:(kX w A).outs=[]:=by unfold kX;split<;>rfl
 have ie:(kX w A).ins.length<=10:=by unfold kX;split;(dsimp only;omega);exact Nat.zero_le _
 generalize kX w A=M at W S ok j ie;have mK:Co.mk .aj (M.regs,M.pc,M.mem,M.save,M.aR,M.waits,M.halt,M.ins,[],M.count,())=M:=by cases M;dsimp only at j;subst j;rfl
 obtain⟨P4,⟨g,x,k,o⟩⟩:=U4 b2 q1 a ah ah;generalize hr:f4 (b2,q1,())=r at g x k o;obtain⟨e,f,h,⟨⟩⟩:=r;dsimp only at g x k o;subst g;have ms:MSh M:=⟨by rw [ok.r4];decide,by rw [ok.m64];decide,ah,by rw [j];decide⟩;obtain⟨_,_,n3,n4⟩:=(l 40 e f a ah ah).2;obtain⟨Y,H2⟩:=U2 M h (f6 (40,e,f,())).1 ms ah (by rw [j];decide);have hX:MOK (uW h (f6 (40,e,f,())).1 M):=by unfold uW;rw [aI ⟨ok,ah⟩,if_pos rfl];exact ac3 _ _ ok
 have F:(uW h (f6 (40,e,f,())).1 M).ins.length<=10/\(uW h (f6 (40,e,f,())).1 M).outs.length<=100:=by
  unfold uW;rw [aI ⟨ok,ah⟩,if_pos rfl];have:=ac4 h (f6 (40,e,f,())).1.toNat M;rw [j]at this;simp only [length_nil]at this;omega
 generalize uW h (f6 (40,e,f,())).1 M=X at Y H2 hX F;obtain⟨E,⟨B,v2,U,v4,J⟩⟩:=N 4 e (f+1+1) a ah ah ah;generalize hv:f7 (4,e,f+1+1,())=v at B v2 U v4 J;obtain⟨u,q3,vs,⟨⟩⟩:=v;dsimp only at B v2 U v4 J;subst B;have O:=λn p c d=>((K n u p a c d).2).1
 have O':=λn p c d=>((K n u p a c d).2).2
 have OP:=λn p c d=>(K n u p a c d).1
 dsimp only [Wx,gm];simp (disch:=omega) only [RR,P3,hy,R,P,P7,hz,W,S,mK,P4,hr,Y,H2,E,hv,O,O',OP];have pk:∀t:Int,0<=t->t<1000000000->Wo (f6 (66,u,t,())).1:=λt c d=>by obtain⟨_,_,c3,c4⟩:=(l 66 u t a c d).2;unfold Wo;omega
 have H:vs.length=4:=by omega
 repeat' (first | (refine⟨?_,?_⟩) | intro _)
 all_goals first | omega | (refine⟨rfl,by dsimp only;omega,by dsimp only;omega,ayD hX (by first | exact hX.pc | exact pk _ ah ah) (by first | exact hX.ha | exact⟨show(0:Int)<=0 by decide,show(0:Int)<=4 by decide⟩) (by first | exact hX.r4 | exact H) (by first | exact hX.rw | exact J),F.1,F.2⟩)
abbrev YMo:=Int×List Int×Int×Bool×Bool×Int×List Int×Int×List Int×Int×wm
structure MoD(b:List Int)(p:Int)(y:YMo):Prop where
 b:y.2.2.2.2.2.2.2.2.1=b
 lo:p<=y.2.2.2.2.2.2.2.2.2.1
 hi:y.2.2.2.2.2.2.2.2.2.1<=p+9600
 r:y.2.2.2.2.2.2.2.2.2.2.1.length<=10
 m:y.2.1.length<=64
 i:y.2.2.2.2.2.2.1.length<=10
 o:y.2.2.2.2.2.2.2.2.2.2.2.1.length<=110
abbrev aAn(c:eG->Bool)(a:eG->YMc):Prop:=∀b p,Bt b->0<=p->p<500000000->c (b,p,())=true/\McD b p (a (b,p,()))
def atP{p1 f1 p2 f2 p3 f3}(x:aAn p1 f1)(v:Y39 p2 f2)(k:Y38 p3 f3)(n:Int)(b:List Int)(p:Int)(a:Bt b)(c:0<=p)(f:p<400000000):Wy.F (p1,f1,p2,f2,p3,f3,()) (n,b,p,()) (λy=>MoD b p y):=by
 obtain⟨t,⟨e,g,l,d,j,m⟩⟩:=x b p a c ah;generalize u:f1 (b,p,())=y at e g l d j m;obtain⟨A,z,lt,D,B,ins,C,h,q,regs,mem,i,⟨⟩⟩:=y;have r:=d.r4;have o:=d.m64;dsimp only at e g l j m r o;subst e;have R:=pkS a k;have P:=λn p c f=>(k n h p a c f).1
 obtain⟨w,⟨O,s⟩⟩:=v n h q a ah ah;dsimp only [Wy,gm];simp (disch:=omega) only [RR,t,u,R,P,O,s,w,length_cons,length_nil];have tl:∀n:Nat,(drop (Int.toNat 1) (take n mem)).length<=64:=λn=>by rw [length_drop,length_take];omega
 repeat' (first | (refine⟨?_,?_⟩) | intro _)
 all_goals first | omega | (refine⟨rfl,by dsimp only;omega,by dsimp only;omega,?_,?_,by dsimp only;omega,?_⟩<;>first | (dsimp only;omega) | exact tl _ | (dsimp only;simp only [length_append,length_set,length_cons,length_nil];omega))
def LU(c d e b f g:Int)(o:IOp)(a:List IOp)(h:a.length<1000000):Yc.F () (c,d,e,b,f,g,o,a,()) (λy=>y=(c,d,e,b,f,g,(a.length:Int),a++ [o],())):=by
 dsimp only [Yc,gm];simp (disch:=omega) only [RR,length_append,length_cons,length_nil];rw [show((a.length+(0+1):Nat):Int)-1=a.length by omega];exact⟨ah,rfl⟩
abbrev aje(i:F5->Bool)(h:F5->aBg):Prop:=∀(c d e b f g:Int) (o:IOp) (a:List IOp),a.length<1000000->i (c,d,e,b,f,g,o,a,())=true/\h (c,d,e,b,f,g,o,a,())=(c,d,e,b,f,g,(a.length:Int),a++ [o],())
def LW{p1 f1}(i:aje p1 f1)(c d e b f g k:Int)(a:List IOp)(h:a.length<1000000):Ye.F (p1,f1,()) (c,d,e,b,f,g,k,a,()) (λy=>y=(c,d,e,b,f,g,(a.length:Int),a++ [⟨2,0,0,k,0⟩],())):=by
 dsimp only [Ye,gm];simp (disch:=omega) only [RR,i,h];rfl
def LY{p1 f1}(i:aje p1 f1)(c d e b f g k x:Int)(a:List IOp)(h:a.length<1000000):Yd.F (p1,f1,()) (c,d,e,b,f,g,k,x,a,()) (λy=>y=(c,d,e,b,f,g,a++ [⟨8,x,0,k,0⟩],())):=by
 dsimp only [Yd,gm];simp (disch:=omega) only [RR,i,h];rfl
def n1a(l:List IOp)(o:IOp):((l++ [o]).length:Int)=l.length+1:=by rw [length_append];rfl
abbrev anq(i:aBg->Bool)(h:aBg->aBg):Prop:=∀(c d e b f g k:Int) (a:List IOp),a.length<1000000->i (c,d,e,b,f,g,k,a,())=true/\h (c,d,e,b,f,g,k,a,())=(c,d,e,b,f,g,(a.length:Int),a++ [⟨2,0,0,k,0⟩],())
def FH{p1 f1 p2 f2}(n:anq p1 f1)(p:aje p2 f2)(d e g c f j k a:Int)(o:IOp)(b:List IOp)(h:b.length<990000):Yf.F (p1,f1,p2,f2,()) (d,e,g,c,f,j,k,a,o,b,()) (λy=>y=(d,e,g,c,f,j,(b.length:Int)+2,b++ [⟨2,0,0,a,0⟩,o,⟨3,b.length,b.length+1,k,0⟩],())):=by
 have q:∀(l:List IOp) (o:IOp),l.length<990000->(l++ [o]).length<1000000:=λl o h=>by rw [length_append];simp only [length_cons,length_nil];omega
 have m:∀(l:List IOp) (o i:IOp),l.length<990000->((l++ [o])++ [i]).length<1000000:=λl o i h=>by simp only [length_append,length_cons,length_nil];omega
 dsimp only [Yf,gm];simp (disch:=first | omega | (apply q;omega) | (apply m;omega)) only [RR,n,p,n1a];simp;rfl
abbrev ayH(j:Int×Int×F5->Bool)(i:Int×Int×F5->aBg):Prop:=∀(d e f c g h k a:Int) (o:IOp) (b:List IOp),b.length<990000->j (d,e,f,c,g,h,k,a,o,b,())=true/\i (d,e,f,c,g,h,k,a,o,b,())=(d,e,f,c,g,h,(b.length:Int)+2,b++ [⟨2,0,0,a,0⟩,o,⟨3,b.length,b.length+1,k,0⟩],())
abbrev ayI(i:El->Bool)(h:El->bf):Prop:=∀(c d e b f g k x:Int) (a:List IOp),a.length<1000000->i (c,d,e,b,f,g,k,x,a,())=true/\h (c,d,e,b,f,g,k,x,a,())=(c,d,e,b,f,g,a++ [⟨8,x,0,k,0⟩],())
def GL{p1 f1 p2 f2 p3 f3 p4 f4}(v:anq p1 f1)(t:aje p2 f2)(s:ayH p3 f3)(u:ayI p4 f4)(o p f j g m:Int)(i:Ins)(n:Int)(a:List IOp)(x:i.op=9\/i.op=10)(h:a.length<950000):Yh.F (p1,f1,p2,f2,p3,f3,p4,f4,()) (o,p,f,j,g,m,i,n,a,()) (λy=>y=(o,p,f,j,g,m,a++gM n a.length i,())):=by
 have q:∀(l:List IOp) (c b d:IOp),l.length<950000->(l++ [c,b,d]).length<1000000:=λl c b d h=>by simp only [length_append,length_cons,length_nil];omega
 have w:∀(l:List IOp) (c b d k:IOp),l.length<950000->((l++ [c,b,d])++ [k]).length<1000000:=λl c b d k h=>by simp only [length_append,length_cons,length_nil];omega
 have r:∀(l:List IOp) (c b d:IOp),((l++ [c,b,d]).length:Int)=l.length+3:=λl c b d=>by rw [length_append];rfl
 dsimp only [Yh,gm];simp (disch:=first | omega | (apply q;omega) | (apply w;omega)) only [RR,IR,v,t,s,u,r];unfold gM;refine⟨λe=> ?_,λe=> ?_⟩
 .rw [if_neg ah,if_neg ah,if_neg ah,if_pos e];simp;rfl
 .rw [if_neg ah,if_neg ah,if_neg ah,if_neg ah,if_pos ah];simp;rfl
def GN(k:Int)(d:0<=k)(e:k<=15):Yg.F () (k,()) (λy=>y=(2^k.toNat,())):=by
 dsimp only [Yg,gm];simp (disch:=omega) only [RR];refine ay (λ(y:aAV)=>y.1=k/\0<=y.2.2.1/\y.2.2.1<=k/\y.2.1=2^y.2.2.1.toNat) (λy=>(k-y.2.2.1).toNat) ⟨rfl,by simp,d,rfl⟩ ?_;rintro⟨(z:Int),(a:Int),(i:Int),⟨⟩⟩ hI;dsimp only at hI ⊢;obtain⟨rfl,c,f,rfl⟩:=hI;have b:=Qb c ah;unfold Wo at b;simp (disch:=omega) only [RR];refine⟨λg=>⟨⟨ah,ah,?_⟩,ah⟩,λg=>by rw [show i=z by omega]⟩;rw [show(i+1).toNat=i.toNat+1 by omega,Int.pow_succ];omega
def Kk{p1 f1}(a:anq p1 f1)(B:Blk)(i:Ins)(c:11<=i.op/\i.op<=13)(h:B.ops.length<950000):Yi.F (p1,f1,()) (B.pc,B.len,B.fin,B.x,B.y,B.k,i,B.ops,()) (λy=>y=bk7 (dR 0 B i)):=by
 have b:∀(l:List IOp) (o:IOp),l.length<950000->(l++ [o]).length<1000000:=λl o h=>by rw [length_append];simp only [length_cons,length_nil];omega
 dsimp only [Yi,gm];unfold dR gM;rcases(by omega:i.op=11\/i.op=12\/i.op=13)with e | e | e
 all_goals
  simp (disch:=first | omega | (apply b;omega)) only [RR,IR,e,a,n1a,Int.reduceEq,or_self,true_or,or_true]
  try simp
def LZ{p1 f1 p3 f3 p5 f5 p6 f6}{v:Int×Int×Int×Int×Int×Int×Ins×mF->Bool}{H:Int×Int×Int×Int×Int×Int×Ins×mF->bf}{t:Bb->Bool}{I:Bb->bf}{w:dY->Bool}{x:dY->dY}(R:anq p1 f1)(G:∀(B:Blk) (i:Ins),(11<=i.op/\i.op<=13)->B.ops.length<950000->v (B.pc,B.len,B.fin,B.x,B.y,B.k,i,B.ops,())=true/\H (B.pc,B.len,B.fin,B.x,B.y,B.k,i,B.ops,())=bk7 (dR 0 B i))(N:aje p3 f3)(Q:∀(r s b f c m:Int) (i:Ins) (n:Int) (ops:List IOp),(i.op=9\/i.op=10)->ops.length<950000->t (r,s,b,f,c,m,i,n,ops,())=true/\I (r,s,b,f,c,m,i,n,ops,())=(r,s,b,f,c,m,ops++gM n ops.length i,()))(A:ayH p5 f5)(E:ayI p6 f6)(J:∀k,0<=k->k<=15->w (k,())=true/\x (k,())=(2^k.toNat,()))(B:Blk)(i:Ins)(n:Int)(P:bF i)(U:i.op≠0)(h:B.ops.length<900000):Yj.F (p1,f1,v,H,p3,f3,t,I,p5,f5,p6,f6,w,x,()) (B.pc,B.len,B.fin,B.x,B.y,B.k,i,n,B.ops,()) (λy=>y=bk7 (dR n B i)):=by
 have O:∀(l:List IOp) (o:IOp),l.length<950000->(l++ [o]).length<1000000:=λl o h=>by rw [length_append];simp only [length_cons,length_nil];omega
 have u:∀(l:List IOp) (d D F:IOp),l.length<950000->(l++ [d,D,F]).length<1000000:=λl d D F h=>by simp only [length_append,length_cons,length_nil];omega
 obtain⟨⟨V,d⟩,_,_,M,_,_,_,T,S,_⟩:=P;have j:=(λz1 z2=>(G B i z1 z2).1);have p:=(λz1 z2=>(G B i z1 z2).2);dsimp only [Yj,gm];rcases(by omega:i.op=1\/i.op=2\/i.op=8\/(i.op=9\/i.op=10)\/i.op=14\/i.op=15\/(i.op=11\/i.op=12\/i.op=13)\/(3<=i.op/\i.op<=7))with e | e | e | e | e | e | e | e
 case inr.inr.inr.inl=>
  have a:dR n B i={B with ops:=B.ops++gM n B.ops.length i}:=by unfold dR;rw [if_neg ah,if_neg ah]
  rw [a];obtain⟨K,L⟩:=Q B.pc B.len B.fin B.x B.y B.k i n B.ops e ah;rcases e with e | e<;>simp (disch:=omega) only [RR,IR,e,Int.reduceEq,K,L,or_true,true_or]
 case inr.inr.inr.inr.inr.inr.inl=>
  have a:dR n B i=dR 0 B i:=by unfold dR gM;rcases e with e | e | e<;>simp [e]
  rw [a];have j:=j ah ah;have p:=p ah ah;rcases e with e | e | e<;>simp (disch:=omega) only [RR,IR,e,Int.reduceEq,j,p,or_true,true_or]
 case inr.inr.inr.inr.inr.inr.inr=>
  have C:∀z:Int,z<3\/7<z->¬i.op=z:=λz g q=>by omega
  have a:dR n B i={B with ops:=B.ops++ [⟨2,0,0,i.a,0⟩,⟨2,0,0,i.k,0⟩,⟨3,B.ops.length,B.ops.length+1,i.op-2,0⟩,⟨8,B.ops.length+2,0,i.d,0⟩]}:=by
   unfold dR gM;simp (disch:=omega) only [C,if_false,or_self]
  rw [a];simp (disch:=first | omega | (apply u;omega)) only [RR,IR,C,A,E,or_self];simp;rw [show i.op-3+1=i.op-2 by omega];rfl
 all_goals
  unfold dR gM;simp (disch:=first | omega | (apply O;omega) | (apply u;omega)) only [RR,IR,e,Int.reduceEq,R,N,A,E,J i.k M,S,n1a,or_self,true_and,and_true]
  try simp
  try rfl
def GQ(a:Int):VO.F () (a,()) (λy=>y=(inB a 11 13,())):=by
 dsimp only [VO,gm];refine Prod.ext ?_ rfl;dsimp only;rw [Bool.eq_iff_iff,bB];simp [aiv];omega
def GU{p1 f1 p2 f2}(a:ai5 p1 f1)(b:aaH p2 f2)(i:Ins):VT.F (p1,f1,p2,f2,()) (i,()) (λy=>y=(bp (bF i)&& !decide (i.op=0)&& !inB i.op 11 13,())):=by
 dsimp only [VT,gm];simp (disch:=omega) only [RR,IR,a,b]
def L6{p1 f1 p2 f2 p3 f3}{m:aAY->Bool}{t:aAY->fA}(u:ai5 p1 f1)(o:aaH p2 f2)(A:Y1 p3 f3)(r:∀i,m (i,())=true/\t (i,())=(bp (bF i)&& !decide (i.op=0)&& !inB i.op 11 13,()))(f:Int)(l:List Ins)(D:(l.length:Int)<1000000000):Yb.F (p1,f1,p2,f2,p3,f3,m,t,()) (f,l,()) (λy=>y=(bp (nC f l),())):=by
 dsimp only [Yb,gm];simp (disch:=omega) only [RR,IR,u,o,A,r,bB,jJ];refine⟨λh=> ?_,λh=> ?_⟩
 .rw [aT];intro g;have a:=g.ln;have c:=g.pc;omega
 refine ay (λ(y:List Ins×dY)=>y.1=l/\0<=y.2.1/\y.2.1<=l.length/\∀j:Nat,j<y.2.1->bF (l.getD j default)/\(l.getD j default).op≠0/\(11<=(l.getD j default).op/\(l.getD j default).op<=13->j+1=l.length)) (λy=>(l.length-y.2.1).toNat) ⟨rfl,by simp,by simp,λj k=>absurd k (by dsimp only;omega)⟩ ?_;rintro⟨(l:List Ins),(i:Int),⟨⟩⟩ hI;dsimp only at hI ⊢;obtain⟨rfl,d,C,p⟩:=hI;by_cases g:i<l.length
 .have nx:bF ((l).getD (i).toNat default)/\(((l).getD (i).toNat default)).op≠0/\(11<=(((l).getD (i).toNat default)).op/\(((l).getD (i).toNat default)).op<=13->i+1=l.length)->∀j:Nat,(j:Int)<i+1->bF (l.getD j default)/\(l.getD j default).op≠0/\(11<=(l.getD j default).op/\(l.getD j default).op<=13->j+1=l.length):=λq j k=>by
   by_cases c:(j:Int)<i
   .exact p j c
   .obtain rfl:j=i.toNat:=by omega
    exact⟨q.1,q.2.1,λz=>by have:=q.2.2 z;omega⟩
  have b:¬(bF ((l).getD (i).toNat default)/\(((l).getD (i).toNat default)).op≠0/\(11<=(((l).getD (i).toNat default)).op/\(((l).getD (i).toNat default)).op<=13->i+1=l.length))->bp (nC f l)=false:=λq=>aT λv=>q (by
   have:=v.ok i.toNat ah;exact⟨this.1,this.2.1,λz=>by have:=this.2.2 z;omega⟩)
  have E:(i< (l.length:Int)-1)↔¬(i+1=l.length):=by omega
  simp (disch:=omega) only [RR,IR,u,o,r,g];refine⟨d,Or.inr d,Or.inr d,λe=> ?_,λe=>⟨⟨ah,ah,nx ?_⟩,ah⟩⟩
  .rw [b];rintro⟨w,B,x⟩;rw [aI w,decide_eq_false B]at e;have s:=bB.1 (show inB (((l).getD (i).toNat default)).op 11 13=true by simpa using e.1);have:=x s;rcases e.2 with(z | z) | z
   .omega
   .cases z
   .exact z s
  .have a:bF ((l).getD (i).toNat default):=Classical.byContradiction λn=>by rw [aT n]at e;simp at e
   refine⟨a,λz=> ?_,λq=> ?_⟩
   .rw [z]at e;simp [inB]at e
   .rw [aI a,bB.2 q]at e;simp at e;omega
 .simp (disch:=omega) only [RR,g];rw [aI ⟨ah,ah,λj k=>p j ah⟩]
abbrev ayJ(c:l6->Bool)(b:l6->fA):Prop:=∀(a:Int) (l:List Ins),(l.length:Int)<1000000000->c (a,l,())=true/\b (a,l,())=(bp (nC a l),())
theorem FJ{p1 f1}{g:Bb->Bool}{k:Bb->bf}(p:ayJ p1 f1)(o:∀(B:Blk) (i:Ins) (n:Int),bF i->i.op≠0->B.ops.length<900000->g (B.pc,B.len,B.fin,B.x,B.y,B.k,i,n,B.ops,())=true/\k (B.pc,B.len,B.fin,B.x,B.y,B.k,i,n,B.ops,())=bk7 (dR n B i))(b:Int)(l:List Ins)(m:(l.length:Int)<1000000000):Yk.F (p1,f1,g,k,()) (b,l,()) (λy=>y=bk7 (lower b l)):=by
 dsimp only [Yk,gm];simp (disch:=omega) only [RR,p b l m,aF,gI];unfold lower;refine⟨λh=>by rw [aT h,if_neg (by decide)];rfl,λh=> ?_⟩;rw [aI h,if_pos rfl];have s:=h.ln;have u:=h.pc;refine ay (λ(y:List Ins×aBm)=>y.1=l/\0<=y.2.1/\y.2.1<=l.length/\y.2.2.2.2.2.2.2.2=bk7 (pO 0 (wI b l) (l.take y.2.1.toNat))) (λy=>(l.length-y.2.1).toNat) ⟨rfl,by simp,by simp,by rw [w64 ah ah];rfl⟩ ?_;rintro⟨(a:List Ins),(i:Int),z1,z2,z3,z4,z5,z6,q1,q2,q3,q4,q5,q6,q7,⟨⟩⟩ hI;dsimp only at hI ⊢;obtain⟨rfl,j,q,f⟩:=hI;generalize e:pO 0 (wI b a) (a.take i.toNat)=B at f;simp only [bk7,Prod.mk.injEq,and_true]at f;obtain⟨rfl,rfl,rfl,rfl,rfl,rfl,rfl⟩:=f;have r:B.ops.length<=40:=by
  have:=D6 (a.take i.toNat) 0 (wI b a);rw [e]at this;have t:=length_take_le i.toNat a;have:(wI b a).ops.length=0:=rfl;omega
 by_cases c:i<a.length
 .obtain⟨o1,o2,o3⟩:=h.ok i.toNat ah;simp (disch:=omega) only [RR,c,o B (((a).getD (i).toNat default)) i o1 o2 ah];refine⟨j,⟨ah,ah,?_⟩,ah⟩;rw [<-bg (d:=default) j c rfl,AZ,e,length_take,show(0:Int)+((min i.toNat a.length:Nat):Int)=i by omega]
 .rw [take_of_length_le ah]at e;simp (disch:=omega) only [RR,c,e]
def vC(a:Int)(l:List Ins):((lower a l).ops.length:Int)<=5000:=by
 by_cases h:nC a l
 .have:=(jB h).sz;omega
 .have e:lower a l=PN:=by unfold lower;rw [aT h,if_neg (by decide)]
  rw [e];decide
def Qg{a:Int}{l:List Ins}{y:bf}(h:y=bk7 (lower a l)):(y.2.2.2.2.2.2.1.length:Int)<=5000:=by rw [h];exact vC a l
abbrev anr(c:l6->Bool)(b:l6->bf):Prop:=∀(a:Int) (l:List Ins),(l.length:Int)<1000000000->c (a,l,())=true/\b (a,l,())=bk7 (lower a l)
abbrev aAo(c:Bp->Bool)(a:Bp->YMo):Prop:=∀n b p,Bt b->0<=p->p<400000000->c (n,b,p,())=true/\MoD b p (a (n,b,p,()))
def aou(x:Int)(n:Nat)(hn:n<=16)(m:Int)(hm:m=2^n-1):kr .and .i64 x m=x%2^n:=by
 have f:((2^IntKind.i64.bits:Nat):Int)=18446744073709551616:=by decide
 have p:2^n<=2^16:=Nat.pow_le_pow_right (by decide) hn;have b:0<2^n:=Nat.pow_pos (by decide);have a:(2:Nat)^16=65536:=by decide
 have c:((2:Int)^n)=((2^n:Nat):Int):=by simp
 have d:18446744073709551616=2^n*2^ (64-n):=by rw [<-Nat.pow_add,show n+(64-n)=64 by omega]
 rw [c]at hm ⊢;unfold kr;dsimp only;rw [BitVec.toNat_and,BitVec.toNat_ofInt,BitVec.toNat_ofInt,f,show(m%18446744073709551616).toNat=2^n-1 by omega,Nat.and_two_pow_sub_one_eq_mod];have l:=Nat.mod_lt (x%18446744073709551616).toNat b;rw [w64 ah ah];have e:(((x%18446744073709551616).toNat%2^n:Nat):Int)=x%18446744073709551616% ((2^n:Nat):Int):=by
  rw [Int.natCast_emod];congr 1;omega
 rw [e,Int.emod_emod_of_dvd];exact⟨((2^ (64-n):Nat):Int),by rw [<-Int.natCast_mul,<-d];rfl⟩
def aaJ(x:Int)(n:Nat)(hn:n<=64)(h:0<=x):gF .shr .i64 x (n:Int)=x/2^n:=by
 show x.fdiv (2^ (min (n:Int).toNat 64))=_;rw [show(n:Int).toNat=n from rfl,Nat.min_eq_left hn,Int.fdiv_eq_ediv_of_nonneg];exact Int.le_of_lt (Int.pow_pos (by decide))
def atQ{a k:Int}(f:Wo a)(h:0<=k)(g:k<=15):gF .shl .i64 a k=a*2^k.toNat:=by
 have p:=Qb h g;obtain⟨c,e⟩:=f;obtain⟨b,d⟩:=p;have j:0<=a*2^k.toNat:=Int.mul_nonneg c b;have i:a*2^k.toNat<=65535*65535:=Int.mul_le_mul e d b (by decide);show IntKind.i64.wrap (a*2^ (min k.toNat 64))=_;rw [Nat.min_eq_left ah,w64 ah ah]
theorem ayK{p1 f1 p2 f2}(f:aaH p1 f1)(j:Y9 p2 f2)(w:Int):ahP.F (p1,f1,p2,f2,()) (w,()) (λy=>y=tkI w):=by
 dsimp only [ahP,gm];simp (disch:=omega) only [RR,f,j,zy];by_cases h:Wo w
 .obtain⟨w0,w1⟩:=id h;have e:∀x y z u:Int,Co.mk .ins (x,y,z,u,())=⟨x,y,z,u⟩:=λ_ _ _ _=>rfl
  have a:gF .shr .i64 w 12=w/4096:=aaJ w 12 (by decide) w0;have b:gF .shr .i64 w 10=w/1024:=aaJ w 10 (by decide) w0;have d:gF .shr .i64 w 8=w/256:=aaJ w 8 (by decide) w0;have i:∀x,kr .and .i64 x 3=x%4:=λx=>aou x 2 (by decide) 3 (by decide)
  have l:∀x,kr .and .i64 x 255=x%256:=λx=>aou x 8 (by decide) 255 (by decide)
  rw [aI (show 0<=w/\w<=65535 from h)];simp only [Pp,a,b,d,i,l,e];have c:(⟨w/4096,w/1024%4,w/256%4,w%256⟩:Ins)=dI w:=rfl;unfold tkI;by_cases k:bF (dI w)
  .rw [c,aI k,aI ⟨h,k⟩];simp;rfl
  .rw [c,aT k,aT (λg=>k g.2)];simp
 .rw [aT (show¬(0<=w/\w<=65535)from h)];unfold tkI;rw [aT (λg=>h g.1)];simp
def ayL{p1 f1}(a:aaH p1 f1)(i:Ins):ain.F (p1,f1,()) (i,()) (λy=>y=(gN i,())):=by
 dsimp only [ain,gm];simp (disch:=omega) only [RR,IR,a];unfold gN FD;refine⟨λh=>by rw [h];rfl,λh=> ?_⟩;rw [if_pos h];obtain⟨⟨e,k⟩,⟨c,j⟩,⟨d,f⟩,g,h⟩:=aF.1 h;have b:i.k<=255:=by omega
 simp (disch:=omega) only [w64]
def aAp{p1 f1}(b:atB p1 f1)(l:List Ins)(e:l.length<1000000):aqh.F (p1,f1,()) (l,()) (λy=>y=(l.map gN,())):=by
 dsimp only [aqh,gm];simp (disch:=omega) only [RR,length_nil];refine ay (λ(y:List Ins×P9)=>y.1=l/\y.2.1=l.length/\0<=y.2.2.1/\y.2.2.1<=l.length/\y.2.2.2.1=(l.take y.2.2.1.toNat).map gN) (λy=>(l.length-y.2.2.1).toNat) ⟨rfl,rfl,by simp,by simp,by simp⟩ ?_;rintro⟨(l:List Ins),(n:Int),(i:Int),(o:List Int),⟨⟩⟩ hI;dsimp only at hI ⊢;obtain⟨rfl,rfl,c,f,rfl⟩:=hI;have g:=length_take_le' i.toNat l;simp (disch:=omega) only [RR,b,length_map,length_cons,length_nil];refine⟨λa=>⟨ah,ah,ah,⟨ah,ah,?_⟩,ah⟩,λa=>by rw [take_of_length_le ah]⟩;rw [<-bg (d:=default) c a rfl,map_append];rfl
def ayM(m:aD):ahZ.F () (m,()) (λy=>y=(decide (m.halt=0)&&decide (m.count<1000000),())):=by
 dsimp only [ahZ,gm];simp (disch:=omega) only [RR,MRB]
def atS(l:List Int)(n:Int)(h:l.length<1000000000):XR.F () (l,n,()) (λy=>0<=y.1↔n∈l):=by
 dsimp only [XR,gm];simp (disch:=omega) only [RR];refine ay (λ(y:List Int×aAV)=>y.1=l/\y.2.1=n/\y.2.2.1=l.length/\0<=y.2.2.2.1/\y.2.2.2.1<=l.length/\n∉l.take y.2.2.2.1.toNat) (λy=>(l.length-y.2.2.2.1).toNat) ⟨rfl,rfl,rfl,by simp,by simp,by simp⟩ ?_;rintro⟨(l:List Int),(n:Int),(z:Int),(i:Int),⟨⟩⟩ hI;dsimp only at hI ⊢;obtain⟨rfl,rfl,rfl,a,c,b⟩:=hI;simp (disch:=omega) only [RR];refine⟨λg=>⟨a,g,λe=>⟨λ_=>by rw [e];exact bV a g,λ_=>a⟩,λe=>⟨⟨ah,ah,λq=> ?_⟩,ah⟩⟩,λg=>⟨λq=>absurd q (by decide),λq=> ?_⟩⟩
 .rw [show(i+1).toNat=i.toNat+1 by omega,take_succ_eq_append_getElem ah,mem_append,mem_singleton,<-getD_lt (d:=default) (show i.toNat<l.length by omega)]at q;exact q.elim b e
 .rw [take_of_length_le ah]at b;exact absurd q b
def atT{a:eG->Bool}{b:eG->dY}(c:∀l n,l.length<1000000000->a (l,n,())=true/\((0<=(b (l,n,())).1↔n∈l)))(l:List Int)(n:Int)(h:l.length<1000000000):XU.F (a,b,()) (l,n,()) (λy=>y=(bp (n∈l),())):=by
 have H:=(c l n h).2;dsimp only [XU,gm];simp (disch:=omega) only [RR,(c l n h).1];rw [nU,ig H]
abbrev ayN(b:aAP->Bool)(a:aAP->fA):Prop:=∀m,b (m,())=true/\a (m,())=(decide (m.halt=0)&&decide (m.count<1000000),())
def ajf{i:Ins}(h:bF i):dI (gN i)=i:=by
 unfold gN;rw [aI h,if_pos rfl];obtain⟨⟨g,n⟩,⟨e,m⟩,⟨f,j⟩,l,h⟩:=h;have b:i.k<=255:=by omega
 obtain⟨c,d,a,k⟩:=i;unfold dI FD;dsimp only at*
 congr 1<;>omega
structure PS where
 m:aD
 L:List Int
 I:List Int
 left:Bool
section
variable (T:List Atom) (r0:List Int) (pc len:Int)
def pv(s:PS):List Int:=tv r0 s.L s.I T
end
theorem ac5{s:MS}(o:IOp):(mM s o).pc=s.m.pc/\(mM s o).halt=s.m.halt/\(mM s o).count=s.m.count:=by
 unfold mM
 repeat' split
 all_goals exact⟨rfl,rfl,rfl⟩
end Go.TX.F
namespace Go.TX.F
open Go Go.AE Go.TX List
noncomputable def Tm:List Int->List Ins
 | []=> []
 | w::r=>if bp (Wo w/\bF (dI w))=true then dI w::Tm r else []
def ajg{w:Int}(h:Wo w)(k:bF (dI w)):gN (dI w)=w:=by
 unfold gN;rw [aI k,if_pos rfl];obtain⟨b,a⟩:=h;unfold FD dI;dsimp only;omega
def NT:∀ {l:List Ins},(∀i∈l,bF i)->Tm (l.map gN)=l
 | [],_=>rfl
 | i::l,h=>by
  have a:=h i (mem_cons_self ..);rw [map_cons];unfold Tm;rw [ajf a,aI ⟨A8 i,a⟩,if_pos rfl,NT λj b=>h j (mem_cons_of_mem _ b)]
def atU(l:List Int)(k:Int):aac.F () (l,k,()) (λy=>y=(if k<0 then 0 else Bd l k,())):=by
 dsimp only [aac,gm];simp (disch:=omega) only [RR];unfold Bd;refine⟨λh=> ?_,λ⟨a,b⟩=>⟨ah,ah,by rw [if_neg a,if_pos ah]⟩⟩;by_cases c:k<0
 .rw [if_pos c]
 .rw [if_neg c,if_neg ah]
abbrev aAq(b:eG->Bool)(a:eG->dY):Prop:=∀l k,b (l,k,())=true/\a (l,k,())=(if k<0 then 0 else Bd l k,())
variable{l:List Cac}{α:Type}
def CAB:(∀e:Cac,jQ .cac 0 .i64 e=e.words)/\(∀e:Cac,cO .cac 1 e=e.blk.pc)/\(∀e:Cac,cO .cac 2 e=e.blk.len)/\(∀e:Cac,jQ .cac 3 .iop e=e.blk.ops)/\(∀e:Cac,cO .cac 4 e=e.blk.fin)/\(∀e:Cac,cO .cac 5 e=e.blk.x)/\(∀e:Cac,cO .cac 6 e=e.blk.y)/\(∀e:Cac,cO .cac 7 e=e.blk.k):=
 ⟨λ_=>rfl,λ_=>rfl,λ_=>rfl,λ_=>rfl,λ_=>rfl,λ_=>rfl,λ_=>rfl,λ_=>rfl⟩
def CAM:(∀e:Cac,Co.mk .cac (e.words,e.blk.pc,e.blk.len,e.blk.ops,e.blk.fin,e.blk.x,e.blk.y,e.blk.k,())=e)/\(∀x:Cac,([x].length:Int)=1):=⟨λ_=>rfl,λ_=>rfl⟩
def ShK(l:List Cac):Prop:=l.length<1000/\∀x∈l,x.words.length<1000/\x.blk.ops.length<1000000/\x.blk.pc<=1000000
def ShK.at(h:ShK l)(i:Nat):(l.getD i default).words.length<1000/\(l.getD i default).blk.ops.length<1000000/\(l.getD i default).blk.pc<=1000000:=by
 by_cases c:i<l.length
 .rw [getD_lt c];exact h.2 _ (getElem_mem _)
 .rw [getD_eq_getElem?_getD,getElem?_eq_none ah];exact⟨by decide,by decide,by decide⟩
def ShX(l:List Cac):Prop:=l.length<1000000000/\∀x∈l,x.words.length<1000000000/\x.blk.ops.length<1000000000
def ShK.x(h:ShK l):ShX l:=⟨by have:=h.1;omega,λq g=>by have:=h.2 q g;omega⟩
def ShX.at(h:ShX l)(i:Nat):(l.getD i default).words.length<1000000000/\(l.getD i default).blk.ops.length<1000000000:=by
 by_cases c:i<l.length
 .rw [getD_lt c];exact h.2 _ (getElem_mem _)
 .rw [getD_eq_getElem?_getD,getElem?_eq_none ah];exact⟨by decide,by decide⟩
def ShK.sub{l r:List Cac}(h:ShK l)(n:r.length<1000)(s:∀x∈r,x∈l):ShK r:=⟨n,λx a=>h.2 x (s x a)⟩
def FC(l:List Cac)(pc k:Int):Prop:=(k= -1/\∀j:Int,0<=j->j<l.length->(((l).getD (j).toNat default)).blk.pc≠pc)\/(0<=k/\k<l.length/\(((l).getD (k).toNat default)).blk.pc=pc/\∀j:Int,0<=j->j<k->(((l).getD (j).toNat default)).blk.pc≠pc)
def FC.one{pc k m:Int}(h:FC l pc k)(g:FC l pc m):k=m:=by
 rcases h with⟨a,b⟩ | ⟨a,b,c,d⟩<;>rcases g with⟨e,f⟩ | ⟨e,f,j,i⟩
 all_goals grind
def atV(l:List Cac)(a:Int)(h:l.length<1000000000):ZT.F () (l,a,()) (λy=>FC l a y.1):=by
 dsimp only [ZT,gm];refine ay (λ(y:List Cac×ni)=>y.1=l/\y.2.1=a/\0<=y.2.2.1/\y.2.2.1<=l.length/\∀j:Int,0<=j->j<y.2.2.1->(((l).getD (j).toNat default)).blk.pc≠a) (λy=>(l.length-y.2.2.1).toNat) ⟨rfl,rfl,by simp,by simp,λj m b=>absurd b (by simp;omega)⟩ ?_;rintro⟨(l:List Cac),(a:Int),(i:Int),⟨⟩⟩ hI;dsimp only at hI ⊢;obtain⟨rfl,rfl,b,k,d⟩:=hI;simp (disch:=omega) only [RR,CAB];refine⟨λg=>⟨b,g,λe=>Or.inr ⟨b,g,e,d⟩,λe=>⟨⟨ah,ah,λj c f=> ?_⟩,ah⟩⟩,λg=>Or.inl ⟨rfl,λj c f=>d j c ah⟩⟩
 grind
def There(w mem:List Int)(a:Int):Prop:=∀k:Int,0<=k->k<w.length->a+k<mem.length/\((mem).getD (a+k).toNat default)=((w).getD (k).toNat default)
def atW(w mem:List Int)(a:Int)(o:w.length<1000)(hm:mem.length<1000000000)(r:0<=a)(p:a<=1000000):ZJ.F () (w,mem,a,()) (λy=>y=(bp (There w mem a),())):=by
 dsimp only [ZJ,gm];refine ay (λ(y:List Int×aAN)=>y.1=w/\y.2.1=mem/\y.2.2.1=a/\0<=y.2.2.2.1/\y.2.2.2.1<=w.length/\∀k:Int,0<=k->k<y.2.2.2.1->a+k<mem.length/\((mem).getD (a+k).toNat default)=((w).getD (k).toNat default)) (λy=>(w.length-y.2.2.2.1).toNat) ⟨rfl,rfl,rfl,by simp,by simp,λj m b=>absurd b (by simp;omega)⟩ ?_;rintro⟨(w:List Int),(mem:List Int),(a:Int),(i:Int),⟨⟩⟩ hI;dsimp only at hI ⊢;obtain⟨rfl,rfl,rfl,b,l,h⟩:=hI;simp (disch:=omega) only [RR];refine⟨λg=>⟨ah,ah,ah,ah,λe=> ?_,λe=>⟨⟨ah,ah,λj d f=> ?_⟩,ah⟩⟩,λg=> ?_⟩
 .rw [aT];intro q;obtain⟨n,s⟩:=q i b g;omega
 .by_cases c:j<i
  all_goals grind
 .rw [aI];exact λj d f=>h j d ah
abbrev cE(e:Cac):aBr:=(e.blk.pc,e.blk.len,e.blk.fin,e.blk.x,e.blk.y,e.blk.k,e.words,e.blk.ops,())
theorem atX{p1 f1}(b:Y77 p1 f1)(e:Cac)(d:e.words.length<1000)(a:e.blk.ops.length<1000000):ZN.F (p1,f1,()) (e,()) (λy=>y=cE e):=by
 have mE:∀c:Blk,Co.mk .blk (c.pc,c.len,c.ops,c.fin,c.x,c.y,c.k,())=c:=λ_=>rfl
 dsimp only [ZN,gm,jo];simp (disch:=omega) only [RR,CAB,mE,b _ a,nil_append,length_nil];omega
noncomputable def dJ (mem:List Int) (x:Cac):Bool:=bp (0<=x.blk.pc/\There x.words mem x.blk.pc)
def pQ{d:α}{P:α->Bool}{l:List α}{i:Int}(a:0<=i)(h:i<l.length):(l.take (i+1).toNat).filter P=(l.take i.toNat).filter P++(if P (l.getD i.toNat d)=true then [l.getD i.toNat d]else []):=by
 rw [show(i+1).toNat=i.toNat+1 by omega,take_succ_eq_append_getElem ah,getD_lt ah,filter_append]
 grind
def zD(P:α->Bool)(l:List α)(i:Nat):((l.take i).filter P).length<=i:=Nat.le_trans (length_filter_le _ _) (length_take_le _ _)
abbrev ant(b:aBh->Bool)(a:aBh->aBr):Prop:=∀e,e.words.length<1000->e.blk.ops.length<1000000->b (e,())=true/\a (e,())=cE e
abbrev ayO(c:aBk->Bool)(b:aBk->fA):Prop:=∀w mem a,w.length<1000->mem.length<1000000000->0<=a->a<=1000000->c (w,mem,a,())=true/\b (w,mem,a,())=(bp (There w mem a),())
def atY{p1 f1 p2 f2}(t:ant p1 f1)(s:ayO p2 f2)(l:List Cac)(mem:List Int)(h:ShK l)(hm:mem.length<1000000000):ZQ.F (p1,f1,p2,f2,()) (l,mem,()) (λy=>y=(l.filter (dJ mem),())):=by
 have f:=λz1 z2 z3=>(t z1 z2 z3).1
 have q:=λz1 z2 z3=>(t z1 z2 z3).2
 have m:=λz1 z2 z3 z4 k n j=>(s z1 z2 z3 z4 k n j).1
 have p:=λz1 z2 z3 z4 k n j=>(s z1 z2 z3 z4 k n j).2
 have A:=h.1;have mC:=CAM;dsimp only [ZQ,gm,jo,map_cons,map_nil]at*;refine ay (λ(y:List Cac×List Int×Int×qj)=>y.1=l/\y.2.1=mem/\0<=y.2.2.1/\y.2.2.1<=l.length/\y.2.2.2.1=(l.take y.2.2.1.toNat).filter (dJ mem)) (λy=>(l.length-y.2.2.1).toNat) ⟨rfl,rfl,by simp,by simp,by simp⟩ ?_;rintro⟨(l:List Cac),(mem:List Int),(i:Int),(o:List Cac),⟨⟩⟩ hI;dsimp only at hI ⊢;obtain⟨rfl,rfl,a,z,rfl⟩:=hI;obtain⟨b,u,r⟩:=h.at i.toNat;have B:=zD (dJ mem) l i.toNat;by_cases c:i<l.length
 .have fs:=pQ (d:=default) (P:=dJ mem) a c;by_cases d:0<=(((l).getD (i).toNat default)).blk.pc
  .have P2:=m _ mem _ b hm d r;have x:=p _ mem _ b hm d r;have v:=f _ b u;have w:=q _ b u;simp (disch:=omega) only [RR,CAB,c,d,v,P2,w,x,mC];refine⟨a,a,a,λe=>⟨a,ah,⟨ah,ah,?_⟩,ah⟩,λe=>⟨⟨ah,ah,?_⟩,ah⟩⟩
   .rw [fs,if_pos (show dJ mem _=true from aI ⟨d,aF.1 e⟩)]
   .rw [fs,if_neg (by rw [dJ,aT (λg=>by rw [aI g.2]at e;simp at e)];decide),append_nil]
  .simp (disch:=omega) only [RR,CAB,c,d,mC];refine⟨a,λe=>e.1.elim,λ_=>⟨⟨ah,ah,?_⟩,ah⟩⟩;rw [fs,if_neg (by rw [dJ,aT (λg=>d g.1)];decide),append_nil]
 .simp (disch:=omega) only [RR,CAB,c];rw [take_of_length_le ah]
noncomputable def jS:List Int->List Ins
 | []=> []
 | w::r=>if bp (Wo w/\bF (dI w))=true then dI w::jS r else []
def Qh:∀w:List Int,(jS w).length<=w.length
 | []=>Nat.le_refl _
 | w::r=>by
  have:=Qh r
  grind [jS,length_cons,length_nil]
def zF:∀(a b:List Int),(∀w∈a,Wo w/\bF (dI w))->jS (a++b)=a.map dI++jS b
 | [],b,_=>rfl
 | w::a,b,h=>by
  rw [cons_append,jS,if_pos (aI (h w (by simp))),zF a b (λx c=>h x (by simp [c]))];rfl
theorem atZ{p1 f1}(m:aeo p1 f1)(w:List Int)(h:w.length<1000000000):ZH.F (p1,f1,()) (w,()) (λy=>y=(jS w,())):=by
 have e:∀x y z u:Int,Co.mk .ins (x,y,z,u,())=⟨x,y,z,u⟩:=λ_ _ _ _=>rfl
 dsimp only [ZH,gm];refine ay (λ(y:O1)=>y.1=w/\0<=y.2.1/\y.2.1<=w.length/\y.2.2.1=(w.take y.2.1.toNat).map dI/\∀x∈w.take y.2.1.toNat,Wo x/\bF (dI x)) (λy=>(w.length-y.2.1).toNat) ⟨rfl,by simp,by simp,by simp,by simp⟩ ?_;rintro⟨(w:List Int),(i:Int),(o:List Ins),⟨⟩⟩ hI;dsimp only at hI ⊢;obtain⟨rfl,b,n,rfl,a⟩:=hI;simp (disch:=omega) only [RR,m];have tl:=length_take_le' i.toNat w;refine⟨λg=>⟨b,g,?_⟩,λg=> ?_⟩
 .have dr:w=w.take i.toNat++(w.getD i.toNat default::w.drop (i.toNat+1)):=by simp_all
  unfold tkI;by_cases c:Wo (w.getD i.toNat default)/\bF (dI (w.getD i.toNat default))
  .rw [if_pos (aI c)];simp (disch:=omega) only [RR,e];have j:=bg (d:=default) b g (l:=w) rfl;have k:((w.take i.toNat).map dI).length=i.toNat:=by rw [length_map,length_take];omega
   refine⟨by rw [k];simp only [length_cons,length_nil];omega,⟨ah,ah,by rw [<-j,map_append];rfl,λx f=> ?_⟩,ah⟩;rw [<-j,mem_append,mem_singleton]at f;exact f.elim (a x) (λq=>q▸c)
  .rw [if_neg (by rw [aT c];decide)];simp (disch:=omega) only [RR]
   conv=>rhs;rw [dr]
   rw [zF _ _ a,jS,if_neg (by rw [aT c];decide),append_nil]
   done
 .rw [take_of_length_le ah]at a ⊢;have:=zF w [] a;rw [append_nil]at this;rw [this];simp [jS]
def neP(a:Int)(x:Cac):Bool:= !decide (x.blk.pc=a)
def kF(l:List Cac)(e:Cac):List Cac:=(l.filter (neP e.blk.pc)++ [e]).drop ((l.filter (neP e.blk.pc)).length+1-4)
def at0{p1 f1}(k:ant p1 f1)(l:List Cac)(e:Cac)(h:ShK l)(j:e.words.length<1000)(g:e.blk.ops.length<1000000):Z4.F (p1,f1,()) (l,e,()) (λy=>y=(kF l e,())):=by
 have a:=λz1 z2 z3=>(k z1 z2 z3).1
 have b:=λz1 z2 z3=>(k z1 z2 z3).2
 have C:=h.1;have mC:=CAM;dsimp only [Z4,gm,jo,map_cons,map_nil]at*;refine ay (λ(y:List Cac×Int×Cac×qj)=>y.1=l/\0<=y.2.1/\y.2.1<=l.length/\y.2.2.1=e/\y.2.2.2.1=(l.take y.2.1.toNat).filter (neP e.blk.pc)) (λy=>(l.length-y.2.1).toNat) ⟨rfl,by simp,by simp,rfl,by simp⟩ ?_;rintro⟨(l:List Cac),(i:Int),(e:Cac),(o:List Cac),⟨⟩⟩ hI;dsimp only at hI ⊢;obtain⟨rfl,f,A,rfl,rfl⟩:=hI;obtain⟨m,p,B⟩:=h.at i.toNat;have x:=zD (neP e.blk.pc) l i.toNat;have u:=a _ j g;have q:=b _ j g;by_cases c:i<l.length
 .have fs:=pQ (d:=default) (P:=neP e.blk.pc) f c;by_cases d:(((l).getD (i).toNat default)).blk.pc=e.blk.pc
  .rw [if_neg (by simp [neP,d, -getD_eq_getElem?_getD])]at fs;simp (disch:=omega) only [RR,CAB,c,d,mC];exact⟨f,⟨ah,ah,by rw [fs,append_nil]⟩,ah⟩
  .rw [if_pos (by simp [neP,d, -getD_eq_getElem?_getD])]at fs;have t:=a _ m p;have v:=b _ m p;simp (disch:=omega) only [RR,CAB,c,d,t,v,mC];exact⟨f,f,ah,⟨ah,ah,fs.symm⟩,ah⟩
 .simp (disch:=omega) only [RR,CAB,c,u,q,mC];rw [take_of_length_le ah]at x ⊢;have r:((l.filter (neP e.blk.pc)++ [e]).length:Int)=(l.filter (neP e.blk.pc)).length+1:=by rw [length_append,length_singleton];omega
  have s:(l.filter (neP e.blk.pc)++ [e]).length=(l.filter (neP e.blk.pc)).length+1:=by rw [length_append,length_singleton]
  rw [r];generalize hn:(l.filter (neP e.blk.pc)).length=n at*;have w:IntKind.i64.wrap ((n:Int)+1-4)=n+1-4:=w64 ah ah;rw [w];unfold kF;rw [hn];refine⟨ah,λz=>⟨ah,ah,ah,ah,ah,ah,?_⟩,λz=>by rw [show n+1-4=0 by omega];rfl⟩;rw [take_of_length_le ah,show((n:Int)+1-4).toNat=n+1-4 by omega]
def qb(x:Cac):Prop:=(jS x.words).length=x.words.length/\nC x.blk.pc (jS x.words)/\chk (lower x.blk.pc (jS x.words)) x.blk=true
abbrev at5(b:bn->Bool)(a:bn->aAW):Prop:=∀w,w.length<1000000000->b (w,())=true/\a (w,())=(jS w,())
theorem at6{p1 f1 p2 f2 p3 f3 p4 f4}(n:anr p1 f1)(k:ayJ p2 f2)(j:at5 p3 f3)(m:Y96 p4 f4)(e:Cac)(h:e.words.length<1000000000)(o:e.blk.ops.length<1000000000):ZI.F (p1,f1,p2,f2,p3,f3,p4,f4,()) (e,()) (λy=>y=(bp (qb e),())):=by
 have mE:∀c:Blk,Co.mk .blk (c.pc,c.len,c.ops,c.fin,c.x,c.y,c.k,())=c:=λ_=>rfl
 have tl:=Qh e.words;obtain⟨g,a⟩:=n e.blk.pc (jS e.words) ah;obtain⟨i,l⟩:=k e.blk.pc (jS e.words) ah;have b:=Qg a;rw [a]at b;obtain⟨d,f⟩:=m (lower e.blk.pc (jS e.words)) e.blk (by have:((lower e.blk.pc (jS e.words)).ops.length:Int)<=5000:=b;omega) ah;dsimp only [ZI,gm,jo];simp (disch:=omega) only [RR,CAB,mE,j _ h,g,a,i,l,d,f]
 grind [bp,qb,decide,jS,chk,lower,aF]
def FK(l:List Cac)(mem:List Int):Prop:=l.length<=4/\(∀j:Int,0<=j->j<l.length->qb ((l).getD (j).toNat default)/\There (((l).getD (j).toNat default)).words mem (((l).getD (j).toNat default)).blk.pc)/\∀i j:Int,0<=i->i<j->j<l.length->(((l).getD (i).toNat default)).blk.pc≠(((l).getD (j).toNat default)).blk.pc
def at7{p2 f2}{D:aBh->Bool}{C:aBh->fA}(H:∀e,e.words.length<1000000000->e.blk.ops.length<1000000000->D (e,())=true/\C (e,())=(bp (qb e),()))(M:ayO p2 f2)(l:List Cac)(mem:List Int)(h:ShX l)(hm:mem.length<1000000000):ZK.F (D,C,p2,f2,()) (l,mem,()) (λy=>y=(bp (FK l mem),())):=by
 have R:=h.1;dsimp only [ZK,gm,jo];simp (disch:=omega) only [RR,CAB];refine⟨λg=>by rw [aT (λe=>by have:=e.1;omega)],λg=> ?_⟩;refine ay (λ(y:List Cac×eG)=>y.1=l/\y.2.1=mem/\0<=y.2.2.1/\y.2.2.1<=l.length/\(∀j:Int,0<=j->j<y.2.2.1->qb ((l).getD (j).toNat default)/\There (((l).getD (j).toNat default)).words mem (((l).getD (j).toNat default)).blk.pc)/\∀i j:Int,0<=i->i<j->j<y.2.2.1->(((l).getD (i).toNat default)).blk.pc≠(((l).getD (j).toNat default)).blk.pc) (λy=>(l.length-y.2.2.1).toNat) ⟨rfl,rfl,by simp,by simp,λj A p=>absurd p (by simp;omega),λi j A p J=>absurd J (by simp;omega)⟩ ?_;rintro⟨(n:List Cac),(f:List Int),(i:Int),⟨⟩⟩ hI;dsimp only at hI ⊢;obtain⟨rfl,rfl,m,P,F,G⟩:=hI;obtain⟨r,s⟩:=h.at i.toNat;by_cases c:i<n.length
 .by_cases d:qb ((n).getD (i).toNat default)
  .have pc:=d.2.1.pc;have Q:=d.1;have T:=d.2.1.ln;obtain⟨L,N⟩:=M _ f _ (show(((n).getD (i).toNat default)).words.length<1000 by omega) hm pc.1 ah;simp (disch:=omega) only [RR,CAB,c,H _ r s,aI d,L,N];refine⟨m,m,m,λe=> ?_,λe=> ?_⟩
   .rw [aT];intro q;rw [aI (q.2.1 i m c).2]at e;cases e
   have K:=aF.1 e;refine ay (λ(y:List Cac×aAN)=>y.1=n/\y.2.1=f/\y.2.2.1=i/\0<=y.2.2.2.1/\y.2.2.2.1<=i/\∀j:Int,0<=j->j<y.2.2.2.1->(((n).getD (j).toNat default)).blk.pc≠(((n).getD (i).toNat default)).blk.pc) (λy=>(i-y.2.2.2.1).toNat) ⟨rfl,rfl,rfl,by simp,m,λj A p=>absurd p (by simp;omega)⟩ ?_;rintro⟨(u:List Cac),(v:List Int),(w:Int),(k:Int),⟨⟩⟩ hJ;dsimp only at hJ ⊢;obtain⟨rfl,rfl,rfl,t,U,k3⟩:=hJ;simp (disch:=omega) only [RR];refine⟨λE=>⟨t,ah,m,c,λq=> ?_,λq=>⟨⟨ah,ah,λj o x=> ?_⟩,ah⟩⟩,λE=>⟨⟨ah,ah,λj o x=> ?_,λa b B I S=> ?_⟩,ah⟩⟩
   .rw [aT];exact λz=>z.2.2 k w t E c q
   .by_cases y:j<k
    .exact k3 j o y
    .rw [show j=k by omega];exact q
   .by_cases y:j<w
    .exact F j o y
    .rw [show j=w by omega];exact⟨d,K⟩
   .by_cases y:b<w
    .exact G a b B I y
    .rw [show b=w by omega];exact k3 a B ah
  .simp (disch:=omega) only [RR,CAB,c,H _ r s,aT d];refine⟨m,?_,λe=>e.1.elim⟩;rw [aT];exact λz=>d (z.2.1 i m c).1
 .simp (disch:=omega) only [RR,CAB,c];rw [aI];exact⟨ah,λj o x=>F j o ah,λa b O r s=>G a b O r ah⟩
def EGB:(∀e:Eng,jQ .eng 0 .i64 e=e.aj.regs)/\(∀e:Eng,cO .eng 1 e=e.aj.pc)/\(∀e:Eng,jQ .eng 2 .i64 e=e.aj.mem)/\(∀e:Eng,cO .eng 3 e=e.aj.save)/\(∀e:Eng,LM .eng 4 e=e.aj.aR)/\(∀e:Eng,LM .eng 5 e=e.aj.waits)/\(∀e:Eng,cO .eng 6 e=e.aj.halt)/\(∀e:Eng,jQ .eng 7 .i64 e=e.aj.ins)/\(∀e:Eng,jQ .eng 8 .i64 e=e.aj.outs)/\(∀e:Eng,cO .eng 9 e=e.aj.count)/\(∀e:Eng,jQ .eng 10 .cac e=e.cache)/\(∀e:Eng,jQ .eng 11 .cer e=e.aJ):=
 ⟨λ_=>rfl,λ_=>rfl,λ_=>rfl,λ_=>rfl,λ_=>rfl,λ_=>rfl,λ_=>rfl,λ_=>rfl,λ_=>rfl,λ_=>rfl,λ_=>rfl,λ_=>rfl⟩
theorem MKM:∀m:aD,Co.mk .aj (m.regs,m.pc,m.mem,m.save,m.aR,m.waits,m.halt,m.ins,m.outs,m.count,())=m:=λ_=>rfl
def fF(e:Eng):Prop:=MOK e.aj/\FK e.cache e.aj.mem/\jY e.aJ
abbrev ayP(b:O4->Bool)(a:O4->fA):Prop:=∀l mem,ShX l->mem.length<1000000000->b (l,mem,())=true/\a (l,mem,())=(bp (FK l mem),())
def aua{p1 f1 p2 f2 p3 f3}(m:ayP p1 f1)(k:ayb p2 f2)(j:Tj p3 f3)(e:Eng)(a:MSh e.aj)(i:ShX e.cache)(l:ShD e.aJ):ZM.F (p1,f1,p2,f2,p3,f3,()) (e,()) (λy=>y=(bp (fF e),())):=by
 have b:=λz1 z2 z3 z4=>(m z1 z2 z3 z4).1
 have h:=λz1 z2 z3 z4=>(m z1 z2 z3 z4).2
 have f:=λz1 z2=>(k z1 z2).1
 have g:=λz1 z2=>(k z1 z2).2
 have d:=λz1 z2=>(j z1 z2).1
 have c:=λz1 z2=>(j z1 z2).2
 have mM:=MKM;have n:=b _ e.aj.mem i a.2.1;have o:=h _ e.aj.mem i a.2.1;dsimp only [ZM,gm,iR]at*;simp (disch:=omega) only [RR,EGB,mM,d _ a,c _ a,n,o,f _ l,g _ l];unfold fF;rw [fH,fH,Bool.and_assoc]
abbrev e12(e:Eng):l8:=(e.aj.regs,e.aj.pc,e.aj.save,e.aj.aR,e.aj.waits,e.aj.halt,e.aj.ins,e.aj.outs,e.aj.count,e.aJ,e.aj.mem,e.cache,())
noncomputable def newE (m:aD):Eng:=if bp (MOK m)=true then⟨m,[],[]⟩else⟨Ti,[],[]⟩
def aub{p1 f1 p2 f2}(a:Tj p1 f1)(b:aem p2 f2)(m:aD)(h:MSh m):Ya.F (p1,f1,p2,f2,()) (m,()) (λy=>y=e12 (newE m)):=by
 dsimp only [Ya,gm];simp (disch:=omega) only [RR,a _ h,b _ h];unfold newE;exact⟨λg=>by rw [g];rfl,λg=>by rw [g];rfl⟩
def ajh{m:aD}(h:MSh m)(f:m.outs.length<900000000)(b:Bool):MSh (stS m b)/\(stS m b).outs.length<=m.outs.length+1/\(stS m b).ins.length<=m.ins.length:=by
 obtain⟨c,d,e,a⟩:=h;unfold stS;split
 .rename_i g;have ok:=aF.1 g;split
  .exact⟨⟨c,d,e,a⟩,Nat.le_succ _,Nat.le_refl _⟩
  .have k:=zC ok (by have:=ok.ct;omega) b;have l:=Kj m b;exact⟨⟨by rw [k.r4];omega,by have:=k.m64;omega,ah,ah⟩,l.2,l.1⟩
 .exact⟨⟨by decide,by decide,by decide,by decide⟩,Nat.zero_le _,Nat.zero_le _⟩
noncomputable def jT (e:Eng) (q:List Int):Eng:=⟨stS e.aj (bp (e.aj.count∈q)),e.cache.filter (dJ (stS e.aj (bp (e.aj.count∈q))).mem),e.aJ⟩
abbrev auc(b:O4->Bool)(a:O4->qj):Prop:=∀l mem,ShK l->mem.length<1000000000->b (l,mem,())=true/\a (l,mem,())=(l.filter (dJ mem),())
def aud{p1 f1 p2 f2 p3 f3}(n:auc p1 f1)(m:ayC p2 f2)(l:ajd p3 f3)(e:Eng)(q:List Int)(c:MSh e.aj)(g:e.aj.outs.length<900000000)(j:ShK e.cache)(k:q.length<1000000000):ZR.F (p1,f1,p2,f2,p3,f3,()) (e.aj.regs,e.aj.pc,e.aj.mem,e.aj.save,e.aj.aR,e.aj.waits,e.aj.halt,e.aj.ins,e.aj.outs,e.aj.count,e.cache,q,e.aJ,()) (λy=>y=e12 (jT e q)):=by
 have a:=λz1 z2 z3 z4=>(n z1 z2 z3 z4).1
 have i:=λz1 z2 z3 z4=>(n z1 z2 z3 z4).2
 have f:=λz1 z2 z3 z4=>(m z1 z2 z3 z4).1
 have h:=λz1 z2 z3 z4=>(m z1 z2 z3 z4).2
 have d:=λz1 z2 z3=>(l z1 z2 z3).1
 have b:=λz1 z2 z3=>(l z1 z2 z3).2
 have mM:=MKM;dsimp only [ZR,gm,iR]at*;have p:=d _ e.aj.count k;have o:=b _ e.aj.count k;have s:=f e.aj (bp (e.aj.count∈q)) c g;have u:=h e.aj (bp (e.aj.count∈q)) c g;have sh:=(ajh c g (bp (e.aj.count∈q))).1;have r:=a _ (stS e.aj (bp (e.aj.count∈q))).mem j sh.2.1;have t:=i _ (stS e.aj (bp (e.aj.count∈q))).mem j sh.2.1;simp (disch:=omega) only [RR,mM,p,o,s,u,r,t];rfl
theorem aue{p1 f1 p2 f2 p3 f3}(t:ant p1 f1)(o:asU p2 f2)(n:aem p3 f3)(e:Eng)(m:MSh e.aj)(l:ShK e.cache)(p:ShC e.aJ):ZP.F (p1,f1,p2,f2,p3,f3,()) (e,()) (λy=>y=e12 e):=by
 have d:=λz1 z2 z3=>(t z1 z2 z3).1
 have k:=λz1 z2 z3=>(t z1 z2 z3).2
 have h:=λz1 z2 z3=>(o z1 z2 z3).1
 have a:=λz1 z2 z3=>(o z1 z2 z3).2
 have g:=λz1 z2=>(n z1 z2).1
 have f:=λz1 z2=>(n z1 z2).2
 have mM:=MKM;have mC:=CAM;have z:∀q:Cer,Co.mk .cer (q.base.pc,q.base.len,q.base.ops,q.base.fin,q.base.x,q.base.y,q.base.k,q.made.pc,q.made.len,q.made.ops,q.made.fin,q.made.x,q.made.y,q.made.k,())=q:=λ_=>rfl
 unfold wH at a;dsimp only [ZP,gm,iR,jo,cons_append,nil_append,map_cons,map_nil]at*;simp (disch:=omega) only [RR,EGB,mM,g _ m,f _ m];have E:=l.1;have B:=p.1;have w:∀x:Cer,([x].length:Int)=1:=λ_=>rfl
 refine ay (λy=>∃i:Nat,i<=e.cache.length/\y=((i:Int),e,(0:Int),(0:Int),false,false,(0:Int),(0:Int),e.aj.pc,e.aj.save,e.aj.aR,e.aj.waits,e.aj.halt,e.aj.count,e.aj.regs,e.aj.mem,e.aj.ins,e.aj.outs,e.cache.take i,())) (λy=>(e.cache.length-y.1).toNat) ⟨0,Nat.zero_le _,rfl⟩ ?_;rintro y ⟨i,C,rfl⟩;dsimp only;obtain⟨r,s,A⟩:=l.at i;have u:((i:Int)).toNat=i:=rfl;by_cases c:(i:Int)<e.cache.length
 .have tl:=length_take_le' i e.cache;simp (disch:=omega) only [RR,c,u,d _ r s,k _ r s,mC];refine⟨ah,ah,⟨i+1,ah,?_⟩,ah⟩;simp_all
 .simp (disch:=omega) only [RR,c];rw [take_of_length_le ah];refine ay (λy=>∃i:Nat,i<=e.aJ.length/\y=((i:Int),e,(0:Int),(0:Int),false,false,(0:Int),(0:Int),e.aj.pc,e.aj.save,e.aj.aR,e.aj.waits,e.aj.halt,e.aj.count,e.aj.regs,e.aj.mem,e.aj.ins,e.aj.outs,e.cache,e.aJ.take i,())) (λy=>(e.aJ.length-y.1).toNat) ⟨0,Nat.zero_le _,rfl⟩ ?_;rintro y ⟨j,D,rfl⟩;dsimp only;have b:=p.at j;have v:((j:Int)).toNat=j:=rfl;by_cases c:(j:Int)<e.aJ.length
  .have tl:=length_take_le' j e.aJ;simp (disch:=omega) only [RR,c,v,h _ b.1 b.2,a _ b.1 b.2,z,w];refine⟨ah,ah,⟨j+1,ah,?_⟩,ah⟩;rw [take_succ_eq_append_getElem ah,getD_lt ah];rfl
  .simp (disch:=omega) only [RR,c];rw [take_of_length_le ah]
end Go.TX.F
namespace Go.TX.F
open Go Go.AE Go.TX List
def ayQ(e:Cac)(a:Int):ag6.F () (e,a,()) (λy=>y=(decide (e.blk.pc=a),a,())):=by
 dsimp only [ag6,gm];simp (disch:=omega) only [RR,CAB]
def auf{c:Cac×dY->Bool}{d:Cac×dY->Bool×dY}(m:∀e a,c (e,a,())=true/\d (e,a,())=(decide (e.blk.pc=a),a,()))(l:List Cac)(a:Int)(h:l.length<1000000000):WG.F (c,d,()) (l,a,()) (λy=>y.2.1=a/\FC l a y.1):=by
 dsimp only [WG,gm];refine ay (λ(y:List Cac×aAV)=>y.1=l/\y.2.1=l.length/\0<=y.2.2.1/\y.2.2.1<=l.length/\y.2.2.2.1=a/\∀j:Int,0<=j->j<y.2.2.1->(((l).getD (j).toNat default)).blk.pc≠a) (λy=>(l.length-y.2.2.1).toNat) ⟨rfl,rfl,by simp,by simp,rfl,λj q b=>absurd b (by simp;omega)⟩ ?_;rintro⟨(l:List Cac),(n:Int),(i:Int),(a:Int),⟨⟩⟩ hI;dsimp only at hI ⊢;obtain⟨rfl,rfl,b,p,rfl,k⟩:=hI;simp (disch:=omega) only [RR,CAB,m];refine⟨λg=>⟨b,g,λe=>Or.inr ⟨b,g,e,k⟩,λe=>⟨⟨ah,ah,λj f o=> ?_⟩,ah⟩⟩,λg=>Or.inl ⟨rfl,λj f o=>k j f ah⟩⟩
 grind
def ayR{c:aAX->Bool}{b:aAX->ni}(d:∀l a,l.length<1000000000->c (l,a,())=true/\(b (l,a,())).2.1=a/\FC l a (b (l,a,())).1)(l:List Cac)(a:Int)(h:l.length<1000000000):aha.F (c,b,()) (l,a,()) (λy=>FC l a y.1):=by
 dsimp only [aha,gm];simp_all
abbrev aep(c:aAX->Bool)(b:aAX->dY):Prop:=∀l a,l.length<1000000000->c (l,a,())=true/\FC l a (b (l,a,())).1
def lvS(m:aD)(b:Blk)(n h:Int):aD:={m with pc:=b.pc+n,count:=m.count+n,halt:=h}
def aug(m:aD)(b:Blk)(n h:Int)(c:0<=m.count/\m.count<=2000000)(a:0<=n/\n<=1000)(d: -1000<=b.pc/\b.pc<=1000000):Z7.F () (m.pc,m.save,m.aR,m.waits,m.halt,m.ins,m.count,b,n,h,m.regs,m.mem,m.outs,()) (λy=>y=mB (lvS m b n h)):=by
 dsimp only [Z7,gm];simp (disch:=omega) only [RR,RB];rfl
def auh(b:Blk)(a n:Int)(c:0<=n/\n<=1000)(e: -1000<=b.pc/\b.pc<=1000000)(d: -1000<=b.len/\b.len<=1000000):Z8.F () (b,a,n,()) (λy=>y=(decide (b.pc+n<a)&&decide (a<b.pc+b.len),())):=by
 dsimp only [Z8,gm];simp (disch:=omega) only [RR,RB]
def aui{p1 f1}(a:Y24 p1 f1)(m:aD)(o:IOp)(x y:Int)(h:o.kind=2->0<=o.k/\o.k<m.regs.length):aad.F (p1,f1,()) (m,o,x,y,()) (λz=>z=(if o.kind=1 then o.k else if o.kind=2 then((m.regs).getD (o.k).toNat default)else if o.kind=3 then wdo o.k x y else 0,())):=by
 dsimp only [aad,gm];simp (disch:=omega) only [RR,RB,MRB,a];simp_all
def goS(b:Blk)(v:List Int):Int:=if b.fin=1 then b.k else if b.fin=2 then((v).getD (b.x).toNat default)else if b.fin=3/\((v).getD (b.x).toNat default)=((v).getD (b.y).toNat default)then b.k else if b.fin=4/\((v).getD (b.x).toNat default)< ((v).getD (b.y).toNat default)then b.k else b.pc+b.len
def auj(b:Blk)(v:List Int)(d: -1000<=b.pc/\b.pc<=1000000)(c: -1000<=b.len/\b.len<=1000000)(e:b.fin≠1->0<=b.x/\b.x<v.length)(a:3<=b.fin->0<=b.y/\b.y<v.length):aae.F () (b,v,()) (λz=>z=(goS b v,())):=by
 dsimp only [aae,gm];simp (disch:=omega) only [RR,RB];unfold goS
 grind
noncomputable def tL (m:aD) (q:List Int) (left size:Int):Bool:=bp (size<=left/\m.count<=1000000-size/\∀k:Int,1<=k->k<size->m.count+k∉q)
def auk{p1 f1}(c:ajd p1 f1)(m:aD)(q:List Int)(left size:Int)(b:q.length<1000000000)(a:0<=m.count/\m.count<=2000000)(f: -1000<=size/\size<=1000000):Z6.F (p1,f1,()) (m,q,left,size,()) (λy=>y=(tL m q left size,())):=by
 dsimp only [Z6,gm];simp (disch:=omega) only [RR,MRB];refine⟨λg=>by unfold tL;rw [aT (λz=>by omega)],λg=> ?_⟩;refine ay (λ(y:List Int×Int×Int×aAP)=>y.1=q/\y.2.1=size/\1<=y.2.2.1/\(y.2.2.1<=size\/y.2.2.1=1)/\y.2.2.2.1=m/\∀k:Int,1<=k->k<y.2.2.1->m.count+k∉q) (λy=>(size-y.2.2.1).toNat) ⟨rfl,rfl,by simp,Or.inr rfl,rfl,λk h a=>absurd a (by simp;omega)⟩ ?_;rintro⟨(q:List Int),(s:Int),(k:Int),(m:aD),⟨⟩⟩ hI;dsimp only at hI ⊢;obtain⟨rfl,rfl,d,e,rfl,k3⟩:=hI;simp (disch:=omega) only [RR,c _ _ b]
 grind [tL,aI,aT,aF,gI]
def aul(b:List Int)(k:Int)(a:By b)(g:0<=k)(f:k+1<b.length)(e:b.length<1000000000):ZU.F () (b,k,()) (λy=>y=(((b).getD (k).toNat default)*256+((b).getD (k+1).toNat default),())):=by
 have B:=λk:Nat=>a.at k
 have c:∀k:Nat,IntKind.i64.wrap (b.getD k default)=b.getD k default:=λk=>by grind [w64]
 have d:=B k.toNat;have h:=B (k+1).toNat;dsimp only [ZU,gm];simp (disch:=omega) only [RR,c];omega
def evR(m:aD)(b:Blk)(o:IOp)(x y:Int):aD×Int×Bool:=
 if o.kind=7 then({m with outs:=m.outs++ [x]},0,false)
 else if o.kind=6 then({m with ins:=m.ins.drop 1},m.ins.getD 0 0,false)
 else if 64<=x then(lvS m b o.at_ 3,0,true)
 else if o.kind=4 then(m,((m.mem).getD (x).toNat default),false)
 else if b.pc+o.at_<x/\x<b.pc+b.len then(lvS {m with mem:=m.mem.set x.toNat y} b (o.at_+1) 0,0,true)
 else({m with mem:=m.mem.set x.toNat y},0,false)
abbrev aum(z:aD×Int×Bool):aBa:=(z.1.pc,z.1.save,z.1.aR,z.1.waits,z.1.halt,z.1.ins,z.1.count,z.2.1,z.2.2,z.1.regs,z.1.mem,z.1.outs,())
theorem aun{B:aBi->Bool}{w:aBi->fE}{t:Blk×ni->Bool}{D:Blk×ni->fA}(E:∀(m:aD) (b:Blk) (n h:Int),0<=m.count/\m.count<=2000000->0<=n/\n<=1000-> -1000<=b.pc/\b.pc<=1000000->B (m.pc,m.save,m.aR,m.waits,m.halt,m.ins,m.count,b,n,h,m.regs,m.mem,m.outs,())=true/\w (m.pc,m.save,m.aR,m.waits,m.halt,m.ins,m.count,b,n,h,m.regs,m.mem,m.outs,())=mB (lvS m b n h))(C:∀(b:Blk) (a n:Int),0<=n/\n<=1000-> -1000<=b.pc/\b.pc<=1000000-> -1000<=b.len/\b.len<=1000000->t (b,a,n,())=true/\D (b,a,n,())=(decide (b.pc+n<a)&&decide (a<b.pc+b.len),()))(m:aD)(b:Blk)(o:IOp)(x y:Int)(hm:m.mem.length=64)(l:0<=x)(O:m.ins.length<1000000000)(N:m.outs.length<900000000)(L:0<=m.count/\m.count<=1000000)(K:0<=o.at_/\o.at_<=100)(j: -1000<=b.pc/\b.pc<=1000000)(A: -1000<=b.len/\b.len<=1000000):Z9.F (B,w,t,D,()) (m.pc,m.save,m.aR,m.waits,m.halt,m.ins,m.count,b,o,x,y,m.regs,m.mem,m.outs,()) (λz=>z=aum (evR m b o x y)):=by
 have k:=λz1 z2 z3 z4 c d q=>(E z1 z2 z3 z4 c d q).1
 have f:=λz1 z2 z3 z4 c d q=>(E z1 z2 z3 z4 c d q).2
 have r:=λz1 z2 z3 z4 c d=>(C z1 z2 z3 z4 c d).1
 have s:=λz1 z2 z3 z4 c d=>(C z1 z2 z3 z4 c d).2
 unfold mB at f;have G:=k m b o.at_ 3 ah ah j;have I:=f m b o.at_ 3 ah ah j;have H:=r b x o.at_ ah j A;have J:=s b x o.at_ ah j A;have v:=k {m with mem:=m.mem.set x.toNat y} b (o.at_+1) 0 (show 0<=m.count/\m.count<=2000000 by omega) ah j;have u:=f {m with mem:=m.mem.set x.toNat y} b (o.at_+1) 0 (show 0<=m.count/\m.count<=2000000 by omega) ah j;dsimp only at v u;dsimp only [Z9,gm];simp (disch:=omega) only [RR,RB,G,I,H,J,v,u,hm,jw];unfold evR;have M:(default:Int)=0:=rfl;refine⟨λe=>⟨by simp only [length_cons,length_nil];omega,by rw [if_pos e]⟩,λi=>⟨λe=>⟨λg=>⟨ah,g,ah,ah,ah,?_⟩,λg=> ?_⟩,λp=>⟨λg=>by rw [if_neg i,if_neg p,if_pos g],λg=>⟨λe=>⟨l,ah,l,ah,by rw [if_neg i,if_neg p,if_neg g,if_pos e]⟩,λF=>⟨l,ah,l,ah,λe=>by rw [if_neg i,if_neg p,if_neg g,if_neg F,if_pos e],λe=> ?_⟩⟩⟩⟩⟩
 .rw [if_neg i,if_pos e,take_of_length_le ah];rfl
 .have n:m.ins=[]:=eq_nil_of_length_eq_zero ah;rw [if_neg i,if_pos e,n];rfl
 .rw [if_neg i,if_neg p,if_neg g,if_neg F,if_neg (λz=>by rw [decide_eq_true z.1,decide_eq_true z.2]at e;cases e)]
noncomputable def dM (mem:List Int):Nat->Int->List Ins
 | 0,_=> []
 | n+1,p=>if bp (p<64/\(Wo ((mem).getD (p).toNat default)/\bF (dI ((mem).getD (p).toNat default)))/\(dI ((mem).getD (p).toNat default)).op≠0)=true then(if bp (11<=(dI ((mem).getD (p).toNat default)).op/\(dI ((mem).getD (p).toNat default)).op<=13)=true then [dI ((mem).getD (p).toNat default)]else dI ((mem).getD (p).toNat default)::dM mem n (p+1))else []
noncomputable def findF (m:aD):List Ins:=if bp (MOK m)=true then dM m.mem 8 m.pc else []
def y9(mem:List Int):∀(n:Nat) (p:Int),(dM mem n p).length<=n/\(0< (dM mem n p).length->p+(dM mem n p).length<=64)/\
  ∀i:Nat,i< (dM mem n p).length->bF ((dM mem n p).getD i default)/\((dM mem n p).getD i default).op≠0/\(11<=((dM mem n p).getD i default).op/\((dM mem n p).getD i default).op<=13->i+1=(dM mem n p).length)
 | 0,_=>⟨Nat.le_refl _,λh=>absurd h (by simp [dM]),λi a=>absurd a (by simp [dM])⟩
 | n+1,p=>by
  obtain⟨j,b,e⟩:=y9 mem n (p+1);unfold dM;split
  .rename_i g;obtain⟨f,⟨d,k⟩,c⟩:=aF.1 g;split
   all_goals grind
  simp_all
def pR(m:aD):(findF m).length<=8/\(0< (findF m).length->MOK m/\nC m.pc (findF m)):=by
 unfold findF;split
 .rename_i g;have ok:=aF.1 g;have d:0<=m.pc/\m.pc<=65535:=ok.pc;obtain⟨c,a,b⟩:=y9 m.mem 8 m.pc;exact⟨c,λh=>⟨ok,⟨ah,ah⟩,⟨ah,by have:=a h;omega⟩,b⟩⟩
 simp_all
def aov{w:Int}(h:Wo w/\bF (dI w)):tkI w=((dI w).op,(dI w).d,(dI w).a,(dI w).k,true,()):=by unfold tkI;rw [if_pos (aI h)]
theorem auo{p1 f1 p2 f2 p3 f3}(t:ai5 p1 f1)(s:aeo p2 f2)(r:Tj p3 f3)(m:aD)(h:MSh m):YH.F (p1,f1,p2,f2,p3,f3,()) (m,()) (λy=>y=(findF m,())):=by
 have f:=λz1=>(t z1).1
 have b:=λz1=>(t z1).2
 have l:=λz1=>(s z1).1
 have p:=λz1=>(s z1).2
 have k:=λz1 z2=>(r z1 z2).1
 have j:=λz1 z2=>(r z1 z2).2
 replace b:∀i:Int,f1 (i,())=(bp (11<=i/\i<=13),()):=λi=>by grind [Prod.ext_iff,bB,aF]
 have D:∀x y z u:Int,Co.mk .ins (x,y,z,u,())=⟨x,y,z,u⟩:=λ_ _ _ _=>rfl
 dsimp only [YH,gm,iR];simp (disch:=omega) only [RR,MRB,k _ h,j _ h];refine⟨λg=>by unfold findF;rw [g];rfl,λg=> ?_⟩;have ok:=aF.1 g;have F:0<=m.pc/\m.pc<=65535:=ok.pc;have A:=ok.m64;have v:findF m=dM m.mem 8 m.pc:=by unfold findF;rw [g,if_pos rfl]
 rw [v];generalize C:dM m.mem 8 m.pc=G;refine ay (λ(y:Int×aD×aAW)=>0<=y.1/\y.1<=8/\y.2.1=m/\y.2.2.1.length<=y.1/\y.2.2.1++dM m.mem (8-y.1).toNat (m.pc+y.1)=G) (λy=>(8-y.1).toNat) ⟨by simp,by simp,rfl,by simp,by simpa using C⟩ ?_;rintro⟨(i:Int),(m:aD),(o:List Ins),⟨⟩⟩ hI;dsimp only at hI ⊢;obtain⟨I,E,rfl,H,a⟩:=hI;simp (disch:=omega) only [RR,f,b,l,p,MRB,A,length_cons,length_nil,length_append,D];have w:IntKind.i64.wrap (m.pc+i)=m.pc+i:=w64 ah ah;refine⟨λc=> ?_,λc=> ?_⟩
 .obtain⟨n,hn⟩:∃n,(8-i).toNat=n+1:=⟨(8-i).toNat-1,ah⟩;rw [hn]at a;unfold dM at a;by_cases z:Wo ((m.mem).getD ((m.pc+i)).toNat default)/\bF (dI ((m.mem).getD ((m.pc+i)).toNat default))
  .rw [aov z];generalize hd:dI ((m.mem).getD ((m.pc+i)).toNat default)=d at*;have B:(⟨d.op,d.d,d.a,d.k⟩:Ins)=d:=rfl;dsimp only;rw [B];refine⟨ah,ah,λe=> ?_,λe=>⟨ah,λq=> ?_,λq=>⟨⟨ah,ah,ah,?_⟩,ah⟩⟩⟩
   .rw [if_neg (by rw [aT (λy=>y.2.2 (by simpa using e))];decide)]at a;rw [<-a,append_nil]
   .rw [if_pos (aI ⟨ah,z,by simpa using e⟩),if_pos q]at a;rw [<-a]
   .rw [if_pos (aI ⟨ah,z,by simpa using e⟩),if_neg (by rw [q];decide)]at a;rw [show(8- (i+1)).toNat=n by omega,<-a,append_assoc,show m.pc+(i+1)=m.pc+i+1 by omega];rfl
  .have tf:(tkI ((m.mem).getD ((m.pc+i)).toNat default)).2.2.2.2.1=false:=by unfold tkI;rw [if_neg (by rw [aT z];decide)]
   rw [if_neg (by rw [aT (λy=>z y.2.1)];decide),append_nil]at a;rw [tf];refine⟨ah,ah,λ_=>by rw [<-a],λe=>by simp at e⟩
 .have:o=G:=by
   rw [<-a];by_cases z:i<8
   .obtain⟨n,hn⟩:∃n,(8-i).toNat=n+1:=⟨(8-i).toNat-1,ah⟩;rw [hn];unfold dM;have c:=Bool.and_eq_false_iff.1 c;rw [decide_eq_false_iff_not,decide_eq_false_iff_not]at c;rw [if_neg (by rw [aT (λy=>by have:=y.1;omega)];decide),append_nil]
   .rw [show(8-i).toNat=0 by omega];unfold dM;rw [append_nil]
  rw [this]
variable{l:List Int}{b:Blk}{a:Ask}{cs:List Cer}
def anu{n i:Nat}(h:i<n):(rH l n).getD i default=rdO l (7+6*i):=by grind [getD_lt,rH,length_map,length_range]
theorem aup(o:By l)(t:7<=l.length)(u:(l.length-7)%6=0):Qa (rdB l)=l:=by
 have B:=λk:Nat=>o.at k
 have r:(rdB l).ops.length=(l.length-7)/6:=by show(rH l _).length=_;unfold rH;simp_all
 have m:∀n,n<l.length->(Qa (rdB l)).getD n default=l.getD n default:=λn hn=>by
  by_cases c:n<7
  .have h:=B 0;have b:=B 1;have p:=B 2;have g:=B 3;have q:=B 4;have d:=B 5;have s:=B 6;have e:n=0\/n=1\/n=2\/n=3\/n=4\/n=5\/n=6:=by omega
   rcases e with rfl | rfl | rfl | rfl | rfl | rfl | rfl
   .show l.getD 0 default%256=_;omega
   .show l.getD 1 default%256=_;omega
   .show l.getD 2 default%256=_;omega
   .show l.getD 3 default%256=_;omega
   .show l.getD 4 default%256=_;omega
   .show(l.getD 5 default*256+l.getD 6 default)/256%256=_;omega
   .show(l.getD 5 default*256+l.getD 6 default)%256=_;omega
  .obtain⟨i,j,hj,rfl⟩:∃i j,j<6/\n=7+6*i+j:=⟨(n-7)/6,(n-7)%6,ah,ah⟩;have a:i< (l.length-7)/6:=by omega
   rw [as0 _ i j (by rw [r];exact a) hj];have f:(rdB l).ops.getD i default=rdO l (7+6*i):=anu a;rw [f];have h:=B (7+6*i);have b:=B (7+6*i+1);have p:=B (7+6*i+2);have g:=B (7+6*i+3);have q:=B (7+6*i+4);have d:=B (7+6*i+5);have e:j=0\/j=1\/j=2\/j=3\/j=4\/j=5:=by omega
   rcases e with rfl | rfl | rfl | rfl | rfl | rfl
   .show l.getD (7+6*i) default%256=l.getD (7+6*i) default;omega
   .show l.getD (7+6*i+1) default%256=_;omega
   .show l.getD (7+6*i+2) default%256=_;omega
   .show(l.getD (7+6*i+3) default*256+l.getD (7+6*i+4) default)/256%256=_;omega
   .show(l.getD (7+6*i+3) default*256+l.getD (7+6*i+4) default)%256=_;omega
   .show l.getD (7+6*i+5) default%256=_;omega
 grind [ext_getElem,ai1,getD_lt]
def Tn(c:By l):ael l↔(7<=l.length/\(l.length-7)%6=0/\l.length<=295)/\bQ (rdB l):=by
 refine⟨λ⟨a,b⟩=>⟨a,?_⟩,λ⟨a,b⟩=>⟨a,?_⟩⟩
 all_goals grind [rdB,irB,aT,aI,aup]
theorem auq{p1 f1}{m:eG->Bool}{v:eG->dY}(K:Y60 p1 f1)(i:∀b k,By b->0<=k->k+1< (b.length:Int)->b.length<1000000000->m (b,k,())=true/\v (b,k,())=(((b).getD (k).toNat default)*256+((b).getD (k+1).toNat default),()))(l:List Int)(d:By l)(a:l.length<1000000000):ZV.F (p1,f1,m,v,()) (l,()) (λy=>y=rdF l):=by
 have B:=λk:Nat=>d.at k
 have c:∀k:Nat,IntKind.i64.wrap (l.getD k default)=l.getD k default:=λk=>by grind [w64]
 have no:¬ael l->rdF l=(0,0,0,0,0,0,false,[],()):=λh=>by grind [rdF,aT]
 have A:7<=l.length->((l.length:Int)-7).tmod 6=((l.length-7)%6:Nat):=λh=>by grind
 dsimp only [ZV,gm,jo];simp (disch:=omega) only [RR,c];refine⟨Or.inr (by decide),λh=> ?_,λg=> ?_⟩
 .rw [no];rintro⟨⟨s,o,N⟩,_⟩;rw [A s]at h;omega
 obtain⟨⟨s,o⟩,N⟩:=g;have t:7<=l.length:=by omega
 rw [A t]at o;have L:(l.length-7)%6=0:=by omega
 have as1:l.length<=295:=by omega
 refine⟨ah,ah,ah,ah,ah,ah,ah,ah,ah,ah,(i l 5 d ah ah a).1,?_⟩;rw [(i l 5 d ah ah a).2];refine ay (λ(y:List Int×aBm)=>y.1=l/\(∃j:Nat,y.2.1=7+6*j/\7+6*j<=l.length/\y.2.2.2.2.2.2.2.2.2.2.2.2.2.2.1=rH l j)/\y.2.2.2.2.2.2.2.2.1=l.getD 0 default/\y.2.2.2.2.2.2.2.2.2.1=l.getD 1 default/\y.2.2.2.2.2.2.2.2.2.2.1=l.getD 2 default/\y.2.2.2.2.2.2.2.2.2.2.2.1=l.getD 3 default/\y.2.2.2.2.2.2.2.2.2.2.2.2.1=l.getD 4 default/\y.2.2.2.2.2.2.2.2.2.2.2.2.2.1=l.getD 5 default*256+l.getD 6 default) (λy=>(l.length-y.2.1).toNat) ⟨rfl,⟨0,rfl,ah,rfl⟩,rfl,rfl,rfl,rfl,rfl,rfl⟩ ?_;rintro⟨(l:List Int),(E:Int),(z1:Int),(z2:Int),(z3:Int),(z4:Int),(P:Int),(R:Int),(S:Int),(len:Int),(fin:Int),(x:Int),(y:Int),(k:Int),(H:List IOp),⟨⟩⟩ hI;dsimp only at hI ⊢;obtain⟨rfl,⟨j,rfl,O,rfl⟩,rfl,rfl,rfl,rfl,rfl,rfl⟩:=hI;have Q:(rH l j).length=j:=by unfold rH;simp_all
 by_cases h:7+6*(j:Int)<l.length
 .have w:IntKind.i64.wrap (7+6*(j:Int)+3)=7+6*(j:Int)+3:=w64 ah ah;obtain⟨G,J⟩:=i l (7+6*(j:Int)+3) d ah ah a;have M:∀x:IOp,([x].length:Int)=1:=λ_=>rfl
  simp (disch:=omega) only [RR,h,c,G,J,M];have I:rH l (j+1)=rH l j++ [rdO l (7+6*j)]:=by unfold rH;rw [range_succ,map_append];rfl
  repeat' apply And.intro
  all_goals first | omega | exact⟨j+1,ah,ah,by rw [I];rfl⟩
 .have e:7+6*j=l.length:=by omega
  have f:(⟨l.getD 0 default,l.getD 1 default,rH l j,l.getD 2 default,l.getD 3 default,l.getD 4 default,l.getD 5 default*256+l.getD 6 default⟩:Blk)=rdB l:=by
   unfold rdB;rw [show(l.length-7)/6=j by omega]
  have mE:∀(C D:Int) (p:List IOp) (r q u n:Int),Co.mk .blk (C,D,p,r,q,u,n,())=⟨C,D,p,r,q,u,n⟩:=λ_ _ _ _ _ _ _=>rfl
  have F:(rdB l).ops.length<1000000000:=by
   rw [<-f];show(rH l j).length<_;omega
  simp (disch:=omega) only [RR,h,mE,f,K _ F];refine⟨λg=> ?_,λg=> ?_⟩
  .rw [no];intro z;rw [aI ((Tn d).1 z).2]at g;cases g
  .unfold rdF;rw [if_pos (aI ((Tn d).2 ⟨⟨t,L,as1⟩,aF.1 g⟩)),<-f]
noncomputable def mdF (b:Blk) (a:Ask):Blk×Bool:=if a.own=true then(o7 b,true)else if bp (ael a.bytes)=true then(rdB a.bytes,true)else(PN,false)
theorem aur{p1 f1 p2 f2}(d:as2 p1 f1)(j:Y81 p2 f2)(b:Blk)(a:Ask)(h:b.ops.length<1000000)(e:By a.bytes)(f:a.bytes.length<1000000000):ZW.F (p1,f1,p2,f2,()) (b,a,()) (λy=>y=((mdF b a).1,(mdF b a).2,())):=by
 have mE:∀c:Blk,Co.mk .blk (c.pc,c.len,c.ops,c.fin,c.x,c.y,c.k,())=c:=λ_=>rfl
 have k:∀a:Ask,LM .ask 0 a=a.own/\jQ .ask 1 .u8 a=a.bytes:=λ_=>⟨rfl,rfl⟩
 have i:=(d a.bytes e f).2;dsimp only [ZW,gm,jo];simp (disch:=omega) only [RR,k,mE,(d _ e f).1,j _ h];unfold mdF;refine⟨λg=>by rw [g];rfl,λg=> ?_⟩;rw [g,if_neg (by decide),i];unfold rdF;split<;>rfl
theorem Qi(h:b.ops.length<1000000)(c:a.bytes.length<1000000000):(mdF b a).1.ops.length<1000000:=by
 have L:=AU b;unfold mdF;split
 .dsimp only;omega
 split
 .rename_i g;have:=(aF.1 g).1;show(rH _ _).length<_;unfold rH;grind
 .decide
noncomputable def gK (cs:List Cer) (b:Blk) (a:Ask):Blk×List Cer:=
 if(mdF b a).2=false then(b,cs)else if bp (GJ cs b (mdF b a).1)=true then((mdF b a).1,cs)else if chk b (mdF b a).1=true then((mdF b a).1,FB cs ⟨b,(mdF b a).1⟩)else(b,cs)
theorem anv{l:List Cer}{q:Cer}(h:ShC l)(b:q.base.ops.length<1000000)(a:q.made.ops.length<1000000):ShC (FB l q):=by
 unfold FB;have:=h.1;refine⟨by rw [length_drop,length_append,length_singleton];omega,λc hc=> ?_⟩;have:=mem_of_mem_drop hc;rw [mem_append,mem_singleton]at this;rcases this with g | rfl
 .exact h.2 c g
 .exact⟨b,a⟩
def aus{p1 f1 p2 f2 p3 f3}{j:Blk×Ask×Unit->Bool}{m:Blk×Ask×Unit->Blk×fA}(w:aya p1 f1)(v:ayi p2 f2)(u:Y96 p3 f3)(l:∀b a,b.ops.length<1000000->By a.bytes->a.bytes.length<1000000000->j (b,a,())=true/\m (b,a,())=((mdF b a).1,(mdF b a).2,()))(e:Eng)(b:Blk)(a:Ask)(h:ShC e.aJ)(c:b.ops.length<1000000)(n:By a.bytes)(f:a.bytes.length<1000000000):Z0.F (p1,f1,p2,f2,p3,f3,j,m,()) (e.aj.regs,e.aj.pc,e.aj.mem,e.aj.save,e.aj.aR,e.aj.waits,e.aj.halt,e.aj.ins,e.aj.outs,e.aj.count,e.cache,b,a,e.aJ,()) (λy=>y=(e.aj.regs,e.aj.pc,e.aj.mem,e.aj.save,e.aj.aR,e.aj.waits,e.aj.halt,e.aj.ins,e.aj.outs,e.aj.count,e.cache,(gK e.aJ b a).1,(gK e.aJ b a).2,())):=by
 have M:=Qi (a:=a) c f;have p:=(l b a c n f).2;unfold gK;generalize hm:mdF b a=d at*;obtain⟨q,o⟩:=u b d.1 ah ah;obtain⟨r,t⟩:=w _ b d.1 h;obtain⟨s,i⟩:=v e.aJ ⟨b,d.1⟩ h c M;have i:(f2 (e.aJ,⟨b,d.1⟩,())).1=FB e.aJ ⟨b,d.1⟩:=by rw [i]
 dsimp only [Z0,gm,jo,iR];simp (disch:=omega) only [RR,RB,(l b a c n f).1,p,r,t,q,o];refine⟨λg=>by rw [if_pos g],λg=>⟨λk=>by rw [if_neg (by rw [g];decide),if_pos k],λk=>⟨λz=>by rw [if_neg (by rw [g];decide),if_neg (by rw [k];decide),if_neg (by rw [z];decide)],λz=>⟨s,by
  rw [if_neg (by rw [g];decide),if_neg (by rw [k];decide),if_pos z];show(_,_,_,_,_,_,_,_,_,_,_,_,(f2 (e.aJ,⟨b,d.1⟩,())).1,())=_;rw [i]⟩⟩⟩⟩
def Qj(h:ShC cs)(d:b.ops.length<1000000)(c:a.bytes.length<1000000000):(gK cs b a).1.ops.length<1000000/\ShC (gK cs b a).2:=by grind [Qi,gK,anv]
def aji(a:Int)(l:List Ins):(lower a l).pc<=1000000:=by
 by_cases h:nC a l
 .have:=(jB h).pc;have:=(jB h).ln;omega
 .unfold lower;rw [if_neg (by rw [aT h];decide)];decide
def ac6(h:jY cs):(gK cs b a).1=b\/chk b (gK cs b a).1=true:=by
 unfold gK;split
 .exact Or.inl rfl
 split
 .rename_i g;obtain⟨q,c,d,e⟩:=aF.1 g;refine Or.inr ?_;have:=h.2 q c;simp_all
 grind
def ac7{l:List Cac}{e:Cac}(h:ShK l)(b:e.words.length<1000)(a:e.blk.ops.length<1000000)(d:e.blk.pc<=1000000):ShK (kF l e)/\0< (kF l e).length:=by
 unfold kF;have f:=length_filter_le (neP e.blk.pc) l;refine⟨⟨by rw [length_drop,length_append,length_singleton];omega,λc hc=> ?_⟩,by rw [length_drop,length_append,length_singleton];omega⟩;have:=mem_of_mem_drop hc;rw [mem_append,mem_singleton]at this;rcases this with g | rfl
 .exact h.2 c (mem_filter.1 g).1
 .exact⟨b,a,d⟩
def fcI(l:List Cac)(a:Int):Int:=match l.findIdx? (λx=>decide (x.blk.pc=a))with | some i=>i | none=> -1
def Kl(l:List Cac)(pc:Int):FC l pc (fcI l pc):=by
 unfold fcI;split
 .rename_i i h;obtain⟨d,c,e⟩:=List.findIdx?_eq_some_iff_getElem.1 h;refine Or.inr ⟨ah,ah,?_,λj b a=> ?_⟩
  all_goals grind
 .rename_i h;rw [findIdx?_eq_none_iff]at h;refine Or.inl ⟨rfl,λj b a=> ?_⟩;simp_all
noncomputable def bM (e:Eng) (a:Ask):Eng×Int×Bool:=
 if 0<=fcI e.cache e.aj.pc then(e,fcI e.cache e.aj.pc,false)else if(findF e.aj).length=0 then(e, -1,false)else
  (⟨e.aj,kF e.cache ⟨(findF e.aj).map gN,(gK e.aJ (lower e.aj.pc (findF e.aj)) a).1⟩,(gK e.aJ (lower e.aj.pc (findF e.aj)) a).2⟩,((kF e.cache ⟨(findF e.aj).map gN,(gK e.aJ (lower e.aj.pc (findF e.aj)) a).1⟩).length:Int)-1,true)
abbrev ajj(b:aAP->Bool)(a:aAP->aAW):Prop:=∀m,MSh m->b (m,())=true/\a (m,())=(findF m,())
abbrev aAr(b:zx->Bool)(a:zx->qj):Prop:=∀l e,ShK l->e.words.length<1000->e.blk.ops.length<1000000->b (l,e,())=true/\a (l,e,())=(kF l e,())
theorem aut{p1 f1 p2 f2 p3 f3 p4 f4 p5 f5}{E:Ns->Bool}{L:Ns->List Int×Int×List Int×Int×Bool×Bool×Int×List Int×List Int×Int×List Cac×Blk×mQ}(O:ajj p1 f1)(K:anr p2 f2)(J:atL p3 f3)(N:aep p4 f4)(H:aAr p5 f5)(I:∀(e:Eng) (b:Blk) (a:Ask),ShC e.aJ->b.ops.length<1000000->By a.bytes->a.bytes.length<1000000000->E (e.aj.regs,e.aj.pc,e.aj.mem,e.aj.save,e.aj.aR,e.aj.waits,e.aj.halt,e.aj.ins,e.aj.outs,e.aj.count,e.cache,b,a,e.aJ,())=true/\L (e.aj.regs,e.aj.pc,e.aj.mem,e.aj.save,e.aj.aR,e.aj.waits,e.aj.halt,e.aj.ins,e.aj.outs,e.aj.count,e.cache,b,a,e.aJ,())=(e.aj.regs,e.aj.pc,e.aj.mem,e.aj.save,e.aj.aR,e.aj.waits,e.aj.halt,e.aj.ins,e.aj.outs,e.aj.count,e.cache,(gK e.aJ b a).1,(gK e.aJ b a).2,()))(e:Eng)(a:Ask)(G:MSh e.aj)(h:ShK e.cache)(w:ShC e.aJ)(P:By a.bytes)(u:a.bytes.length<1000000000):Z5.F (p1,f1,p2,f2,p3,f3,p4,f4,p5,f5,E,L,()) (e.aj.regs,e.aj.pc,e.aj.mem,e.aj.save,e.aj.aR,e.aj.waits,e.aj.halt,e.aj.ins,e.aj.outs,e.aj.count,e.cache,a,e.aJ,()) (λy=>y=((bM e a).1.aj.regs,(bM e a).1.aj.pc,(bM e a).1.aj.mem,(bM e a).1.aj.save,(bM e a).1.aj.aR,(bM e a).1.aj.waits,(bM e a).1.aj.halt,(bM e a).1.aj.ins,(bM e a).1.aj.outs,(bM e a).1.aj.count,(bM e a).1.cache,(bM e a).2.1,(bM e a).2.2,(bM e a).1.aJ,())):=by
 have f:=λz1 z2=>(O z1 z2).1
 have D:=λz1 z2=>(O z1 z2).2
 have s:=λz1 z2 z3=>(K z1 z2 z3).1
 have C:=λz1 z2 z3=>(K z1 z2 z3).2
 have q:=λz1 z2=>(J z1 z2).1
 have m:=λz1 z2=>(J z1 z2).2
 have x:=λz1 z2 z3=>(N z1 z2 z3).1
 have t:=λz1 z2 z3=>(N z1 z2 z3).2
 have p:=λz1 z2 z3 z4 d=>(H z1 z2 z3 z4 d).1
 have r:=λz1 z2 z3 z4 d=>(H z1 z2 z3 z4 d).2
 have o:=λz1 z2 z3 z4 d v j=>(I z1 z2 z3 z4 d v j).1
 have i:=λz1 z2 z3 z4 d v j=>(I z1 z2 z3 z4 d v j).2
 have mM:=MKM;have mE:∀c:Blk,Co.mk .blk (c.pc,c.len,c.ops,c.fin,c.x,c.y,c.k,())=c:=λ_=>rfl
 have l2:=h.1;have R:=x e.cache e.aj.pc ah;have U:(f4 (e.cache,e.aj.pc,())).1=fcI e.cache e.aj.pc:=FC.one (t e.cache e.aj.pc ah) (Kl _ _);have B:=pR e.aj;have W:=f _ G;have Y:=D _ G;unfold bM;generalize fcI e.cache e.aj.pc=k at*;generalize findF e.aj=l at*;have X:=s e.aj.pc l ah;have M:=C e.aj.pc l ah;have lw:((lower e.aj.pc l).ops.length:Int)<=5000:=by have:=Qg M;simp_all
 generalize lower e.aj.pc l=b at*;have P6:=o e b a w ah P u;have Q:=i e b a w ah P u;have A:=Qj (a:=a) w (show b.ops.length<1000000 by omega) u;generalize gK e.aJ b a=z at*;have V:=q l ah;have T:=m l ah;have F:(l.map gN).length<1000:=by rw [length_map];omega
 have Z:=p e.cache ⟨l.map gN,z.1⟩ h F A.1;have S:=r e.cache ⟨l.map gN,z.1⟩ h F A.1;have kl:(kF e.cache ⟨l.map gN,z.1⟩).length<=e.cache.length+1:=by
  unfold kF;have fl:=length_filter_le (neP z.1.pc) e.cache;rw [length_drop,length_append,length_singleton];dsimp only;omega
 have mK:Co.mk .cac (l.map gN,z.1.pc,z.1.len,z.1.ops,z.1.fin,z.1.x,z.1.y,z.1.k,())=(⟨l.map gN,z.1⟩:Cac):=rfl;dsimp only [Z5,gm,jo,iR]at*;simp (disch:=omega) only [RR,RB,mM,R,U,W,Y,X,M,mE,P6,Q,V,T,mK,Z,S];refine⟨λn=>by rw [if_pos n],λn=>⟨λg=>by rw [if_neg ah,if_pos ah],λg=> ?_⟩⟩;rw [if_neg ah,if_neg ah]
end Go.TX.F
namespace Go.TX.F
open Go Go.AE Go.TX List
theorem auu(n:Int)(b:List Int)(a:0<=n)(d:n<=1000000)(e:b.length<1000000000):YI.F () (n,b,()) (λy=>y=(b++ [n/256%256,n%256],())):=by
 have c:∀x:Int,Co.mk .u8 (x,())=x:=λ_=>rfl
 dsimp only [YI,gm];simp (disch:=omega) only [RR,c,u8w];rw [Int.tmod_eq_emod_of_nonneg a,Int.tdiv_eq_ediv_of_nonneg a,w64 ah ah,Int.emod_emod];exact⟨by decide,by decide,by simp only [length_cons,length_nil];omega,rfl⟩
def aAs{b:Blk}(h:bQ b):0<=b.k/\b.k<=1000000:=by
 have:=h.en.k1;have:=h.en.k0;omega
def opk{a:List IOp}{n i:Int}{o:IOp}(h:oW a n i o):0<=o.k/\o.k<=1000000:=by
 have:=h.kd;have:=h.k1;have:=h.k2;have:=h.k3;have:=h.k0;omega
theorem auv{p1 f1}{j:Int×bn->Bool}{l:Int×bn->bn}(o:Y60 p1 f1)(d:∀n b,0<=n->n<=1000000->b.length<1000000000->j (n,b,())=true/\l (n,b,())=(b++ [n/256%256,n%256],()))(b:Blk)(m:b.ops.length<1000000000):YJ.F (p1,f1,j,l,()) (b,()) (λy=>y=(irB b,())):=by
 have p:∀x:Int,Co.mk .u8 (x,())=x:=λ_=>rfl
 dsimp only [YJ,gm];simp (disch:=omega) only [RR,RB,o b m,p,u8w];refine⟨λh=>by unfold irB;rw [h];rfl,λh=> ?_⟩;have ok:=aF.1 h;have r:=ok.sz;have a:=aAs ok;rw [(d _ _ a.1 a.2 (by simp only [length_cons,length_nil];omega)).1,(d _ _ a.1 a.2 (by simp only [length_cons,length_nil];omega)).2];refine⟨rfl,?_⟩;refine ay (λ(y:Int×Blk×bn)=>y.2.1=b/\0<=y.1/\y.1<=b.ops.length/\y.2.2.1=[b.pc%256,b.len%256,b.fin%256,b.x%256,b.y%256,b.k/256%256,b.k%256]++(b.ops.take y.1.toNat).flatMap opB) (λy=>(b.ops.length-y.1).toNat) ⟨rfl,by simp,by simp,by simp⟩ ?_;rintro⟨(i:Int),(c:Blk),(e:List Int),⟨⟩⟩ hI;dsimp only at hI ⊢;obtain⟨rfl,k,q,f⟩:=hI;have al:e.length<=1000:=by
  rw [f,length_append,zw];have:=length_take_le' i.toNat c.ops;simp only [length_cons,length_nil];omega
 refine⟨λg=> ?_,λg=> ?_⟩
 .have ko:=opk (ok.op i k g);rw [(d _ _ ko.1 ko.2 (by simp only [length_append,length_cons,length_nil];omega)).1,(d _ _ ko.1 ko.2 (by simp only [length_append,length_cons,length_nil];omega)).2];simp (disch:=omega) only [RR,length_append,length_cons,length_nil];refine⟨k,g,ah,ah,⟨ah,ah,?_⟩,ah⟩;rw [f,show(i+1).toNat=i.toNat+1 by omega,take_succ_eq_append_getElem ah,flatMap_append,getD_lt (show i.toNat<c.ops.length by omega)];simp only [append_assoc];rfl
 .rw [f,take_of_length_le ah];unfold irB;rw [h];rfl
structure TuD(b l:List Int)(p:Int)(y:r9):Prop where
 b:y.1=b
 p:p<=y.2.1/\y.2.1<=p+20
 l:By y.2.2.1/\y.2.2.1.length<=l.length+1
theorem auw{p1 f1}(d:Y38 p1 f1)(l:List Int)(b:List Int)(p:Int)(f:By l)(h:l.length<100000000)(c:Bt b)(e:0<=p)(m:p<900000000):YL.F (p1,f1,()) (l,b,p,()) (λy=>TuD b l p y):=by
 have w:∀x:Int,Co.mk .u8 (x,())=x:=λ_=>rfl
 dsimp only [YL,gm];have R:=pkS c d;have P:=λn p e m=>(d n b p c e m).1
 have t:=(d 256 b p c e ah).2;have i:=(d 256 b (p+1) c ah ah).2;simp (disch:=omega) only [RR,w,u8w,R,P];have C:=t.2.2;have E:=i.2.2;generalize (f1 (256,b,p,())).1=u at*;generalize (f1 (256,b,p+1,())).1=v at*;have r:IntKind.i64.wrap (u*256)=u*256:=w64 ah ah;have z:IntKind.i64.wrap (u*256+v)=u*256+v:=w64 ah ah;rw [r,z];refine⟨λ_=>⟨rfl,⟨by dsimp only;omega,by dsimp only;omega⟩,λx a=> ?_,by simp⟩,λn=>⟨n,?_⟩⟩
 .dsimp only at a;rw [mem_singleton]at a;omega
 have D:0<=(u*256+v).tmod l.length:=Int.tmod_nonneg _ ah;have A:(u*256+v).tmod l.length<l.length:=Int.tmod_lt_of_pos _ ah;generalize (u*256+v).tmod l.length=k at*;have o:∀x∈l.take k.toNat,0<=x/\x<=255:=λx a=>f x (mem_of_mem_take a)
 have s:IntKind.i64.wrap (k+1)=k+1:=w64 ah ah;rw [s];simp only [length_append,length_drop,length_take,length_nil,length_cons,Int.toNat_zero,drop_zero,nil_append,Int.toNat_natCast,take_length];have q:∀j,∀x∈l.drop j,0<=x/\x<=255:=λj x a=>f x (mem_of_mem_drop a)
 have B:=((d 2 b (p+1+1+1+1+1) c ah ah).2).2.2;refine⟨λ_=>⟨ah,ah,ah,ah,ah,ah,ah,ah,ah,⟨rfl,⟨by dsimp only;omega,by dsimp only;omega⟩,λx a=> ?_,?_⟩⟩,λ_=>⟨λ_=>⟨ah,ah,ah,ah,ah,ah,ah,ah,ah,ah,⟨rfl,⟨by dsimp only;omega,by dsimp only;omega⟩,λx a=> ?_,?_⟩⟩,λ_=>⟨ah,ah,ah,ah,ah,ah,ah,⟨rfl,⟨by dsimp only;omega,by dsimp only;omega⟩,λx a=> ?_,?_⟩⟩⟩⟩
 .rcases mem_append.1 a with g | g
  .exact o x g
  .exact q _ x g
 .dsimp only;rw [length_append,length_take,length_drop];omega
 .rcases mem_append.1 a with g | g
  .rcases mem_append.1 g with g | g
   .exact o x g
   .rw [mem_singleton]at g;omega
  .exact q _ x g
 .dsimp only;rw [length_append,length_append,length_take,length_drop,length_singleton];omega
 .rcases mem_or_eq_of_mem_set a with g | g
  .exact f x g
  .omega
 .dsimp only;rw [length_set];omega
structure AsD(b:List Int)(p:Int)(y:Bool×r9):Prop where
 b:y.2.1=b
 p:p<=y.2.2.1/\y.2.2.1<=p+2000000
 l:By y.2.2.2.1/\y.2.2.2.1.length<200000000
def Ii{b:Blk}(h:b.ops.length<=1000000):(irB b).length<100000000:=by
 unfold irB;split
 .unfold Qa;rw [length_append,zw];simp only [length_cons,length_nil];omega
 .simp
theorem auy{p1 f1 p2 f2 p3 f3 p4 f4 p5 f5 p6 f6 p7 f7 p8 f8}{F:aBk->Bool}{G:aBk->r9}(X:ajj p1 f1)(Q:anr p2 f2)(i:aym p3 f3)(V:Y81 p4 f4)(w:Y38 p5 f5)(f:Y83 p6 f6)(s:Y84 p7 f7)(C:Y86 p8 f8)(v:∀l b p,By l->l.length<100000000->Bt b->0<=p->p<900000000->F (l,b,p,())=true/\TuD b l p (G (l,b,p,())))(m:aD)(b:List Int)(p:Int)(h:MSh m)(a:Bt b)(u:0<=p)(r:p<500000000):Pm.F (p1,f1,p2,f2,p3,f3,p4,f4,p5,f5,p6,f6,p7,f7,p8,f8,F,G,()) (m,b,p,()) (λ(y:Bool×r9)=>AsD b p y):=by
 have t:∀x:Int,Co.mk .u8 (x,())=x:=λ_=>rfl
 have mE:∀c:Blk,Co.mk .blk (c.pc,c.len,c.ops,c.fin,c.x,c.y,c.k,())=c:=λ_=>rfl
 have R:=pkS a w;have P:=λn p u r=>(w n b p a u r).1
 obtain⟨E,A⟩:=X m h;have B:=pR m;have no:AsD b p (true,b,p+1,[],()):=⟨rfl,⟨by dsimp only;omega,by dsimp only;omega⟩,λx j=>(by cases j),by simp⟩;generalize findF m=l at*;by_cases n:0<l.length
 .have ir:=jB (B.2 n).2;have sz:=ir.sz;obtain⟨O,U⟩:=Q m.pc l ah;generalize lower m.pc l=c at*;obtain⟨I,J⟩:=V c ah;have o:=aej c;have L:=AU c;generalize o7 c=d at*;dsimp only [Pm,gm,iR,jo];simp (disch:=omega) only [RR,t,u8w,MRB,R,P,E,A,O,U,mE,I,J];have W:∀(z:uy) (M:Int) (N:Nat) (q:Int),BkD M N b q z->N<=1000000->M<=1000000->p<=q->q<=p+2->p3 (Co.mk .blk (z.1,z.2.1,z.2.2.2.2.2.2.2.2.1,z.2.2.1,z.2.2.2.1,z.2.2.2.2.1,z.2.2.2.2.2.1,()),())=true/\AsD b p (false,z.2.2.2.2.2.2.1,z.2.2.2.2.2.2.2.1,(f3 (Co.mk .blk (z.1,z.2.1,z.2.2.2.2.2.2.2.2.1,z.2.2.1,z.2.2.2.1,z.2.2.2.2.1,z.2.2.2.2.2.1,()),())).1,()):=by
   intro z M N q D a1 a2 a3 a4;have d1:=D.len;have Z:=D.lo;have k:=D.hi;have K:z.2.2.2.2.2.2.2.2.1.length<1000000000:=by omega
   have e:=(i (Co.mk .blk (z.1,z.2.1,z.2.2.2.2.2.2.2.2.1,z.2.2.1,z.2.2.2.1,z.2.2.2.2.1,z.2.2.2.2.2.1,())) K).2;refine⟨(i _ K).1,D.b,⟨by dsimp only;omega,by dsimp only;omega⟩,?_⟩;dsimp only;rw [e];exact⟨Ke _,Nat.lt_of_lt_of_le (Ii (show z.2.2.2.2.2.2.2.2.1.length<=1000000 by omega)) (by decide)⟩
  obtain⟨S,k3⟩:=i c ah;obtain⟨k,H⟩:=i d ah;have T:=(v (irB c) b (p+1+1) (Ke c) (Ii ah) a ah ah).2;rw [k3,H];have tl:=Ii (b:=c) ah;have T1:=T.p;have Y:=T.l;refine⟨λ_=>no,λ_=>⟨λ_=>⟨(C d b _ o ah a ah ah).1,W _ _ _ _ ((C d b (p+1+1) o ah a ah ah).2) ah ah ah ah⟩,λ_=>⟨λ_=>⟨(f c b _ ah a ah ah).1,W _ _ _ _ ((f c b (p+1+1) ah a ah ah).2).1 ah ah ah ah⟩,λ_=>⟨λ_=>⟨(f d b _ ah a ah ah).1,W _ _ _ _ ((f d b (p+1+1) ah a ah ah).2).1 ah ah ah ah⟩,λ_=>⟨λ_=>⟨S,(v _ b _ (Ke c) tl a ah ah).1,T.b,⟨by dsimp only;omega,by dsimp only;omega⟩,Y.1,by dsimp only;omega⟩,λ_=>⟨λ_=>⟨(s b _ a ah ah).1,W _ _ _ _ ((s b (p+1+1) a ah ah).2) ah ah ah ah⟩,λ_=>⟨λ_=>⟨rfl,⟨by dsimp only;omega,by dsimp only;omega⟩,λx j=> ?_,by simp⟩,λ_=>⟨k,rfl,⟨by dsimp only;omega,by dsimp only;omega⟩,Ke d,Nat.lt_of_lt_of_le (Ii ah) (by decide)⟩⟩⟩⟩⟩⟩⟩⟩;dsimp only at j;rw [mem_singleton]at j;omega
 .dsimp only [Pm,gm,iR,jo];simp (disch:=omega) only [RR,t,u8w,MRB,R,P,E,A];exact⟨λ_=>no,λg=>absurd (Int.natCast_eq_zero.2 ah) g.2⟩
structure SJ(b:Blk)(m0:aD)(i:Nat)(S:MS):Prop where
 r:RJ b m0 i S
 p:S.m.pc=m0.pc
 h:S.m.halt=m0.halt
 c:S.m.count=m0.count
abbrev yS(b:Blk)(i:Int)(S:MS):sw:=(i,b,0,0,false,false,0,0,S.m.pc,S.m.save,S.m.aR,S.m.waits,S.m.halt,S.m.ins,S.m.count,S.vals,S.m.regs,S.m.mem,S.m.outs,())
abbrev ayS(z:aD×Bool):yw:=(z.1.pc,z.1.save,z.1.aR,z.1.waits,z.1.halt,z.1.ins,z.1.count,z.2,z.1.regs,z.1.mem,z.1.outs,())
def SIv(b:Blk)(a:aD)(y:sw):Prop:=∃(i:Nat) (S:MS),i<=b.ops.length/\SJ b a i S/\y=yS b i S
def SIv.next{b:Blk}{a:aD}{i:Nat}{S:MS}{o:IOp}{y:sw}(h:SJ b a i S)(c:i<b.ops.length)(g:b.ops.getD i default=o)(d:o.kind=1->0<=o.k/\o.k<=65535)
  (j:¬((o.kind=4\/o.kind=5)/\64<=vx S o)) (f:¬(o.kind=5/\b.pc+o.at_+1<=vx S o/\vx S o<=b.pc+b.len-1))
  (e:y=yS b ((i:Int)+1) ⟨mM S o,S.vals++ [mV S o],false⟩):SIv b a y/\(b.ops.length-y.1).toNat< (b.ops.length- (i:Int)).toNat:=by
 subst e;have k:=ac5 (s:=S) o;exact⟨⟨i+1,_,c,⟨h.r.next c g d j f,k.1.trans h.p,k.2.1.trans h.h,k.2.2.trans h.c⟩,rfl⟩,by dsimp only;omega⟩
def Km{b:Blk}{m:aD}(c:bQ b)(a:MOK m)(h:¬(m.halt≠0\/m.pc≠b.pc\/1000000-b.len<m.count)):xB b m=(Bf b (b.ops.foldl (dG b) ⟨m,[],false⟩),true):=by
 unfold xB;rw [if_pos (aI ⟨c,a⟩),if_neg h]
set_option maxHeartbeats 4000000 in
theorem auz{p1 f1 p2 f2 p3 f3 p4 f4}{p5:aBb->Bool}{f5:aBb->aBa}{p6:Blk×bn->Bool}{f6:Blk×bn->dY}{p7:aD×IOp×ni->Bool}{f7:aD×IOp×ni->dY}(U1:Y60 p1 f1)(U2:Tj p2 f2)(U3:aem p3 f3)(U4:aAq p4 f4)(U5:∀(m:aD) (b:Blk) (o:IOp) (x y:Int),m.mem.length=64->0<=x->m.ins.length<1000000000->m.outs.length<900000000->0<=m.count/\m.count<=1000000->0<=o.at_/\o.at_<=100-> -1000<=b.pc/\b.pc<=1000000-> -1000<=b.len/\b.len<=1000000->p5 (m.pc,m.save,m.aR,m.waits,m.halt,m.ins,m.count,b,o,x,y,m.regs,m.mem,m.outs,())=true/\f5 (m.pc,m.save,m.aR,m.waits,m.halt,m.ins,m.count,b,o,x,y,m.regs,m.mem,m.outs,())=aum (evR m b o x y))(U6:∀(b:Blk) (v:List Int), -1000<=b.pc/\b.pc<=1000000-> -1000<=b.len/\b.len<=1000000->(b.fin≠1->0<=b.x/\b.x<v.length)->(3<=b.fin->0<=b.y/\b.y<v.length)->p6 (b,v,())=true/\f6 (b,v,())=(goS b v,()))(U7:∀(m:aD) (o:IOp) (x y:Int),(o.kind=2->0<=o.k/\o.k<m.regs.length)->p7 (m,o,x,y,())=true/\f7 (m,o,x,y,())=(if o.kind=1 then o.k else if o.kind=2 then((m.regs).getD (o.k).toNat default)else if o.kind=3 then wdo o.k x y else 0,()))(b:Blk)(m:aD)(T:MSh m)(hb:b.ops.length<1000000000)(ho:m.outs.length<800000000):aaf.F (p1,f1,p2,f2,p3,f3,p4,f4,p5,f5,p6,f6,p7,f7,()) (b,m,()) (λy=>y=ayS (xB b m)):=by
 have a7:=λz1 z2=>(U1 z1 z2).1
 have b0:=λz1 z2=>(U1 z1 z2).2
 have a6:=λz1 z2=>(U2 z1 z2).1
 have a4:=λz1 z2=>(U2 z1 z2).2
 have a2:=λz1 z2=>(U3 z1 z2).1
 have O:=λz1 z2=>(U3 z1 z2).2
 have a:=λz1 z2=>(U4 z1 z2).1
 have a3:=λz1 z2=>(U4 z1 z2).2
 have a9:=λz1 z2 z3 z4 r H z7 z8 z9 C K I D=>(U5 z1 z2 z3 z4 r H z7 z8 z9 C K I D).1
 have P:=λz1 z2 z3 z4 r H z7 z8 z9 C K I D=>(U5 z1 z2 z3 z4 r H z7 z8 z9 C K I D).2
 have a5:=λz1 z2 z3 z4 r H=>(U6 z1 z2 z3 z4 r H).1
 have a8:=λz1 z2 z3 z4 r H=>(U6 z1 z2 z3 z4 r H).2
 have E:=λz1 z2 z3 z4 r=>(U7 z1 z2 z3 z4 r).1
 have F:=λz1 z2 z3 z4 r=>(U7 z1 z2 z3 z4 r).2
 unfold m10 at O;unfold aum at P;have j:=MKM;dsimp only [aaf,gm,iR,jo];simp (disch:=omega) only [RR,RB,MRB,a7 b hb,b0 b hb,a6 m T,a4 m T,a2 m T,O m T];refine⟨λg=> ?_,λg=> ?_⟩
 .unfold xB;rw [if_neg]
  .rfl
  .intro z;have z:=aF.1 z;rw [aI z.1,aI z.2]at g;rcases g with g | g<;>cases g
 have u:=aF.1 g.1;have L:=aF.1 g.2;have bl:=u.ln;have cw:=L.ct;have sz:=u.sz;have b2:=u.pc;have en:=u.en;have w0:IntKind.i64.wrap (1000000-b.len)=1000000-b.len:=w64 ah ah;rw [w0];refine⟨λh=> ?_,λh=> ?_⟩
 .unfold xB;rw [if_pos (aI ⟨u,L⟩),if_pos (show m.halt≠0\/m.pc≠b.pc\/1000000-b.len<m.count by omega)]
 have st:¬(m.halt≠0\/m.pc≠b.pc\/1000000-b.len<m.count):=by omega
 rw [Km u L st];refine ay (SIv b m) (λy=>(b.ops.length-y.1).toNat) ⟨0,⟨m,[],false⟩,Nat.zero_le _,⟨⟨rfl,rfl,rfl,(by intro n hn;cases hn),L,T.2.2.1,Nat.le_add_right _ _⟩,rfl,rfl,rfl⟩,rfl⟩ ?_;rintro y ⟨i,S,hi,J,rfl⟩;dsimp only;have R:=J.r;have ok:=R.ok;have ln:=R.ln;have Jp:=J.p;have Jh:=J.h;have Jc:=J.c;by_cases q:(i:Int)<b.ops.length
 case neg=>
  have ei:i=b.ops.length:=by omega
  have eS:b.ops.foldl (dG b) ⟨m,[],false⟩=S:=by rw [R.e,ei];unfold SM;rw [take_of_length_le (Nat.le_refl _)]
  have G:=en.x1;have y1:=en.y1;unfold Vl at G y1;have hf:=en.f;have hx:b.fin≠1->0<=b.x/\b.x<S.vals.length:=λz=>by have:=G ah;omega
  have hy:3<=b.fin->0<=b.y/\b.y<S.vals.length:=λz=>by have:=y1 ah;omega
  have P6:=a5 b S.vals ah ah hx hy;have H6:=a8 b S.vals ah ah hx hy;simp (disch:=omega) only [RR,q,RB,P6,H6];rw [eS];unfold Bf;rw [R.lf,if_neg (by decide)];have M:=R.wv.at b.x;have wy:=R.wv.at b.y;unfold Wo at M wy;have eg:goS b S.vals=if b.fin=1 then b.k else if b.fin=2 then((S.vals).getD (b.x).toNat default)else if Kg (b.fin-2) ((S.vals).getD (b.x).toNat default) ((S.vals).getD (b.y).toNat default)=true then b.k else b.pc+b.len:=by
   unfold goS;have ix:=bB.2 M;have iy:=bB.2 wy;rcases(by omega:b.fin=1\/b.fin=2\/b.fin=3\/b.fin=4)with f | f | f | f
   all_goals simp only [f,Int.reduceEq,if_false,if_true,true_and,false_and,Int.reduceSub,Qe,Qf,ix,iy,Bool.true_and,decide_eq_true_eq]
  rw [eg]
 have l:=u.op i ah ah;have eT:((i:Int)).toNat=i:=rfl;generalize p:((b.ops).getD ((i:Int)).toNat default)=o at*;rw [eT]at p;have kd:=l.kd;have G:=l.x1;have y1:=l.y1;unfold Vl at G y1;have k1:=l.k1;have k2:=l.k2;have k3:=l.k3;have a1:=l.a1;have a0:=l.a0;have W:=ok.m64;have r4:=ok.r4;have lo:=R.lo;have li:=R.li;have A:=λ{y} u L e=>SIv.next (y:=y) J ah p k1 u L e
 have lv:∀s:aD,dG b S o=⟨s,S.vals,true⟩->b.ops.foldl (dG b) ⟨m,[],false⟩=⟨s,S.vals,true⟩:=λs h=>acX (i:=i+1) (by rw [Qd ah,<-R.e,p];exact h)
 have X0:0<=o.x:=by
  by_cases h:hX o
  .have:=G h;omega
  .have:=l.x0 h;omega
 have Y0:0<=o.y:=by
  by_cases h:hY o
  .have:=y1 h;omega
  .have:=l.y0 h;omega
 have A4:∀k:Int,0<=k->f4 (S.vals,k,())=(Bd S.vals k,()):=λk h=>by rw [a3,if_neg ah]
 have wV:∀k:Int,Wo (Bd S.vals k):=λk=>by
  unfold Bd;split
  .exact R.wv.at _
  .exact wo0
 have U:hX o->Bd S.vals o.x=vx S o:=λh=>by
  have:=G h;unfold vx Bd;rw [if_pos ah,if_pos h]
 have ey:hY o->Bd S.vals o.y=vy S o:=λh=>by
  have:=y1 h;unfold vy Bd;rw [if_pos ah,if_pos h]
 have M:=wV o.x;have wy:=wV o.y;have c:=A4 o.x X0;have d:=A4 o.y Y0;generalize Bd S.vals o.x=X at*;generalize Bd S.vals o.y=Y at*;have b1:S.vals.length<1000:=by omega
 have t:∀v:Int,(([v]:List Int).length:Int)=1:=λ_=>rfl
 have Z:evO o->p5 (S.m.pc,S.m.save,S.m.aR,S.m.waits,S.m.halt,S.m.ins,S.m.count,b,o,X,Y,S.m.regs,S.m.mem,S.m.outs,())=true:=λz=>by
  have:=a1 z;exact a9 S.m b o X Y W M.1 li ah ok.ct ah ah ah
 have EW:=λz:evO o=>P S.m b o X Y W M.1 li ah ok.ct (by have:=a1 z;omega) ah ah
 have EL:∀(s:aD) (n h:Int),s.pc=b.pc->lvS s b n h=leave s n h:=λs n h e=>by unfold lvS leave;rw [e]
 have Sp:S.m.pc=b.pc:=by omega
 have Sh:S.m.halt=0:=by omega
 rcases(by omega:o.kind=1\/o.kind=2\/o.kind=3\/o.kind=4\/o.kind=5\/o.kind=6\/o.kind=7\/o.kind=8)with k | k | k | k | k | k | k | k
 .have N:=E S.m o X Y (λz=>by omega);have B:=F S.m o X Y (λz=>by omega);rw [if_pos k]at B;simp (disch:=omega) only [RR,q,RB,p,eT,k,Int.reduceEq,a,c,d,j,N,B,t];exact⟨ah,ah,A (λh=>by omega) (λh=>by omega) (by simp [mM,mV,k])⟩
 .have g:=k2 (Or.inl k);have N:=E S.m o X Y (λz=>by omega);have B:=F S.m o X Y (λz=>by omega);rw [if_neg ah,if_pos k]at B;simp (disch:=omega) only [RR,q,RB,p,eT,k,Int.reduceEq,a,c,d,j,N,B,t];exact⟨ah,ah,A (λh=>by omega) (λh=>by omega) (by simp [mM,mV,k])⟩
 .have N:=E S.m o X Y (λz=>by omega);have B:=F S.m o X Y (λz=>by omega);rw [if_neg ah,if_neg ah,if_pos k]at B;have w:=U (by unfold hX;omega);have e2:=ey (Or.inl k);simp (disch:=omega) only [RR,q,RB,p,eT,k,Int.reduceEq,a,c,d,j,N,B,t];exact⟨ah,ah,A (λh=>by omega) (λh=>by omega) (by simp [mM,mV,k,w,e2])⟩
 .have w:=U (by unfold hX;omega);have Q:=Z (by unfold evO;omega);have V:=EW (by unfold evO;omega);by_cases z:64<=X
  .have ev:evR S.m b o X Y=(lvS S.m b o.at_ 3,0,true):=by unfold evR;rw [if_neg ah,if_neg ah,if_pos z]
   rw [ev]at V;simp (disch:=omega) only [RR,q,RB,p,eT,k,Int.reduceEq,a,c,d,j,Q,V,t];rw [lv (leave S.m o.at_ 3) (by unfold dG;rw [if_neg (by rw [R.lf];decide),if_pos ⟨Or.inl k,ah⟩]),EL _ _ _ Sp];exact⟨ah,rfl⟩
  .have ev:evR S.m b o X Y=(S.m,((S.m.mem).getD (X).toNat default),false):=by unfold evR;rw [if_neg ah,if_neg ah,if_neg z,if_pos k]
   rw [ev]at V;simp (disch:=omega) only [RR,q,RB,p,eT,k,Int.reduceEq,a,c,d,j,Q,V,t];exact⟨ah,ah,A (λh=>by omega) (λh=>by omega) (by simp [mM,mV,k,w])⟩
 .have w:=U (by unfold hX;omega);have e2:=ey (Or.inr k);have Q:=Z (by unfold evO;omega);have V:=EW (by unfold evO;omega);by_cases z:64<=X
  .have ev:evR S.m b o X Y=(lvS S.m b o.at_ 3,0,true):=by unfold evR;rw [if_neg ah,if_neg ah,if_pos z]
   rw [ev]at V;simp (disch:=omega) only [RR,q,RB,p,eT,k,Int.reduceEq,a,c,d,j,Q,V,t];rw [lv (leave S.m o.at_ 3) (by unfold dG;rw [if_neg (by rw [R.lf];decide),if_pos ⟨Or.inr k,ah⟩]),EL _ _ _ Sp];exact⟨ah,rfl⟩
  .have s:mM S o={S.m with mem:=S.m.mem.set X.toNat Y}:=by unfold mM;rw [if_pos k,w,e2]
   by_cases y:b.pc+o.at_<X/\X<b.pc+b.len
   .have ev:evR S.m b o X Y=(lvS {S.m with mem:=S.m.mem.set X.toNat Y} b (o.at_+1) 0,0,true):=by unfold evR;rw [if_neg ah,if_neg ah,if_neg z,if_neg ah,if_pos y]
    rw [ev]at V;simp (disch:=omega) only [RR,q,RB,p,eT,k,Int.reduceEq,a,c,d,j,Q,V,t];rw [lv (leave (mM S o) (o.at_+1) (mM S o).halt) (by unfold dG;rw [if_neg (by rw [R.lf];decide),if_neg ah,if_pos ⟨k,ah⟩]),s,EL {S.m with mem:=S.m.mem.set X.toNat Y} _ _ Sp];dsimp only;rw [Sh];exact⟨ah,rfl⟩
   .have ev:evR S.m b o X Y=({S.m with mem:=S.m.mem.set X.toNat Y},0,false):=by unfold evR;rw [if_neg ah,if_neg ah,if_neg z,if_neg ah,if_neg y]
    rw [ev]at V;simp (disch:=omega) only [RR,q,RB,p,eT,k,Int.reduceEq,a,c,d,j,Q,V,t];exact⟨ah,ah,A (λh=>by omega) (λh=>by omega) (by rw [s];simp [mV,k])⟩
 .have Q:=Z (by unfold evO;omega);have V:=EW (by unfold evO;omega);have ev:evR S.m b o X Y=({S.m with ins:=S.m.ins.drop 1},S.m.ins.getD 0 0,false):=by unfold evR;rw [if_neg ah,if_pos k]
  rw [ev]at V;simp (disch:=omega) only [RR,q,RB,p,eT,k,Int.reduceEq,a,c,d,j,Q,V,t];exact⟨ah,ah,A (λh=>by omega) (λh=>by omega) (by simp [mM,mV,k])⟩
 .have w:=U (by unfold hX;omega);have Q:=Z (by unfold evO;omega);have V:=EW (by unfold evO;omega);have ev:evR S.m b o X Y=({S.m with outs:=S.m.outs++ [X]},0,false):=by unfold evR;rw [if_pos k]
  rw [ev]at V;simp (disch:=omega) only [RR,q,RB,p,eT,k,Int.reduceEq,a,c,d,j,Q,V,t];exact⟨ah,ah,A (λh=>by omega) (λh=>by omega) (by simp [mM,mV,k,w])⟩
 .have w:=U (by unfold hX;omega);have xv:=G (by unfold hX;omega);have g:=k2 (Or.inr k);have eX:((S.vals).getD (o.x).toNat default)=vx S o:=by unfold vx;rw [if_pos (by unfold hX;omega)]
  simp (disch:=omega) only [RR,q,RB,p,eT,k,Int.reduceEq,a,c,d,j,t,eX];exact⟨ah,ah,ah,ah,ah,ah,ah,ah,ah,ah,A (λh=>by omega) (λh=>by omega) (by simp [mM,mV,k])⟩
variable{a:Ask}{l:List Cac}
theorem EGM:∀e:Eng,Co.mk .eng (e.aj.regs,e.aj.pc,e.aj.mem,e.aj.save,e.aj.aR,e.aj.waits,e.aj.halt,e.aj.ins,e.aj.outs,e.aj.count,e.cache,e.aJ,())=e:=λ_=>rfl
def aer:Eng:=⟨Ti,[],[]⟩
noncomputable def goE (e:Eng) (q:List Int) (left:Int) (a:Ask):Eng×Bool:=
 if(e.aj.waits=true\/e.aj.count∈q)/\e.aj.aR=true then(jT e q,false)
 else if(bM e a).2.1<0 then(jT (bM e a).1 q,(bM e a).2.2)
 else if tL e.aj q left ((((bM e a).1.cache).getD ((bM e a).2.1).toNat default)).blk.len=false then(jT (bM e a).1 q,(bM e a).2.2)
 else(⟨(xB ((((bM e a).1.cache).getD ((bM e a).2.1).toNat default)).blk {e.aj with waits:=e.aj.waits || bp (e.aj.count∈q)}).1,(bM e a).1.cache.filter (dJ (xB ((((bM e a).1.cache).getD ((bM e a).2.1).toNat default)).blk {e.aj with waits:=e.aj.waits || bp (e.aj.count∈q)}).1.mem),(bM e a).1.aJ⟩,(bM e a).2.2)
noncomputable def bT (e:Eng) (q:List Int) (left:Int) (a:Ask):Eng×Bool:=
 if bp (fF e)=false then(aer,false)else if e.aj.halt≠0\/left<1\/e.aj.count=1000000 then(e,false)else goE e q left a
theorem ac8:∀(r:List Ins) (n:Int) (b:Blk),(pO n b r).pc=b.pc/\(pO n b r).len=b.len
 | [],_,_=>⟨rfl,rfl⟩
 | i::r,n,b=>by
  have e:(dR n b i).pc=b.pc/\(dR n b i).len=b.len:=by grind [dR]
  have h:=ac8 r (n+1) (dR n b i);exact⟨h.1.trans e.1,h.2.trans e.2⟩
def FL{a:Int}{l:List Ins}(h:nC a l):(lower a l).pc=a:=by grind [lower,aI,ac8,wI]
theorem CO{b c:Blk}(h:chk b c=true):bQ b/\bQ c/\b.pc=c.pc/\b.len=c.len:=by
 have:=aF.1 h;simp_all
def FN(l:List Cac)(e:Cac):((kF l e).getD (((kF l e).length:Int)-1).toNat default)=e:=by
 have n:(kF l e).length=(l.filter (neP e.blk.pc)).length+1- ((l.filter (neP e.blk.pc)).length+1-4):=by unfold kF;simp_all
 rw [n,getD_lt (by rw [n];omega)];unfold kF;rw [getElem_drop,getElem_append_right ah];simp
def vD(e:Eng)(a:Ask):(bM e a).1.aj=e.aj:=by grind [bM]
def anw{cs:List Cer}{b:Blk}(h:cs.length<=3):(gK cs b a).2.length<=3:=by grind [gK,FB,length_drop,length_append,length_singleton]
structure FnS(e:Eng)(y:Eng×Int×Bool):Prop where
 l:y.1.cache.length<=e.cache.length+4/\(e.cache.length<=4->y.1.cache.length<=4)/\(e.aJ.length<=3->y.1.aJ.length<=3)
 w:(∀x∈e.cache,0<x.words.length)->∀x∈y.1.cache,0<x.words.length
 k:ShK y.1.cache
 c:ShC y.1.aJ
 r:y.2.1<y.1.cache.length
 b:0<=y.2.1->bQ (((y.1.cache).getD (y.2.1).toNat default)).blk/\(((y.1.cache).getD (y.2.1).toNat default)).blk.pc=e.aj.pc
def aaK{e:Eng}(d:ShK e.cache)(h:ShC e.aJ)(ok:fF e)(o:a.bytes.length<1000000000):FnS e (bM e a):=by
 have B:=pR e.aj;have fc:=Kl e.cache e.aj.pc;unfold bM;split
 .rename_i g;rcases fc with f | ⟨m,i,p,_⟩
  .omega
  .exact⟨⟨Nat.le_add_right _ _,id,id⟩,id,d,h,i,λ_=>⟨(CO (ok.2.1.2.1 _ m i).1.2.2).2.1,p⟩⟩
 split
 .exact⟨⟨Nat.le_add_right _ _,id,id⟩,id,d,h,by dsimp only;omega,λg=>absurd (show(0:Int)<= -1 from g) (by decide)⟩
 .rename_i g;have j:=(B.2 ah).2;have ir:=jB j;have r:=ir.sz;have A:=Qj (a:=a) h (show(lower e.aj.pc (findF e.aj)).ops.length<1000000 by omega) o;have Q:=ac6 (a:=a) (b:=lower e.aj.pc (findF e.aj)) ok.2.2;have k:(lower e.aj.pc (findF e.aj)).pc=e.aj.pc:=FL j;have Z:bQ (gK e.aJ (lower e.aj.pc (findF e.aj)) a).1/\(gK e.aJ (lower e.aj.pc (findF e.aj)) a).1.pc=e.aj.pc:=by grind [CO]
  have l:((findF e.aj).map gN).length<1000:=by rw [length_map];omega
  have s:=Z.1.pc;have t:=Z.1.ln;have S:=ac7 d (e:=⟨(findF e.aj).map gN,(gK e.aJ (lower e.aj.pc (findF e.aj)) a).1⟩) l A.1 (by dsimp only;omega);have q:(kF e.cache ⟨(findF e.aj).map gN,(gK e.aJ (lower e.aj.pc (findF e.aj)) a).1⟩).length<=4:=by
   unfold kF;grind
  exact⟨⟨by dsimp only;omega,λ_=>q,λz=>anw z⟩,λn x c=>by
   unfold kF at c;have c:=mem_of_mem_drop c;rw [mem_append,mem_singleton]at c;rcases c with c | rfl
   .exact n x (mem_filter.1 c).1
   .show 0< ((findF e.aj).map gN).length;rw [length_map];omega,S.1,A.2,Int.sub_lt_self _ (by decide),λ_=>by rw [FN];exact Z⟩
def Qk(h:ShK l)(P:Cac->Bool):ShK (l.filter P):=h.sub (Nat.lt_of_le_of_lt (length_filter_le _ _) h.1) λx a=>(mem_filter.1 a).1
abbrev e13(y:Eng×Bool):Sk:=(y.1.aj.regs,y.1.aj.pc,y.1.aj.save,y.1.aj.aR,y.1.aj.waits,y.1.aj.halt,y.1.aj.ins,y.1.aj.outs,y.1.aj.count,y.2,y.1.aJ,y.1.aj.mem,y.1.cache,())
def Tp{b:Blk}{m:aD}(d:MSh m)(c:m.outs.length<900000000):MSh (xB b m).1/\(xB b m).1.outs.length<=m.outs.length+48/\(xB b m).1.ins.length<=m.ins.length:=by
 unfold xB;split
 .rename_i g;have g:=aF.1 g;split
  .simp_all
  .have l:=Qc b b.ops ⟨m,[],false⟩;have a:=g.1.sz
   grind [acW,Bf]
 .exact⟨⟨by decide,by decide,by decide,by decide⟩,Nat.zero_le _,Nat.zero_le _⟩
abbrev Ql(b:aAT->Bool)(a:aAT->fA):Prop:=∀e,MSh e.aj->ShX e.cache->ShD e.aJ->b (e,())=true/\a (e,())=(bp (fF e),())
abbrev aAt(b:aAT->Bool)(a:aAT->l8):Prop:=∀e,MSh e.aj->ShK e.cache->ShC e.aJ->b (e,())=true/\a (e,())=e12 e
theorem auA{p1 f1 p2 f2 p4 f4 p8 f8}{T:Blk×aAP->Bool}{f3:Blk×aAP->yw}{X:Xn->Bool}{f5:Xn->List Int×Int×List Int×Int×Bool×Bool×Int×List Int×List Int×Int×List Cac×Int×Bool×mQ}{p6:Ms->Bool}{f6:Ms->l8}{p7:aD×aAN->Bool}{V:aD×aAN->fA}(U1:auc p1 f1)(U2:Ql p2 f2)(U3:∀(b:Blk) (m:aD),MSh m->b.ops.length<1000000000->m.outs.length<800000000->T (b,m,())=true/\f3 (b,m,())=ayS (xB b m))(U4:aAt p4 f4)(U5:∀(e:Eng) (a:Ask),MSh e.aj->ShK e.cache->ShC e.aJ->By a.bytes->a.bytes.length<1000000000->X (e.aj.regs,e.aj.pc,e.aj.mem,e.aj.save,e.aj.aR,e.aj.waits,e.aj.halt,e.aj.ins,e.aj.outs,e.aj.count,e.cache,a,e.aJ,())=true/\f5 (e.aj.regs,e.aj.pc,e.aj.mem,e.aj.save,e.aj.aR,e.aj.waits,e.aj.halt,e.aj.ins,e.aj.outs,e.aj.count,e.cache,a,e.aJ,())=((bM e a).1.aj.regs,(bM e a).1.aj.pc,(bM e a).1.aj.mem,(bM e a).1.aj.save,(bM e a).1.aj.aR,(bM e a).1.aj.waits,(bM e a).1.aj.halt,(bM e a).1.aj.ins,(bM e a).1.aj.outs,(bM e a).1.aj.count,(bM e a).1.cache,(bM e a).2.1,(bM e a).2.2,(bM e a).1.aJ,()))(W:∀(e:Eng) (q:List Int),MSh e.aj->e.aj.outs.length<900000000->ShK e.cache->q.length<1000000000->p6 (e.aj.regs,e.aj.pc,e.aj.mem,e.aj.save,e.aj.aR,e.aj.waits,e.aj.halt,e.aj.ins,e.aj.outs,e.aj.count,e.cache,q,e.aJ,())=true/\f6 (e.aj.regs,e.aj.pc,e.aj.mem,e.aj.save,e.aj.aR,e.aj.waits,e.aj.halt,e.aj.ins,e.aj.outs,e.aj.count,e.cache,q,e.aJ,())=e12 (jT e q))(U:∀m q l s,q.length<1000000000->0<=m.count/\m.count<=2000000-> -1000<=s/\s<=1000000->p7 (m,q,l,s,())=true/\V (m,q,l,s,())=(tL m q l s,()))(U8:ajd p8 f8)(e:Eng)(q:List Int)(left:Int)(a:Ask)(f:MSh e.aj)(ho:e.aj.outs.length<700000000)(j:ShK e.cache)(p:ShC e.aJ)(o:q.length<1000000000)(ha:By a.bytes)(L:a.bytes.length<1000000000):aag.F (p1,f1,p2,f2,T,f3,p4,f4,X,f5,p6,f6,p7,V,p8,f8,()) (e,q,left,a,()) (λy=>y=e13 (bT e q left a)):=by
 have N:=λz1 z2 z3 z4=>(U1 z1 z2 z3 z4).1
 have Q:=λz1 z2 z3 z4=>(U1 z1 z2 z3 z4).2
 have K:=λz1 z2 z3 z4=>(U2 z1 z2 z3 z4).1
 have I:=λz1 z2 z3 z4=>(U2 z1 z2 z3 z4).2
 have A:=λz1 z2 z3 z4 d=>(U3 z1 z2 z3 z4 d).1
 have D:=λz1 z2 z3 z4 d=>(U3 z1 z2 z3 z4 d).2
 have B:=λz1 z2 z3 z4=>(U4 z1 z2 z3 z4).1
 have G:=λz1 z2 z3 z4=>(U4 z1 z2 z3 z4).2
 have P:=λz1 z2 z3 z4 d i t=>(U5 z1 z2 z3 z4 d i t).1
 have F:=λz1 z2 z3 z4 d i t=>(U5 z1 z2 z3 z4 d i t).2
 have u:=λz1 z2 z3 z4 d i=>(W z1 z2 z3 z4 d i).1
 have v:=λz1 z2 z3 z4 d i=>(W z1 z2 z3 z4 d i).2
 have H:=λz1 z2 z3 z4 d i t=>(U z1 z2 z3 z4 d i t).1
 have J:=λz1 z2 z3 z4 d i t=>(U z1 z2 z3 z4 d i t).2
 have O:=λz1 z2 z3=>(U8 z1 z2 z3).1
 have C:=λz1 z2 z3=>(U8 z1 z2 z3).2
 have mM:=MKM;have mE:∀c:Blk,Co.mk .blk (c.pc,c.len,c.ops,c.fin,c.x,c.y,c.k,())=c:=λ_=>rfl
 dsimp only [aag,gm,iR,jo]at*;have P6:=u e q f ah j o;have H6:=v e q f ah j o;have P5:=P e a f j p ha L;have H5:=F e a f j p ha L;have P8:=O q e.aj.count o;have H8:=C q e.aj.count o;have fm:=vD e a;have S:fF e->FnS e (bM e a):=λk=>aaK j p k L
 unfold bT goE;generalize bM e a=Y at*;simp (disch:=omega) only [RR,mM,K e f j.x p.d,I e f j.x p.d,B e f j p,G e f j p,P6,H6,P5,H5,P8,H8,CAB,mE];refine⟨λg=>by rw [if_pos g];rfl,λg=>⟨λh=>by rw [if_neg (by rw [g];decide),if_pos (show e.aj.halt≠0\/left<1\/e.aj.count=1000000 by omega)],λh=> ?_⟩⟩;have ok:=aF.1 g;have S:=S ok;have cw:=ok.1.ct;rw [if_neg (by rw [g];decide),if_neg (show¬(e.aj.halt≠0\/left<1\/e.aj.count=1000000) by omega)];have PY:=u Y.1 q (by rw [fm];exact f) (by rw [fm];omega) S.k o;have HY:=v Y.1 q (by rw [fm];exact f) (by rw [fm];omega) S.k o;rw [HY];have Z:((e.aj.waits=true\/bp (e.aj.count∈q)=true)/\e.aj.aR=true)↔((e.aj.waits=true\/e.aj.count∈q)/\e.aj.aR=true):=by rw [aF]
 refine⟨λw=>by rw [if_pos (Z.1 w)],λw=> ?_⟩;rw [if_neg (λz=>by
  have:((e.aj.waits || bp (e.aj.count∈q))&&e.aj.aR)=true:=by rw [Bool.and_eq_true,Bool.or_eq_true];exact Z.2 z
  rw [this]at w;cases w)]
 refine⟨λn=>⟨PY,by rw [if_pos n]⟩,λn=> ?_⟩;rw [if_neg ah];have k0:0<=Y.2.1:=by omega
 have Sr:=S.r;obtain⟨B1,B2⟩:=S.b k0;have s1:=(S.k.at Y.2.1.toNat).2.1;generalize hb:(((Y.1.cache).getD (Y.2.1).toNat default)).blk=b at*;have bl:=B1.ln;have P7:=H e.aj q left b.len o ah ah;have H7:=J e.aj q left b.len o ah ah;refine⟨k0,Sr,P7,?_⟩;rw [H7];refine⟨λr=>⟨PY,by rw [if_pos r]⟩,λr=> ?_⟩;have r:tL e.aj q left b.len=true:=r;rw [if_neg (by rw [r];decide)];obtain⟨M,x⟩:∃M:aD,M={e.aj with waits:=e.aj.waits || bp (e.aj.count∈q)}:=⟨_,rfl⟩;have eM:Co.mk .aj (e.aj.regs,e.aj.pc,e.aj.mem,e.aj.save,e.aj.aR,e.aj.waits || bp (e.aj.count∈q),e.aj.halt,e.aj.ins,e.aj.outs,e.aj.count,())=M:=x.symm;have E:MSh M:=by rw [x];exact f
 have Mo:M.outs.length<700000000:=by rw [x];exact ho
 rw [<-x];have R:=Tp (b:=b) E ah;simp only [eM,A b M E ah ah,D b M E ah ah,N _ _ S.k R.1.2.1,Q _ _ S.k R.1.2.1];exact⟨trivial,trivial,trivial⟩
structure EgS(e:Eng)(n:Nat):Prop where
 m:MSh e.aj
 o:e.aj.outs.length<=n
 k:ShK e.cache
 c:ShC e.aJ
 kl:e.cache.length<=4
 cl:e.aJ.length<=3
 w:∀x∈e.cache,0<x.words.length
 v:∀x∈e.cache,0<=x.blk.pc/\x.blk.pc<e.aj.mem.length
def aaL{mem:List Int}(w:∀x∈l,0<x.words.length):∀x∈l.filter (dJ mem),0<=x.blk.pc/\x.blk.pc<mem.length:=λx a=>by
 have h:=mem_filter.1 a;have d:=aF.1 (show bp _=true from h.2);have t:=d.2 0 (by decide) (by have:=w x h.1;omega);exact⟨d.1,ah⟩
def Ij{e:Eng}{n:Nat}(h:EgS e n)(hn:n<700000000)(q:List Int)(left:Int)(o:a.bytes.length<1000000000):EgS (bT e q left a).1 (n+50):=by
 have r:=h.o;unfold bT;split
 .exact⟨⟨by decide,by decide,by decide,by decide⟩,Nat.zero_le _,⟨by decide,λx c=>by cases c⟩,⟨by decide,λx c=>by cases c⟩,by decide,by decide,(λx c=>by cases c),λx c=>by cases c⟩
 rename_i g;have ok:fF e:=aF.1 (by simpa using g);split
 .exact⟨h.m,by have:=h.o;dsimp only;omega,h.k,h.c,h.kl,h.cl,h.w,h.v⟩
 have f:∀y:Eng,y.aj=e.aj->ShK y.cache->ShC y.aJ->y.cache.length<=4->y.aJ.length<=3->(∀x∈y.cache,0<x.words.length)->EgS (jT y q) (n+50):=λy d p k l i j=>by
  have s:=ajh (m:=y.aj) (by rw [d];exact h.m) (by rw [d];omega) (bp (y.aj.count∈q));rw [d]at s;exact⟨by unfold jT;rw [d];exact s.1,by have:=s.2.1;unfold jT;rw [d];dsimp only;omega,Qk p _,k,Nat.le_trans (length_filter_le _ _) l,i,λx c=>j x (mem_filter.1 c).1,aaL j⟩
 have S:=aaK h.k h.c ok o;have fm:=vD e a;unfold goE;split
 .exact f e rfl h.k h.c h.kl h.cl h.w
 split
 .exact f _ fm S.k S.c (S.l.2.1 h.kl) (S.l.2.2 h.cl) (S.w h.w)
 split
 .exact f _ fm S.k S.c (S.l.2.1 h.kl) (S.l.2.2 h.cl) (S.w h.w)
 .have R:=Tp (b:=((((bM e a).1.cache).getD ((bM e a).2.1).toNat default)).blk) (m:={e.aj with waits:=e.aj.waits || bp (e.aj.count∈q)}) h.m (by dsimp only;omega);exact⟨R.1,by have:=R.2.1;dsimp only at this ⊢;omega,Qk S.k _,S.c,Nat.le_trans (length_filter_le _ _) (S.l.2.1 h.kl),S.l.2.2 h.cl,λx c=>S.w h.w x (mem_filter.1 c).1,aaL (S.w h.w)⟩
end Go.TX.F
namespace Go.TX.F
open Go Go.AE Go.TX List
def EnD(b:List Int)(p:Int)(y:He):Prop:=
 ∃(e:Eng) (a:Int),EgS e 1000/\p<=a/\a<=p+30000000/\y=(e.aj.regs,e.aj.pc,e.aj.save,e.aj.aR,e.aj.waits,e.aj.halt,e.aj.ins,e.aj.outs,e.aj.count,b,a,e.aJ,e.aj.mem,e.cache,())
def ShK.nil:ShK []:=⟨by decide,λx a=>by cases a⟩
def ShC.nil:ShC []:=⟨by decide,λx a=>by cases a⟩
def auB{m:aD}(h:MSh m)(b:m.outs.length<=0):EgS (newE m) 0:=by
 unfold newE;split
 .exact⟨h,b,ShK.nil,ShC.nil,Nat.zero_le _,Nat.zero_le _,(λx a=>by cases a),λx a=>by cases a⟩
 .exact⟨⟨by decide,by decide,by decide,by decide⟩,Nat.le_refl _,ShK.nil,ShC.nil,by decide,by decide,(λx a=>by cases a),λx a=>by cases a⟩
abbrev ayT(c:aAM->Bool)(b:aAM->Sk):Prop:=∀(e:Eng) (q:List Int) (l:Int) (a:Ask),MSh e.aj->e.aj.outs.length<700000000->ShK e.cache->ShC e.aJ->q.length<1000000000->By a.bytes->a.bytes.length<1000000000->c (e,q,l,a,())=true/\b (e,q,l,a,())=e13 (bT e q l a)
abbrev auC(c:aD×eG->Bool)(a:aD×eG->Bool×r9):Prop:=∀m b p,MSh m->Bt b->0<=p->p<500000000->c (m,b,p,())=true/\AsD b p (a (m,b,p,()))
theorem auD{p2 f2 p3 f3 p4 f4 p5 f5 p6 f6 p7 f7 p8 f8}{p1:aAP->Bool}{W:aAP->l8}(U1:∀m,MSh m->p1 (m,())=true/\W (m,())=e12 (newE m))(U2:ayT p2 f2)(U3:ayE p3 f3)(U4:ayF p4 f4)(U5:atN p5 f5)(i:Y38 p6 f6)(U7:ayG p7 f7)(U8:auC p8 f8)(b:List Int)(p:Int)(f:Bt b)(H:0<=p)(U:p<300000000):aah.F (p1,W,p2,f2,p3,f3,p4,f4,p5,f5,p6,f6,p7,f7,p8,f8,()) (b,p,()) (λy=>EnD b p y):=by
 have R:=pkS f i;have P:=λn p H U=>(i n b p f H U).1
 obtain⟨P4,⟨D,V,O,s,t⟩⟩:=U4 b p f H ah;generalize hy:f4 (b,p,())=y at D V O s t;obtain⟨L,o,w,⟨⟩⟩:=y;dsimp only at D V O s t;subst D;obtain⟨P6,⟨u,F,a3,Y⟩⟩:=i 4 L o f ah ah;generalize hk:f6 (4,L,o,())=k at u F a3 Y;obtain⟨n,j,q1,⟨⟩⟩:=k;dsimp only at u F a3 Y;subst u;subst F;obtain⟨P7,⟨l,w2,K,Q,I⟩⟩:=U7 n j (o+1) f ah ah ah;generalize hw:f7 (n,j,o+1,())=v at l w2 K Q I;obtain⟨c,q2,ins,⟨⟩⟩:=v;dsimp only at l w2 K Q I;subst l;have ok:=ac2 s t I;obtain⟨P3,H3⟩:=U3 w ins ah ah;have G:(kX w ins).outs=[]/\(kX w ins).ins.length<=ins.length:=by
  unfold kX;split<;>exact⟨rfl,by simp [Ti]⟩
 have J:MSh (kX w ins):=⟨by rw [ok.r4];decide,by have:=ok.m64;omega,ah,by rw [G.1];decide⟩;obtain⟨P1,H1⟩:=U1 _ J;have h:=auB J (by rw [G.1];exact Nat.le_refl _);obtain⟨P5,⟨C,s2,Z,S⟩⟩:=U5 c q2 f ah ah;generalize hs:f5 (c,q2,())=z at C s2 Z S;obtain⟨d,r,g,⟨⟩⟩:=z;dsimp only at C s2 Z S;subst C;have mM:=MKM;generalize kX w ins=M at*;have mK:Co.mk .aj (M.regs,M.pc,M.mem,M.save,M.aR,M.waits,M.halt,M.ins,[],M.count,())=M:=by
  have:=G.1;cases M;dsimp only at this;subst this;rfl
 generalize newE M=N at*;dsimp only [aah,gm,iR];simp (disch:=omega) only [RR,P4,hy,P6,hk,P7,hw,P3,H3,P5,hs,R,P,mK,P1,H1];obtain⟨t1,t2,t3,t4⟩:=(i 12 d r f ah ah).2;refine ay (λy=>∃(k q:Int) (e:Eng),0<=k/\k<=11/\p<=q/\q<=p+20000+2000100*(11-k)/\EgS e (50*(11-k).toNat)/\y=(k,d,q,0,0,false,false,0,0,e.aj.regs,e.aj.pc,e.aj.save,e.aj.aR,e.aj.waits,e.aj.halt,e.aj.ins,e.aj.outs,e.aj.count,g,e.aj.mem,e.cache,e.aJ,())) (λy=>y.1.toNat) ⟨(f6 (12,d,r,())).1,r+1,N,t3,ah,ah,ah,⟨h.m,by have:=h.o;omega,h.k,h.c,h.kl,h.cl,h.w,h.v⟩,rfl⟩ ?_;rintro y ⟨k,q,e,k0,k1,k2,k3,E,rfl⟩;dsimp only;have eo:=E.o;by_cases c:0<k
 .obtain⟨u1,u2,u3,u4⟩:=(i 30 d q f ah ah).2;obtain⟨P8,A⟩:=U8 e.aj d (q+1) E.m f ah ah;have Ap:=A.p;have Ab:=A.b;obtain⟨Al,An⟩:=A.l;generalize B:f8 (e.aj,d,q+1,())=a at*;have l:IntKind.i64.wrap (1+(f6 (30,d,q,())).1)=1+(f6 (30,d,q,())).1:=w64 ah ah;obtain⟨P2,H2⟩:=U2 e g (1+(f6 (30,d,q,())).1) ⟨a.1,a.2.2.2.1⟩ E.m ah E.k E.c ah Al (by dsimp only;omega);have T:=Ij E ah g (1+(f6 (30,d,q,())).1) (a:=⟨a.1,a.2.2.2.1⟩) (by dsimp only;omega);have mA:∀(x:Bool) (y:List Int),Co.mk .ask (x,y,())=(⟨x,y⟩:Ask):=λ_ _=>rfl
  have mG:=EGM;generalize bT e g (1+(f6 (30,d,q,())).1) ⟨a.1,a.2.2.2.1⟩=X at*;simp (disch:=omega) only [RR,c,R,P,mM,P8,B,mA,mG,l,P2,H2];exact⟨⟨k-1,a.2.2.1,X.1,ah,ah,ah,ah,⟨T.m,by have:=T.o;omega,T.k,T.c,T.kl,T.cl,T.w,T.v⟩,by rw [Ab]⟩,ah⟩
 .simp (disch:=omega) only [RR,c];exact⟨e,q,⟨E.m,ah,E.k,E.c,E.kl,E.cl,E.w,E.v⟩,k2,ah,rfl⟩
abbrev aAu(c:eG->Bool)(a:eG->He):Prop:=∀b p,Bt b->0<=p->p<300000000->c (b,p,())=true/\EnD b p (a (b,p,()))
def ShK.add{l:List Cac}(h:ShK l)(n:l.length<999){x:Cac}(b:x.words.length<1000)(a:x.blk.ops.length<1000000)(d:x.blk.pc<=1000000):ShK (l++ [x]):=by
 refine⟨by rw [length_append,length_singleton];omega,λc hc=> ?_⟩;rw [mem_append,mem_singleton]at hc;rcases hc with g | rfl
 .exact h.2 c g
 .exact⟨b,a,d⟩
variable{P:Cac->Bool}
def ayU(e x:Cac):ag9.F () (e,x,()) (λy=>y=(decide (e.blk.pc=x.blk.pc),x,())):=by
 dsimp only [ag9,gm];simp (disch:=omega) only [RR,CAB]
abbrev ayV(b:Cac×aBh->Bool)(a:Cac×aBh->Bool×aBh):Prop:=∀e x,b (e,x,())=true/\a (e,x,())=(decide (e.blk.pc=x.blk.pc),x,())
def auE{p1 f1}(f:ayV p1 f1)(l:List Cac)(x:Cac)(h:l.length<1000000000):WH.F (p1,f1,()) (l,x,()) (λy=>y.2.1=x/\FC l x.blk.pc y.1):=by
 dsimp only [WH,gm];refine ay (λ(y:List Cac×Int×Int×aBh)=>y.1=l/\y.2.1=l.length/\0<=y.2.2.1/\y.2.2.1<=l.length/\y.2.2.2.1=x/\∀j:Int,0<=j->j<y.2.2.1->(((l).getD (j).toNat default)).blk.pc≠x.blk.pc) (λy=>(l.length-y.2.2.1).toNat) ⟨rfl,rfl,by simp,by simp,rfl,λj o a=>absurd a (by simp;omega)⟩ ?_;rintro⟨(l:List Cac),(n:Int),(i:Int),(x:Cac),⟨⟩⟩ hI;dsimp only at hI ⊢;obtain⟨rfl,rfl,a,m,rfl,d⟩:=hI;simp (disch:=omega) only [RR,CAB,f];refine⟨λg=>⟨a,g,λe=>Or.inr ⟨a,g,e,d⟩,λe=>⟨⟨ah,ah,λj b k=> ?_⟩,ah⟩⟩,λg=>Or.inl ⟨rfl,λj b k=>d j b ah⟩⟩;by_cases c:j<i
 .exact d j b c
 .rw [show j=i by omega];exact e
def filter_all{α:Type}{P:α->Bool}{d:α}:∀ {l:List α},(∀i:Nat,i<l.length->P (l.getD i d)=true)->l.filter P=l
 | [],_=>rfl
 | x::l,h=>by
  have b:=h 0 (by simp);have a:=filter_all (P:=P) (d:=d) (l:=l) λi c=>h (i+1) (by simp;omega)
  rw [filter_cons,if_pos (by simpa using b),a]
structure D7(P:Cac->Bool)(l L:List Cac)(i j:Int):Prop where
 i0:0<=i
 ij:i<=j
 jl:j<=l.length
 len:L.length=l.length
 a:L.take i.toNat=(l.take j.toNat).filter P
 b:∀k:Nat,j<=k->L.getD k default=l.getD k default
def D7.start{l:List Cac}{k:Int}(a:0<=k)(c:k<l.length)(b:P ((l).getD (k).toNat default)=false)(h:∀j:Int,0<=j->j<k->P ((l).getD (j).toNat default)=true):D7 P l l k (k+1):=by
 refine⟨a,ah,ah,rfl,?_,λ_ _=>rfl⟩;rw [pQ (d:=default) a c,if_neg (by rw [b];decide),append_nil,filter_all (d:=default) λi f=> ?_];rw [length_take]at f;have:=h i ah ah;have e:(l.take k.toNat).getD i default=l.getD i default:=by rw [getD_lt (by rw [length_take];omega),getD_lt ah,getElem_take]
 rw [e];simpa using this
def D7.keep{l L:List Cac}{i j:Int}(h:D7 P l L i j)(f:j<l.length)(c:P ((L).getD (j).toNat default)=true):D7 P l (L.set i.toNat ((L).getD (j).toNat default)) (i+1) (j+1):=by
 obtain⟨g,m,n,len,a,b⟩:=h;have e:((L).getD (j).toNat default)=((l).getD (j).toNat default):=b j.toNat ah;rw [e]at c ⊢;refine⟨ah,ah,ah,by rw [length_set];exact len,?_,λk hk=> ?_⟩
 .rw [pQ (d:=default) ah f,if_pos c,<-a,show(i+1).toNat=i.toNat+1 by omega,take_succ_eq_append_getElem (by rw [length_set];omega),getElem_set_self,take_set_of_le (Nat.le_refl _)]
 .rw [<-b k ah,getD_eq_getElem?_getD,getD_eq_getElem?_getD,getElem?_set_ne ah,<-getD_eq_getElem?_getD]
def D7.skip{l L:List Cac}{i j:Int}(h:D7 P l L i j)(f:j<l.length)(c:P ((L).getD (j).toNat default)=false):D7 P l L i (j+1):=by
 obtain⟨g,m,n,len,a,b⟩:=h;have e:((L).getD (j).toNat default)=((l).getD (j).toNat default):=b j.toNat ah;rw [e]at c;refine⟨ah,ah,ah,len,?_,λk hk=>b k ah⟩;rw [pQ (d:=default) ah f,if_neg (by rw [c];decide),append_nil,a]
def D7.fin{l L:List Cac}{i j:Int}(h:D7 P l L i j)(a:¬j<l.length):L.take i.toNat=l.filter P:=by
 rw [h.a,take_of_length_le (by have:=h.jl;omega)]
def ac9{L:List Cac}{z:Cac}{i n:Int}(b:0<=i)(a:i<=L.length)(hn:(L.length:Int)=n):
  i<=((drop (Int.toNat 0) (take i.toNat L)++replicate (n-i).toNat z++drop (i+(n-i)).toNat (take n.toNat L)).length:Int)/\
  drop (Int.toNat 0) (take (0+(i-0)).toNat (drop (Int.toNat 0) (take i.toNat L)++replicate (n-i).toNat z++drop (i+(n-i)).toNat (take n.toNat L)))=L.take i.toNat:=by
 have e:(take i.toNat L).length=i.toNat:=by rw [length_take];omega
 rw [show(Int.toNat 0)=0 by rfl,drop_zero,drop_zero,show(0+(i-0)).toNat=i.toNat by omega,append_assoc];refine⟨by rw [length_append];omega,?_⟩;rw [take_append_of_le_length ah,take_of_length_le ah]
theorem auF{p1 f1}{o:zx->Bool}{b:zx->Int×aBh}(p:ayV p1 f1)(u:∀l x,l.length<1000000000->o (l,x,())=true/\(b (l,x,())).2.1=x/\FC l x.blk.pc (b (l,x,())).1)(l:List Cac)(x:Cac)(h:l.length<1000000000):XW.F (p1,f1,o,b,()) (l,x,()) (λy=>y=(x,l.filter (neP x.blk.pc),())):=by
 obtain⟨t,I⟩:=u l x h;dsimp only [XW,gm];simp (disch:=omega) only [RR,t];rw [I.1];have F:=I.2;generalize (b (l,x,())).1=k at*;have a:∀e:Cac,neP x.blk.pc e= !decide (e.blk.pc=x.blk.pc):=λ_=>rfl
 refine⟨λg=> ?_,λg=> ?_⟩
 .rw [filter_all (d:=default) λi C=> ?_];rcases F with⟨_,f⟩ | ⟨f,_⟩
  .have:=f i ah ah;rw [a];simpa using this
  .omega
 .obtain⟨f1,f2',f3,f4⟩:0<=k/\k<l.length/\(((l).getD (k).toNat default)).blk.pc=x.blk.pc/\∀j:Int,0<=j->j<k->(((l).getD (j).toNat default)).blk.pc≠x.blk.pc:=by
   rcases F with⟨f,_⟩ | f
   .exact absurd f g
   .exact f
  have w:IntKind.i64.wrap (k+1)=k+1:=w64 ah ah;rw [w];refine ay (λ(y:Int×Int×zx)=>y.2.2.2.1=x/\D7 (neP x.blk.pc) l y.2.2.1 y.1 y.2.1) (λy=>(l.length-y.2.1).toNat) ⟨rfl,D7.start f1 f2' (by rw [a,decide_eq_true f3];rfl) λj v q=>by rw [a,decide_eq_false (f4 j v q)];rfl⟩ ?_;rintro⟨(i:Int),(j:Int),(L:List Cac),(r:Cac),⟨⟩⟩ hI;dsimp only at hI ⊢;obtain⟨rfl,D⟩:=hI;have s:=D.i0;have A:=D.ij;have B:=D.jl;have len:=D.len;have m:(L.length:Int)=l.length:=by omega
  by_cases c:j<l.length
  .by_cases d:(((L).getD (j).toNat default)).blk.pc=r.blk.pc
   .simp (disch:=omega) only [RR,m,c,p,d];exact⟨ah,ah,D.skip c (by rw [a,decide_eq_true d];rfl),ah⟩
   .simp (disch:=omega) only [RR,m,c,p,d];exact⟨ah,ah,ah,ah,ah,ah,D.keep c (by rw [a,decide_eq_false d];rfl),ah⟩
  .simp (disch:=omega) only [RR,m,c];obtain⟨z1,z2⟩:=ac9 (L:=L) (n:=l.length) (z:=Co.mk .cac ([],0,0,[],0,0,0,0,())) s ah m;exact⟨ah,ah,ah,ah,ah,ah,ah,ah,z1,ah,ah,Int.le_trans (show 0+(i-0)<=i by omega) z1,Prod.ext rfl (Prod.ext (z2.trans (D.fin c)) rfl)⟩
theorem ayW{p1 f1 p2 f2}(a:Y99 p1 f1)(b:ayp p2 f2)(e:Cac)(d:e.words.length<1000)(f:e.blk.ops.length<1000000):ahW.F (p1,f1,p2,f2,()) (e,()) (λy=>y=cE e):=by
 have mE:∀c:Blk,Co.mk .blk (c.pc,c.len,c.ops,c.fin,c.x,c.y,c.k,())=c:=λ_=>rfl
 dsimp only [ahW,gm,jo];simp (disch:=omega) only [RR,CAB,mE,a e.blk ah,b e.words ah]
def auG{p1 f1}(d:ant p1 f1)(l:List Cac)(h:ShK l):XP.F (p1,f1,()) (l,()) (λy=>y=(l,())):=by
 have c:=h.1;have mC:=CAM;dsimp only [XP,gm,jo];refine ay (λ(y:List Cac×Int×Int×qj)=>y.1=l/\y.2.1=l.length/\y.2.2.2.1=l.take y.2.2.1.toNat/\0<=y.2.2.1/\y.2.2.1<=l.length) (λy=>(l.length-y.2.2.1).toNat) ⟨rfl,rfl,by simp,by simp,by simp⟩ ?_;rintro⟨(l:List Cac),(m:Int),(i:Int),(o:List Cac),⟨⟩⟩ hI;dsimp only at hI ⊢;obtain⟨rfl,rfl,rfl,e,f⟩:=hI;have a:=h.at i.toNat;simp (disch:=omega) only [RR,d _ a.1 a.2.1,mC];refine⟨λb=>⟨ah,ah,?_,⟨bg e b rfl,ah,ah⟩,ah⟩,λb=>by rw [take_of_length_le ah]⟩;have:=length_take_le' i.toNat l;omega
def auH(l:List Cac)(n:Int)(a:l.length<1000000)(c:0<=n)(b:n<1000000):XZ.F () (l,n,()) (λy=>y=(l.drop (l.length-n.toNat),())):=by
 dsimp only [XZ,gm];simp (disch:=omega) only [RR];rw [show((l.length:Int)).toNat=l.length by omega,take_of_length_le (Nat.le_refl _)];split
 .rw [show((l.length:Int)-n).toNat=l.length-n.toNat by omega];exact⟨ah,ah,ah,rfl⟩
 .rw [show l.length-n.toNat=0 by omega];exact⟨ah,ah,ah,rfl⟩
abbrev auI(b:qj->Bool)(a:qj->qj):Prop:=∀l,ShK l->b (l,())=true/\a (l,())=(l,())
def ayX{p1 f1}{c:aAX->Bool}{a:aAX->qj}{b:zx->Bool}{g:zx->Cac×qj}(f:auI p1 f1)(d:∀l n,l.length<1000000->0<=n->n<1000000->c (l,n,())=true/\a (l,n,())=(l.drop (l.length-n.toNat),()))(m:∀l x,l.length<1000000000->b (l,x,())=true/\g (l,x,())=(x,l.filter (neP x.blk.pc),()))(l:List Cac)(e:Cac)(h:ShK l)(j:e.words.length<1000)(i:e.blk.ops.length<1000000)(o:e.blk.pc<=1000000):ail.F (p1,f1,c,a,b,g,()) (l,e,()) (λy=>y=(kF l e,())):=by
 have L:=h.1;have sh:=(ac7 h j i o).1;have p:=length_filter_le (neP e.blk.pc) l;have k:(l.filter (neP e.blk.pc)++ [e]).length=(l.filter (neP e.blk.pc)).length+1:=by rw [length_append,length_singleton]
 have F:=(d (l.filter (neP e.blk.pc)++ [e]) 4 ah ah ah).2;rw [k]at F;have F:a (l.filter (neP e.blk.pc)++ [e],4,())=(kF l e,()):=F;dsimp only [ail,gm];simp (disch:=omega) only [RR,f l h,m l e,(d (l.filter (neP e.blk.pc)++ [e]) 4 ah ah ah).1,F,f _ sh,length_cons,length_nil];omega
theorem auJ{p1 f1 p2 f2}(q:Y94 p1 f1)(p:Y32 p2 f2)(a b:List Cac)(m:ShK a):X7.F (p1,f1,p2,f2,()) (a,b,()) (λy=>y=(bp (a=b),())):=by
 have mE:∀c:Blk,Co.mk .blk (c.pc,c.len,c.ops,c.fin,c.x,c.y,c.k,())=c:=λ_=>rfl
 have j:=m.1;dsimp only [X7,gm,jo];simp (disch:=omega) only [RR,CAB,mE];refine⟨λh=> ?_,λh=> ?_⟩
 .rw [aT (λe=>h (by rw [e]))]
 have o:a.length=b.length:=by omega
 refine ay (λ(y:List Cac×aAX)=>y.1=a/\y.2.1=b/\0<=y.2.2.1/\y.2.2.1<=a.length/\All y.2.2.1 (λi=>a.getD i.toNat default=b.getD i.toNat default)) (λy=>(a.length-y.2.2.1).toNat) ⟨rfl,rfl,by simp,by simp,All.zero⟩ ?_;rintro⟨(l:List Cac),(n:List Cac),(i:Int),⟨⟩⟩ hI;dsimp only at hI ⊢;obtain⟨rfl,rfl,f,r,k⟩:=hI;have A:=m.at i.toNat;simp (disch:=omega) only [RR,CAB,mE,q (((l).getD (i).toNat default)).blk (((n).getD (i).toNat default)).blk ah,p (((l).getD (i).toNat default)).words (((n).getD (i).toNat default)).words ah,aF,gI];refine⟨λg=>⟨f,g,f,ah,Or.inr f,Or.inr g,Or.inr f,Or.inr ah,λd=> ?_,λd=>⟨⟨ah,ah,k.snoc (Cac.ext d.1 d.2)⟩,ah⟩⟩,λg=> ?_⟩
 .rw [aT];intro e;rw [e]at d;rcases d with d | d<;>exact d rfl
 .rw [aI (kV o (k.le ah))]
end Go.TX.F
namespace Go.TX.F
open Go Go.AE Go.TX List
def ada(l:List Cac)(e:Cac):kF l e=(l.filter (neP e.blk.pc)).drop ((l.filter (neP e.blk.pc)).length+1-4)++ [e]:=by
 unfold kF;rw [drop_append_of_le_length ah]
def aes(l:List Cac)(e:Cac):FC (kF l e) e.blk.pc (((kF l e).length:Int)-1):=by
 rw [ada];generalize c:(l.filter (neP e.blk.pc)).drop ((l.filter (neP e.blk.pc)).length+1-4)=F;have hn:∀x∈F,x.blk.pc≠e.blk.pc:=λx a=>by
  rw [<-c]at a;have:=(mem_filter.1 (mem_of_mem_drop a)).2;simpa [neP]using this
 have b:(F++ [e]).length=F.length+1:=by rw [length_append,length_singleton]
 refine Or.inr ⟨ah,ah,?_,λj f d=> ?_⟩
 .rw [b,show(((F.length+1:Nat):Int)-1).toNat=F.length by omega,getD_lt ah,getElem_append_right ah];simp
 .rw [getD_lt ah,getElem_append_left ah];exact hn _ (getElem_mem _)
abbrev aAv(b:zx->Bool)(a:zx->qj):Prop:=∀l e,ShK l->e.words.length<1000->e.blk.ops.length<1000000->e.blk.pc<=1000000->b (l,e,())=true/\a (l,e,())=(kF l e,())
abbrev ayY(d:List Cac×qj->Bool)(c:List Cac×qj->fA):Prop:=∀a b,ShK a->d (a,b,())=true/\c (a,b,())=(bp (a=b),())
def auK(a b:List Int)(m:a.length<1000000000):WE.F () (a,b,()) (λy=>y=(bp (a=b),())):=by
 dsimp only [WE,gm];simp (disch:=omega) only [RR];refine⟨λh=> ?_,λh=> ?_⟩
 .rw [aT (λe=>h (by rw [e]))]
 have j:a.length=b.length:=by omega
 refine ay (λ(y:List Int×aAN)=>y.1=a/\y.2.1=b/\y.2.2.1=a.length/\0<=y.2.2.2.1/\y.2.2.2.1<=a.length/\All y.2.2.2.1 (λi=>a.getD i.toNat default=b.getD i.toNat default)) (λy=>(a.length-y.2.2.2.1).toNat) ⟨rfl,rfl,rfl,by simp,by simp,All.zero⟩ ?_;rintro⟨(l:List Int),(o:List Int),(n:Int),(i:Int),⟨⟩⟩ hI;dsimp only at hI ⊢;obtain⟨rfl,rfl,rfl,f,k,g⟩:=hI;simp (disch:=omega) only [RR];refine⟨λd=>⟨f,d,f,ah,λc=> ?_,λc=>⟨⟨ah,ah,g.snoc c⟩,ah⟩⟩,λd=> ?_⟩
 .rw [aT];intro e;rw [e]at c;exact c rfl
 .rw [aI (kV j (g.le ah))]
def NU{w mem:List Int}{a:Int}(j:0<=a)(i:0<w.length):There w mem a↔a+w.length<=mem.length/\(mem.take (a+w.length).toNat).drop a.toNat=w:=by
 have b:∀k:Nat,k<w.length->a+w.length<=mem.length->((mem.take (a+w.length).toNat).drop a.toNat).getD k default=((mem).getD (a+k).toNat default):=λk hk h=>by
  rw [getD_eq_getElem?_getD,getElem?_drop,getElem?_take_of_lt ah,<-getD_eq_getElem?_getD,show a.toNat+k=(a+k).toNat by omega]
 refine⟨λh=> ?_,λ⟨h,e⟩ k l g=>⟨ah,?_⟩⟩
 .have e:=(h ((w.length:Int)-1) ah ah).1;have c:a+w.length<=mem.length:=by omega
  refine⟨c,ext_getElem (by rw [length_drop,length_take];omega) λn f d=> ?_⟩;have:=(h n ah ah).2;rw [<-b n d c,getD_lt f,Int.toNat_natCast,getD_lt d]at this;exact this
 .have:=b k.toNat ah h;rw [e,show a+((k.toNat:Nat):Int)=a+k by omega]at this;exact this.symm
def ayZ{p1 f1 p2 f2}(d:Y1 p1 f1)(a:Y32 p2 f2)(e:Cac)(mem:List Int)(g:e.words.length<1000000000)(hm:mem.length<1000000000):ag7.F (p1,f1,p2,f2,()) (e,mem,()) (λy=>y=(dJ mem e,())):=by
 dsimp only [ag7,gm];simp (disch:=omega) only [RR,CAB,d];refine⟨λz=> ?_,λz=> ?_⟩
 .refine Prod.ext ?_ rfl;show decide (0<=e.blk.pc)=dJ mem e;rw [Bool.eq_iff_iff,decide_eq_true_eq,dJ,aF];exact⟨λh=>⟨h,λk i f=>by omega⟩,λh=>h.1⟩
 .by_cases c:inB e.blk.pc 0 (mem.length-e.words.length)=true
  .obtain⟨c0,c1⟩:=bB.1 c;have w:IntKind.i64.wrap (e.blk.pc+e.words.length)=e.blk.pc+e.words.length:=w64 ah ah;have b:(drop e.blk.pc.toNat (take (e.blk.pc+e.words.length).toNat mem)).length<1000000000:=by rw [length_drop,length_take];omega
   rw [w,c,(a _ _ b).2];refine⟨Or.inr c0,Or.inr ah,Or.inr ah,Or.inr ((a _ _ b).1),?_⟩;rw [Bool.true_and];refine Prod.ext (ig ?_) rfl;rw [NU c0 ah];exact⟨λh=>⟨c0,ah,h⟩,λh=>h.2.2⟩
  .have c':inB e.blk.pc 0 (mem.length-e.words.length)=false:=by simpa using c
   rw [c'];refine⟨Or.inl rfl,Or.inl rfl,Or.inl rfl,Or.inl rfl,?_⟩;rw [Bool.false_and];refine Prod.ext (aT λh=>c (bB.2 ⟨h.1,?_⟩)).symm rfl;have:=((NU h.1 ah).1 h.2).1;omega
def FP(P:Cac->Bool)(l:List Cac)(k:Int):Prop:=(k= -1/\∀j:Int,0<=j->j<l.length->P ((l).getD (j).toNat default)=true)\/(0<=k/\k<l.length/\P ((l).getD (k).toNat default)=false/\∀j:Int,0<=j->j<k->P ((l).getD (j).toNat default)=true)
abbrev ay0(b:Cac×bn->Bool)(a:Cac×bn->fA):Prop:=∀e mem,e.words.length<1000000000->mem.length<1000000000->b (e,mem,())=true/\a (e,mem,())=(dJ mem e,())
def ay1{p1 f1}(a:ay0 p1 f1)(e:Cac)(mem:List Int)(b:e.words.length<1000)(hm:mem.length<1000000000)(c:e.blk.pc<=1000000):ag8.F (p1,f1,()) (e,mem,()) (λy=>y=(!dJ mem e,mem,())):=by
 dsimp only [ag8,gm];simp (disch:=omega) only [RR,a e mem ah hm]
abbrev ay2(b:Cac×bn->Bool)(a:Cac×bn->Bool×bn):Prop:=∀e mem,e.words.length<1000->mem.length<1000000000->e.blk.pc<=1000000->b (e,mem,())=true/\a (e,mem,())=(!dJ mem e,mem,())
def auL{p1 f1}(m:ay2 p1 f1)(l:List Cac)(mem:List Int)(h:ShK l)(hm:mem.length<1000000000):WI.F (p1,f1,()) (l,mem,()) (λy=>y.2.1=l/\y.2.2.1=mem/\FP (dJ mem) l y.1):=by
 have r:=h.1;dsimp only [WI,gm];refine ay (λ(y:Int×Int×O4)=>y.1=l.length/\0<=y.2.1/\y.2.1<=l.length/\y.2.2.1=l/\y.2.2.2.1=mem/\∀j:Int,0<=j->j<y.2.1->dJ mem ((l).getD (j).toNat default)=true) (λy=>(l.length-y.2.1).toNat) ⟨rfl,by simp,by simp,rfl,rfl,λj q a=>absurd a (by simp;omega)⟩ ?_;rintro⟨(n:Int),(i:Int),(l:List Cac),(mem:List Int),⟨⟩⟩ hI;dsimp only at hI ⊢;obtain⟨rfl,a,p,rfl,rfl,b⟩:=hI;obtain⟨o,s,k⟩:=h.at i.toNat;simp (disch:=omega) only [RR,m _ mem o hm k];refine⟨λg=>⟨a,g,a,g,λe=>Or.inr ⟨a,g,e,b⟩,λe=>⟨⟨ah,ah,λj d f=> ?_⟩,ah⟩⟩,λg=>Or.inl ⟨rfl,λj d f=>b j d ah⟩⟩;by_cases c:j<i
 .exact b j d c
 .rw [show j=i by omega];exact e
def auM{p1 f1}{e:O4->Bool}{a:O4->Int×O4}(u:ay2 p1 f1)(t:∀l mem,ShK l->mem.length<1000000000->e (l,mem,())=true/\(a (l,mem,())).2.1=l/\(a (l,mem,())).2.2.1=mem/\FP (dJ mem) l (a (l,mem,())).1)(l:List Cac)(mem:List Int)(h:ShK l)(hm:mem.length<1000000000):XY.F (p1,f1,e,a,()) (l,mem,()) (λy=>y=(mem,l.filter (dJ mem),())):=by
 have x:=h.1;obtain⟨s,I⟩:=t l mem h hm;dsimp only [XY,gm];simp (disch:=omega) only [RR,s];rw [I.1,I.2.1];have F:=I.2.2;generalize (a (l,mem,())).1=k at*;refine⟨λg=> ?_,λg=> ?_⟩
 .rw [filter_all (d:=default) λi B=> ?_];rcases F with⟨_,f⟩ | ⟨f,_⟩
  .simpa using f i ah ah
  .omega
 .obtain⟨k0,k1,k2,k3⟩:0<=k/\k<l.length/\dJ mem ((l).getD (k).toNat default)=false/\∀j:Int,0<=j->j<k->dJ mem ((l).getD (j).toNat default)=true:=by
   rcases F with⟨f,_⟩ | f
   .exact absurd f g
   .exact f
  have w:IntKind.i64.wrap (k+1)=k+1:=w64 ah ah;rw [w];refine ay (λ(y:Int×Int×O4)=>y.2.2.2.1=mem/\D7 (dJ mem) l y.2.2.1 y.1 y.2.1) (λy=>(l.length-y.2.1).toNat) ⟨rfl,D7.start k0 k1 k2 k3⟩ ?_;rintro⟨(i:Int),(j:Int),(L:List Cac),(mem:List Int),⟨⟩⟩ hI;dsimp only at hI ⊢;obtain⟨rfl,D⟩:=hI;have r:=D.i0;have v:=D.ij;have A:=D.jl;have len:=D.len;have b:(L.length:Int)=l.length:=by omega
  by_cases c:j<l.length
  .have ej:((L).getD (j).toNat default)=((l).getD (j).toNat default):=D.b j.toNat ah;obtain⟨q,C,m⟩:=h.at j.toNat;rw [<-ej]at q m;obtain⟨o,p⟩:=u _ mem q hm m;by_cases d:dJ mem ((L).getD (j).toNat default)=true
   .simp (disch:=omega) only [RR,b,c,o,p,d];exact⟨ah,ah,ah,ah,ah,ah,D.keep c d,ah⟩
   .have d:dJ mem ((L).getD (j).toNat default)=false:=by simpa using d
    simp (disch:=omega) only [RR,b,c,o,p,d];exact⟨ah,ah,D.skip c d,ah⟩
  .simp (disch:=omega) only [RR,b,c];obtain⟨z1,z2⟩:=ac9 (L:=L) (n:=l.length) (z:=Co.mk .cac ([],0,0,[],0,0,0,0,())) r ah b;exact⟨ah,ah,ah,ah,ah,ah,ah,ah,z1,ah,ah,Int.le_trans (show 0+(i-0)<=i by omega) z1,Prod.ext rfl (Prod.ext (z2.trans (D.fin c)) rfl)⟩
def ay3{p1 f1}{c:O4->Bool}{a:O4->List Int×qj}(b:auI p1 f1)(d:∀l mem,ShK l->mem.length<1000000000->c (l,mem,())=true/\a (l,mem,())=(mem,l.filter (dJ mem),()))(l:List Cac)(mem:List Int)(h:ShK l)(hm:mem.length<1000000000):air.F (p1,f1,c,a,()) (l,mem,()) (λy=>y=(l.filter (dJ mem),())):=by
 have sh:=Qk h (dJ mem);dsimp only [air,gm];simp (disch:=omega) only [RR,b l h,d l mem h hm,b _ sh]
structure EoD(b:List Int)(p:Int)(y:Eng×eG):Prop where
 m:MSh y.1.aj
 o:y.1.aj.outs.length<=2000
 k:ShK y.1.cache
 kl:y.1.cache.length<=10
 c:ShC y.1.aJ
 cl:y.1.aJ.length<=10
 b:y.2.1=b
 lo:p<=y.2.2.1
 hi:y.2.2.1<=p+40000000
def Qm{α:Type}{l:List α}{x:α}(h:l.length<=4):(l++ [x]).length<=10:=by rw [length_append,length_singleton];omega
def ShK.set{l:List Cac}(h:ShK l)(i:Nat){x:Cac}(b:x.words.length<1000)(a:x.blk.ops.length<1000000)(d:x.blk.pc<=1000000):ShK (l.set i x):=by
 refine⟨by rw [length_set];exact h.1,λc hc=> ?_⟩;rcases mem_or_eq_of_mem_set hc with g | rfl
 .exact h.2 c g
 .exact⟨b,a,d⟩
theorem auN{p1 f1 p2 f2 p3 f3 p4 f4 p5 f5 p6 f6 p7 f7 p8 f8}(U1:anr p1 f1)(U2:aAo p2 f2)(U3:Y39 p3 f3)(v:Y38 p4 f4)(U5:Y40 p5 f5)(G:Y83 p6 f6)(s:Y84 p7 f7)(U8:aAu p8 f8)(n:Int)(b:List Int)(p:Int)(f:Bt b)(o:0<=p)(t:p<200000000):aai.F (p1,f1,p2,f2,p3,f3,p4,f4,p5,f5,p6,f6,p7,f7,p8,f8,()) (n,b,p,()) (λy=>EoD b p y):=by
 have mE:∀c:Blk,Co.mk .blk (c.pc,c.len,c.ops,c.fin,c.x,c.y,c.k,())=c:=λ_=>rfl
 have Q:∀x y z u:Int,Co.mk .ins (x,y,z,u,())=⟨x,y,z,u⟩:=λ_ _ _ _=>rfl
 obtain⟨T,⟨e,q,E,e1,e2,H⟩⟩:=U8 b p f o ah;have R:=pkS f v;have P:=λn p o t=>(v n b p f o t).1
 obtain⟨OP,⟨O,F⟩⟩:=U3 n b q f ah ah;obtain⟨W,M⟩:=U2 1 b (q+1+1) f ah ah;have Mb:=M.b;obtain⟨P5,⟨W1,W2,W3,_⟩⟩:=U5 b (q+1+1) f ah ah;obtain⟨L,K⟩:=s b (q+1+1) f ah ah;have S:=K.b;have K1:=K.lo;have K2:=K.hi;obtain⟨m,j⟩:=s b (f7 (b,q+1+1,())).2.2.2.2.2.2.2.1 f ah ah;have l:=j.b;have i:=E.k.at (Int.toNat 0);obtain⟨P6,⟨B,I⟩⟩:=G (e.cache.getD (Int.toNat 0) default).blk b (q+1+1) i.2.1 f ah ah;have N:=B.b;obtain⟨U,J⟩:=U1 3 [⟨1,0,0,0⟩] (by decide);have lw:((lower 3 [⟨1,0,0,0⟩]).ops.length:Int)<=5000:=vC 3 [⟨1,0,0,0⟩];have k:(lower 3 [⟨1,0,0,0⟩]).ops.length<1000000:=by omega
 have Z:=aji 3 [⟨1,0,0,0⟩];have a:=E.kl;have h:e.aj.outs.length<=2000:=Nat.le_trans E.o (by decide);have d:=E.cl;have V:0<e.cache.length->0<=(e.cache.getD (Int.toNat 0) default).blk.pc/\(e.cache.getD (Int.toNat 0) default).blk.pc<e.aj.mem.length:=λg=>by rw [getD_lt (show Int.toNat 0<_ from g)];exact E.v _ (getElem_mem _)
 have fin:∀(M:aD) (K:List Cac) (C:List Cer) (r:Int),MSh M->M.outs.length<=2000->ShK K->K.length<=10->ShC C->C.length<=10->p<=r->r<=p+40000000->EoD b p (⟨M,K,C⟩,b,r,()):=λM K C r X a2 a3 a4 a5 a6 A w=>⟨X,a2,a3,a4,a5,a6,rfl,A,w⟩
 have Y:∀x:Cac,(([x]:List Cac).length:Int)=1:=λ_=>rfl
 have D:∀x:Cer,(([x]:List Cer).length:Int)=1:=λ_=>rfl
 dsimp only [aai,gm,jo];simp (disch:=omega) only [RR,CAB,mE,Q,T,H,R,P,O,F,OP,W,Mb,P5,W1,L,S,m,l,P6,N,U,J,Y,D]
 repeat' (first | (refine And.intro ?_ ?_) | intro _)
 all_goals try omega
 .exact fin ⟨_,_,_,_,_,_,_,_,_,_⟩ _ _ _ ⟨Nat.lt_of_le_of_lt M.r (by decide),Nat.lt_of_le_of_lt M.m (by decide),Nat.lt_of_le_of_lt M.i (by decide),Nat.lt_of_le_of_lt M.o (by decide)⟩ (Nat.le_trans M.o (by decide)) E.k (Nat.le_trans a (by decide)) E.c (Nat.le_trans d (by decide)) (Int.le_trans ah M.lo) (Int.le_trans M.hi ah)
 .exact fin e.aj _ _ _ E.m h (E.k.add ah (show 1<1000 by decide) k Z) (Qm a) E.c (Nat.le_trans d (by decide)) ah ah
 .exact fin e.aj _ _ _ E.m h (E.k.set _ i.1 (Nat.lt_of_le_of_lt B.len i.2.1) (show _<=(1000000:Int) by rw [I];exact i.2.2)) (Nat.le_trans (Nat.le_of_eq length_set) (Nat.le_trans a (by decide))) E.c (Nat.le_trans d (by decide)) (Int.le_trans ah B.lo) (Int.le_trans B.hi ah)
 .exact fin e.aj _ _ _ E.m h E.k (Nat.le_trans a (by decide)) E.c (Nat.le_trans d (by decide)) ah ah
 .exact fin e.aj _ _ _ E.m h E.k (Nat.le_trans a (by decide)) (E.c.add ah (Nat.lt_of_le_of_lt K.len (by decide)) (Nat.lt_of_le_of_lt j.len (by decide))) (Qm (Nat.le_trans d (by decide))) (Int.le_trans ah j.lo) (Int.le_trans j.hi ah)
 .exact fin ⟨_,_,_,_,_,_,_,_,_,_⟩ _ _ _ ⟨E.m.1,by rw [length_set];exact E.m.2.1,E.m.2.2⟩ h E.k (Nat.le_trans a (by decide)) E.c (Nat.le_trans d (by decide)) ah ah
 .exact fin e.aj _ _ _ E.m h E.k (Nat.le_trans a (by decide)) E.c (Nat.le_trans d (by decide)) ah ah
 .exact fin e.aj _ _ _ E.m h (E.k.add ah i.1 i.2.1 i.2.2) (Qm a) E.c (Nat.le_trans d (by decide)) ah ah
 .exact fin e.aj _ _ _ E.m h E.k (Nat.le_trans a (by decide)) E.c (Nat.le_trans d (by decide)) ah ah
 .exact fin e.aj _ _ _ E.m h E.k (Nat.le_trans a (by decide)) E.c (Nat.le_trans d (by decide)) ah ah
def anx{y:Eng}(h:fF y):y.cache.filter (dJ y.aj.mem)=y.cache:=by
 refine filter_eq_self.2 λx b=> ?_
 obtain⟨i,a,rfl⟩:=getElem_of_mem b;have k:=h.2.1.2.1 i ah ah;rw [show((i:Int)).toNat=i from rfl,getD_lt a]at k;exact aI ⟨k.1.2.1.pc.1,k.2⟩
abbrev ay4(c:Bp->Bool)(a:Bp->Eng×eG):Prop:=∀n b p,Bt b->0<=p->p<200000000->c (n,b,p,())=true/\EoD b p (a (n,b,p,()))
variable{l:List Cac}{cs:List Cer}{m:aD}
def aow:∀w:List Int,jS w=Tm w
 | []=>rfl
 | w::r=>by unfold jS Tm;rw [aow r]
structure KpE(l:List Cac)(cs:List Cer):Prop where
 n:l.length<=4
 r:∀x∈l,qb x
 u:l.Pairwise λa b=>a.blk.pc≠b.blk.pc
 p:jY cs
def ajk{e:Eng}(h:fF e):KpE e.cache e.aJ:=⟨h.2.1.1,λx d=>by
 obtain⟨i,a,rfl⟩:=getElem_of_mem d;have k:=h.2.1.2.1 i ah ah;rw [show((i:Int)).toNat=i from rfl,getD_lt a]at k;exact k.1,pairwise_iff_getElem.2 λi j a b c=>by
 have k:=h.2.1.2.2 i j ah ah ah
 rwa [show((i:Int)).toNat=i from rfl,show((j:Int)).toNat=j from rfl,getD_lt a,getD_lt b]at k,h.2.2⟩
def ajl(h:KpE l cs)(hm:MOK m):fF ⟨m,l.filter (dJ m.mem),cs⟩:=by
 refine⟨hm,⟨Nat.le_trans (length_filter_le _ _) h.n,λj c a=> ?_,λi j b d a=> ?_⟩,h.p⟩
 .rw [getD_lt (show j.toNat< (l.filter (dJ m.mem)).length by dsimp only at a;omega)];have k:=mem_filter.1 (getElem_mem (show j.toNat< (l.filter (dJ m.mem)).length by dsimp only at a;omega));exact⟨h.r _ k.1,(aF.1 (show bp _=true from k.2)).2⟩
 .dsimp only at a ⊢;rw [getD_lt (show i.toNat< (l.filter (dJ m.mem)).length by omega),getD_lt (show j.toNat< (l.filter (dJ m.mem)).length by omega)];exact pairwise_iff_getElem.1 (h.u.filter _) _ _ _ _ ah
def ajm{b:Blk}(hc:jY cs)(e:bQ b)(a:Ask):chk b (gK cs b a).1=true/\jY (gK cs b a).2:=by
 have s:chk b b=true:=by rw [aiZ,aI e]
 unfold gK;split
 .exact⟨s,hc⟩
 split
 .rename_i g;obtain⟨q,d,h,f⟩:=aF.1 g;have:=hc.2 q d;rw [h,f]at this;exact⟨this,hc⟩
 split
 .rename_i g;refine⟨g,by unfold FB;rw [length_drop,length_append,length_singleton];omega,λq c=> ?_⟩;have c:=mem_of_mem_drop c;rw [mem_append,mem_singleton]at c;rcases c with k | rfl
  .exact hc.2 q k
  .exact g
 .exact⟨s,hc⟩
def anz{cs c:List Cer}(h:KpE l cs){x:Cac}(g:qb x)(hc:jY c):KpE (kF l x) c:=by
 refine⟨?_,λy d=> ?_,?_,hc⟩
 .unfold kF;rw [length_drop,length_append,length_singleton];omega
 .have d:=mem_of_mem_drop (show y∈drop _ _ from d);rw [mem_append,mem_singleton]at d;rcases d with k | rfl
  .exact h.r y (mem_filter.1 k).1
  .exact g
 .unfold kF;refine Pairwise.sublist (drop_sublist _ _) ?_;rw [pairwise_append];refine⟨h.u.filter _,pairwise_singleton _ _,λa f b e=> ?_⟩;rw [mem_singleton]at e;subst e;have:=(mem_filter.1 f).2;simpa [neP]using this
def Tq(mem:List Int):∀(n:Nat) (p:Int),0<=p->∀t:Nat,t< (dM mem n p).length->((mem).getD (p+t).toNat default)=gN ((dM mem n p).getD t default)
 | 0,_,_,t,h=>absurd h (by simp [dM])
 | n+1,p,p0,t,h=>by
  unfold dM at h ⊢;split at h
  .rename_i g;rw [if_pos g];obtain⟨d,⟨a,b⟩,c⟩:=aF.1 g;have z:gN (dI ((mem).getD (p).toNat default))=((mem).getD (p).toNat default):=ajg a b;split at h
   .rename_i e;rw [if_pos e];have:t=0:=by simp at h;omega
    subst this;rw [show p+((0:Nat):Int)=p by omega];exact z.symm
   .rename_i e;rw [if_neg e];cases t with
    | zero=>rw [show p+((0:Nat):Int)=p by omega];exact z.symm
    | succ t=>
     have:=Tq mem n (p+1) ah t (by simpa using h);rw [show p+((t+1:Nat):Int)=p+1+t by omega,this];rfl
  .exact absurd h (by simp)
def auO{e:Eng}(ok:fF e)(a:Ask):KpE (bM e a).1.cache (bM e a).1.aJ/\(0<=(bM e a).2.1->qb ((((bM e a).1.cache).getD ((bM e a).2.1).toNat default))/\((((bM e a).1.cache).getD ((bM e a).2.1).toNat default)).blk.pc=e.aj.pc/\There ((((bM e a).1.cache).getD ((bM e a).2.1).toNat default)).words e.aj.mem e.aj.pc):=by
 have K:=ajk ok;have fc:=Kl e.cache e.aj.pc;have B:=pR e.aj;unfold bM;split
 .refine⟨K,λg=> ?_⟩;rcases fc with f | ⟨q,t,n,_⟩
  .dsimp only at g;omega
  .have k:=ok.2.1.2.1 _ q t;dsimp only;rw [n]at k;exact⟨k.1,n,k.2⟩
 split
 .exact⟨K,λg=>absurd (show(0:Int)<= -1 from g) (by decide)⟩
 .rename_i g;obtain⟨h,c⟩:=B.2 ah;have ir:=jB c;have A:=ajm K.p ir a;have Q:=CO A.1;have r:=FL c;have al:∀i∈findF e.aj,bF i:=λi s=>by
   obtain⟨j,m,rfl⟩:=getElem_of_mem s;have:=(c.ok j m).1
   rwa [getD_lt m]at this
  have p:jS ((findF e.aj).map gN)=findF e.aj:=by rw [aow,NT al]
  have l:(gK e.aJ (lower e.aj.pc (findF e.aj)) a).1.pc=e.aj.pc:=by rw [<-Q.2.2.1,r]
  have R:qb ⟨(findF e.aj).map gN,(gK e.aJ (lower e.aj.pc (findF e.aj)) a).1⟩:=by
   unfold qb;dsimp only;rw [p,l,length_map];exact⟨rfl,c,A.1⟩
  refine⟨anz K R A.2,λ_=> ?_⟩;dsimp only;rw [FN];refine⟨R,l,λk v d=> ?_⟩;rw [length_map]at d;have o:=c.pc;have u:=h.m64;refine⟨ah,?_⟩;have b:=Tq e.aj.mem 8 e.aj.pc o.1 k.toNat;unfold findF at d ⊢;rw [aI h,if_pos rfl]at d ⊢;have b:=b ah;rw [show((k.toNat:Nat):Int)=k by omega]at b;rw [b,getD_lt ah,getD_lt (by rw [length_map];omega),getElem_map]
def aeu{i:Ins}(g:m.halt=0):(exec m i).count=m.count+1/\(exec m i).halt<2\/2<=(exec m i).halt/\(exec m i).count=m.count:=by
 unfold exec;split
 .exact Or.inr ⟨show(2:Int)<=3 by decide,rfl⟩
 .refine Or.inl ⟨rfl,?_⟩;show(eff m i).halt<2;unfold eff
  repeat' split
  all_goals first | (dsimp only;omega) | omega
def aaM(g:m.halt=0)(b:Bool):(stepM m b).count=m.count+1/\(stepM m b).halt<2\/2<=(stepM m b).halt/\(stepM m b).count=m.count:=by
 obtain⟨_,_,e⟩:=Ki m b;have h:(smp m b).halt=0:=by unfold smp;split<;>exact g
 rw [zB,<-e];split
 .exact Or.inr ⟨show(2:Int)<=4 by decide,rfl⟩
 split
 .exact Or.inr ⟨show(2:Int)<=2 by decide,rfl⟩
 .exact aeu h
end Go.TX.F
namespace Go.TX.F
open Go Go.AE Go.TX List
def rJ:Ask:=⟨true,[]⟩
noncomputable def D8 (q:List Int) (d:Int):Nat->Eng->List Ask->Eng
 | 0,e,_=>e
 | f+1,e,l=>if e.aj.halt=0/\e.aj.count<1000000/\e.aj.count<d then D8 q d f (goE e q (d-e.aj.count) (l.headD rJ)).1 (if(goE e q (d-e.aj.count) (l.headD rJ)).2=true then l.tail else l)else e
noncomputable def zG (e:Eng) (q:List Int) (n:Int) (l:List Ask):Eng:=if bp (fF e/\n<=400)=true then D8 q (e.aj.count+n) (n.toNat+1) e l else aer
def L8(d:Int)(e:Eng):Nat:=(d-e.aj.count).toNat+(if e.aj.halt=0 then 1 else 0)
def Qn{e:Eng}{n:Int}(h:¬(fF e/\n<=400))(q:List Int)(l:List Ask):zG e q n l=aer:=by
 unfold zG;rw [aT h,if_neg (by decide)]
def aaN{e:Eng}(ok:fF e)(h:e.aj.halt≠0){n:Int}(hn:n<=400)(q:List Int)(l:List Ask):zG e q n l=e:=by
 unfold zG;rw [aI ⟨ok,hn⟩,if_pos rfl];unfold D8;rw [if_neg (λz=>h z.1)]
variable{cs:List Cer}{a:Ask}{e:Eng}{q:List Int}{left:Int}
def Qo{b:Blk}(hc:jY cs)(a:Ask):(gK cs b a).1=if(mdF b a).2=true/\chk b (mdF b a).1=true then(mdF b a).1 else b:=by
 unfold gK;cases hm:(mdF b a).2 with
 | false=>rw [if_pos rfl,if_neg (λz=>by cases z.1)]
 | true=>
  rw [if_neg (by decide)];split
  .rename_i g;obtain⟨q,c,e,d⟩:=aF.1 g;have:=hc.2 q c;rw [e,d]at this;rw [if_pos ⟨rfl,this⟩]
  split
  .rename_i g;rw [if_pos ⟨rfl,g⟩]
  .rename_i g;rw [if_neg (λz=>g z.2)]
def anA{b:Blk}(hc:jY cs)(c:bQ b)(h:a.own=true):(gK cs b a).1=o7 b:=by
 rw [Qo hc];unfold mdF;rw [if_pos h,if_pos ⟨rfl,(aei c).chk⟩]
def Qp{α:Type}(l:List α):l=l.filter (λ_=>true):=(filter_eq_self.2 λ_ _=>rfl).symm
def aev(e:Eng)(q:List Int)(left:Int)(a:Ask):∃P:Cac->Bool,(goE e q left a).1.cache=(if(goE e q left a).2=true then(bM e a).1.cache else(goE e q left a).1.cache).filter P/\((goE e q left a).2=true->(bM e a).2.2=true):=by
 unfold goE;split
 .exact⟨λ_=>true,Qp _,λz=>by cases z⟩
 split
 .cases h:(bM e a).2.2
  .exact⟨λ_=>true,Qp _,λz=>by cases z⟩
  .exact⟨_,rfl,λ_=>rfl⟩
 split
 .cases h:(bM e a).2.2
  .exact⟨λ_=>true,Qp _,λz=>by cases z⟩
  .exact⟨_,rfl,λ_=>rfl⟩
 .cases h:(bM e a).2.2
  .exact⟨λ_=>true,Qp _,λz=>by cases z⟩
  .exact⟨_,rfl,λ_=>rfl⟩
def anB(h:(bM e a).2.2=true):0< (findF e.aj).length/\(bM e a).1.cache=kF e.cache ⟨(findF e.aj).map gN,(gK e.aJ (lower e.aj.pc (findF e.aj)) a).1⟩:=by
 unfold bM at h ⊢;split at h
 .cases h
 rename_i g;rw [if_neg g];split at h
 .cases h
 rename_i g;rw [if_neg g];exact⟨ah,rfl⟩
def Kn(ok:fF e)(h:(goE e q left a).2=true):nC e.aj.pc (findF e.aj)/\∀x∈(goE e q left a).1.cache,x.blk.pc=e.aj.pc->x.blk=(gK e.aJ (lower e.aj.pc (findF e.aj)) a).1:=by
 obtain⟨P,d,j⟩:=aev e q left a;rw [if_pos h]at d;obtain⟨i,f⟩:=anB (j h);obtain⟨m,c⟩:=(pR e.aj).2 i;have A:=ajm ok.2.2 (jB c) a;have l:(gK e.aJ (lower e.aj.pc (findF e.aj)) a).1.pc=e.aj.pc:=by rw [<-(CO A.1).2.2.1,FL c]
 refine⟨c,λx b k=> ?_⟩;rw [d]at b;have b:=(mem_filter.1 b).1;rw [f]at b;have b:=mem_of_mem_drop (show x∈drop _ _ from b);rw [mem_append,mem_singleton]at b;rcases b with g | rfl
 .have:=(mem_filter.1 g).2;simp [neP,l,k]at this
 .rfl
def ajn{l:List Cac}{d k:Int}(h:FC l d k)(g:0<=k):k<l.length/\(((l).getD (k).toNat default))∈l/\(((l).getD (k).toNat default)).blk.pc=d:=by
 rcases h with⟨a,_⟩ | ⟨a,b,c,_⟩
 .omega
 .refine⟨b,?_,c⟩;rw [getD_lt ah];exact getElem_mem _
def ajo(h:0<=fcI e.cache e.aj.pc):(bT e q left a).2=false:=by
 have f:(bM e a).2.2=false:=by unfold bM;rw [if_pos h]
 unfold bT goE;split
 .rfl
 split
 .rfl
 split
 .rfl
 split
 .exact f
 split<;>exact f
def ay5(ok:fF e){pc:Int}(a:Wo pc):fF ⟨{e.aj with pc:=pc,halt:=0},e.cache,e.aJ⟩:=⟨{ok.1 with pc:=a,ha:=⟨show(0:Int)<=0 by decide,show(0:Int)<=4 by decide⟩},ok.2⟩
def anC(ok:fF e){x:Cac}(g:x∈e.cache):0<=x.blk.pc/\x.blk.len=x.words.length/\x.blk.pc+x.blk.len<=e.aj.mem.length/\(e.aj.mem.take (x.blk.pc+x.blk.len).toNat).drop x.blk.pc.toNat=x.words/\(jS x.words).length=x.words.length/\chk (lower x.blk.pc (jS x.words)) x.blk=true:=by
 obtain⟨i,f,rfl⟩:=getElem_of_mem g;have k:=ok.2.1.2.1 i ah ah;rw [show((i:Int)).toNat=i from rfl,getD_lt f]at k;obtain⟨⟨b,a,k3⟩,c⟩:=k;generalize e.cache[i]=x at*;have d:=a.pc;have m:=a.ln;have h:x.blk.len=x.words.length:=by rw [<-(CO k3).2.2.2,(atf a).2,b]
 have z:=(c (x.words.length-1:Nat) ah ah).1;refine⟨d.1,h,ah,?_,b,k3⟩;refine ext_getElem (by rw [length_drop,length_take];omega) λt l j=> ?_
 rw [getElem_drop,getElem_take];have z:=c t ah ah;have z2:=z.2;rw [getD_lt ah,getD_lt ah]at z2;have e:x.blk.pc.toNat+t=(x.blk.pc+(t:Int)).toNat:=by omega
 simp only [e];exact z2
end Go.TX.F
namespace Go.TX.F
open Go Go.AE Go.TX List
def adb(l:List Cac)(mem:List Int)(j:Int):Prop:=dJ mem ((l).getD (j).toNat default)=true/\qb ((l).getD (j).toNat default)/\FC l (((l).getD (j).toNat default)).blk.pc j
def ade(l:List Cac)(mem:List Int):FK l mem↔l.length<=4/\∀j:Int,0<=j->j<l.length->adb l mem j:=by
 refine⟨λ⟨k,g,o⟩=>⟨k,λj f d=> ?_⟩,λ⟨k,g⟩=>⟨k,λj f d=> ?_,λi j h n d e=> ?_⟩⟩
 .obtain⟨a,b⟩:=g j f d;exact⟨aI ⟨a.2.1.pc.1,b⟩,a,Or.inr ⟨f,d,rfl,λi h m=>o i j h m d⟩⟩
 .obtain⟨a,b,_⟩:=g j f d;exact⟨b,(aF.1 (show bp _=true from a)).2⟩
 .obtain⟨_,_,c⟩:=g j ah d;rcases c with⟨c,_⟩ | ⟨_,_,_,c⟩
  .omega
  .exact c i h n e
theorem aAw{p1 f1}(m:aeo p1 f1)(w:List Int)(h:w.length<1000000000):aqe.F (p1,f1,()) (w,()) (λy=>y=(jS w,())):=by
 have e:∀x y z u:Int,Co.mk .ins (x,y,z,u,())=⟨x,y,z,u⟩:=λ_ _ _ _=>rfl
 dsimp only [aqe,gm];simp only [RR];refine ay (λ(y:List Int×Int×l6)=>y.1=w/\y.2.1=w.length/\0<=y.2.2.1/\y.2.2.1<=w.length/\y.2.2.2.1=(w.take y.2.2.1.toNat).map dI/\∀x∈w.take y.2.2.1.toNat,Wo x/\bF (dI x)) (λy=>(w.length-y.2.2.1).toNat) ⟨rfl,rfl,by simp,by simp,by simp,by simp⟩ ?_;rintro⟨(w:List Int),(n:Int),(i:Int),(o:List Ins),⟨⟩⟩ hI;dsimp only at hI ⊢;obtain⟨rfl,rfl,b,p,rfl,a⟩:=hI;simp (disch:=omega) only [RR,m];have tl:=length_take_le' i.toNat w;refine⟨λg=>⟨b,g,?_⟩,λg=> ?_⟩
 .have dr:w=w.take i.toNat++(w.getD i.toNat default::w.drop (i.toNat+1)):=by
   rw [getD_lt ah,<-drop_eq_getElem_cons ah,take_append_drop]
  unfold tkI;by_cases c:Wo (w.getD i.toNat default)/\bF (dI (w.getD i.toNat default))
  .rw [if_pos (aI c)];simp (disch:=omega) only [RR,e];have j:=bg (d:=default) b g (l:=w) rfl;have k:((w.take i.toNat).map dI).length=i.toNat:=by rw [length_map,length_take];omega
   refine⟨by rw [k];simp only [length_cons,length_nil];omega,⟨ah,ah,by rw [<-j,map_append];rfl,λx f=> ?_⟩,ah⟩;rw [<-j,mem_append,mem_singleton]at f;exact f.elim (a x) (λq=>q▸c)
  .rw [if_neg (by rw [aT c];decide)];simp (disch:=omega) only [RR]
   conv=>rhs;rw [dr]
   rw [zF _ _ a,jS,if_neg (by rw [aT c];decide),append_nil]
   done
 .rw [take_of_length_le ah]at a ⊢;have:=zF w [] a;rw [append_nil]at this;rw [this];simp [jS]
theorem ay6{p1 f1 p2 f2 p3 f3 p4 f4 p5 f5 p6 f6}(R:ajb p1 f1)(N:ayw p2 f2)(M:at5 p3 f3)(Q:ay0 p4 f4)(G:aep p5 f5)(H:Y96 p6 f6)(l:List Cac)(mem:List Int)(h:ShX l)(hm:mem.length<1000000000):ahQ.F (p1,f1,p2,f2,p3,f3,p4,f4,p5,f5,p6,f6,()) (l,mem,()) (λy=>y=(bp (FK l mem),())):=by
 have mE:∀c:Blk,Co.mk .blk (c.pc,c.len,c.ops,c.fin,c.x,c.y,c.k,())=c:=λ_=>rfl
 have mC:=CAM;have L:=h.1;dsimp only [ahQ,gm,jo];refine ay (λ(y:List Cac×List Int×List Cac×ni)=>y.1=l/\y.2.1=mem/\y.2.2.1=l/\y.2.2.2.1=l.length/\0<=y.2.2.2.2.1/\y.2.2.2.2.1<=l.length/\∀j:Int,0<=j->j<y.2.2.2.2.1->adb l mem j) (λy=>(l.length-y.2.2.2.2.1).toNat) ⟨rfl,rfl,rfl,rfl,by simp,by simp,λj V F=>absurd F (by simp;omega)⟩ ?_;rintro⟨(X:List Cac),(b:List Int),(a:List Cac),(n:Int),(i:Int),⟨⟩⟩ hI;dsimp only at hI ⊢;obtain⟨rfl,rfl,rfl,rfl,v,U,u⟩:=hI;obtain⟨w,S⟩:=h.at i.toNat;have tl:=Qh (((a).getD (i).toNat default)).words;obtain⟨E,C⟩:=M (((a).getD (i).toNat default)).words w;obtain⟨B,D⟩:=Q ((a).getD (i).toNat default) b w hm;obtain⟨J,P⟩:=N (((a).getD (i).toNat default)).blk.pc (jS (((a).getD (i).toNat default)).words) ah;obtain⟨I,K⟩:=R (((a).getD (i).toNat default)).blk.pc (jS (((a).getD (i).toNat default)).words) ah;have W:((lower (((a).getD (i).toNat default)).blk.pc (jS (((a).getD (i).toNat default)).words)).ops.length:Int)<=5000:=vC _ _;obtain⟨O,x⟩:=H (lower (((a).getD (i).toNat default)).blk.pc (jS (((a).getD (i).toNat default)).words)) (((a).getD (i).toNat default)).blk ah S;obtain⟨T,s⟩:=G a (((a).getD (i).toNat default)).blk.pc L;generalize hk:(f5 (a,(((a).getD (i).toNat default)).blk.pc,())).1=k at s;by_cases c:i<a.length
 .simp (disch:=omega) only [RR,CAB,mE,c,I,K,J,P,E,C,B,D,T,hk,O,x];have f:adb a b i↔((dJ b ((a).getD (i).toNat default)=true/\((jS (((a).getD (i).toNat default)).words).length:Int)=(((a).getD (i).toNat default)).words.length)/\bp (nC (((a).getD (i).toNat default)).blk.pc (jS (((a).getD (i).toNat default)).words))=true)/\chk (lower (((a).getD (i).toNat default)).blk.pc (jS (((a).getD (i).toNat default)).words)) (((a).getD (i).toNat default)).blk=true/\k=i:=
   ⟨λ⟨d,⟨q,m,r⟩,o5⟩=>⟨⟨⟨d,ah⟩,aI m⟩,r,FC.one s o5⟩,λ⟨⟨⟨d,q⟩,m⟩,r,o5⟩=>⟨d,⟨ah,aF.1 m,r⟩,o5▸s⟩⟩
  have p:¬adb a b i->((false,()):fA)=(bp (FK a b),()):=λn=>by rw [aT (λz=>n (((ade a b).1 z).2 i v c))]
  refine⟨v,λg=>⟨λe=>p (λo=> ?_),λe=>⟨⟨ah,ah,λj t A=> ?_⟩,ah⟩⟩,λg=>⟨g,p (λo=> ?_),λz=>z.1.elim⟩⟩
  .obtain⟨⟨⟨d,q⟩,m⟩,r,o5⟩:=f.1 o;rcases e with(((e | e) | e) | e) | e
   .rw [d]at e;cases e
   .exact e q
   .rw [m]at e;cases e
   .rw [r]at e;cases e
   .exact e o5
  .by_cases z:j<i
   .exact u j t z
   .rw [show j=i by omega];exact f.2 ⟨e.1.1,e.1.2,e.2⟩
  .obtain⟨⟨⟨d,q⟩,m⟩,_⟩:=f.1 o;rcases g with(e | e) | e
   .rw [d]at e;cases e
   .exact e q
   .rw [m]at e;cases e
 .simp (disch:=omega) only [RR,c];refine Prod.ext (Bool.eq_iff_iff.2 ?_) rfl;rw [decide_eq_true_eq,aF,ade];exact⟨λg=>⟨ah,λj t A=>u j t ah⟩,λg=>by have:=g.1;omega⟩
def ay7{p1 f1 p2 f2 p3 f3}(m:ayP p1 f1)(k:ayb p2 f2)(j:Tj p3 f3)(e:Eng)(a:MSh e.aj)(i:ShX e.cache)(l:ShD e.aJ):ahU.F (p1,f1,p2,f2,p3,f3,()) (e,()) (λy=>y=(bp (fF e),())):=by
 have b:=λz1 z2 z3 z4=>(m z1 z2 z3 z4).1
 have h:=λz1 z2 z3 z4=>(m z1 z2 z3 z4).2
 have f:=λz1 z2=>(k z1 z2).1
 have g:=λz1 z2=>(k z1 z2).2
 have d:=λz1 z2=>(j z1 z2).1
 have c:=λz1 z2=>(j z1 z2).2
 have mM:=MKM;have n:=b _ e.aj.mem i a.2.1;have o:=h _ e.aj.mem i a.2.1;dsimp only [ahU,gm,iR]at*;simp (disch:=omega) only [RR,EGB,mM,d _ a,c _ a,n,o,f _ l,g _ l];unfold fF;rw [fH,fH,Bool.and_assoc]
variable{K:List Cac}{C:List Cer}
abbrev mK(K:List Cac)(C:List Cer)(m:aD):ak:=(m.pc,m.save,m.aR,m.waits,m.halt,m.ins,m.count,K,C,m.regs,m.mem,m.outs,())
def Qq{m:aD}{i:Ins}{u:aD}(h:exec m i=u):mK K C u=mK K C (exec m i):=by rw [h]
def gB{m:aD}{i:Ins}(h:¬((i.op=9\/i.op=10)/\64<=adr m i)){u:aD}(e:eff m i=u){n:Int}(f:nxt m i=n):mK K C {u with pc:=n,count:=m.count+1}=mK K C (exec m i):=by
 refine Qq ?_;unfold exec;rw [if_neg h,e,f]
def ay8(f c:Int)(lt g:Bool)(b:Int)(ins:List Int)(d:Int)(K:List Cac)(C:List Cer)(regs mem a:List Int)(h:ins.length<1000000000):ah0.F () (f,c,lt,g,b,ins,d,K,C,regs,mem,a,()) (λy=>y=(ins.getD 0 default,f,c,lt,g,b,ins.drop 1,d,K,C,regs,mem,a,())):=by
 dsimp only [ah0,gm];simp (disch:=omega) only [RR];refine⟨λe=> ?_,λe=> ?_⟩
 .have:ins=[]:=eq_nil_of_length_eq_zero ah;subst this;rfl
 .exact⟨ah,ah,ah,ah,ah,by rw [take_of_length_le ah];rfl⟩
abbrev ay9(h:ak->Bool)(g:ak->Int×ak):Prop:=∀(d c:Int) (lt e:Bool) (b:Int) (ins:List Int) (f:Int) (K:List Cac) (C:List Cer) (regs mem a:List Int),ins.length<1000000000->h (d,c,lt,e,b,ins,f,K,C,regs,mem,a,())=true/\g (d,c,lt,e,b,ins,f,K,C,regs,mem,a,())=(ins.getD 0 default,d,c,lt,e,b,ins.drop 1,f,K,C,regs,mem,a,())
set_option maxHeartbeats 1000000 in
theorem aza{p1 f1 p2 f2 p3 f3 p4 f4}(M:ay9 p1 f1)(I:Y24 p2 f2)(H:Y59 p3 f3)(v:Y10 p4 f4)(i:Ins)(m:aD)(K:List Cac)(C:List Cer)(h:MOK m)(L:bF i)(hn:m.ins.length<1000000000)(U:m.outs.length<900000000):ah1.F (p1,f1,p2,f2,p3,f3,p4,f4,()) (i,m.pc,m.save,m.aR,m.waits,m.halt,m.ins,m.count,K,C,m.regs,m.mem,m.outs,()) (λy=>y=mK K C (exec m i)):=by
 obtain⟨⟨Z,T⟩,⟨p,S⟩,⟨t,a1⟩,j,R,O,X,B,N,W,_⟩:=L;have P:i.k<=255:=by omega
 have l:=h.r4;have A:=h.m64;have c:=h.ct;have V:0<=m.pc/\m.pc<=65535:=h.pc;have f:=h.rw.at i.a;have w:=h.rw.at i.d;obtain⟨n,x⟩:=ac1 w f;have s:inB ((m.regs).getD (i.d).toNat default) 0 65535=true:=bB.2 w;have k:inB ((m.regs).getD (i.a).toNat default) 0 65535=true:=bB.2 f;have D:0<=((m.regs).getD (i.a).toNat default)/\((m.regs).getD (i.a).toNat default)<=65535:=f;obtain⟨F,G⟩:=M m.pc m.save m.aR m.waits m.halt m.ins m.count K C m.regs m.mem m.outs hn;have o:(((m.regs).getD (i.a).toNat default)+i.k)%65536=adr m i:=rfl;have J:0<=adr m i:=by unfold adr;omega
 have Y:∀r a b:Int,(inB a 0 65535&&inB b 0 65535&&decide (r=1/\a=b\/r=2/\a<b))=Kg r a b:=λ_ _ _=>rfl
 dsimp only [ah1,gm];rcases(by omega:i.op=0\/i.op=1\/i.op=2\/(3<=i.op/\i.op<=7)\/i.op=8\/i.op=9\/i.op=10\/i.op=11\/i.op=12\/i.op=13\/i.op=14\/i.op=15)with e | e | e | e | e | e | e | e | e | e | e | e
 case inr.inr.inr.inl=>
  have E:∀z:Int,z<3\/7<z->¬i.op=z:=λz g q=>by omega
  have Q:=B e;simp (disch:=omega) only [RR,IR,E,v,o,I,l,p,t,j,jw,or_self,false_and,and_false];refine⟨ah,ah,ah,λ_=>⟨ah,ah,ah,?_⟩⟩;rw [show i.op-3+1=i.op-2 by omega];exact gB (K:=K) (C:=C) (u:={m with regs:=m.regs.set i.d.toNat (wdo (i.op-2) ((m.regs).getD (i.a).toNat default) ((m.regs).getD (i.k).toNat default))}) (n9 ah) (efd e) (nxp ah)
 all_goals simp (disch:=omega) only [RR,IR,e,Int.reduceEq,Int.reduceSub,Int.reduceAdd,v,o,H,F,G,l,A,p,t,j,jw,or_self,false_and,and_false,true_or,or_true,true_and,length_cons,length_nil]
 .refine⟨ah,ah,ah,λ_=>⟨λg=> ?_,λg=>⟨λd=> ?_,λd=> ?_⟩⟩⟩
  .exact gB (K:=K) (C:=C) (u:={m with halt:=1}) (n9 ah) (by rw [ef0 e,if_pos g]) (nxp ah)
  .exact gB (K:=K) (C:=C) (u:={m with aR:=true}) (n9 ah) (by rw [ef0 e,if_neg g,if_pos d]) (by unfold nxt;rw [if_pos ⟨e,d⟩])
  .exact gB (K:=K) (C:=C) (u:={m with aR:=decide (i.k=2)}) (n9 ah) (by rw [ef0 e,if_neg g,if_neg d]) (nxp ah)
 .exact⟨ah,ah,ah,λ_=>⟨ah,gB (K:=K) (C:=C) (u:={m with regs:=m.regs.set i.d.toNat i.k}) (n9 ah) (ef1 e) (nxp ah)⟩⟩
 .exact⟨ah,ah,ah,λ_=>⟨ah,gB (K:=K) (C:=C) (u:={m with regs:=m.regs.set i.d.toNat ((m.regs).getD (i.a).toNat default)}) (n9 ah) (ef2 e) (nxp ah)⟩⟩
 .rw [atQ f j (N e)];exact⟨ah,ah,ah,λ_=>⟨ah,gB (K:=K) (C:=C) (u:={m with regs:=m.regs.set i.d.toNat (((m.regs).getD (i.a).toNat default)*2^i.k.toNat%65536)}) (n9 ah) (ef8 e) (nxp ah)⟩⟩
 .refine⟨ah,ah,ah,λg=> ?_,λg=> ?_⟩
  .exact Qq (K:=K) (C:=C) (by unfold exec;rw [if_pos ⟨Or.inl e,g⟩])
  .have g':¬64<=adr m i:=λq=>by simp [q]at g
   exact⟨ah,ah,ah,ah,ah,gB (K:=K) (C:=C) (u:={m with regs:=m.regs.set i.d.toNat ((m.mem).getD (adr m i).toNat default)}) (λq=>g' q.2) (ef9 e) (nxp ah)⟩
 .refine⟨ah,ah,ah,λg=> ?_,λg=> ?_⟩
  .exact Qq (K:=K) (C:=C) (by unfold exec;rw [if_pos ⟨Or.inr e,g⟩])
  .have g':¬64<=adr m i:=λq=>by simp [q]at g
   exact⟨ah,ah,ah,ah,ah,gB (K:=K) (C:=C) (u:={m with mem:=m.mem.set (adr m i).toNat ((m.regs).getD (i.d).toNat default)}) (λq=>g' q.2) (ayA e) (nxp ah)⟩
 .have ef:eff m i=m:=efj ah;refine⟨ah,ah,ah,λ_=>⟨ah,λg=> ?_,λg=> ?_⟩⟩
  .exact gB (K:=K) (C:=C) (u:=m) (n9 ah) ef (by unfold nxt;rw [if_neg ah,if_pos ⟨Or.inl e,by rw [e];exact n.2 g.2⟩])
  .rw [s,k]at g;exact gB (K:=K) (C:=C) (u:=m) (n9 ah) ef (by unfold nxt;rw [if_neg ah,if_neg (λq=>of_decide_eq_false g (n.1 (by have:=q.2;rw [e]at this;exact this))),if_neg ah])
 .have ef:eff m i=m:=efj ah;refine⟨ah,ah,ah,λ_=>⟨ah,λg=> ?_,λg=> ?_⟩⟩
  .exact gB (K:=K) (C:=C) (u:=m) (n9 ah) ef (by unfold nxt;rw [if_neg ah,if_pos ⟨Or.inr e,by rw [e];exact x.2 g.2⟩])
  .rw [s,k]at g;exact gB (K:=K) (C:=C) (u:=m) (n9 ah) ef (by unfold nxt;rw [if_neg ah,if_neg (λq=>of_decide_eq_false g (x.1 (by have:=q.2;rw [e]at this;exact this))),if_neg ah])
 .exact⟨ah,ah,ah,λ_=>gB (K:=K) (C:=C) (u:=m) (n9 ah) (efj ah) (by unfold nxt;rw [if_neg ah,if_neg ah,if_pos e];rfl)⟩
 .exact⟨ah,ah,ah,λ_=>⟨ah,ah,gB (K:=K) (C:=C) (u:={m with outs:=m.outs++ [((m.regs).getD (i.d).toNat default)]}) (n9 ah) (ayB e) (nxp ah)⟩⟩
 .exact⟨ah,ah,ah,λ_=>⟨ah,gB (K:=K) (C:=C) (u:={m with regs:=m.regs.set i.d.toNat (m.ins.getD 0 default),ins:=m.ins.drop 1}) (n9 ah) (ato e) (nxp ah)⟩⟩
set_option maxHeartbeats 1000000 in
theorem azb{p1 f1}{u:Ins×ak->Bool}{A:Ins×ak->ak}(n:aeo p1 f1)(z:∀(i:Ins) (m:aD) (K:List Cac) (C:List Cer),MOK m->bF i->m.ins.length<1000000000->m.outs.length<900000000->u (i,m.pc,m.save,m.aR,m.waits,m.halt,m.ins,m.count,K,C,m.regs,m.mem,m.outs,())=true/\A (i,m.pc,m.save,m.aR,m.waits,m.halt,m.ins,m.count,K,C,m.regs,m.mem,m.outs,())=mK K C (exec m i))(b:Bool)(m:aD)(K:List Cac)(C:List Cer)(h:MOK m)(hn:m.ins.length<1000000000)(w:m.outs.length<900000000):ah2.F (p1,f1,u,A,()) (b,m.pc,m.save,m.aR,m.waits,m.halt,m.ins,m.count,K,C,m.regs,m.mem,m.outs,()) (λy=>y=mK K C (stepM m b)):=by
 have s:=aaI h b;obtain⟨B,v,_⟩:=Ki m b;have a:=λi r=>(z i (smp m b) K C s r (by rw [B];exact hn) (by rw [v];exact w)).1
 have d:=λi r=>(z i (smp m b) K C s r (by rw [B];exact hn) (by rw [v];exact w)).2
 have G:=s.m64;have x:0<=(smp m b).pc/\(smp m b).pc<=65535:=s.pc;have D:=s.mw.at (smp m b).pc;have T:(bF (dI (((smp m b).mem).getD ((smp m b).pc).toNat default))->tkI (((smp m b).mem).getD ((smp m b).pc).toNat default)=((dI (((smp m b).mem).getD ((smp m b).pc).toNat default)).op,(dI (((smp m b).mem).getD ((smp m b).pc).toNat default)).d,(dI (((smp m b).mem).getD ((smp m b).pc).toNat default)).a,(dI (((smp m b).mem).getD ((smp m b).pc).toNat default)).k,true,()))/\(¬bF (dI (((smp m b).mem).getD ((smp m b).pc).toNat default))->tkI (((smp m b).mem).getD ((smp m b).pc).toNat default)=(0,0,0,0,false,())):=
  ⟨λk=>by unfold tkI;rw [aI ⟨D,k⟩,if_pos rfl],λk=>by unfold tkI;rw [aT (λq=>k q.2),if_neg (by decide)]⟩
 have l:∀i:Ins,Co.mk .ins (i.op,i.d,i.a,i.k,())=i:=λ_=>rfl
 have fin:∀S:aD,S=smp m b->(64<=S.pc->(S.pc,S.save,S.aR,S.waits,(4:Int),S.ins,S.count,K,C,S.regs,S.mem,S.outs,())=mK K C (stepM m b))/\(¬64<=S.pc->(¬bF (dI ((S.mem).getD (S.pc).toNat default))->(S.pc,S.save,S.aR,S.waits,(2:Int),S.ins,S.count,K,C,S.regs,S.mem,S.outs,())=mK K C (stepM m b))/\(bF (dI ((S.mem).getD (S.pc).toNat default))->exec S (dI ((S.mem).getD (S.pc).toNat default))=stepM m b)):=by
  rintro S rfl;rw [zB];refine⟨λq=>by rw [if_pos q],λq=>⟨λk=>by rw [if_neg q,aT k,if_pos rfl],λk=>by rw [if_neg q,aI k,if_neg (by decide)]⟩⟩
 have F:=fin _ rfl;have f:=h.m64;dsimp only [ah2,gm];have j:((64:Int)<=48)=False:=eq_false (by decide);by_cases c:(m.waits || b)=true/\m.aR=true
 .have e:smp m b={m with waits:=false,aR:=false,save:=m.pc,pc:=48}:=by unfold smp;rw [if_pos c]
  rw [e]at T a d F;dsimp only at T a d F;have F2:=F.2 (by decide);by_cases k:bF (dI ((m.mem).getD ((48:Int)).toNat default))
  .have t:=T.1 k;have E:=F2.2 k;simp (disch:=omega) only [RR,c.1,c.2,j,Bool.and_self,n,t,l,a _ k,d _ k,E,f,jw];exact⟨ah,ah,ah,ah⟩
  .have t:=T.2 k;have E:=F2.1 k;simp (disch:=omega) only [RR,c.1,c.2,j,Bool.and_self,n,t,l,E,f,jw];exact⟨ah,ah,ah,ah⟩
 .have e:smp m b={m with waits:=m.waits || b}:=by unfold smp;rw [if_neg c]
  have o:((m.waits || b)&&m.aR)=false:=by
   cases g:((m.waits || b)&&m.aR)with
   | false=>rfl
   | true=>rw [Bool.and_eq_true]at g;exact absurd g c
  rw [e]at T a d F x;dsimp only at T a d F x;by_cases p:64<=m.pc
  .have E:=F.1 p;simp (disch:=omega) only [RR,o,p,E,f,jw]
  have F2:=F.2 p;by_cases k:bF (dI ((m.mem).getD (m.pc).toNat default))
  .have t:=T.1 k;have E:=F2.2 k;simp (disch:=omega) only [RR,o,p,n,t,l,a _ k,d _ k,E,f,jw];exact⟨ah,ah,ah,ah⟩
  .have t:=T.2 k;have E:=F2.1 k;simp (disch:=omega) only [RR,o,p,n,t,l,E,f,jw];exact⟨ah,ah,ah,ah⟩
def RTK(K:List Cac)(C:List Cer)(b:Blk)(a:aD)(y:Eo):Prop:=
 ∃(i:Nat) (S:MS),i<=b.ops.length/\RJ b a i S/\y=(b.ops,(b.ops.length:Int),(i:Int),S.m.pc,S.m.save,S.m.aR,S.m.waits,S.m.halt,S.m.ins,S.m.count,K,C,S.m.regs,S.m.mem,b,S.vals++replicate (b.ops.length-i) 0,S.m.outs,())
def RTK.next{b:Blk}{a:aD}{i:Nat}{S:MS}{o:IOp}{y:Eo}(h:RJ b a i S)(c:i<b.ops.length)(g:b.ops.getD i default=o)(d:o.kind=1->0<=o.k/\o.k<=65535)
  (j:¬((o.kind=4\/o.kind=5)/\64<=vx S o)) (f:¬(o.kind=5/\b.pc+o.at_+1<=vx S o/\vx S o<=b.pc+b.len-1))
  (e:y=(b.ops,(b.ops.length:Int),(i:Int)+1,(mM S o).pc,(mM S o).save,(mM S o).aR,(mM S o).waits,(mM S o).halt,(mM S o).ins,(mM S o).count,K,C,(mM S o).regs,(mM S o).mem,b,(S.vals++ [mV S o])++replicate (b.ops.length- (i+1)) 0,(mM S o).outs,())):
  RTK K C b a y/\(b.ops.length-y.2.2.1).toNat< (b.ops.length- (i:Int)).toNat:=by
 subst e;exact⟨⟨i+1,_,c,h.next c g d j f,rfl⟩,by dsimp only;omega⟩
set_option maxHeartbeats 2000000 in
theorem azc{p1 f1 p2 f2 p3 f3 p4 f4}(U1:ay9 p1 f1)(U2:Y24 p2 f2)(U3:Y59 p3 f3)(U4:Y1 p4 f4)(b:Blk)(m:aD)(K:List Cac)(C:List Cer)(G:bQ b)(hm:MOK m)(hs:MSh m)(ho:m.outs.length<900000000):aip.F (p1,f1,p2,f2,p3,f3,p4,f4,()) (b,m.pc,m.save,m.aR,m.waits,m.halt,m.ins,m.count,K,C,m.regs,m.mem,m.outs,()) (λy=>y=mK K C (Bf b (b.ops.foldl (dG b) ⟨m,[],false⟩))):=by
 have sz:=G.sz;dsimp only [aip,gm];simp (disch:=omega) only [RR,RB];refine⟨ah,ah,ay (RTK K C b m) (λy=>(b.ops.length-y.2.2.1).toNat) ⟨0,⟨m,[],false⟩,Nat.zero_le _,⟨rfl,rfl,rfl,(by intro n hn;cases hn),hm,hs.2.2.1,Nat.le_add_right _ _⟩,rfl⟩ ?_⟩;rintro y ⟨i,S,hi,R,rfl⟩;dsimp only;have ok:=R.ok;have pw:0<=S.m.pc/\S.m.pc<=65535:=ok.pc;have cw:=ok.ct;have bl:=G.ln;have a2:=G.pc;have P:=G.en;by_cases M:i<b.ops.length
 case neg=>
  have ei:i=b.ops.length:=by omega
  have eS:b.ops.foldl (dG b) ⟨m,[],false⟩=S:=by rw [R.e,ei];unfold SM;rw [take_of_length_le (Nat.le_refl _)]
  have vl:(S.vals++replicate (b.ops.length-i) 0)=S.vals:=by rw [ei,Nat.sub_self];simp
  have L:=R.ln;rw [eS];unfold Bf;rw [R.lf,if_neg (by decide)];rw [vl];have hf:=P.f;have E:=P.x1;have y1:=P.y1;unfold Vl at E y1;have hh:¬((i:Int)<b.ops.length):=by omega
  rcases(by omega:b.fin=1\/b.fin=2\/b.fin=3\/b.fin=4)with f | f | f | f
  all_goals simp (disch:=omega) only [RR,RB,f,Int.reduceEq,Int.reduceSub,Int.reduceAdd,U3,false_and,hh]
  .have v:=E ah;exact⟨v.1,ah,v.1,ah⟩
  .have v:=E ah;have w:=y1 ah;refine⟨v.1,ah,v.1,ah,w.1,ah,w.1,ah,λh=> ?_,λh=> ?_⟩
   .rw [if_pos (by rw [Qe,h.1.1,h.1.2,h.2];simp)]
   .rw [if_neg (by rw [Qe,h];decide)]
  .have v:=E ah;have w:=y1 ah;refine⟨v.1,ah,v.1,ah,w.1,ah,w.1,ah,λh=> ?_,λh=> ?_⟩
   .rw [if_pos (by rw [Qf,h.1.1,h.1.2];simpa using h.2)]
   .rw [if_neg (by rw [Qf,h];decide)]
 have d:=G.op i ah ah;have eT:((i:Int)).toNat=i:=rfl;generalize t:((b.ops).getD ((i:Int)).toNat default)=o at*;rw [eT]at t;have kd:=d.kd;have E:=d.x1;have y1:=d.y1;unfold Vl at E y1;have k1:=d.k1;have N:=d.k2;have k3:=d.k3;have Z:=d.a1;have a0:=d.a0;have L:=R.ln;have D:=as6 (n:=b.ops.length) L hi;have z:=λ{y} c1 c2 e=>RTK.next (K:=K) (C:=C) (y:=y) R M t k1 c1 c2 e
 have F:∀v:Int,(S.vals++replicate (b.ops.length-i) 0).set i v=(S.vals++ [v])++replicate (b.ops.length- (i+1)) 0:=λv=>as5 L M v
 have O:(S.vals++replicate (b.ops.length-i) 0)=(S.vals++ [0])++replicate (b.ops.length- (i+1)) 0:=anl M;have va:∀x:Int,0<=x->x<i->((S.vals++replicate (b.ops.length-i) 0).getD (x).toNat default)=((S.vals).getD (x).toNat default):=λx a c=>ays L a c
 have xb:0< (i:Int)->0<=o.x/\o.x<b.ops.length:=λ_=>by
  by_cases h:hX o
  .have:=E h;omega
  .have:=d.x0 h;omega
 have yb:0< (i:Int)->0<=o.y/\o.y<b.ops.length:=λ_=>by
  by_cases h:hY o
  .have:=y1 h;omega
  .have:=d.y0 h;omega
 have lv:∀Q:aD,dG b S o=⟨Q,S.vals,true⟩->b.ops.foldl (dG b) ⟨m,[],false⟩=⟨Q,S.vals,true⟩:=λQ h=>acX (i:=i+1) (by rw [Qd M,<-R.e,t];exact h)
 have I:=ok.m64;have T:=ok.r4;have lo:=R.lo;have W:=R.li;have A:(0:Int)<=i:=by omega
 have B:(i:Int)<b.ops.length:=by omega
 generalize hV:S.vals++replicate (b.ops.length-i) 0=V at*;by_cases u:0< (i:Int)
 case neg=>
  have nX:¬hX o:=λh=>by have:=E h;omega
  rcases(by omega:o.kind=1\/o.kind=2\/o.kind=6)with k | k | k
  .simp (disch:=omega) only [RR,RB,t,eT,u,k,Int.reduceEq,false_and,decide_false,decide_true,Bool.or_false,Bool.false_or,Bool.false_and,Bool.true_and,Bool.true_or,Bool.or_true,or_self,D,A,B];exact z (λh=>by omega) (λh=>by omega) (by rw [F];simp [mM,mV,k])
  .have g:=N (Or.inl k);simp (disch:=omega) only [RR,RB,t,eT,u,k,Int.reduceEq,false_and,decide_false,decide_true,Bool.or_false,Bool.false_or,Bool.false_and,Bool.true_and,Bool.true_or,Bool.or_true,or_self,D,A,B,T];exact⟨g.1,ah,g.1,ah,z (λh=>by omega) (λh=>by omega) (by rw [F];simp [mM,mV,k])⟩
  .simp (disch:=omega) only [RR,RB,t,eT,u,k,Int.reduceEq,false_and,decide_false,decide_true,Bool.or_false,Bool.false_or,Bool.false_and,Bool.true_and,Bool.true_or,Bool.or_true,or_self,D,A,B,U1 _ _ _ _ _ _ _ _ _ _ _ _ W];exact z (λh=>by omega) (λh=>by omega) (by rw [F];simp [mM,mV,k])
 obtain⟨p,j⟩:=xb u;obtain⟨q,r⟩:=yb u;have H:hX o->((V).getD (o.x).toNat default)=vx S o:=λh=>by
  have:=E h;unfold vx;rw [if_pos h];exact va o.x this.1 this.2.1
 have ey:hY o->((V).getD (o.y).toNat default)=vy S o:=λh=>by
  have:=y1 h;unfold vy;rw [if_pos h];exact va o.y this.1 this.2.1
 have U:=ai3 R.wv o;have wy:=aor R.wv o;generalize s:((V).getD (o.x).toNat default)=X at*;generalize l:((V).getD (o.y).toNat default)=Y at*;rcases(by omega:o.kind=1\/o.kind=2\/o.kind=3\/o.kind=4\/o.kind=5\/o.kind=6\/o.kind=7\/o.kind=8)with k | k | k | k | k | k | k | k
 .simp (disch:=omega) only [RR,RB,t,eT,u,k,Int.reduceEq,false_and,decide_false,decide_true,Bool.or_false,Bool.false_or,Bool.false_and,Bool.true_and,Bool.true_or,Bool.or_true,or_self,D,A,B,p,j,q,r,s,l];exact z (λh=>by omega) (λh=>by omega) (by rw [F];simp [mM,mV,k])
 .have g:=N (Or.inl k);simp (disch:=omega) only [RR,RB,t,eT,u,k,Int.reduceEq,false_and,decide_false,decide_true,Bool.or_false,Bool.false_or,Bool.false_and,Bool.true_and,Bool.true_or,Bool.or_true,or_self,D,A,B,p,j,q,r,s,l,T];exact⟨g.1,ah,g.1,ah,z (λh=>by omega) (λh=>by omega) (by rw [F];simp [mM,mV,k])⟩
 .have e1:=H (by unfold hX;omega);have J:=ey (Or.inl k);simp (disch:=omega) only [RR,RB,t,eT,u,k,Int.reduceEq,false_and,decide_false,decide_true,Bool.or_false,Bool.false_or,Bool.false_and,Bool.true_and,Bool.true_or,Bool.or_true,or_self,D,A,B,p,j,q,r,s,l,U2];exact z (λh=>by omega) (λh=>by omega) (by rw [F];simp [mM,mV,k,e1,J])
 .have e1:=H (by unfold hX;omega);have g:=Z (by unfold evO;omega);unfold Wo at U;simp (disch:=omega) only [RR,RB,t,eT,u,k,Int.reduceEq,false_and,decide_false,decide_true,Bool.or_false,Bool.false_or,Bool.false_and,Bool.true_and,Bool.true_or,Bool.or_true,or_self,D,A,B,p,j,q,r,s,l,I];refine⟨λh=> ?_,λh=> ?_⟩
  .rw [lv (leave S.m o.at_ 3) (by unfold dG;rw [if_neg (by rw [R.lf];decide),if_pos ⟨Or.inl k,ah⟩])];simp [Bf,leave,mK]
  .exact⟨ah,ah,ah,ah,z (λh=>by omega) (λh=>by omega) (by rw [F];simp [mM,mV,k,e1])⟩
 .have e1:=H (by unfold hX;omega);have J:=ey (Or.inr k);have g:=Z (by unfold evO;omega);unfold Wo at U;simp (disch:=omega) only [RR,RB,t,eT,u,k,Int.reduceEq,false_and,decide_false,decide_true,Bool.or_false,Bool.false_or,Bool.false_and,Bool.true_and,Bool.true_or,Bool.or_true,or_self,D,A,B,p,j,q,r,s,l,I,U4,bB,jJ];refine⟨λh=> ?_,λh=>⟨ah,ah,ah,ah,λh2=> ?_,λh2=> ?_⟩⟩
  .rw [lv (leave S.m o.at_ 3) (by unfold dG;rw [if_neg (by rw [R.lf];decide),if_pos ⟨Or.inr k,ah⟩])];simp [Bf,leave,mK]
  .rw [lv (leave (mM S o) (o.at_+1) (mM S o).halt) (by unfold dG;rw [if_neg (by rw [R.lf];decide),if_neg ah,if_pos ⟨k,ah⟩])];simp [Bf,leave,mM,mK,k,e1,J]
  .exact z (λh=>by omega) (λh=>by omega) (by rw [O];simp [mM,mV,k,e1,J])
 .simp (disch:=omega) only [RR,RB,t,eT,u,k,Int.reduceEq,false_and,decide_false,decide_true,Bool.or_false,Bool.false_or,Bool.false_and,Bool.true_and,Bool.true_or,Bool.or_true,or_self,D,A,B,p,j,q,r,s,l,U1 _ _ _ _ _ _ _ _ _ _ _ _ W];exact z (λh=>by omega) (λh=>by omega) (by rw [F];simp [mM,mV,k])
 .have e1:=H (by unfold hX;omega);simp (disch:=omega) only [RR,RB,t,eT,u,k,Int.reduceEq,false_and,decide_false,decide_true,Bool.or_false,Bool.false_or,Bool.false_and,Bool.true_and,Bool.true_or,Bool.or_true,or_self,D,A,B,p,j,q,r,s,l,length_cons,length_nil];exact⟨ah,z (λh=>by omega) (λh=>by omega) (by rw [O];simp [mM,mV,k,e1])⟩
 .have e1:=H (by unfold hX;omega);have g:=N (Or.inr k);simp (disch:=omega) only [RR,RB,t,eT,u,k,Int.reduceEq,false_and,decide_false,decide_true,Bool.or_false,Bool.false_or,Bool.false_and,Bool.true_and,Bool.true_or,Bool.or_true,or_self,D,A,B,p,j,q,r,s,l,T];exact⟨g.1,ah,g.1,ah,z (λh=>by omega) (λh=>by omega) (by rw [O];simp [mM,mV,k,e1])⟩
end Go.TX.F
namespace Go.TX.F
open Go Go.AE Go.TX List
structure EgZ(e:Eng):Prop where
 m:MSh e.aj
 o:e.aj.outs.length<600000000
 k:ShK e.cache
 c:ShC e.aJ
def AsK(l:List Ask):Prop:=l.length<1000000000/\∀a∈l,By a.bytes/\a.bytes.length<1000000000
def EgS.z{e:Eng}{n:Nat}(h:EgS e n)(hn:n<600000000):EgZ e:=⟨h.m,Nat.lt_of_le_of_lt h.o hn,h.k,h.c⟩
def ajp{e:Eng}(ok:fF e)(z:EgZ e){n:Nat}(h:e.aj.outs.length<=n):EgS e n:=by
 have K:=ajk ok;have w:∀x∈e.cache,0<x.words.length:=λx a=>by
  have r:=K.r x a;have l:=r.2.1.ln;rw [<-r.1];omega
 exact⟨z.m,h,z.k,z.c,K.n,ok.2.2.1,w,by rw [<-anx ok];exact aaL w⟩
def aaO{m:aD}(h:MOK m)(c:m.halt=0)(a:m.count<1000000)(b:Bool):stS m b=stepM m b:=by
 unfold stS;rw [aI h,if_pos rfl,if_neg ah]
abbrev mC(K:List Cac)(C:List Cer)(m:aD):yc:=(m.pc,m.save,m.aR,m.waits,m.halt,m.ins,m.count,C,m.regs,m.mem,m.outs,K,())
def GoD(x:Eng×Bool)(y:Bool×ak):Prop:=
 ∃(m:aD) (K:List Cac) (C:List Cer) (b:Bool),y=(b,mK K C m)/\x=(⟨m,K.filter (dJ m.mem),C⟩,b)/\ShK K/\m.mem.length<1000000000
def azd{p1 f1 p2 f2 p3 f3}(n:aem p1 f1)(l:auI p2 f2)(k:ayg p3 f3)(e:Eng)(h:EgZ e):ahY.F (p1,f1,p2,f2,p3,f3,()) (e,()) (λy=>y=mK e.cache e.aJ e.aj):=by
 have a:=λz1 z2=>(n z1 z2).1
 have g:=λz1 z2=>(n z1 z2).2
 have d:=λz1 z2=>(l z1 z2).1
 have f:=λz1 z2=>(l z1 z2).2
 have c:=λz1 z2=>(k z1 z2).1
 have b:=λz1 z2=>(k z1 z2).2
 have mM:=MKM;obtain⟨j,_,i,m⟩:=h;dsimp only [ahY,gm,iR]at*;simp (disch:=omega) only [RR,EGB,mM,a _ j,g _ j,d _ i,f _ i,c _ m,b _ m]
theorem aze{p1 f1 p2 f2}(d:as2 p1 f1)(j:ax5 p2 f2)(a:Ask)(b:Blk)(h:b.ops.length<1000000)(e:By a.bytes)(f:a.bytes.length<1000000000):aii.F (p1,f1,p2,f2,()) (a,b,()) (λy=>y=((mdF b a).1,(mdF b a).2,())):=by
 have mE:∀c:Blk,Co.mk .blk (c.pc,c.len,c.ops,c.fin,c.x,c.y,c.k,())=c:=λ_=>rfl
 have k:∀a:Ask,LM .ask 0 a=a.own/\jQ .ask 1 .u8 a=a.bytes:=λ_=>⟨rfl,rfl⟩
 have i:=(d a.bytes e f).2;dsimp only [aii,gm,jo];simp (disch:=omega) only [RR,k,mE,(d _ e f).1,j _ h];unfold mdF;refine⟨λg=>by rw [g];rfl,λg=> ?_⟩;rw [g,if_neg (by decide),i];unfold rdF;split<;>rfl
def azf{p1 f1}(a:Y1 p1 f1)(n:Int)(b:Blk)(m:aD)(K:List Cac)(C:List Cer)(hm:0<=m.count/\m.count<=1000000)(c:0<=b.len/\b.len<=1000):ahn.F (p1,f1,()) (n,b,m.pc,m.save,m.aR,m.waits,m.halt,m.ins,m.count,K,C,m.regs,m.mem,m.outs,()) (λy=>y=(inB n (m.count+1) (m.count+b.len-1),b,mK K C m)):=by
 dsimp only [ahn,gm];simp (disch:=omega) only [RR,RB,a]
def auP{j:Int×aBn->Bool}{f:Int×aBn->Bool×aBn}(p:∀(n:Int) (b:Blk) (m:aD) (K:List Cac) (C:List Cer),(0<=m.count/\m.count<=1000000)->(0<=b.len/\b.len<=1000)->j (n,b,m.pc,m.save,m.aR,m.waits,m.halt,m.ins,m.count,K,C,m.regs,m.mem,m.outs,())=true/\f (n,b,m.pc,m.save,m.aR,m.waits,m.halt,m.ins,m.count,K,C,m.regs,m.mem,m.outs,())=(inB n (m.count+1) (m.count+b.len-1),b,mK K C m))(q:List Int)(b:Blk)(m:aD)(K:List Cac)(C:List Cer)(u:q.length<1000000000)(hm:0<=m.count/\m.count<=1000000)(k:0<=b.len/\b.len<=1000):WW.F (j,f,()) (q,b,m.pc,m.save,m.aR,m.waits,m.halt,m.ins,m.count,K,C,m.regs,m.mem,m.outs,()) (λy=>y.2=(b,mK K C m)/\(0<=y.1↔∃n∈q,m.count+1<=n/\n<=m.count+b.len-1)):=by
 dsimp only [WW,gm];refine ay (λ(y:List Int×Int×Int×aBn)=>y.1=q/\y.2.1=q.length/\0<=y.2.2.1/\y.2.2.1<=q.length/\y.2.2.2=(b,mK K C m)/\∀n∈q.take y.2.2.1.toNat,¬(m.count+1<=n/\n<=m.count+b.len-1)) (λy=>(q.length-y.2.2.1).toNat) ⟨rfl,rfl,by simp,by simp,rfl,by simp⟩ ?_;rintro⟨(s:List Int),(l:Int),(i:Int),z⟩ hI;dsimp only at hI ⊢;obtain⟨rfl,rfl,a,t,rfl,c⟩:=hI;simp (disch:=omega) only [RR,p _ b m K C hm k,bB,jJ];refine⟨λg=>⟨a,g,λe=>⟨λ_=>⟨_,mem_of_getElem? (i:=i.toNat) (by rw [getElem?_eq_getElem ah,getD_lt ah]),e⟩,λ_=>a⟩,λe=>⟨⟨ah,ah,λn hn=> ?_⟩,ah⟩⟩,λg=> ?_⟩
 .have ts:=bg (d:=default) a g (l:=s) rfl;rw [<-ts,mem_append,mem_singleton]at hn;rcases hn with hn | rfl
  .exact c n hn
  .omega
 .rw [take_of_length_le ah]at c;exact⟨λh=>absurd h (by decide),λ⟨n,r,o⟩=>absurd o (c n r)⟩
def auQ{c:List Int×aBn->Bool}{a:List Int×aBn->Int×aBn}(e:∀(q:List Int) (b:Blk) (m:aD) (K:List Cac) (C:List Cer),q.length<1000000000->(0<=m.count/\m.count<=1000000)->(0<=b.len/\b.len<=1000)->c (q,b,m.pc,m.save,m.aR,m.waits,m.halt,m.ins,m.count,K,C,m.regs,m.mem,m.outs,())=true/\((a (q,b,m.pc,m.save,m.aR,m.waits,m.halt,m.ins,m.count,K,C,m.regs,m.mem,m.outs,())).2=(b,mK K C m)/\(0<=(a (q,b,m.pc,m.save,m.aR,m.waits,m.halt,m.ins,m.count,K,C,m.regs,m.mem,m.outs,())).1↔∃n∈q,m.count+1<=n/\n<=m.count+b.len-1)))(q:List Int)(b:Blk)(m:aD)(K:List Cac)(C:List Cer)(d:q.length<1000000000)(hm:0<=m.count/\m.count<=1000000)(h:0<=b.len/\b.len<=1000):WY.F (c,a,()) (q,b,m.pc,m.save,m.aR,m.waits,m.halt,m.ins,m.count,K,C,m.regs,m.mem,m.outs,()) (λy=>y=(bp (∃n∈q,m.count+1<=n/\n<=m.count+b.len-1),b,mK K C m)):=by
 obtain⟨P,⟨f,g⟩⟩:=e q b m K C d hm h;dsimp only [WY,gm];simp (disch:=omega) only [RR,P];rw [f,nU,ig g]
variable{q:List Int}
theorem azg{p1 f1 p2 f2 p3 f3 p4 f4 p5 f5 p6 f6}{S:Ask×iK->Bool}{U:Ask×iK->Blk×fA}(U1:ajb p1 f1)(Z:atL p2 f2)(X:aAv p3 f3)(U4:aya p4 f4)(V:ayi p5 f5)(W:Y96 p6 f6)(R:∀a b,b.ops.length<1000000->By a.bytes->a.bytes.length<1000000000->S (a,b,())=true/\U (a,b,())=((mdF b a).1,(mdF b a).2,()))(l:List Ins)(a:Ask)(m:aD)(K:List Cac)(C:List Cer)(Y:nC m.pc l)(hC:jY C)(hK:ShK K)(hc:ShC C)(ha:By a.bytes)(hn:a.bytes.length<1000000000):aio.F (p1,f1,p2,f2,p3,f3,p4,f4,p5,f5,p6,f6,S,U,()) (l,a,m.pc,m.save,m.aR,m.waits,m.halt,m.ins,m.count,K,C,m.regs,m.mem,m.outs,()) (λy=>y=mC (kF K ⟨l.map gN,(gK C (lower m.pc l) a).1⟩) (gK C (lower m.pc l) a).2 m):=by
 have s:=λz1 z2 z3=>(U1 z1 z2 z3).1
 have O:=λz1 z2 z3=>(U1 z1 z2 z3).2
 have H:=λz1 z2=>(Z z1 z2).1
 have N:=λz1 z2=>(Z z1 z2).2
 have F:=λz1 z2 z3 z4 d J=>(X z1 z2 z3 z4 d J).1
 have u:=λz1 z2 z3 z4 d J=>(X z1 z2 z3 z4 d J).2
 have M:=λz1 z2 z3 z4=>(U4 z1 z2 z3 z4).1
 have I:=λz1 z2 z3 z4=>(U4 z1 z2 z3 z4).2
 have x:=λz1 z2 z3 z4 d=>(V z1 z2 z3 z4 d).1
 have G:=λz1 z2 z3 z4 d=>(V z1 z2 z3 z4 d).2
 have v:=λz1 z2 z3 z4=>(W z1 z2 z3 z4).1
 have t:=λz1 z2 z3 z4=>(W z1 z2 z3 z4).2
 have L:=λz1 z2 z3 z4 d=>(R z1 z2 z3 z4 d).1
 have B:=λz1 z2 z3 z4 d=>(R z1 z2 z3 z4 d).2
 have mE:∀c:Blk,Co.mk .blk (c.pc,c.len,c.ops,c.fin,c.x,c.y,c.k,())=c:=λ_=>rfl
 have i:∀b c:Blk,Co.mk .cer (b.pc,b.len,b.ops,b.fin,b.x,b.y,b.k,c.pc,c.len,c.ops,c.fin,c.x,c.y,c.k,())=⟨b,c⟩:=λ_ _=>rfl
 have r:∀(w:List Int) (b:Blk),Co.mk .cac (w,b.pc,b.len,b.ops,b.fin,b.x,b.y,b.k,())=⟨w,b⟩:=λ_ _=>rfl
 have ln:=Y.ln;have ir:=jB Y;have sz:=ir.sz;have A:=Qj (a:=a) hc (show(lower m.pc l).ops.length<1000000 by omega) hn;have Q:=ac6 (a:=a) (b:=lower m.pc l) hC;have pc:(gK C (lower m.pc l) a).1.pc<=1000000:=by
  have z:=ir.pc;have zl:=ir.ln;rcases Q with q | q
  .rw [q];omega
  .rw [<-(CO q).2.2.1];omega
 have j:=s m.pc l ah;have n:=O m.pc l ah;have k:=H l ah;have p:=N l ah;generalize lower m.pc l=b at*;have T:=Qi (a:=a) (b:=b) ah hn;have o:=L a b ah ha hn;have h:=B a b ah ha hn;have f:=F K ⟨l.map gN,(gK C b a).1⟩ hK (by rw [length_map];omega) A.1 pc;have e:=u K ⟨l.map gN,(gK C b a).1⟩ hK (by rw [length_map];omega) A.1 pc;have D:=M C b (mdF b a).1 hc;have E:=I C b (mdF b a).1 hc;have P6:=v b (mdF b a).1 ah ah;have P:=t b (mdF b a).1 ah ah;have P5:=x C ⟨b,(mdF b a).1⟩ hc (show b.ops.length<1000000 by omega) T;have H5:=G C ⟨b,(mdF b a).1⟩ hc (show b.ops.length<1000000 by omega) T;dsimp only [aio,gm,jo,map_cons,map_nil]at*;unfold gK at f e ⊢;by_cases hm:(mdF b a).2=false
 .rw [if_pos hm]at f e ⊢;simp (disch:=omega) only [RR,RB,Bool.false_and,Bool.true_and,Bool.and_true,Bool.or_true,Bool.true_or,Bool.or_false,Bool.false_or,Bool.not_true,Bool.not_false,and_self,mE,i,r,j,n,o,h,hm,k,p,f,e]
 rw [if_neg hm]at f e ⊢;rw [Bool.not_eq_false]at hm;by_cases g:bp (GJ C b (mdF b a).1)=true
 .rw [if_pos g]at f e ⊢;simp (disch:=omega) only [RR,RB,Bool.false_and,Bool.true_and,Bool.and_true,Bool.or_true,Bool.true_or,Bool.or_false,Bool.false_or,Bool.not_true,Bool.not_false,and_self,mE,i,r,j,n,o,h,hm,D,E,g,k,p,f,e]
 rw [if_neg g]at f e ⊢;rw [Bool.not_eq_true]at g;by_cases hk:chk b (mdF b a).1=true
 .rw [if_pos hk]at f e ⊢;simp (disch:=omega) only [RR,RB,Bool.false_and,Bool.true_and,Bool.and_true,Bool.or_true,Bool.true_or,Bool.or_false,Bool.false_or,Bool.not_true,Bool.not_false,and_self,mE,i,r,j,n,o,h,hm,D,E,g,P6,P,hk,P5,H5,k,p,f,e]
 .rw [if_neg hk]at f e ⊢;rw [Bool.not_eq_true]at hk;simp (disch:=omega) only [RR,RB,Bool.false_and,Bool.true_and,Bool.and_true,Bool.or_true,Bool.true_or,Bool.or_false,Bool.false_or,Bool.not_true,Bool.not_false,and_self,mE,i,r,j,n,o,h,hm,D,E,g,P6,P,hk,k,p,f,e]
theorem aAx{p1 f1 p2 f2 p3 f3}(t:ai5 p1 f1)(s:aeo p2 f2)(r:Tj p3 f3)(m:aD)(h:MSh m):aqf.F (p1,f1,p2,f2,p3,f3,()) (m,()) (λy=>y=(findF m,())):=by
 have f:=λz1=>(t z1).1
 have b:=λz1=>(t z1).2
 have l:=λz1=>(s z1).1
 have p:=λz1=>(s z1).2
 have k:=λz1 z2=>(r z1 z2).1
 have j:=λz1 z2=>(r z1 z2).2
 replace b:∀i:Int,f1 (i,())=(bp (11<=i/\i<=13),()):=λi=>by rw [b i,Prod.ext_iff];exact⟨by rw [Bool.eq_iff_iff,bB,aF],rfl⟩
 have D:∀x y z u:Int,Co.mk .ins (x,y,z,u,())=⟨x,y,z,u⟩:=λ_ _ _ _=>rfl
 dsimp only [aqf,gm,iR];simp (disch:=omega) only [RR,MRB,k _ h,j _ h];refine⟨λg=>by unfold findF;rw [g];rfl,λg=> ?_⟩;have ok:=aF.1 g;have B:0<=m.pc/\m.pc<=65535:=ok.pc;have w:=ok.m64;have v:findF m=dM m.mem 8 m.pc:=by unfold findF;rw [g,if_pos rfl]
 rw [v];generalize C:dM m.mem 8 m.pc=G;refine ay (λ(y:Int×aD×aAW)=>0<=y.1/\y.1<=70000/\y.2.1=m/\y.2.2.1.length<=8/\y.2.2.1++dM m.mem (8-y.2.2.1.length) y.1=G) (λy=>(8- (y.2.2.1.length:Int)).toNat) ⟨B.1,by dsimp only;omega,rfl,by simp,by simpa using C⟩ ?_;rintro⟨(i:Int),(m:aD),(o:List Ins),⟨⟩⟩ hI;dsimp only at hI ⊢;obtain⟨H,E,rfl,F,a⟩:=hI;simp (disch:=omega) only [RR,f,b,l,p,MRB,w,length_cons,length_nil,length_append,D];refine⟨λc=> ?_,λc=> ?_⟩
 .obtain⟨n,hn⟩:∃n,8-o.length=n+1:=⟨8-o.length-1,ah⟩;rw [hn]at a;unfold dM at a;by_cases z:Wo ((m.mem).getD (i).toNat default)/\bF (dI ((m.mem).getD (i).toNat default))
  .rw [aov z];generalize hd:dI ((m.mem).getD (i).toNat default)=d at*;have A:(⟨d.op,d.d,d.a,d.k⟩:Ins)=d:=rfl;dsimp only;rw [A];refine⟨ah,ah,λe=> ?_,λe=>⟨ah,λq=> ?_,λq=>⟨⟨ah,ah,ah,?_⟩,ah⟩⟩⟩
   .rw [if_neg (by rw [aT (λy=>y.2.2 (by simpa using e))];decide)]at a;rw [<-a,append_nil]
   .rw [if_pos (aI ⟨ah,z,by simpa using e⟩),if_pos q]at a;rw [<-a]
   .rw [if_pos (aI ⟨ah,z,by simpa using e⟩),if_neg (by rw [q];decide)]at a;rw [show 8- (o.length+1)=n by omega,<-a,append_assoc];rfl
  .have tf:(tkI ((m.mem).getD (i).toNat default)).2.2.2.2.1=false:=by unfold tkI;rw [if_neg (by rw [aT z];decide)]
   rw [if_neg (by rw [aT (λy=>z y.2.1)];decide),append_nil]at a;rw [tf];refine⟨ah,ah,λ_=>by rw [<-a],λe=>by simp at e⟩
 .rw [<-a];by_cases z:o.length<8
  .obtain⟨n,hn⟩:∃n,8-o.length=n+1:=⟨8-o.length-1,ah⟩;rw [hn];unfold dM;have c:=Bool.and_eq_false_iff.1 c;rw [decide_eq_false_iff_not,decide_eq_false_iff_not]at c;rw [if_neg (by rw [aT (λy=>by have:=y.1;omega)];decide),append_nil]
  .rw [show 8-o.length=0 by omega];unfold dM;rw [append_nil]
def anD{m:aD}{l s:Int}(h:tL m q l s=false):s<=l->m.count<=1000000-s->∃n∈q,m.count+1<=n/\n<=m.count+s-1:=λb a=>by
 refine Classical.byContradiction λg=>gI.1 h ⟨b,a,λk c d hk=>g ⟨_,hk,ah,ah⟩⟩
def Qr{m:aD}{l s:Int}(h:tL m q l s=true):s<=l/\m.count<=1000000-s/\¬∃n∈q,m.count+1<=n/\n<=m.count+s-1:=by
 obtain⟨b,a,c⟩:=aF.1 h;exact⟨b,a,λ⟨n,d,e,f⟩=>c (n-m.count) ah ah (by rwa [show m.count+(n-m.count)=n by omega])⟩
end Go.TX.F
namespace Go.TX.F
open Go Go.AE Go.TX List
variable{e:Eng}{q:List Int}{b:Blk}
def aox{l:Int}{a:Ask}(ok:fF e)(c:e.aj.halt=0)(b:e.aj.count<1000000)(h:(e.aj.waits=true\/e.aj.count∈q)/\e.aj.aR=true\/bM e a=(e, -1,false)):
  goE e q l a=(⟨stepM e.aj (bp (e.aj.count∈q)),e.cache.filter (dJ (stepM e.aj (bp (e.aj.count∈q))).mem),e.aJ⟩,false):=by
 have p:jT e q=⟨stepM e.aj (bp (e.aj.count∈q)),e.cache.filter (dJ (stepM e.aj (bp (e.aj.count∈q))).mem),e.aJ⟩:=by unfold jT;rw [aaO ok.1 c b]
 unfold goE;split
 .rw [p]
 .rename_i w;rw [h.resolve_left w,if_pos (show((-1:Int))<0 by decide),p]
def auR{l:Int}{a:Ask}{K:List Cac}{C:List Cer}{k:Int}{b:Bool}(ok:fF e)(d:e.aj.halt=0)(g:e.aj.count<1000000)(w:¬((e.aj.waits=true\/e.aj.count∈q)/\e.aj.aR=true))(f:bM e a=(⟨e.aj,K,C⟩,k,b))(i:0<=k){B:Blk}(h:(((K).getD (k).toNat default)).blk=B)(ir:bQ B)(j:B.pc=e.aj.pc){M:aD}(c:M={e.aj with waits:=e.aj.waits || bp (e.aj.count∈q)}):
  (tL e.aj q l B.len=false->goE e q l a=(⟨stepM e.aj (bp (e.aj.count∈q)),K.filter (dJ (stepM e.aj (bp (e.aj.count∈q))).mem),C⟩,b))/\
  (tL e.aj q l B.len=true->goE e q l a=(⟨Bf B (B.ops.foldl (dG B) ⟨M,[],false⟩),K.filter (dJ (Bf B (B.ops.foldl (dG B) ⟨M,[],false⟩)).mem),C⟩,b)):=by
 unfold goE;rw [if_neg w,f,if_neg (show¬k<0 by omega)];dsimp only;rw [h];refine⟨λr=> ?_,λr=> ?_⟩
 .rw [if_pos r];unfold jT;dsimp only;rw [aaO ok.1 d g]
 .rw [if_neg (by rw [r];decide),<-c,Km ir (by rw [c];exact {ok.1 with}) (by rw [c];have:=(Qr r).2.1;dsimp only;omega)]
structure anE(b:Blk)(c:Int)(s:MS):Prop where
 ok:MOK s.m
 wv:Wos s.vals
 d:(s.left=false/\s.m.count=c/\s.m.halt=0/\s.m.pc=b.pc)\/(s.left=true/\((s.m.halt=0/\c<s.m.count/\s.m.count<=c+b.len)\/(s.m.halt=3/\c<=s.m.count/\s.m.count<c+b.len)))
def anF{c:Int}{s:MS}{o:IOp}(f:bQ b)(hc:0<=c/\c+b.len<=1000000)(i:evO o->0<=o.at_/\o.at_<b.len)(j:o.kind=1->0<=o.k/\o.k<=65535)(h:anE b c s):anE b c (dG b s o):=by
 obtain⟨ok,e,d⟩:=h;have k:=f.pc;have p:=f.ln;unfold dG;split
 .exact⟨ok,e,d⟩
 rename_i l;obtain⟨t,m,n,v⟩:=d.resolve_right λz=>l z.1
 split
 .rename_i g;have a:=i (by unfold evO;omega);exact⟨{ok with ha:=⟨show(0:Int)<=3 by decide,show(3:Int)<=4 by decide⟩,pc:=⟨show 0<=s.m.pc+o.at_ by omega,show s.m.pc+o.at_<=65535 by omega⟩,ct:=⟨show 0<=s.m.count+o.at_ by omega,show s.m.count+o.at_<=1000000 by omega⟩},e,Or.inr ⟨rfl,Or.inr ⟨rfl,show c<=s.m.count+o.at_ by omega,show s.m.count+o.at_<c+b.len by omega⟩⟩⟩
 obtain⟨r,q,u⟩:=ac5 (s:=s) o;have M:=aot e ok o;split
 .rename_i g;have a:=i (by unfold evO;omega);exact⟨{M with ha:=M.ha,pc:=⟨show 0<=(mM s o).pc+(o.at_+1) by omega,show(mM s o).pc+(o.at_+1)<=65535 by omega⟩,ct:=⟨show 0<=(mM s o).count+(o.at_+1) by omega,show(mM s o).count+(o.at_+1)<=1000000 by omega⟩},e,Or.inr ⟨rfl,Or.inl ⟨show(mM s o).halt=0 by omega,show c< (mM s o).count+(o.at_+1) by omega,show(mM s o).count+(o.at_+1)<=c+b.len by omega⟩⟩⟩
 .exact⟨M,e.snoc (aos e ok j),Or.inl ⟨rfl,show(mM s o).count=c by omega,show(mM s o).halt=0 by omega,show(mM s o).pc=b.pc by omega⟩⟩
def adf{c:Int}(a:bQ b)(hc:0<=c/\c+b.len<=1000000):∀(l:List IOp) (s:MS),(∀o∈l,(evO o->0<=o.at_/\o.at_<b.len)/\(o.kind=1->0<=o.k/\o.k<=65535))->anE b c s->anE b c (l.foldl (dG b) s)
 | [],_,_,h=>h
 | o::l,s,ho,h=>adf a hc l _ (λx d=>ho x (mem_cons_of_mem _ d)) (anF a hc (ho o (mem_cons_self ..)).1 (ho o (mem_cons_self ..)).2 h)
def auS{m:aD}(a:bQ b)(hm:MOK m)(l:m.halt=0)(q:m.pc=b.pc)(hc:m.count+b.len<=1000000){x:aD}(v:Bf b (b.ops.foldl (dG b) ⟨m,[],false⟩)=x):MOK x/\1<=x.count-m.count+(if 2<=x.halt then 1 else 0)/\x.count-m.count+(if 2<=x.halt then 1 else 0)<=b.len:=by
 have t:=hm.ct;have z:=a.ln;have w:=a.pc;have f:=a.en;obtain⟨ok,y,d⟩:=adf a ⟨t.1,hc⟩ b.ops ⟨m,[],false⟩ (λo p=>by
  obtain⟨i,u,rfl⟩:=getElem_of_mem p;have h:=a.op i ah ah;rw [show((i:Int)).toNat=i from rfl,getD_lt u]at h;exact⟨h.a1,h.k1⟩) ⟨hm,(by intro n hn;cases hn),Or.inl ⟨rfl,rfl,l,q⟩⟩
 generalize b.ops.foldl (dG b) ⟨m,[],false⟩=s at*;subst v;unfold Bf;rcases d with⟨c,g,j,A⟩ | ⟨c,d⟩
 .rw [c,if_neg (by decide)];refine⟨{ok with pc:= ?_,ct:=⟨show 0<=s.m.count+b.len by omega,show s.m.count+b.len<=1000000 by omega⟩},?_⟩
  .show Wo (if b.fin=1 then b.k else if b.fin=2 then((s.vals).getD (b.x).toNat default)else if Kg (b.fin-2) ((s.vals).getD (b.x).toNat default) ((s.vals).getD (b.y).toNat default)=true then b.k else b.pc+b.len);split
   .exact f.k1 ah
   split
   .exact y.at _
   split
   .exact f.k1 ah
   .exact⟨ah,ah⟩
  .dsimp only;rw [g,j,if_neg (by decide)];omega
 .rw [c,if_pos rfl];refine⟨ok,?_⟩;rcases d with⟨e,k,r⟩ | ⟨e,k,r⟩<;>rw [e]
  .rw [if_neg (by decide)];omega
  .rw [if_pos (by decide)];omega
def Qs{left:Int}(a:Ask)(ok:fF e)(c:e.aj.halt=0)(f:e.aj.count<1000000)(u:1<=left):fF (goE e q left a).1/\1<=(goE e q left a).1.aj.count-e.aj.count+(if 2<=(goE e q left a).1.aj.halt then 1 else 0)/\(goE e q left a).1.aj.count-e.aj.count+(if 2<=(goE e q left a).1.aj.halt then 1 else 0)<=left:=by
 have hm:=ok.1;have d:∀y:Eng,y.aj=e.aj->KpE y.cache y.aJ->fF (jT y q)/\1<=(jT y q).aj.count-e.aj.count+(if 2<=(jT y q).aj.halt then 1 else 0)/\(jT y q).aj.count-e.aj.count+(if 2<=(jT y q).aj.halt then 1 else 0)<=left:=λy p k=>by
  have h:=zC hm f (bp (e.aj.count∈q));have l:=aaM c (bp (e.aj.count∈q));unfold jT;rw [p,aaO hm c f];refine⟨ajl k h,?_⟩;dsimp only;rcases l with⟨g,i⟩ | ⟨g,i⟩
  .rw [if_neg ah];omega
  .rw [if_pos g];omega
 obtain⟨K,F⟩:=auO ok a;have fm:=vD e a;unfold goE;split
 .exact d e rfl (ajk ok)
 split
 .exact d _ fm K
 rename_i n;split
 .exact d _ fm K
 rename_i r;obtain⟨j,F2,_⟩:=F ah;generalize ((((bM e a).1.cache).getD ((bM e a).2.1).toNat default))=x at*;have r:tL e.aj q left x.blk.len=true:=by simpa using r
 obtain⟨s,t,_⟩:=Qr r;have ir:=(CO j.2.2).2.1;have o:=Km (b:=x.blk) (m:={e.aj with waits:=e.aj.waits || bp (e.aj.count∈q)}) ir {hm with} (by dsimp only;omega);have E:=auS (b:=x.blk) (m:={e.aj with waits:=e.aj.waits || bp (e.aj.count∈q)}) ir {hm with} c F2.symm (by dsimp only;omega) rfl;rw [o];dsimp only at E ⊢;exact⟨ajl K E.1,E.2.1,ah⟩
set_option maxHeartbeats 2000000 in
theorem azh{p1 f1 p2 f2 p7 f7}{Z:List Ins×Ask×ak->Bool}{f3:List Ins×Ask×ak->yc}{G:aBn->Bool}{F:aBn->ak}{p5:Bool×ak->Bool}{f5:Bool×ak->ak}{U:List Int×aBn->Bool}{H:List Int×aBn->Bool×aBn}(U1:ajj p1 f1)(v:aep p2 f2)(U3:∀(l:List Ins) (a:Ask) (m:aD) (K:List Cac) (C:List Cer),nC m.pc l->jY C->ShK K->ShC C->By a.bytes->a.bytes.length<1000000000->Z (l,a,m.pc,m.save,m.aR,m.waits,m.halt,m.ins,m.count,K,C,m.regs,m.mem,m.outs,())=true/\f3 (l,a,m.pc,m.save,m.aR,m.waits,m.halt,m.ins,m.count,K,C,m.regs,m.mem,m.outs,())=mC (kF K ⟨l.map gN,(gK C (lower m.pc l) a).1⟩) (gK C (lower m.pc l) a).2 m)(U4:∀(b:Blk) (m:aD) (K:List Cac) (C:List Cer),bQ b->MOK m->MSh m->m.outs.length<900000000->G (b,m.pc,m.save,m.aR,m.waits,m.halt,m.ins,m.count,K,C,m.regs,m.mem,m.outs,())=true/\F (b,m.pc,m.save,m.aR,m.waits,m.halt,m.ins,m.count,K,C,m.regs,m.mem,m.outs,())=mK K C (Bf b (b.ops.foldl (dG b) ⟨m,[],false⟩)))(U5:∀(b:Bool) (m:aD) (K:List Cac) (C:List Cer),MOK m->m.ins.length<1000000000->m.outs.length<900000000->p5 (b,m.pc,m.save,m.aR,m.waits,m.halt,m.ins,m.count,K,C,m.regs,m.mem,m.outs,())=true/\f5 (b,m.pc,m.save,m.aR,m.waits,m.halt,m.ins,m.count,K,C,m.regs,m.mem,m.outs,())=mK K C (stepM m b))(U6:∀(q:List Int) (b:Blk) (m:aD) (K:List Cac) (C:List Cer),q.length<1000000000->(0<=m.count/\m.count<=1000000)->(0<=b.len/\b.len<=1000)->U (q,b,m.pc,m.save,m.aR,m.waits,m.halt,m.ins,m.count,K,C,m.regs,m.mem,m.outs,())=true/\(H (q,b,m.pc,m.save,m.aR,m.waits,m.halt,m.ins,m.count,K,C,m.regs,m.mem,m.outs,())=(bp (∃n∈q,m.count+1<=n/\n<=m.count+b.len-1),b,mK K C m)))(U7:ajd p7 f7)(q:List Int)(l:Int)(a:Ask)(e:Eng)(ok:fF e)(X:e.aj.halt=0)(u:e.aj.count<1000000)(z:EgZ e)(W:q.length<1000000000)(ha:By a.bytes)(hn:a.bytes.length<1000000000):aiq.F (p1,f1,p2,f2,Z,f3,G,F,p5,f5,U,H,p7,f7,()) (q,l,a,e.aj.pc,e.aj.save,e.aj.aR,e.aj.waits,e.aj.halt,e.aj.ins,e.aj.count,e.cache,e.aJ,e.aj.regs,e.aj.mem,e.aj.outs,()) (λy=>GoD (goE e q l a) y):=by
 have mM:=MKM;have mE:∀c:Blk,Co.mk .blk (c.pc,c.len,c.ops,c.fin,c.x,c.y,c.k,())=c:=λ_=>rfl
 have o:=z.o;have cw:=ok.1.ct;have kl:=z.k.1;obtain⟨P7,H7⟩:=U7 q e.aj.count W;have O:=λK C=>(U5 (bp (e.aj.count∈q)) e.aj K C ok.1 z.m.2.2.1 ah).1
 have A:=λK C=>(U5 (bp (e.aj.count∈q)) e.aj K C ok.1 z.m.2.2.1 ah).2
 have so:=zC ok.1 u (bp (e.aj.count∈q));have I:(stepM e.aj (bp (e.aj.count∈q))).mem.length<1000000000:=by have:=so.m64;omega
 have d:∀ {m:aD} {K:List Cac} {C:List Cer} {b:Bool},goE e q l a=(⟨m,K.filter (dJ m.mem),C⟩,b)->ShK K->m.mem.length<1000000000->GoD (goE e q l a) (b,mK K C m):=λh1 h2 h3=>⟨_,_,_,_,rfl,h1,h2,h3⟩
 have P2:=(v e.cache e.aj.pc ah).1;have F2:=FC.one ((v e.cache e.aj.pc ah).2) (Kl _ _);obtain⟨P1,H1⟩:=U1 e.aj z.m;have S:=aaK (a:=a) z.k z.c ok hn;have B1:=pR e.aj
 have f:∀(K:List Cac) (C:List Cer) (k:Int) (b:Bool),bM e a=(⟨e.aj,K,C⟩,k,b)->0<=k->¬((e.aj.waits=true\/e.aj.count∈q)/\e.aj.aR=true)->ShK K/\k<K.length/\
   (U (q,(((K).getD (k).toNat default)).blk,e.aj.pc,e.aj.save,e.aj.aR,e.aj.waits,e.aj.halt,e.aj.ins,e.aj.count,K,C,e.aj.regs,e.aj.mem,e.aj.outs,())=true)/\
   (H (q,(((K).getD (k).toNat default)).blk,e.aj.pc,e.aj.save,e.aj.aR,e.aj.waits,e.aj.halt,e.aj.ins,e.aj.count,K,C,e.aj.regs,e.aj.mem,e.aj.outs,())=(bp (∃n∈q,e.aj.count+1<=n/\n<=e.aj.count+(((K).getD (k).toNat default)).blk.len-1),(((K).getD (k).toNat default)).blk,mK K C e.aj))/\(0<=(((K).getD (k).toNat default)).blk.len/\(((K).getD (k).toNat default)).blk.len<=1000)/\
   (((l< (((K).getD (k).toNat default)).blk.len\/1000000- (((K).getD (k).toNat default)).blk.len<e.aj.count)\/bp (∃n∈q,e.aj.count+1<=n/\n<=e.aj.count+(((K).getD (k).toNat default)).blk.len-1)=true->GoD (goE e q l a) (b,mK K C (stepM e.aj (bp (e.aj.count∈q)))))/\
   (((¬l< (((K).getD (k).toNat default)).blk.len/\¬1000000- (((K).getD (k).toNat default)).blk.len<e.aj.count)/\bp (∃n∈q,e.aj.count+1<=n/\n<=e.aj.count+(((K).getD (k).toNat default)).blk.len-1)=false)->
    G ((((K).getD (k).toNat default)).blk,e.aj.pc,e.aj.save,e.aj.aR,e.aj.waits || bp (e.aj.count∈q),e.aj.halt,e.aj.ins,e.aj.count,K,C,e.aj.regs,e.aj.mem,e.aj.outs,())=true/\
    GoD (goE e q l a) (b,F ((((K).getD (k).toNat default)).blk,e.aj.pc,e.aj.save,e.aj.aR,e.aj.waits || bp (e.aj.count∈q),e.aj.halt,e.aj.ins,e.aj.count,K,C,e.aj.regs,e.aj.mem,e.aj.outs,())))):=by
  intro K C k b i k0 w;rw [i]at S;have t:=S.k;have Sr:=S.r;obtain⟨ir,j⟩:=S.b k0;dsimp only at t Sr ir j;generalize hB:(((K).getD (k).toNat default)).blk=B at*;have ln:=ir.ln;obtain⟨M,p⟩:∃M:aD,M={e.aj with waits:=e.aj.waits || bp (e.aj.count∈q)}:=⟨_,rfl⟩;obtain⟨G1,G2⟩:=auR (l:=l) ok X u w i k0 hB ir j p;have mo:MOK M:=by rw [p];exact {ok.1 with}
  have ms:MSh M:=by rw [p];exact z.m
  have s:M.outs.length<900000000:=by rw [p];dsimp only;omega
  obtain⟨P4,H4⟩:=U4 B M K C ir mo ms s;have R:=acW ir ms s;refine⟨t,Sr,(U6 q B e.aj K C W cw ah).1,(U6 q B e.aj K C W cw ah).2,ah,λg=> ?_,λg=> ?_⟩
  .refine d (G1 ?_) t I;cases r:tL e.aj q l B.len
   .rfl
   .obtain⟨r1,r2,r3⟩:=Qr r;rcases g with(g | g) | g
    .omega
    .omega
    .exact absurd (aF.1 g) r3
  .have r:tL e.aj q l B.len=true:=by
    cases r:tL e.aj q l B.len
    .exact absurd (anD r ah ah) (gI.1 g.2)
    .rfl
   have E:=d (G2 r) t R.2.1;rw [<-H4]at E;rw [p]at P4 E;exact⟨P4,E⟩
 dsimp only [aiq,gm,jo,iR];simp (disch:=omega) only [RR,P7,H7,O,A,P2,mM,P1,H1,F2];refine⟨λw=> ?_,λw=> ?_⟩
 .exact d (aox ok X u (Or.inl ⟨w.1.elim (λh=>Or.inr (aF.1 h)) Or.inl,w.2⟩)) z.k I
 have w:¬((e.aj.waits=true\/e.aj.count∈q)/\e.aj.aR=true):=λg=>by
  have:((bp (e.aj.count∈q) || e.aj.waits)&&e.aj.aR)=true:=by rw [Bool.and_eq_true,Bool.or_eq_true,aF];exact⟨g.1.symm,g.2⟩
  rw [this]at w;cases w
 refine⟨λk=>⟨λn0=> ?_,λn0=> ?_⟩,λk=> ?_⟩
 .exact d (aox ok X u (Or.inr (by unfold bM;rw [if_neg ah,if_pos ah]))) z.k I
 .have bk:=(B1.2 ah).2;have i:bM e a=(⟨e.aj,kF e.cache ⟨(findF e.aj).map gN,(gK e.aJ (lower e.aj.pc (findF e.aj)) a).1⟩,(gK e.aJ (lower e.aj.pc (findF e.aj)) a).2⟩,((kF e.cache ⟨(findF e.aj).map gN,(gK e.aJ (lower e.aj.pc (findF e.aj)) a).1⟩).length:Int)-1,true):=by
   unfold bM;rw [if_neg ah,if_neg ah]
  obtain⟨P3,H3⟩:=U3 (findF e.aj) a e.aj e.cache e.aJ bk ok.2.2 z.k z.c ha hn;have V:=aes e.cache ⟨(findF e.aj).map gN,(gK e.aJ (lower e.aj.pc (findF e.aj)) a).1⟩;have pl:=FN e.cache ⟨(findF e.aj).map gN,(gK e.aJ (lower e.aj.pc (findF e.aj)) a).1⟩;have kp:0< (kF e.cache ⟨(findF e.aj).map gN,(gK e.aJ (lower e.aj.pc (findF e.aj)) a).1⟩).length:=by rw [ada,length_append];exact Nat.succ_pos _
  have N:=S;rw [i]at N;generalize kF e.cache ⟨(findF e.aj).map gN,(gK e.aJ (lower e.aj.pc (findF e.aj)) a).1⟩=K at*;generalize (gK e.aJ (lower e.aj.pc (findF e.aj)) a).2=C at*;have P:0<=(K.length:Int)-1:=by omega
  have j:=(N.b P).2;dsimp only at j;rw [pl]at j;dsimp only at V j;rw [j]at V;have kn:=N.k.1;dsimp only at kn;have J:=(v K e.aj.pc ah).1;have D:=FC.one ((v K e.aj.pc ah).2) V;obtain⟨t0,L,Q,T,t4,Y,x⟩:=f K C _ true i P w;simp (disch:=omega) only [RR,P3,H3,J,D,CAB,RB,mE,Q,T,O,A];exact⟨P,L,Y,x⟩
 .have i:bM e a=(⟨e.aj,e.cache,e.aJ⟩,fcI e.cache e.aj.pc,false):=by unfold bM;rw [if_pos ah]
  obtain⟨t0,L,Q,T,t4,Y,x⟩:=f e.cache e.aJ _ false i ah w;simp (disch:=omega) only [RR,CAB,RB,mE,Q,T,O,A];exact⟨ah,L,Y,x⟩
end Go.TX.F
namespace Go.TX.F
open Go Go.AE Go.TX List
variable{e:Eng}{q:List Int}{l:List Ask}{r:List Ask}{n:Int}{x:Eng}{f:Nat}
def azi{p1 f1}{c:aAU->Bool}{d:aAU->Bool×ak}(t:auc p1 f1)(r:∀(q:List Int) (l:Int) (a:Ask) (e:Eng),fF e->e.aj.halt=0->e.aj.count<1000000->EgZ e->q.length<1000000000->By a.bytes->a.bytes.length<1000000000->c (q,l,a,e.aj.pc,e.aj.save,e.aj.aR,e.aj.waits,e.aj.halt,e.aj.ins,e.aj.count,e.cache,e.aJ,e.aj.regs,e.aj.mem,e.aj.outs,())=true/\GoD (goE e q l a) (d (q,l,a,e.aj.pc,e.aj.save,e.aj.aR,e.aj.waits,e.aj.halt,e.aj.ins,e.aj.count,e.cache,e.aJ,e.aj.regs,e.aj.mem,e.aj.outs,())))(q:List Int)(l:Int)(a:Ask)(e:Eng)(ok:fF e)(g:e.aj.halt=0)(j:e.aj.count<1000000)(z:EgZ e)(f:q.length<1000000000)(u:By a.bytes)(hn:a.bytes.length<1000000000):ais.F (p1,f1,c,d,()) (q,l,a,e.aj.pc,e.aj.save,e.aj.aR,e.aj.waits,e.aj.halt,e.aj.ins,e.aj.count,e.cache,e.aJ,e.aj.regs,e.aj.mem,e.aj.outs,()) (λy=>y=((goE e q l a).2,mC (goE e q l a).1.cache (goE e q l a).1.aJ (goE e q l a).1.aj)):=by
 obtain⟨i,⟨m,K,C,b,p,s,k,n⟩⟩:=r q l a e ok g j z f u hn;obtain⟨h,o⟩:=t K m.mem k n;dsimp only [ais,gm];simp (disch:=omega) only [RR,i,p,h,o];rw [s]
def Tt{l:Int}{a:Ask}(ok:fF e)(c:e.aj.halt=0)(b:e.aj.count<1000000)(h:1<=l):bT e q l a=goE e q l a:=by
 unfold bT;rw [aI ok,if_neg (by decide),if_neg ah]
def ajq{l:Int}{a:Ask}{N:Nat}(S:EgS e N)(f:N<700000000)(ok:fF e)(d:e.aj.halt=0)(b:e.aj.count<1000000)(h:1<=l)(c:a.bytes.length<1000000000):EgS (goE e q l a).1 (N+50):=by
 rw [<-Tt ok d b h];exact Ij S f q l c
abbrev azj(b:aAT->Bool)(a:aAT->ak):Prop:=∀e,EgZ e->b (e,())=true/\a (e,())=mK e.cache e.aJ e.aj
abbrev azk(c:aAU->Bool)(b:aAU->Bool×yc):Prop:=∀(q:List Int) (l:Int) (a:Ask) (e:Eng),fF e->e.aj.halt=0->e.aj.count<1000000->EgZ e->q.length<1000000000->By a.bytes->a.bytes.length<1000000000->c (q,l,a,e.aj.pc,e.aj.save,e.aj.aR,e.aj.waits,e.aj.halt,e.aj.ins,e.aj.count,e.cache,e.aJ,e.aj.regs,e.aj.mem,e.aj.outs,())=true/\b (q,l,a,e.aj.pc,e.aj.save,e.aj.aR,e.aj.waits,e.aj.halt,e.aj.ins,e.aj.count,e.cache,e.aJ,e.aj.regs,e.aj.mem,e.aj.outs,())=((goE e q l a).2,mC (goE e q l a).1.cache (goE e q l a).1.aJ (goE e q l a).1.aj)
def azl{p1 f1 p2 f2 p3 f3 p4 f4}(f:azj p1 f1)(t:azk p2 f2)(s:Ql p3 f3)(v:ayN p4 f4)(e:Eng)(q:List Int)(l:Int)(a:Ask)(z:EgZ e)(x:e.aj.outs.length<500000000)(m:q.length<1000000000)(w:By a.bytes)(hn:a.bytes.length<1000000000):aiu.F (p1,f1,p2,f2,p3,f3,p4,f4,()) (e,q,l,a,()) (λy=>y=((bT e q l a).1,(bT e q l a).2,())):=by
 have mM:=MKM;have i:=EGM;obtain⟨k,j⟩:=s e z.m z.k.x z.c.d;obtain⟨n,r⟩:=f e z;dsimp only [aiu,gm,iR];simp (disch:=omega) only [RR,k,j,n,r,mM,i,v];unfold bT;refine⟨λg=>by rw [if_pos g];rfl,λg=>⟨λh=> ?_,λh=> ?_⟩⟩
 .have cw:=(aF.1 g).1.ct;rw [if_neg (by rw [g];decide),if_pos];rcases h with h | h
  .rw [Bool.and_eq_false_iff,decide_eq_false_iff_not,decide_eq_false_iff_not]at h;omega
  .omega
 .have ok:=aF.1 g;have b:e.aj.halt=0/\e.aj.count<1000000:=by simpa using h.1
  rw [if_neg (by rw [g];decide),if_neg ah];obtain⟨p,u⟩:=t q l a e ok b.1 b.2 z m w hn;have S:=ajq (q:=q) (l:=l) (ajp ok z (Nat.le_refl _)) (by have:=z.o;omega) ok b.1 b.2 ah hn;have o:=z.o;have Z:=S.z ah;generalize goE e q l a=X at*;obtain⟨c,d⟩:=f X.1 Z;simp (disch:=omega) only [RR,p,u,i,c,d]
structure RnI(e:Eng)(q:List Int)(n:Int)(l:List Ask)(x:Eng)(f:Nat)(r:List Ask):Prop where
 ok:fF x
 s:EgS x (e.aj.outs.length+50*(n.toNat+1-f))
 o:L8 (e.aj.count+n) x<=f
 fl:f<=n.toNat+1
 run:D8 q (e.aj.count+n) f x r=D8 q (e.aj.count+n) (n.toNat+1) e l
 a:AsK r
def AsK.hd(h:AsK r):By (r.headD rJ).bytes/\(r.headD rJ).bytes.length<1000000000:=by
 cases r with
 | nil=>exact⟨λx a=>(by cases a),by decide⟩
 | cons x r=>exact h.2 x (mem_cons_self ..)
def AsK.tl(h:AsK r):AsK r.tail:=⟨by have:=h.1;rw [length_tail];omega,λa b=>h.2 a (mem_of_mem_tail b)⟩
def RnI.start(ok:fF e)(z:EgZ e)(a:AsK l):RnI e q n l e (n.toNat+1) l:=
 ⟨ok,by rw [Nat.sub_self];exact ajp ok z (Nat.le_refl _),by unfold L8;split<;>omega,Nat.le_refl _,rfl,a⟩
def RnI.z(R:RnI e q n l x f r)(a:e.aj.outs.length<500000000)(hn:n<=400):EgZ x:=R.s.z ah
def RnI.stop(R:RnI e q n l x f r)(c:¬(x.aj.halt=0/\x.aj.count<1000000/\x.aj.count<e.aj.count+n)):D8 q (e.aj.count+n) (n.toNat+1) e l=x:=by
 rw [<-R.run];cases f with
 | zero=>rfl
 | succ f=>unfold D8;rw [if_neg c]
def RnI.step(R:RnI e q n l x f r)(j:e.aj.outs.length<500000000)(hn:n<=400)(c:x.aj.halt=0/\x.aj.count<1000000/\x.aj.count<e.aj.count+n):
  RnI e q n l (goE x q (e.aj.count+n-x.aj.count) (r.headD rJ)).1 (f-1) (if(goE x q (e.aj.count+n-x.aj.count) (r.headD rJ)).2=true then r.tail else r)/\L8 (e.aj.count+n) (goE x q (e.aj.count+n-x.aj.count) (r.headD rJ)).1<L8 (e.aj.count+n) x:=by
 obtain⟨a,b,i⟩:=c;have o:=R.o;have k:=R.fl;have d:L8 (e.aj.count+n) x=(e.aj.count+n-x.aj.count).toNat+1:=by unfold L8;rw [if_pos a]
 have S:=ajq (q:=q) (l:=e.aj.count+n-x.aj.count) R.s ah R.ok a b ah R.a.hd.2;obtain⟨T,h,m⟩:=Qs (r.headD rJ) (q:=q) (left:=e.aj.count+n-x.aj.count) R.ok a b ah;have run:=R.run;obtain⟨g,rfl⟩:∃g,f=g+1:=⟨f-1,ah⟩;unfold D8 at run;rw [if_pos ⟨a,b,i⟩]at run;have lt:L8 (e.aj.count+n) (goE x q (e.aj.count+n-x.aj.count) (r.headD rJ)).1<L8 (e.aj.count+n) x:=by
  rw [d];unfold L8;split
  .rename_i h0;rw [h0,if_neg (by decide)]at h;omega
  .split at h<;>omega
 refine⟨⟨T,?_,by rw [Nat.add_sub_cancel];omega,ah,by rw [Nat.add_sub_cancel];exact run,by split;exact R.a.tl;exact R.a⟩,lt⟩;rw [show e.aj.outs.length+50*(n.toNat+1- (g+1))+50=e.aj.outs.length+50*(n.toNat+1- (g+1-1)) by omega]at S;exact S
theorem azm{p1 f1 p2 f2 p3 f3 p4 f4}(N:azj p1 f1)(K:azk p2 f2)(J:Ql p3 f3)(M:ayN p4 f4)(e:Eng)(q:List Int)(n:Int)(l:List Ask)(z:EgZ e)(H:e.aj.outs.length<500000000)(G:q.length<1000000000)(hn: -1000<=n/\n<=1000000)(Y:AsK l):ait.F (p1,f1,p2,f2,p3,f3,p4,f4,()) (e,q,n,l,()) (λy=>y=(zG e q n l,())):=by
 have i:=λz1 z2=>(N z1 z2).1
 have j:=λz1 z2=>(N z1 z2).2
 have u:=λz1 z2 z3 z4 m B k E v b d=>(K z1 z2 z3 z4 m B k E v b d).1
 have F:=λz1 z2 z3 z4 m B k E v b d=>(K z1 z2 z3 z4 m B k E v b d).2
 have t:=λz1 z2 z3 z4=>(J z1 z2 z3 z4).1
 have o:=λz1 z2 z3 z4=>(J z1 z2 z3 z4).2
 have C:=λz1=>(M z1).1
 have w:=λz1=>(M z1).2
 have mM:=MKM;have O:=EGM;have U:=t e z.m z.k.x z.c.d;have S:=o e z.m z.k.x z.c.d;have W:=i e z;have X:=j e z;dsimp only [ait,gm,iR];simp (disch:=omega) only [RR,U,S,W,X,mM,O];refine⟨λg=> ?_,λg=> ?_⟩
 .rw [Qn (λh=>g.elim (λg=>by rw [aI h.1]at g;cases g) ah)];rfl
 have ok:=aF.1 g.1;have cw:=ok.1.ct;have p:n<=400:=by omega
 have P:zG e q n l=D8 q (e.aj.count+n) (n.toNat+1) e l:=by unfold zG;rw [aI ⟨ok,p⟩,if_pos rfl]
 rw [P];refine ay (λ(y:List Int×Int×List Ask×Int×Int×Int×Bool×Bool×Int×Int×ak)=>∃(x:Eng) (f:Nat) (r:List Ask),RnI e q n l x f r/\y=(q,n,r,e.aj.count,0,0,false,false,0,0,mK x.cache x.aJ x.aj)) (λy=>L8 (e.aj.count+n) ⟨⟨[],0,[],0,false,false,y.2.2.2.2.2.2.2.2.2.2.2.2.2.2.1,[],[],y.2.2.2.2.2.2.2.2.2.2.2.2.2.2.2.2.1⟩,[],[]⟩) ⟨e,_,l,.start ok z Y,rfl⟩ ?_;rintro y ⟨x,f,r,R,rfl⟩;dsimp only;have xc:=R.ok.1.ct;have Z:=R.z H p;have mA:Co.mk .ask (true,[],())=rJ:=rfl;have rl:=R.a.1;have D:=i x Z;have s:=j x Z;have Q:IntKind.i64.wrap (x.aj.count-e.aj.count)=x.aj.count-e.aj.count:=w64 ah ah;have w2:IntKind.i64.wrap (n- (x.aj.count-e.aj.count))=e.aj.count+n-x.aj.count:=by rw [w64 ah ah];omega
 simp (disch:=omega) only [RR,mM,C,w,Q,w2,mA];refine⟨λg=> ?_,λg=> ?_⟩
 .have c:x.aj.halt=0/\x.aj.count<1000000/\x.aj.count<e.aj.count+n:=⟨g.1.1,g.1.2,ah⟩;obtain⟨T,lt⟩:=R.step H p c;have A:=R.a.hd;have I:=u q (e.aj.count+n-x.aj.count) (r.headD rJ) x R.ok c.1 c.2.1 Z G A.1 A.2;have L:=F q (e.aj.count+n-x.aj.count) (r.headD rJ) x R.ok c.1 c.2.1 Z G A.1 A.2;cases r with
  | nil=>
   rw [headD_nil]at*;have z0:((0:Int)< ((0:Nat):Int))=False:=eq_false (by decide);rw [show(if(goE x q (e.aj.count+n-x.aj.count) rJ).2=true then([]:List Ask).tail else [])=[] by split<;>rfl]at T;simp (disch:=omega) only [RR,I,L,length_nil,z0,and_false];exact λ_=>⟨⟨_,_,_,T,rfl⟩,lt⟩
  | cons a r=>
   rw [headD_cons]at*;have z0:((0:Int)< ((r.length+1:Nat):Int))=True:=eq_true ah;have z1:((1:Int)<=((r.length+1:Nat):Int))=True:=eq_true ah;have V:(a::r).getD (Int.toNat 0) default=a:=rfl;have g1:drop (Int.toNat 1) (take (((r.length+1:Nat):Int)).toNat (a::r))=r:=by simp
   simp (disch:=omega) only [RR,I,L,length_cons,z0,z1,V,g1,Int.le_refl];refine⟨λh=>⟨by decide,⟨_,f-1,_,?_,rfl⟩,lt⟩,λh=>⟨⟨_,f-1,_,?_,rfl⟩,lt⟩⟩
   .rw [if_pos h]at T;exact T
   .rw [if_neg (λz=>by rw [z]at h;simp at h)]at T;exact T
 .rw [R.stop (λc=>by
   have:((decide (x.aj.halt=0)&&decide (x.aj.count<1000000))&&decide (x.aj.count-e.aj.count<n))=true:=by simp only [Bool.and_eq_true,decide_eq_true_eq];omega
   rw [this]at g;cases g)]
  simp (disch:=omega) only [RR,D,s,O]
end Go.TX.F
namespace Go.TX.F
open Go Go.AE Go.TX List
structure DrR(y:Eng×Int×List Int×List Ask×Unit):Prop where
 z:EgZ y.1
 o:y.1.aj.outs.length<=2000
 n: -1000<=y.2.1/\y.2.1<=1000
 q:y.2.2.1.length<1000
 a:AsK y.2.2.2.1
structure DrT(y:Eng×Int×Bool×wm):Prop where
 z:EgZ y.1
 o:y.1.aj.outs.length<=2000
 n: -1000<=y.2.1/\y.2.1<=400
 q:y.2.2.2.1.length<1000
 a:By y.2.2.2.2.1
 l:y.2.2.2.2.1.length<1000000000
theorem auT{p1 f1 p2 f2}(B:ayT p1 f1)(w:auC p2 f2)(e:Eng)(q:List Int)(n:Int)(b:List Int)(p:Int)(S:EgS e 2000)(s:q.length<1000000000)(hn: -1000<=n/\n<=1000000)(hc:0<=e.aj.count/\e.aj.count<=1000000)(m:Bt b)(I:0<=p)(D:p<300000000):aan.F (p1,f1,p2,f2,()) (e,q,n,b,p,()) (λy=>AsK y.2.2.1):=by
 have mM:=MKM;have l:=EGM;have z:∀(x:Bool) (y:List Int),Co.mk .ask (x,y,())=(⟨x,y⟩:Ask):=λ_ _=>rfl
 dsimp only [aan,gm,iR];simp (disch:=omega) only [RR,EGB];refine ay (λ(y:List Int×Int×Int×List Int×Int×List Ask×aAT)=>y.1=q/\y.2.1=e.aj.count+n/\0<=y.2.2.1/\y.2.2.1<=30/\y.2.2.2.1=b/\p<=y.2.2.2.2.1/\y.2.2.2.2.1<=p+2000000*y.2.2.1/\y.2.2.2.2.2.1.length<=y.2.2.1/\(∀a∈y.2.2.2.2.2.1,By a.bytes/\a.bytes.length<1000000000)/\EgS y.2.2.2.2.2.2.1 (2000+50*y.2.2.1.toNat)) (λy=>(30-y.2.2.1).toNat) ⟨rfl,by dsimp only,by simp,by simp,rfl,by simp,by simp,by simp,by simp,S⟩ ?_;rintro⟨(i:List Int),(d:Int),(k:Int),(j:List Int),(r:Int),(o:List Ask),(x:Eng),⟨⟩⟩ hI;dsimp only at hI ⊢;obtain⟨rfl,rfl,G,C,rfl,H,F,J,f,E⟩:=hI;have K:=E.o;obtain⟨u,A⟩:=w x.aj j r E.m m ah ah;simp (disch:=omega) only [RR,mM,l,z,EGB,u];generalize IntKind.i64.wrap (e.aj.count+n-x.aj.count)=L;generalize f2 (x.aj,j,r,())=y at*;have al:=A.l;have M:=A.p;obtain⟨t,v⟩:=B x i L ⟨y.1,y.2.2.2.1⟩ E.m ah E.k E.c s al.1 (by dsimp only;omega);have T:=Ij E ah i L (a:=⟨y.1,y.2.2.2.1⟩) (by dsimp only;omega);rw [show 2000+50*k.toNat+50=2000+50*(k+1).toNat by omega]at T;generalize bT x i L ⟨y.1,y.2.2.2.1⟩=X at*;simp (disch:=omega) only [RR,t,v,l,A.b,length_append,length_singleton];refine⟨λg=>⟨λh=>⟨ah,⟨ah,ah,ah,ah,ah,λa c=> ?_,T⟩,ah⟩,λh=>⟨⟨ah,ah,ah,ah,ah,f,T⟩,ah⟩⟩,λg=>⟨ah,f⟩⟩;rw [mem_append,mem_singleton]at c;rcases c with c | rfl
 .exact f a c
 .exact⟨al.1,by dsimp only;omega⟩
def EoD.z{b:List Int}{p:Int}{y:Eng×eG}(h:EoD b p y):EgZ y.1:=⟨h.m,by have:=h.o;omega,h.k,h.c⟩
def adg{l:List Int}{M:Int}(a:0<=M)(h:∀x∈l, -1000<=x/\x<=M)(n:Nat): -1000<=l.getD n default/\l.getD n default<=M:=by
 by_cases c:n<l.length
 .rw [getD_lt c];exact h _ (getElem_mem _)
 .rw [getD_eq_getElem?_getD,getElem?_eq_none ah];exact⟨by decide,a⟩
def azn:AsK [⟨true,[]⟩]:=⟨by decide,λa b=>by rw [mem_singleton]at b;subst b;exact⟨λx c=>(by cases c),by decide⟩⟩
theorem auU{p1 f1 p2 f2 p3 f3 p4 f4 p5 f5 p7 f7}{i:Eng×List Int×Bp->Bool}{l:Eng×List Int×Bp->aAZ}(M:Ql p1 f1)(G:atN p2 f2)(r:Y41 p3 f3)(L:Y39 p4 f4)(k:Y38 p5 f5)(o:∀(e:Eng) (q:List Int) (n:Int) (b:List Int) (p:Int),EgS e 2000->q.length<1000000000->(-1000<=n/\n<=1000000)->(0<=e.aj.count/\e.aj.count<=1000000)->Bt b->0<=p->p<300000000->i (e,q,n,b,p,())=true/\AsK (l (e,q,n,b,p,())).2.2.1)(w:ay4 p7 f7)(c:List Int)(hc:By c)(s:c.length<1000000000):aao.F (p1,f1,p2,f2,p3,f3,p4,f4,p5,f5,i,l,p7,f7,()) (c,()) (λy=>DrR y):=by
 have K:Co.mk .ask (true,[],())=⟨true,[]⟩:=rfl;obtain⟨a,v⟩:=(r c hc s).2;generalize m:(f3 (c,())).1=b at a;obtain⟨H,E⟩:=w 24 b 0 a ah ah;generalize F:f7 (24,b,0,())=y at*;have U:=E.lo;have X:=E.hi;have Z:=E.z;obtain⟨C,I⟩:=G b y.2.2.1 a ah ah;generalize A:f2 (b,y.2.2.1,())=z at*;obtain⟨x,W,T,Q⟩:=I;have R:=pkS a k;have P:=λn p h f=>(k n b p a h f).1
 obtain⟨J,O⟩:=L 24 b (z.2.1+1) a ah ah;obtain⟨B,D⟩:=M y.1 Z.m Z.k.x Z.c.d;have d:∀(n p:Int), -1000<=n/\n<=1000->0<=p->p<300000000->bp (fF y.1)=true->i (y.1,z.2.2.1,n,b,p,())=true/\DrR (y.1,n,z.2.2.1,(l (y.1,z.2.2.1,n,b,p,())).2.2.1,()):=λn p hn h f g=>by
  have ok:=aF.1 g;have t:=ok.1.ct;have S:=ajp ok Z E.o;exact⟨(o y.1 z.2.2.1 n b p S ah ah t a h f).1,Z,E.o,by dsimp only;omega,by dsimp only;omega,(o y.1 z.2.2.1 n b p S ah ah t a h f).2⟩
 have no:∀n:Int, -1000<=n/\n<=1000->DrR (y.1,n,z.2.2.1,[⟨true,[]⟩],()):=λn hn=>⟨Z,E.o,by dsimp only;omega,by dsimp only;omega,azn⟩
 dsimp only [aao,gm];simp (disch:=omega) only [RR,(r c hc s).1,m,v,H,F,E.b,C,A,x,P,R,O,J,B,D,K,length_cons,length_nil];have j:=(k 60 b z.2.1 a ah ah).2;obtain⟨_,_,V,N⟩:=j;have u: -1000<= [(-1:Int),150,401].getD (f5 (3,b,z.2.1+1+1,())).1.toNat default/\ [(-1:Int),150,401].getD (f5 (3,b,z.2.1+1+1,())).1.toNat default<=1000:=adg (by decide) (by simp) _;refine⟨λ_=>⟨λg=>no _ u,λg=>d _ _ u ah ah g.1⟩,λ_=>⟨λg=>no _ ah,λg=>d _ _ ah ah ah g.1⟩⟩
def auV{p1 f1 p2 f2 p3 f3 p4 f4}(j:Y41 p1 f1)(f:Y38 p2 f2)(w:auC p3 f3)(B:ay4 p4 f4)(c:List Int)(hc:By c)(i:c.length<1000000000):aaj.F (p1,f1,p2,f2,p3,f3,p4,f4,()) (c,()) (λy=>DrT y):=by
 have mM:=MKM;obtain⟨a,m⟩:=(j c hc i).2;generalize h:(f1 (c,())).1=b at a;obtain⟨s,E⟩:=B 20 b 0 a ah ah;generalize z:f4 (20,b,0,())=y at*;have G:=E.lo;have K:=E.hi;have Z:=E.z;have R:=pkS a f;have P:=λn p v q=>(f n b p a v q).1
 dsimp only [aaj,gm,iR];simp (disch:=omega) only [RR,(j c hc i).1,h,m,s,z,E.b,P,R,EGB,mM,length_cons,length_nil];obtain⟨_,_,u,C⟩:=(f 4 b y.2.2.1 a ah ah).2;refine ay (λ(x:Int×Int×Int×Bool×Bool×Int×Int×Bool×List Int×Int×Eng×bn)=>0<=x.1/\x.1<=4/\x.2.2.2.2.2.2.2.2.1=b/\0<=x.2.2.2.2.2.2.2.2.2.1/\x.2.2.2.2.2.2.2.2.2.1<=100000000-x.1/\x.2.2.2.2.2.2.2.2.2.2.1=y.1/\x.2.2.2.2.2.2.2.2.2.2.2.1.length<=4-x.1) (λx=>x.1.toNat) ⟨u,ah,rfl,by dsimp only;omega,by dsimp only;omega,rfl,by simp;omega⟩ ?_;rintro⟨(k:Int),u1,u2,u3,u4,u5,u6,u7,(d:List Int),(r:Int),(e:Eng),(o:List Int),⟨⟩⟩ hI;dsimp only at hI ⊢;obtain⟨L,F,rfl,J,H,rfl,I⟩:=hI;obtain⟨t,A⟩:=w y.1.aj d (r+1+1) Z.m a ah ah;obtain⟨_,_,M,D⟩:=(f 10 d r a ah ah).2;have l: -1000<= [(30:Int),30,1,(f2 (10,d,r,())).1,0, -1].getD (f2 (6,d,r+1,())).1.toNat default/\ [(30:Int),30,1,(f2 (10,d,r,())).1,0, -1].getD (f2 (6,d,r+1,())).1.toNat default<=400:=adg (by decide) (by simp;omega) _;simp (disch:=omega) only [RR,P,R,t,length_append,length_cons,length_nil];refine⟨λg=>⟨ah,⟨ah,ah,ah,ah,ah⟩,ah⟩,λg=>⟨Z,E.o,l,by dsimp only;omega,A.l.1,by have:=A.l.2;dsimp only;omega⟩⟩
def auW{p1 f1 p2 f2 p3 f3}(d:ayY p1 f1)(e:aAi p2 f2)(c:ayz p3 f3)(a b:Eng)(z:EgZ a):X9.F (p1,f1,p2,f2,p3,f3,()) (a,b,()) (λy=>y=(bp (a=b),())):=by
 have mM:=MKM;dsimp only [X9,gm,iR];simp (disch:=omega) only [RR,EGB,mM,c _ b.aj z.m,d _ b.cache z.k,e _ b.aJ z.c];rw [<-fH,<-fH];exact Prod.ext (ig (by cases a;cases b;simp only [Eng.mk.injEq,and_assoc])) rfl
abbrev ajr(c:aAM->Bool)(b:aAM->Eng×fA):Prop:=∀(e:Eng) (q:List Int) (l:Int) (a:Ask),EgZ e->e.aj.outs.length<500000000->q.length<1000000000->By a.bytes->a.bytes.length<1000000000->c (e,q,l,a,())=true/\b (e,q,l,a,())=((bT e q l a).1,(bT e q l a).2,())
theorem auX{p1 f1}(f:ajr p1 f1)(e:Eng)(C:List Cer)(a:Ask)(z:EgZ ⟨e.aj,[],C⟩)(c:e.aj.outs.length<500000000)(g:By a.bytes)(hn:a.bytes.length<1000000000):aaq.F (p1,f1,()) (e,C,a,()) (λy=>y=((bT ⟨e.aj,[],C⟩ [] 9 a).1,(bT ⟨e.aj,[],C⟩ [] 9 a).2,())):=by
 have h:Co.mk .eng (e.aj.regs,e.aj.pc,e.aj.mem,e.aj.save,e.aj.aR,e.aj.waits,e.aj.halt,e.aj.ins,e.aj.outs,e.aj.count,[],C,())=⟨e.aj,[],C⟩:=rfl;obtain⟨b,d⟩:=f ⟨e.aj,[],C⟩ [] 9 a z c (by decide) g hn;dsimp only [aaq,gm,iR];simp (disch:=omega) only [RR,EGB,h,b,d]
def Jj{m:aD}{C:List Cer}(h:MOK m)(a:jY C):fF ⟨m,[],C⟩:=ajl (l:=[]) ⟨by decide,λx b=>(by cases b),Pairwise.nil,a⟩ h
def anG:jY []:=⟨by decide,λx a=>(by cases a)⟩
def ajs(q:List Int)(d:Int):∀(f:Nat) (x:Eng) (r:List Ask) (N:Nat),fF x->EgS x N->N+50*f<600000000->AsK r->EgS (D8 q d f x r) (N+50*f)
 | 0,x,r,N,_,S,_,_=>S
 | f+1,x,r,N,ok,S,hN,ha=>by
  unfold D8;split
  .rename_i c;have T:=(Qs (r.headD rJ) (q:=q) (left:=d-x.aj.count) ok c.1 c.2.1 ah).1;have E:=ajq (q:=q) (l:=d-x.aj.count) (a:=r.headD rJ) S ah ok c.1 c.2.1 ah ha.hd.2;have:=ajs q d f _ (if(goE x q (d-x.aj.count) (r.headD rJ)).2=true then r.tail else r) (N+50) T E ah (by split;exact ha.tl;exact ha)
   rwa [show N+50+50*f=N+50*(f+1) by omega]at this
  .exact⟨S.m,Nat.le_trans S.o ah,S.k,S.c,S.kl,S.cl,S.w,S.v⟩
def aoy{e:Eng}(z:EgZ e)(c:e.aj.outs.length<500000000){n:Int}(q:List Int){l:List Ask}(b:AsK l):EgZ (zG e q n l)/\(zG e q n l).aj.outs.length<=e.aj.outs.length+20050:=by
 by_cases h:fF e/\n<=400
 .have R:=ajs q (e.aj.count+n) (n.toNat+1) e l _ h.1 (ajp h.1 z (Nat.le_refl _)) ah b;have a:zG e q n l=D8 q (e.aj.count+n) (n.toNat+1) e l:=by unfold zG;rw [aI h,if_pos rfl]
  rw [a];exact⟨R.z ah,Nat.le_trans R.o ah⟩
 .rw [Qn h];exact⟨⟨⟨by decide,by decide,by decide,by decide⟩,by decide,ShK.nil,ShC.nil⟩,Nat.zero_le _⟩
def adh(q:List Int)(d:Int):∀(f:Nat) (x:Eng) (r:List Ask),fF x->fF (D8 q d f x r)
 | 0,_,_,ok=>ok
 | f+1,x,r,ok=>by
  unfold D8;split
  .rename_i c;exact adh q d f _ _ (Qs (r.headD rJ) (q:=q) (left:=d-x.aj.count) ok c.1 c.2.1 ah).1
  .exact ok
def adi{e:Eng}(ok:fF e){n:Int}(hn:n<=400)(q:List Int)(l:List Ask):fF (zG e q n l):=by
 unfold zG;rw [aI ⟨ok,hn⟩,if_pos rfl];exact adh q _ _ _ _ ok
abbrev azo(b:Eng×aAZ->Bool)(a:Eng×aAZ->aAT):Prop:=∀(e:Eng) (q:List Int) (n:Int) (l:List Ask),EgZ e->e.aj.outs.length<500000000->q.length<1000000000->(-1000<=n/\n<=1000000)->AsK l->b (e,q,n,l,())=true/\a (e,q,n,l,())=(zG e q n l,())
def auY{e:Eng}{n:Int}(h:bp (fF e)=false\/400<n)(q:List Int)(l:List Ask):zG e q n l=aer:=
 Qn (λg=>h.elim (λh=>gI.1 h g.1) ah) q l
abbrev aAy(d:Eng×aAT->Bool)(c:Eng×aAT->fA):Prop:=∀a b,EgZ a->d (a,b,())=true/\c (a,b,())=(bp (a=b),())
abbrev azp(b:bn->Bool)(a:bn->Eng×Int×List Int×List Ask×Unit):Prop:=∀c,By c->c.length<1000000000->b (c,())=true/\DrR (a (c,()))
def auZ{p1 f1 p2 f2 p3 f3 p4 f4 p5 f5}(i:azo p1 f1)(z:aAy p2 f2)(d:Y47 p3 f3)(B:azp p4 f4)(s:Ql p5 f5)(c:List Int)(hc:By c):aas.F (p1,f1,p2,f2,p3,f3,p4,f4,p5,f5,()) (c,()) (λy=>y=(true,())):=by
 dsimp only [aas,gm];by_cases f:1048576< (c.length:Int)
 .simp (disch:=omega) only [RR,f]
 obtain⟨k,D⟩:=B c hc ah;generalize w:f4 (c,())=y at*;obtain⟨e,n,q,l,⟨⟩⟩:=y;obtain⟨Z,o,hn,p,a⟩:=D;dsimp only at Z o hn p a;obtain⟨t,v⟩:=i e q n l Z ah ah ah a;obtain⟨Y,E⟩:=aoy (n:=n) Z ah q a;have b:=λ(r:fF e) (j:n<=400)=>adi r j q l
 generalize zG e q n l=X at*;obtain⟨x,m⟩:=s e Z.m Z.k.x Z.c.d;obtain⟨A,C⟩:=i X q 20 l Y ah ah ah a;obtain⟨u,h⟩:=z X X Y;rw [aI rfl]at h;simp (disch:=omega) only [RR,f,k,w,t,v,x,m,EGB,A,C];refine⟨λg=>⟨(d).1,by rw [(d).2]⟩,λg=> ?_⟩;rw [aaN (b (aF.1 g.1.1) ah) g.2 (by decide) q l];exact⟨u,by rw [h]⟩
theorem au0{p1 f1 p2 f2 p3 f3 p4 f4 p5 f5 p6 f6 p7 f7 p8 f8}(N:ajb p1 f1)(K:at5 p2 f2)(H:Y96 p3 f3)(M:Ql p4 f4)(C:azo p5 f5)(a:Y47 p6 f6)(m:azp p7 f7)(F:Ql p8 f8)(c:List Int)(hc:By c):aap.F (p1,f1,p2,f2,p3,f3,p4,f4,p5,f5,p6,f6,p7,f7,p8,f8,()) (c,()) (λy=>y=(true,())):=by
 have mE:∀c:Blk,Co.mk .blk (c.pc,c.len,c.ops,c.fin,c.x,c.y,c.k,())=c:=λ_=>rfl
 dsimp only [aap,gm,jo];by_cases j:1048576< (c.length:Int)
 .simp (disch:=omega) only [RR,j]
 obtain⟨L,D⟩:=m c hc ah;generalize J:f7 (c,())=y at*;obtain⟨e,n,q,l,⟨⟩⟩:=y;obtain⟨Z,o,hn,u,d⟩:=D;dsimp only at Z o hn u d;obtain⟨I,r⟩:=C e q n l Z ah ah ah d;obtain⟨Y,Q⟩:=aoy (n:=n) Z ah q d;have no:=λh=>auY (e:=e) (n:=n) h q l
 have b:=λ(z:fF e) (k:n<=400)=>adi z k q l
 generalize zG e q n l=X at*;obtain⟨A,B⟩:=F e Z.m Z.k.x Z.c.d;obtain⟨p,s⟩:=M X Y.m Y.k.x Y.c.d;simp (disch:=omega) only [RR,j,L,J,I,r,A,B,EGB,p,s];refine⟨λg=>⟨Or.inr (a).1,by rw [no g,(a).2];rfl⟩,λg=> ?_⟩;have ok:=b (aF.1 g.1) ah;have V:=ok.2.1.1;have S:=ok.2.2.1;rw [aI ok];refine⟨λg=>absurd g (by simp;omega),λ_=> ?_⟩;refine ay (λ(y:Int×aAT)=>0<=y.1/\y.1<=X.cache.length/\y.2.1=X) (λy=>((X.cache.length:Int)-y.1).toNat) ⟨by simp,by simp,rfl⟩ ?_;rintro⟨(i:Int),(x:Eng),⟨⟩⟩ hI;dsimp only at hI ⊢;obtain⟨G,R,rfl⟩:=hI;by_cases c:i<x.cache.length
 .obtain⟨k0,k1,k2,k3,k4,k5⟩:=anC ok (show((x.cache).getD (i).toNat default)∈x.cache by rw [getD_lt ah];exact getElem_mem _);have O:=ok.1.m64;obtain⟨U,T,_⟩:=Y.k.at i.toNat;generalize ((x.cache).getD (i).toNat default)=E at*;have w:IntKind.i64.wrap (E.blk.pc+E.blk.len)=E.blk.pc+E.blk.len:=w64 ah ah;have v:(((jS E.words).length:Int)=E.blk.len)=True:=eq_true ah;have P:((lower E.blk.pc (jS E.words)).ops.length:Int)<=5000:=vC _ _;obtain⟨t,f⟩:=H (lower E.blk.pc (jS E.words)) E.blk ah ah;rw [k5]at f;simp (disch:=omega) only [RR,CAB,mE,c,w,k3,K E.words ah,N E.blk.pc (jS E.words) ah,v,t,f,not_true_eq_false];exact⟨G,k0,ah,k2,⟨ah,ah⟩,ah⟩
 .simp (disch:=omega) only [RR,c];exact⟨(a).1,by rw [(a).2]⟩
variable{e:Eng}{q:List Int}{l:Int}{a:Ask}
def Qt(h:bp (fF e)=false)(q:List Int)(l:Int)(a:Ask):bT e q l a=(aer,false):=by
 unfold bT;rw [h,if_pos rfl]
def wJ(ok:fF e)(h:e.aj.halt≠0\/l<1\/e.aj.count=1000000):bT e q l a=(e,false):=by
 unfold bT;rw [aI ok,if_neg (by decide),if_pos h]
def au1:EgZ aer:=⟨⟨by decide,by decide,by decide,by decide⟩,by decide,ShK.nil,ShC.nil⟩
def Ko(z:EgZ e)(c:e.aj.outs.length<500000000)(b:a.bytes.length<1000000000):EgZ (bT e q l a).1/\(bT e q l a).1.aj.outs.length<=e.aj.outs.length+50:=by
 by_cases h:fF e
 .have S:=Ij (ajp h z (Nat.le_refl _)) ah q l b;exact⟨S.z ah,S.o⟩
 .rw [Qt (aT h)];exact⟨au1,Nat.zero_le _⟩
def adk(ok:fF e):fF (bT e q l a).1:=by
 by_cases h:e.aj.halt≠0\/l<1\/e.aj.count=1000000
 .rw [wJ ok h];exact ok
 .have cw:=ok.1.ct;rw [Tt ok ah ah ah];exact(Qs a (q:=q) (left:=l) ok ah ah ah).1
def D9(h:(bT e q l a).2=true):fF e/\bT e q l a=goE e q l a:=by
 by_cases ok:fF e
 .refine⟨ok,?_⟩;by_cases g:e.aj.halt≠0\/l<1\/e.aj.count=1000000
  .rw [wJ ok g]at h;cases h
  .unfold bT;rw [aI ok,if_neg (by decide),if_neg g]
 .rw [Qt (aT ok)]at h;cases h
abbrev anH(b:bn->Bool)(a:bn->Eng×Int×Bool×wm):Prop:=∀c,By c->c.length<1000000000->b (c,())=true/\DrT (a (c,()))
theorem au2{p1 f1 p2 f2 p3 f3 p4 f4 p5 f5 p6 f6 p7 f7 p8 f8}(T:ajj p1 f1)(O:ajb p2 f2)(M:aep p3 f3)(S:ajr p4 f4)(F:ax5 p5 f5)(G:Y94 p6 f6)(j:Y47 p7 f7)(I:anH p8 f8)(c:List Int)(hc:By c):aam.F (p1,f1,p2,f2,p3,f3,p4,f4,p5,f5,p6,f6,p7,f7,p8,f8,()) (c,()) (λy=>y=(true,())):=by
 have mM:=MKM;have mE:∀c:Blk,Co.mk .blk (c.pc,c.len,c.ops,c.fin,c.x,c.y,c.k,())=c:=λ_=>rfl
 have Q:Co.mk .ask (true,[],())=rJ:=rfl;dsimp only [aam,gm,iR,jo];by_cases p:1048576< (c.length:Int)
 .simp (disch:=omega) only [RR,p]
 obtain⟨E,D⟩:=I c hc ah;generalize N:f8 (c,())=y at*;obtain⟨e,l,ow,q,V,⟨⟩⟩:=y;obtain⟨Z,o,hn,C,_,_⟩:=D;dsimp only at Z o hn C;obtain⟨w,A⟩:=S e q l rJ Z ah ah (λx d=>(by cases d)) (by decide);obtain⟨Y,Yo⟩:=Ko (q:=q) (l:=l) (a:=rJ) Z ah (by decide);have u:(bT e q l rJ).2=true->nC e.aj.pc (findF e.aj)/\∀x∈(bT e q l rJ).1.cache,x.blk.pc=e.aj.pc->x.blk=o7 (lower e.aj.pc (findF e.aj)):=λh=>by
  obtain⟨ok,t⟩:=D9 h;rw [t]at h ⊢;obtain⟨i,R⟩:=Kn ok h;refine⟨i,λx d K=> ?_⟩;rw [R x d K,anA ok.2.2 (jB i) rfl]
 generalize bT e q l rJ=X at*;have kl:=Y.k.1;obtain⟨B,U⟩:=M X.1.cache e.aj.pc ah;generalize hk:(f3 (X.1.cache,e.aj.pc,())).1=k at*;obtain⟨J,L⟩:=T e.aj Z.m;simp (disch:=omega) only [RR,p,E,N,Q,w,A,EGB,mM,J,L,B,hk];refine⟨λg=>⟨(j).1,by rw [(j).2]⟩,λg=> ?_⟩;obtain⟨bk,v⟩:=u g;have fl:=(pR e.aj).1;obtain⟨n,r⟩:=O e.aj.pc (findF e.aj) ah;have W:=vC e.aj.pc (findF e.aj);generalize lower e.aj.pc (findF e.aj)=b at*;obtain⟨s,z⟩:=F b ah;by_cases m:k<0
 .simp (disch:=omega) only [RR,mE,n,r,s,m];rfl
 .obtain⟨m1,m2,m3⟩:=ajn U ah;have H:=v _ m2 m3;have ol:=AU b;obtain⟨P,f⟩:=G (o7 b) (o7 b) ah;rw [aI rfl]at f;simp (disch:=omega) only [RR,CAB,mE,n,r,s,z,H,RB,m,P,f];exact⟨ah,m1,rfl⟩
end Go.TX.F
namespace Go.TX.F
open Go Go.AE Go.TX List
variable{m:aD}
theorem au3{p1 f1 p2 f2 p3 f3 p4 f4 p5 f5}(r:aep p1 f1)(H:Ql p2 f2)(k:ajr p3 f3)(n:Y47 p4 f4)(w:anH p5 f5)(c:List Int)(hc:By c):aak.F (p1,f1,p2,f2,p3,f3,p4,f4,p5,f5,()) (c,()) (λy=>y=(true,())):=by
 have I:∀(x:Bool) (y:List Int),Co.mk .ask (x,y,())=(⟨x,y⟩:Ask):=λ_ _=>rfl
 have K:∀(X:Eng) (p:Int),Co.mk .eng (X.aj.regs,p,X.aj.mem,X.aj.save,X.aj.aR,X.aj.waits,0,X.aj.ins,X.aj.outs,X.aj.count,X.cache,X.aJ,())=⟨{X.aj with pc:=p,halt:=0},X.cache,X.aJ⟩:=λ_ _=>rfl
 dsimp only [aak,gm,iR];by_cases m:1048576< (c.length:Int)
 .simp (disch:=omega) only [RR,m]
 obtain⟨L,D⟩:=w c hc ah;generalize F:f5 (c,())=y at*;obtain⟨e,l,d,q,b,⟨⟩⟩:=y;obtain⟨Z,o,hn,v,j,f⟩:=D;dsimp only at Z o hn v j f;obtain⟨u,s⟩:=k e q l ⟨d,b⟩ Z ah ah j f;obtain⟨Y,M⟩:=Ko (q:=q) (l:=l) (a:=⟨d,b⟩) Z ah f;have i:(bT e q l ⟨d,b⟩).2=true->fF e/\fF (bT e q l ⟨d,b⟩).1:=λh=>⟨(D9 h).1,adk (D9 h).1⟩
 generalize bT e q l ⟨d,b⟩=X at*;have N:=Y.k.1;have C:=(r X.1.cache e.aj.pc ah).1;have G:=FC.one ((r X.1.cache e.aj.pc ah).2) (Kl _ _);have Y2:EgZ ⟨{X.1.aj with pc:=e.aj.pc,halt:=0},X.1.cache,X.1.aJ⟩:=⟨Y.m,Y.o,Y.k,Y.c⟩;obtain⟨t,A⟩:=k _ q 9 ⟨d,b⟩ Y2 (by dsimp only;omega) ah j f;obtain⟨E,J⟩:=H _ Y2.m Y2.k.x Y2.c.d;simp (disch:=omega) only [RR,m,L,F,I,u,s,EGB,C,G,K,t,A,E,J];refine⟨λ_=>⟨(n).1,by rw [(n).2]⟩,λg=> ?_⟩;obtain⟨B,z⟩:=i g.1;rw [ajo (e:=⟨{X.1.aj with pc:=e.aj.pc,halt:=0},X.1.cache,X.1.aJ⟩) (by dsimp only;omega),aI (ay5 z B.1.pc)];rfl
def aew{C D:List Cer}(b:jY C)(c:jY D)(a:Ask):(bM ⟨m,[],C⟩ a).2=(bM ⟨m,[],D⟩ a).2/\(bM ⟨m,[],C⟩ a).1.cache=(bM ⟨m,[],D⟩ a).1.cache:=by
 unfold bM;dsimp only;rw [Qo b,Qo c];split
 .exact⟨rfl,rfl⟩
 split<;>exact⟨rfl,rfl⟩
def aex{C D:List Cer}(b:jY C)(g:jY D)(q:List Int)(l:Int)(a:Ask):(goE ⟨m,[],C⟩ q l a).2=(goE ⟨m,[],D⟩ q l a).2/\(goE ⟨m,[],C⟩ q l a).1.aj=(goE ⟨m,[],D⟩ q l a).1.aj/\(goE ⟨m,[],C⟩ q l a).1.cache=(goE ⟨m,[],D⟩ q l a).1.cache:=by
 obtain⟨e,d⟩:=aew (m:=m) b g a;have f:=vD ⟨m,[],C⟩ a;have c:=vD ⟨m,[],D⟩ a;unfold goE jT;rw [f,c,e,d];dsimp only;split
 .exact⟨rfl,rfl,rfl⟩
 split
 .exact⟨rfl,rfl,rfl⟩
 split<;>exact⟨rfl,rfl,rfl⟩
def aaP{C D:List Cer}(hm:MOK m)(b:jY C)(c:jY D)(q:List Int)(l:Int)(a:Ask):(bT ⟨m,[],C⟩ q l a).2=(bT ⟨m,[],D⟩ q l a).2/\(bT ⟨m,[],C⟩ q l a).1.aj=(bT ⟨m,[],D⟩ q l a).1.aj/\(bT ⟨m,[],C⟩ q l a).1.cache=(bT ⟨m,[],D⟩ q l a).1.cache:=by
 by_cases g:m.halt≠0\/l<1\/m.count=1000000
 .rw [wJ (Jj hm b) g,wJ (Jj hm c) g];exact⟨rfl,rfl,rfl⟩
 .have t:∀ {C:List Cer},jY C->bT ⟨m,[],C⟩ q l a=goE ⟨m,[],C⟩ q l a:=λh=>by unfold bT;rw [aI (Jj hm h),if_neg (by decide),if_neg g]
  rw [t b,t c];exact aex b c q l a
theorem au4{p1 f1 p3 f3 p4 f4 p5 f5 p6 f6 p7 f7}{n:Eng×List Cer×Ask×Unit->Bool}{v:Eng×List Cer×Ask×Unit->Eng×fA}(W:ajr p1 f1)(u:∀(e:Eng) (C:List Cer) (a:Ask),EgZ ⟨e.aj,[],C⟩->e.aj.outs.length<500000000->By a.bytes->a.bytes.length<1000000000->n (e,C,a,())=true/\v (e,C,a,())=((bT ⟨e.aj,[],C⟩ [] 9 a).1,(bT ⟨e.aj,[],C⟩ [] 9 a).2,()))(t:ayY p3 f3)(w:ayz p4 f4)(p:Y47 p5 f5)(L:anH p6 f6)(B:Ql p7 f7)(c:List Int)(hc:By c):aar.F (p1,f1,n,v,p3,f3,p4,f4,p5,f5,p6,f6,p7,f7,()) (c,()) (λy=>y=(true,())):=by
 have mM:=MKM;have U:∀(x:Bool) (y:List Int),Co.mk .ask (x,y,())=(⟨x,y⟩:Ask):=λ_ _=>rfl
 dsimp only [aar,gm,iR];by_cases s:1048576< (c.length:Int)
 .simp (disch:=omega) only [RR,s]
 obtain⟨T,D⟩:=L c hc ah;generalize Q:f6 (c,())=y at*;obtain⟨e,l,f,q,d,⟨⟩⟩:=y;obtain⟨Z,o,hn,K,k,i⟩:=D;dsimp only at Z o hn K k i;obtain⟨M,P⟩:=W e q l ⟨f,d⟩ Z ah ah k i;obtain⟨Y,Yo⟩:=Ko (q:=q) (l:=l) (a:=⟨f,d⟩) Z ah i;have no:=λh=>Qt (e:=e) h q l ⟨f,d⟩
 have m:fF e->jY (bT e q l ⟨f,d⟩).1.aJ:=λh=>(adk h).2.2
 generalize bT e q l ⟨f,d⟩=X at*;have r:EgZ ⟨e.aj,[],X.1.aJ⟩:=⟨Z.m,Z.o,ShK.nil,Y.c⟩;have F:EgZ ⟨e.aj,[],[]⟩:=⟨Z.m,Z.o,ShK.nil,ShC.nil⟩;obtain⟨N,V⟩:=u e X.1.aJ ⟨f,d⟩ r ah k i;obtain⟨Q2,R⟩:=u e [] ⟨f,d⟩ F ah k i;have j:=(Ko (q:=[]) (l:=9) (a:=⟨f,d⟩) r (show e.aj.outs.length<500000000 by omega) i).1;obtain⟨S,E⟩:=B e Z.m Z.k.x Z.c.d;have G:=λb=>(w (bT ⟨e.aj,[],X.1.aJ⟩ [] 9 ⟨f,d⟩).1.aj b j.m).1
 have I:=λb=>(w (bT ⟨e.aj,[],X.1.aJ⟩ [] 9 ⟨f,d⟩).1.aj b j.m).2
 have J:=λb=>(t (bT ⟨e.aj,[],X.1.aJ⟩ [] 9 ⟨f,d⟩).1.cache b j.k).1
 have H:=λb=>(t (bT ⟨e.aj,[],X.1.aJ⟩ [] 9 ⟨f,d⟩).1.cache b j.k).2
 simp (disch:=omega) only [RR,s,T,Q,U,mM,M,P,S,E,EGB,N,V,Q2,R,G,I,J,H];refine⟨λg=>⟨Or.inr (p).1,by rw [no g,(p).2];rfl⟩,λg=> ?_⟩;have ok:=aF.1 g;obtain⟨O,z,A⟩:=aaP ok.1 (m ok) anG [] 9 ⟨f,d⟩;rw [O,z,A,aI rfl,aI rfl,beq_self_eq_true];rfl
theorem au5{p1 f1 p2 f2 p3 f3 p4 f4 p5 f5 p6 f6 p7 f7 p8 f8 p9 f9}(U1:ajj p1 f1)(U:ajb p2 f2)(T:aep p3 f3)(U4:Y96 p4 f4)(K:ajr p5 f5)(M:as2 p6 f6)(j:Y94 p7 f7)(r:Y47 p8 f8)(J:anH p9 f9)(c:List Int)(hc:By c):aal.F (p1,f1,p2,f2,p3,f3,p4,f4,p5,f5,p6,f6,p7,f7,p8,f8,p9,f9,()) (c,()) (λy=>y=(true,())):=by
 have mM:=MKM;have mE:∀c:Blk,Co.mk .blk (c.pc,c.len,c.ops,c.fin,c.x,c.y,c.k,())=c:=λ_=>rfl
 have mA:∀(x:Bool) (y:List Int),Co.mk .ask (x,y,())=(⟨x,y⟩:Ask):=λ_ _=>rfl
 dsimp only [aal,gm,iR,jo];by_cases s:1048576< (c.length:Int)
 .simp (disch:=omega) only [RR,s]
 obtain⟨L,D⟩:=J c hc ah;generalize S:f9 (c,())=y at*;obtain⟨e,l,f,q,d,⟨⟩⟩:=y;obtain⟨Z,o,hn,I,n,i⟩:=D;dsimp only at Z o hn I n i;obtain⟨P5,F⟩:=K e q l ⟨f,d⟩ Z ah ah n i;obtain⟨Y,Yo⟩:=Ko (q:=q) (l:=l) (a:=⟨f,d⟩) Z ah i;have w:(bT e q l ⟨f,d⟩).2=true->nC e.aj.pc (findF e.aj)/\∀x∈(bT e q l ⟨f,d⟩).1.cache,x.blk.pc=e.aj.pc->x.blk=if(mdF (lower e.aj.pc (findF e.aj)) ⟨f,d⟩).2=true/\chk (lower e.aj.pc (findF e.aj)) (mdF (lower e.aj.pc (findF e.aj)) ⟨f,d⟩).1=true then(mdF (lower e.aj.pc (findF e.aj)) ⟨f,d⟩).1 else lower e.aj.pc (findF e.aj):=λh=>by
  obtain⟨ok,t⟩:=D9 h;rw [t]at h ⊢;obtain⟨u,k2⟩:=Kn ok h;refine⟨u,λx hx O=> ?_⟩;rw [k2 x hx O,Qo ok.2.2]
 generalize bT e q l ⟨f,d⟩=X at*;have kl:=Y.k.1;obtain⟨H,F3⟩:=T X.1.cache e.aj.pc ah;generalize hk:(f3 (X.1.cache,e.aj.pc,())).1=k at*;obtain⟨N,R⟩:=U1 e.aj Z.m;obtain⟨V,v⟩:=M d n i;simp (disch:=omega) only [RR,s,L,S,mA,P5,F,EGB,mM,N,R,H,hk,V,v];refine⟨λg=>⟨(r).1,by rw [(r).2]⟩,λg=> ?_⟩;obtain⟨⟨Q,rfl⟩,k0⟩:=g;obtain⟨bk,B⟩:=w Q;have fl:=(pR e.aj).1;obtain⟨P,H2⟩:=U e.aj.pc (findF e.aj) ah;have lw:=vC e.aj.pc (findF e.aj);generalize lower e.aj.pc (findF e.aj)=b at*;have ml:=Qi (a:=⟨false,d⟩) (b:=b) ah i;have m:Co.mk .blk ((rdF d).1,(rdF d).2.1,(rdF d).2.2.2.2.2.2.2.1,(rdF d).2.2.1,(rdF d).2.2.2.1,(rdF d).2.2.2.2.1,(rdF d).2.2.2.2.2.1,())=(mdF b ⟨false,d⟩).1/\(rdF d).2.2.2.2.2.2.1=(mdF b ⟨false,d⟩).2:=by
  rw [show mdF b ⟨false,d⟩=if bp (ael d)=true then(rdB d,true)else(PN,false)from rfl];unfold rdF;split<;>exact⟨rfl,rfl⟩
 obtain⟨m,r2⟩:=m;obtain⟨W,A,C⟩:=ajn F3 ah;have p:=B _ A C;generalize mdF b ⟨false,d⟩=z at*;obtain⟨E,G⟩:=U4 b z.1 ah ah;simp (disch:=omega) only [RR,CAB,mE,P,H2,m,r2,E,G,W];refine⟨λh=>⟨ah,?_⟩,λh=>⟨ah,?_⟩⟩
 .rw [p,if_pos h,(j z.1 z.1 ah).2,aI rfl];exact⟨(j z.1 z.1 ah).1,rfl⟩
 .rw [p,if_neg (λy=>by rw [y.1,y.2]at h;cases h),(j b b ah).2,aI rfl];exact⟨(j b b ah).1,rfl⟩
end Go.TX.F
namespace Go.TX.F
open Go Go.AE Go.TX List
end Go.TX.F
namespace Go.TX
open Go Go.AE
variable{P:Program}{f:FuncId}{v:Value}{W:World}
def enters_of{b:Func}{c:Code}(e:P.funcs[f]? =some b)(a:(b.name== "runtime.NumGoroutine")=false)(h:b.body=some c):Enters P f:=by
 intro d w;have g:b.name≠ "runtime.NumGoroutine" :=by simpa using a
 simp [callFunc,e,g,h,mark]
def adl(P:Program):Nat->List Field->Bool
 | _,[]=>true
 | k,f::fs=> !(f.name== "_")&&f.offset==k&& (match P.underlying f.type with | some (.int _)=>true | _=>false)&&adl P (k+1) fs
def adn(w:World)(d:Nat)(xs a:List Int)(q:xs.length=a.length):∀(h:List Field) (k:Nat),adl P k h=true->k+h.length=xs.length->
  (Op.eqFields (d+1) (xs.map (Value.int .i64)).toArray (a.map (Value.int .i64)).toArray h).run P w= .ok (xs.drop k==a.drop k) w
 | [],k,_,h2=>by
  rw [List.drop_eq_nil_of_le (show xs.length<=k by simp only [List.length_nil]at h2;omega),List.drop_eq_nil_of_le (show a.length<=k by simp only [List.length_nil]at h2;omega)];simp [Op.eqFields]
 | f::h,k,h1,h2=>by
  simp only [List.length_cons]at h2;simp only [adl,Bool.and_eq_true,Bool.not_eq_true',beq_eq_false_iff_ne,beq_iff_eq]at h1;obtain⟨⟨⟨s,m⟩,i⟩,o⟩:=h1;have hk:k<xs.length:=by omega
  have b:k<a.length:=by omega
  obtain⟨j,g⟩:∃j,P.underlying f.type=some (.int j):=by
   cases g:P.underlying f.type with
   | none=>rw [g]at i;cases i
   | some z=>cases z<;>(first | exact⟨_,rfl⟩ | (rw [g]at i;cases i))
  have l:P.plainKey f.type=true:=by unfold Program.plainKey;rw [g]
  have p:=run_part_plain w l (xs:=(xs.map (Value.int .i64)).toArray) (off:=f.offset) (v:= .int .i64 xs[k]) (by rw [m];simp [hk]);have n:=run_part_plain w l (xs:=(a.map (Value.int .i64)).toArray) (off:=f.offset) (v:= .int .i64 a[k]) (by rw [m];simp [b]);have r:=adn w d xs a q h (k+1) o ah;simp only [Op.eqFields,if_pos s,Sem.run_bind,p,n,Result.andThen_ok,run_equalIn_int w d f.type .i64 j _ _ g];have e:(xs.drop k==a.drop k)=((xs[k]==a[k])&& (xs.drop (k+1)==a.drop (k+1))):=by rw [List.drop_eq_getElem_cons hk,List.drop_eq_getElem_cons b];rfl
  rw [e];by_cases c:(xs[k]==a[k])=true
  .rw [c];simp only [Bool.not_true,Bool.false_eq_true,if_false,r,Bool.true_and]
  .have c2:(xs[k]==a[k])=false:=by simpa using c
   rw [c2];simp only [Bool.not_false,if_true,Sem.run_pure,Bool.false_and]
def au6{t:TypeId}{n:Nat}(d:P.underlying t=some (.struct (P.fieldsOf t)))(e:P.stoodInHeld t=false)(f:P.eqGuardType P.depth t=false)(c:adl P 0 (P.fieldsOf t).toList=true)(hn:(P.fieldsOf t).size=n)(b a:List Int)(h:b.length=n)(g:a.length=n)(w:World):
  (Op.equal t (.agg (b.map (Value.int .i64)).toArray) (.agg (a.map (Value.int .i64)).toArray)).run P w= .ok (b==a) w/\
  (eqGuard .eql t (.tmp 0) (.tmp 0) (.agg (b.map (Value.int .i64)).toArray) (.agg (a.map (Value.int .i64)).toArray)).run P w= .ok () w:=by
 refine⟨?_,run_eqGuard_agg w _ _ _ _ _ _ f⟩;show(Op.equalIn (9999+1) t _ _).run P w=_;rw [run_equalIn_struct w 9999 t _ _ d e,adn w 9998 b a ah _ 0 c (by rw [Array.length_toList];omega)];rfl
noncomputable def never (s:Sig):Ct aH s:={pre:=λ_=>false,fn:=λ_=>Classical.choice (za _)}
def nW{E:Tab}{s:Sig}(h:Enters E.P f):dV E f (dP (never s)) where
 enters:=h
 calls:=by
  rintro b g n K ⟨m,d,i,l,j,k,o,a,c,e⟩;exfalso;unfold vW at a;split at a
  .split at a
   .split at a
    .split at a
     .cases a;have:=c false (List.mem_append_right _ (List.mem_singleton.2 rfl));cases this
     .cases a
    .cases a
   .cases a
  .cases a
abbrev aAz:Sig:={args:=[.c (.rows true .u8)],objs:=[],res:=[.c .bool],eO:=[]}
def entry(W:World):Ctx:={K:=λ_ b=>b<W.heap.size,ν:=λ_=>none,n:=0}
def aaQ(W:World):bO (entry W) W []:=
 ⟨λl o h=>(by cases h),λl o a c b h=>(by cases h),λf b ⟨l,o,h,_⟩=>(by cases h),λf b h=>h,λb h=>h⟩
def Tv{W a:World}{c:Ctx}{b:Heap}(g:Grow (entry W) W [] c a b):RowKit.Below W.heap.size W a:=
 ⟨g.os,g.tape,g.output,g.size,λk hk=>g.kept k hk λ⟨l,o,h,_⟩=>by cases h⟩
def anI{c:Ctx}{w:World}{r:PV}{N:NM}{b:Bool}(f:bL c w v r)(a:PVR N r (.c (.d true (.bool b)))):v= .bool b:=by
 cases a with
 | one h=>
  cases h with
  | c h=>
   cases h with
   | d i _=>
    subst i;cases f with
    | c _ _ e=>cases e with
     | d _ _ _ g=>cases g;rfl
  | agg h=>cases h
def aey{E:Tab}{c:Ct aH aAz}(hc:dV E f (dP c)){a:List Int}(p:dQ (λb=>b<W.heap.size) W v (.rows 1 (aN .u8 a)))
  (k:lV E (entry W) W) (n:c.pre (a,())=true):Go.Calls E.P f #[v] W λe d=>e= .returned (.bool (c.fn (a,())).1)/\RowKit.Below W.heap.size W d:=by
 refine(hc.calls [.c (.d true (.rows 1 (aN .u8 a)))] [] 0 (λr _ _=>PVR (nmh []) r (.c (.d true (.bool (c.fn (a,())).1)))) ?_ (entry W) W [v] rfl (.cons (.c _ _ (.d true _ _ p)) .nil) (aaQ W) k).mono ?_
 .refine⟨0,[.c (.d true (.rows .u8 a))],[],.cons (.one (.c (.d rfl λ_=> .inl rfl))) .nil,⟨λl o h=>(by cases h),λ_ _=>rfl⟩,rfl,_,rfl,?_,_,_,rfl,?_⟩
  .intro b hb;rcases List.mem_append.1 hb with h | h
   .cases h
   .rw [List.mem_singleton]at h;rw [h];exact n
  .intro r _ _ h _ _ _;exact h
 .rintro e d he;cases e with
  | returned u=>
   obtain⟨q,r,s,j,g,_,_,m,i⟩:=he;exact⟨by rw [anI m i],Tv g⟩
  | outgrown=>exact he.elim
  | panicked _=>exact he.elim
open Go.RowKit Go.ChangeShapes Go.WideShapes Go.ChangeAt in
def vE{H:Type}{enc:TypeId×Value->H}{t e:TypeId}(E:P.underlying t=some (.slice e))(N:P.underlying e=some (.int .u8))(hc:P.cellsOf e=1){o:Nat}{d:DataW H}{p:List MemPlace}
  (q:Value.okWide P W .any o t v) (h:DataW.Trod enc P W 0 (λ_=>true) true t v d p) (r:∀x∈p,x.block<W.heap.size):
  ∃G:List Int,dQ (λb=>b<W.heap.size) W v (.rows 1 (aN .u8 G))/\∀z∈G,0<=z/\z<=255:=by
 obtain⟨O,len,u,rfl⟩:=okWide_slice E q;obtain⟨I,K⟩:=h;rcases open_ints E N hc K with⟨g,B⟩ | ⟨a,F,D,m,g,_,L,hm,y,B,f,A⟩
 .simp [Value.cells]at g;obtain⟨rfl,rfl,rfl⟩:=g;exact⟨[],.none _ _ _,λ_ h=>by cases h⟩
 .simp [Value.cells]at g;obtain⟨rfl,rfl,rfl⟩:=g;simp only [Prod.mk.injEq]at B;obtain⟨rfl,rfl⟩:=B;simp only [if_true]at y;have s:∀z∈m,0<=z/\z<=255:=λz y=>by
   obtain⟨i,k,rfl⟩:=List.getElem_of_mem y;have:=range_u8 A i
   rwa [List.getElem?_eq_getElem k]at this
  refine⟨m.take len,?_,λz h=>s z (List.mem_of_mem_take h)⟩;by_cases J:len=0
  .subst J;exact .none _ _ _
  .obtain⟨b,off,spot⟩:=a;have n:spot=none:=by simpa [Addr.add]using World.cell?_spot (f 0 ah)
   subst n;have w:b<W.heap.size:=r (.cell b off) (MemPlace.mem_row.2 ⟨0,ah,by simp⟩);have c:(aN .u8 (m.take len)).length=len:=by simp only [aN,List.length_map,List.length_take];omega
   have l:∀i,i<len->(aN .u8 (m.take len)).getD i []=[.int .u8 (m.getD i 0)]:=λi k=>by
    simp only [aN,List.getD,List.getElem?_map,List.getElem?_take_of_lt k,List.getElem?_eq_getElem (show i<m.length by omega)];rfl
   refine .rows b off u 1 len _ (λi j=> .int .u8 (m.getD i 0)) w c.symm L (λi j k M=> ?_) (λi k=> ?_) (λi j k M=> ?_)
   .rw [c]at k;have:=f i ah;rw [add_plain]at this;rw [show off+i*1+j=off+i by omega];exact this
   .rw [c]at k;rw [l i k];rfl
   .rw [c]at k;have C:j=0:=by omega
    subst C;unfold gd;rw [l i k];exact .int _ _
end Go.TX
namespace Go.TX
open Go Go.AE Go.ChangeShapes Go.WideShapes Go.ChangeAt List
theorem wK{w:World}{a:Addr}{v:Value}(h:w.cell? a=some v):a.block<w.heap.size:=by
 unfold World.cell? at h;cases hb:w.heap[a.block]? with
 | none=>rw [hb]at h;simp at h
 | some o=>exact(Array.getElem?_eq_some_iff.1 hb).1
section
variable {H:Type} {enc:TypeId×Value->H} {P:Program} {W:World} {sp:Nat->Bool} {hd:Bool}
def azq:DataW H->Bool
 | .lit (.bool b)=>b
 | _=>default
def dI:DataW H->Int
 | .lit (.int _ n)=>n
 | _=>default
def ajt:DataW H->ByteArray
 | .lit (.string b)=>⟨b.toArray⟩
 | _=>default
def au7{α:Type}(f:DataW H->α):DataW H->List α
 | .slice l _=>l.map f
 | _=> []
def aaR:DataW H->Form
 | .agg [a,b,n,s]=>⟨azq a,azq b,dI n,au7 ajt s⟩
 | _=>default
variable (enc P W sp hd) in
def ED(c:Co)(dec:DataW H->c.den)(t:TypeId):Prop:=∀a cs x,DataW.trod enc P W 0 sp hd a t cs=some x->F2 (dQ (λb=>b<W.heap.size) W) cs (c.row (dec x.1))
theorem azr{α β:Type}{R:α->β->Prop}{l:List α}{m:List β}(h:F2 R l m){j:Nat}(a:α)(b:β)(c:j<m.length):R (l.getD j a) (m.getD j b):=by
 obtain⟨x,e,d⟩:=F2.get h (getElem?_eq_getElem c);rw [getD_eq_getElem?_getD,e,getD_eq_getElem?_getD,getElem?_eq_getElem c];exact d
theorem Kq{c:Co}{dec:DataW H->c.den}{t e:TypeId}(J:P.underlying t=some (.slice e))(hc:P.cellsOf e=c.size)(E:0<c.size)(hE:ED enc P W sp hd c dec e){u:Nat}{cs:List Value}{x:DataW H×List MemPlace}
  (h:DataW.trod enc P W 0 sp hd u t cs=some x):∃v,cs=[v]/\dQ (λb=>b<W.heap.size) W v (.rows c.size (aN c (au7 dec x.1))):=by
 rcases Deep.open_slice J h with⟨rfl,rfl⟩ | ⟨a,len,z,m,n,D,N,rfl,_,L,hm,w,rfl,M⟩
 .exact⟨_,rfl,.none _ _ _⟩
 have O:len<=m:=by rw [w];split<;>omega
 have p:∀i,i<len->∃q:List Value,W.cells? 0 (a.add (i*c.size)) c.size=some q/\F2 (dQ (λb=>b<W.heap.size) W) q (c.row (dec (D i))):=λi d=>by
  obtain⟨s,K,G⟩:=M i ah;exact⟨s,by rw [<-hc];exact K,hE n s _ G⟩
 obtain⟨q,y⟩:=Deep.choose_lt p;refine⟨_,rfl,?_⟩;by_cases I:len=0
 .subst I;exact .none _ _ _
 obtain⟨b,r,g⟩:=a;have cell:∀i j,i<len->j<c.size->W.cell? (((⟨b,r,g⟩:Addr).add (i*c.size)).add j)=(q i)[j]? :=λi j d o=>(World.cells?_some (y i d).1).2.2 j o
 have C:∀i,i<len->(q i).length=c.size:=λi d=>(World.cells?_some (y i d).1).2.1
 have B:=cell 0 0 ah E;rw [getElem?_eq_getElem (by rw [C 0 ah];exact E)]at B;have l:g=none:=by simpa [Addr.add]using World.cell?_spot B
 subst l;have A:b<W.heap.size:=by have:=wK B;simpa [Addr.add]using this
 have F:au7 dec (.slice ((range len).map D) ((range (m-len)).map λj=>D (len+j)))=(range len).map λi=>dec (D i):=by show((range len).map D).map dec=_;rw [map_map];rfl
 dsimp only;rw [F];have f:(aN c ((range len).map λi=>dec (D i))).length=len:=by rw [aN,length_map,length_map,length_range]
 have k:∀i,i<len->(aN c ((range len).map λi=>dec (D i))).getD i []=c.row (dec (D i)):=λi d=>by
  rw [getD_eq_getElem?_getD,aN,map_map,getElem?_map,getElem?_range d];rfl
 refine .rows b r z c.size len _ (λi j=>(q i).getD j undef) A f.symm L (λi j d o=> ?_) (λi d=> ?_) (λi j d o=> ?_)
 .rw [f]at d;have:=cell i j d o;rw [add_plain,add_plain]at this;rw [this,getD_eq_getElem?_getD,getElem?_eq_getElem (by rw [C i d];exact o)];rfl
 .rw [f]at d;rw [k i d];exact vX c _
 .rw [f]at d;unfold gd;rw [k i d];exact azr (y i d).2 _ _ (by rw [vX];exact o)
theorem au8{t:TypeId}(b:P.underlying t=some .string):ED enc P W sp hd .str ajt t:=by
 intro a cs x h;obtain⟨s,rfl,rfl,_⟩:=DataW.trod_string b h;have e:ajt (.lit (.string s.data.toList):DataW H)=s:=by unfold ajt;simp
 dsimp only;rw [e];exact .cons (.str s) .nil
theorem A9{t i e j l:TypeId}{a b f g:Field}(D:P.underlying t=some (.struct #[a,b,f,g]))(hn:P.cellsOf t=4)(o:a.offset=0/\b.offset=1/\f.offset=2/\g.offset=3)(y:a.type=e/\b.type=e/\f.type=j/\g.type=i)
  (z:P.underlying e=some .bool) (H:P.underlying j=some (.int .i64)) (R:P.underlying i=some (.slice l)) (S:P.underlying l=some .string) (k:P.cellsOf e=1/\P.cellsOf j=1/\P.cellsOf i=1/\P.cellsOf l=1):ED enc P W sp hd .form aaR t:=by
 intro w cs x h;obtain⟨J,n,rfl,rfl,u,K,d⟩:=DataW.trod_struct D h;rw [hn]at u;obtain⟨N,G,E,I⟩:=o;obtain⟨L,y1,y2,y3⟩:=y;obtain⟨p,B,M,k3⟩:=k
 match cs,u with
 | [v0,v1,v2,v3],_=>
  match J,K with
  | [x0,x1,x2,x3],_=>
   have q:=d 0 a rfl;have s:=d 1 b rfl;have m:=d 2 f rfl;have A:=d 3 g rfl;rw [L,N,p]at q;rw [y1,G,p]at s;rw [y2,E,B]at m;rw [y3,I,M]at A;obtain⟨U,C,rfl⟩:=DataW.trod_bool z (show _=some x0 from q);obtain⟨T,O,rfl⟩:=DataW.trod_bool z (show _=some x1 from s);obtain⟨V,F,rfl,_⟩:=DataW.trod_int H (show _=some x2 from m);obtain⟨v,Q,r⟩:=Kq (c:= .str) (dec:=ajt) R k3 (by decide) (au8 S) (show _=some x3 from A);cases C;cases O;cases F;cases Q;exact .cons (.bool _) (.cons (.bool _) (.cons (.int _ _) (.cons r .nil)))
end
end Go.TX
namespace Go.TX.Seat
open Go Go.AE Go.TX Go.TX.F Go.Proofs List
set_option maxRecDepth 100000
theorem aAA:∀t n,E.ieq t=some n->∀(d b:List Int),d.length=n->b.length=n->∀w,
  (Op.equal t (.agg (d.map (Value.int .i64)).toArray) (.agg (b.map (Value.int .i64)).toArray)).run E.P w= .ok (d==b) w/\
  (eqGuard .eql t (.tmp 0) (.tmp 0) (.agg (d.map (Value.int .i64)).toArray) (.agg (b.map (Value.int .i64)).toArray)).run E.P w= .ok () w:=by
 intro t n h;obtain⟨c,hc,rfl⟩:∃c,ieq t=some c/\c.size=n:=by
  have a:(ieq t).map (λc=>c.size)=some n:=h;cases hi:ieq t with
  | none=>rw [hi]at a;cases a
  | some c=>rw [hi]at a;cases a;exact⟨c,rfl,rfl⟩
 unfold ieq at hc;split at hc
 all_goals first | (cases hc;exact au6 (by kernel_rfl) (by kernel_rfl) (by kernel_rfl) (by kernel_rfl) (by kernel_rfl)) | cases hc
theorem hE:aM E:=⟨az5,aAA⟩
theorem aAB:∀t c,X.ieq t=some c->(c= .ins/\E.ieq t=some 4)\/(c= .iop/\E.ieq t=some 5):=by
 intro t c h;have h:ieq t=some c:=h;have e:E.ieq t=(ieq t).map λc=>c.size:=rfl
 rw [e,h];unfold ieq at h;split at h
 all_goals first | (cases h;first | exact Or.inl ⟨rfl,rfl⟩ | exact Or.inr ⟨rfl,rfl⟩) | cases h
theorem xok:XOK X E:=⟨rfl,λg c h=>(by
    first
    | (cases h;done)
    | (dsimp only [X] at h
       split at h
       · rename_i e;cases h;unfold E;dsimp only;rw [if_pos e];rfl
       · cases h)),aAB⟩
theorem hm:E.P.follows .mixedOrders=true:=by kernel_rfl
structure HL(l:List (Nat×Sig)) where
 C:Cs (std 0) l
 h:∀p∈csl (std 0) l C,dV E p.1 (dP p.2.2)
abbrev hn:HL []:=⟨(),λ_ h=>by cases h⟩
abbrev hk{f:FuncId}{s:Sig}{c:Ct aH s}{l:List (Nat×Sig)}(h:dV E f (dP c))(r:HL l):HL ((f,s)::l):=⟨(c.pre,c.fn,r.C),λp a=>by
 rcases mem_cons.1 a with rfl | a
 .exact h
 .exact r.h p a⟩
structure Mt{lk:aB}{s:Sig}{an:Ann}{fn:Func}{l:List (Nat×Sig)}(f:FuncId)(g:Gt lk X E an s fn l) where
 H:HL l
 k:Fn E f (g.F H.C) (cn (g.F H.C))
section
variable {lk:aB} {s:Sig} {an:Ann} {fn:Func} {l:List (Nat×Sig)} {f:FuncId}
@[irreducible] noncomputable def Mt.c {g:Gt lk X E an s fn l} (t:Mt f g):Ct aH s:=cn (g.F t.H.C)
theorem Mt.cs{g:Gt lk X E an s fn l}(t:Mt f g){x:jr s.inp}{Q:jr s.out->Prop}(h:g.F t.H.C x Q):t.c.pre x=true/\Q (t.c.fn x):=by unfold Mt.c;exact t.k.cs h
theorem Mt.ok{g:Gt lk X E an s fn l}(t:Mt f g):dV E f (dP t.c):=by unfold Mt.c;exact t.k.ok
@[reducible] noncomputable def hc {r:List (Nat×Sig)} {g:Gt lk X E an s fn l} (t:Mt f g) (h:HL r):HL ((f,s)::r):=hk t.ok h
theorem mkF(a:E.P.funcs[f]? =some fn)(g:Gt lk X E an s fn l)(H:HL l)
 (b:fn.body.isSome=true:=by rfl) (hn:(fn.name== "runtime.NumGoroutine")=false:=by kernel_rfl):Fn E f (g.F H.C) (cn (g.F H.C)):=az2 hE xok hm a b (λ_=>enters_of a hn) H.h (g.h H.C)
noncomputable def mk (g:Gt lk X E an s fn l) (a:E.P.funcs[f]? =some fn) (H:HL l)
 (b:fn.body.isSome=true:=by rfl) (hn:(fn.name== "runtime.NumGoroutine")=false:=by kernel_rfl):Mt f g:=⟨H,mkF a g H b hn⟩
end
theorem aju{E:Tab}{f:FuncId}{c:Ct aH {args:=[.c (.int .u64)],objs:=[],res:=[.c (.int .i64)],eO:=[]}}{g:Int->Int}(l:Enters E.P f)(F:(λx:Int=>(c.fn (x,())).1)=g)
  (h:∀(x:Int) (w:World),c.pre (x,())=true->Go.Calls E.P f #[.int .u64 x] w λe C=>e= .returned (.int .i64 (g x))/\C=w):dV E f (dP c) where
 enters:=l
 calls:=by
  rintro args O n K ⟨m,u,B,j,HR,p,S,a,amy,v,U,o,hK⟩ N w H z tH G T;have A:∀b (x:Int),u=[.c (.d b (.int .u64 x))]->vW (std m) B {args:=[.c (.int .u64)],objs:=[],res:=[.c (.int .i64)],eO:=[]} c u=some {ck:=[c.pre (x,())],ts:=[.i],y:=c.fn (x,()),touched:=[],pure:=true,k:=λy=>some (.c (.d true (.int .i64 y.1)),B)}:=by
   intro b x e;subst e;rfl
  have I:∃b x,u=[.c (.d b (.int .u64 x))]:=by
   unfold vW at a;cases u with
   | nil=>simp [tu]at a
   | cons q r=>
    cases r with
    | cons W V=>
     exfalso;simp only [tu]at a;cases hx:LK (std m) B (.c (.int .u64)) q (es0 (std m) 0 [])with
     | none=>rw [hx]at a;simp at a
     | some s=>rw [hx]at a;simp [tu]at a
    | nil=>
     simp only [tu]at a;cases q with
     | c y=>
      simp only [LK,extC]at a;cases y with
      | d b y=>
       cases y with
       | int k x=>
        by_cases hk:IntKind.u64=k
        .subst hk;exact⟨b,x,rfl⟩
        .simp [hk]at a
       | _=>simp at a
      | _=>simp at a
     | _=>simp [LK]at a
  obtain⟨b,x,rfl⟩:=I;rw [A b x rfl]at a;simp only [Option.some.injEq]at a;subst a;simp only [Option.some.injEq,Prod.mk.injEq]at o;obtain⟨rfl,rfl⟩:=o;have t:=amy _ (mem_singleton.2 rfl);have R:H=[.int .u64 x]:=by
   cases j with
   | cons i D=>
    cases D;cases tH with
    | cons P J=>
     cases J;cases i with
     | one i=>
      cases i with
      | c i=>
       cases i with
       | d L _=>
        subst L;cases P with
        | c _ _ Q=>cases Q with
         | d _ _ _ M=>cases M;rfl
      | agg i=>cases i
  subst R;refine(h x w t).mono ?_;rintro e C ⟨rfl,rfl⟩;refine⟨N,.c (.d true (.int .i64 (g x))),O,0,.refl _ _ _,G,z,.c _ _ (.d _ _ _ (.int _ _)),hK _ _ _ ?_ HR (.refl _ _ _) p⟩;rw [<-F];exact .one (.c (.d rfl λ_=> .inl rfl))
end Go.TX.Seat
noncomputable section
namespace Go.TX.F
open Go Go.AE Go.TX Go.TX.Seat Go.Proofs List
set_option maxRecDepth 100000
set_option maxHeartbeats 4000000
def aaS:=mk VE Tryz.func36 hn
def zH:=λb c a=>aaS.cs (arB b c a:)
def iL:=mk VF Tryz.func39 hn
def aL:=λn b p d c a=>iL.cs (arD n b p d c a:)
def FQ:=mk VG Tryz.func40 (hc iL hn)
def iV:=λn b p d c a=>FQ.cs (arE aL n b p d c a:)
def Qu:=mk VH Tryz.func38 (hc iL hn)
def rM:=λb p d c a=>Qu.cs (atI aL b p d c a:)
def zI:=mk VI Tryz.func47 hn
def jC:=λa=>zI.cs (aq1 a:)
def aaT:=mk VJ Tryz.func46 (hc zI hn)
def zJ:=λl h=>aaT.cs (atg jC l h:)
def aaU:=mk VK Tryz.func138 (hc aaT hn)
def BD:=λw i a b=>aaU.cs (atE zJ w i a b:)
def Qv:=mk VL Tryz.func98 (hc iL hn)
def rO:=λb p d c a=>Qv.cs (arF aL b p d c a:)
def aaV:=mk VN Tryz.func195 (hc iL hn)
def BF:=λb p d c a=>aaV.cs (arZ aL b p d c a:)
def Qw:=mk VO Tryz.func160 hn
def rP:=λa=>Qw.cs (GQ a:)
def o8:=mk VP Tryz.func48 hn
def eH:=λa b c=>o8.cs (aq0 a b c:)
def ajv:=mk VQ Tryz.func274 hn
def L9:=λi=>ajv.cs (Kh i:)
def Kr:=mk VR Tryz.func207 (hc o8 (hc ajv hn))
def qG:=λi=>Kr.cs (LQ eH L9 i:)
def aaW:=mk VT Tryz.func206 (hc Qw (hc Kr hn))
def zK:=λi=>aaW.cs (GU rP qG i:)
def Qx:=mk VU Tryz.func198 (hc aaV (hc iL (hc aaW hn)))
def rQ:=λb p d c a=>Qx.cs (ar0 BF aL (λz1=>(zK z1).1) b p d c a:)
def ajw:=mk VW Tryz.func193 (hc Qx (hc iL hn))
def Kt:=λt b p d e c a=>ajw.cs (atK rQ aL t b p d e c a:)
def ajx:=mk VX Tryz.func194 (hc iL hn)
def Ku:=λt b p d e c a=>ajx.cs (atJ aL t b p d e c a:)
def aaX:=mk VY Tryz.func197 (hc Kr hn)
def BG:=λi=>aaX.cs (atA qG i:)
def aaY:=mk VZ Tryz.func196 (hc aaX hn)
def xC:=λl a=>aaY.cs (atC BG l a:)
def aaZ:=mk V3 Tryz.func139 (hc aaY (hc aaX (hc ajw (hc Qx (hc aaV (hc ajx (hc FQ (hc iL (hc Qv hn)))))))))
def xD:=λb p d c a=>aaZ.cs (atM xC BG Kt rQ BF Ku iV aL rO b p d c a:)
def aa0:=mk V4 Tryz.func140 (hc Qv hn)
def xE:=λn b p d hn c a=>aa0.cs (arL rO n b p d hn c a:)
def CP:=mk V5 Tryz.func14 (hc zI (hc o8 (hc aaT hn)))
def kY:=λm h=>CP.cs (ath jC eH zJ m h:)
def FR:=mk V6 Tryz.func56 hn
def lM:=λm h=>FR.cs (ati m h:)
def Kv:=mk V7 Tryz.func182 hn
def qH:=λl n h=>Kv.cs (atx l n h:)
def Qy:=mk V8 Tryz.func159 (hc Kr (hc zI hn))
def rR:=λw=>Qy.cs (atz qG jC w:)
def ajy:=mk V9 Tryz.func266 hn
def GV:=λm b=>ajy.cs (atw m b:)
def Qz:=mk Wh Tryz.func267 hn
def uE:=λm h=>Qz.cs (atj m h:)
def zL:=mk Wi Tryz.func276 hn
def gP:=λa=>zL.cs (aq4 a:)
def Kw:=mk Wj Tryz.func222 (hc zL (hc zI hn))
def qI:=λc a b=>Kw.cs (arh jC gP c a b:)
def FT:=mk Wm Tryz.func307 (hc zL hn)
def lN:=λm n h=>FT.cs (atl gP m n h:)
def ajz:=mk Wn Tryz.func303 (hc Qz (hc FT hn))
def Ma:=λm i h a=>ajz.cs (atu uE lN m i h a:)
def QA:=mk Wp Tryz.func304 (hc FT hn)
def wL:=λm d v h a b=>QA.cs (atm lN m d v h a b:)
def ajA:=mk Wq Tryz.func305 (hc zL hn)
def Ky:=λv k h b a=>ajA.cs (atn gP v k h b a:)
def ajB:=mk Ws Tryz.func306 (hc zL (hc Qz (hc FT (hc QA hn))))
def Kz:=λm i h b a=>ajB.cs (atr gP uE lN wL m i h b a:)
def ajC:=mk Wt Tryz.func308 (hc FT (hc QA hn))
def Mc:=λm i h c b hn a=>ajC.cs (att lN wL m i h c b hn a:)
def ajD:=mk Wu Tryz.func268 (hc Kw (hc FT (hc ajC (hc ajB (hc QA (hc ajA (hc ajz hn)))))))
def Tw:=λm i h b hn a=>ajD.cs (atv qI lN Mc Kz wL Ky Ma m i h b hn a:)
def aa1:=mk Wv Tryz.func199 (hc Qy (hc CP (hc FR (hc ajD (hc Qz (hc ajy hn))))))
def zO:=λm b h a=>aa1.cs (atG rR kY lM Tw uE GV m b h a:)
def ajE:=mk Ww Tryz.func141 (hc CP (hc aa1 (hc FR (hc Kv hn))))
def Md:=λm q n h b a=>ajE.cs (atH kY zO lM qH m q n h b a:)
def ajF:=mk Wx Tryz.func81 (hc aaU (hc ajE (hc aaZ (hc Qu (hc FQ (hc iL (hc aa0 hn)))))))
def KA:=λb p d c a=>ajF.cs (atO BD Md xD rM iV aL xE b p d c a:)
def ajG:=mk Wy Tryz.func37 (hc ajF (hc FQ (hc iL hn)))
def FU:=λn b p d c a=>ajG.cs (atP KA iV aL n b p d c a:)
def iq:=mk Wz Tryz.func87 hn
def bW:=λa b c=>iq.cs (aqu a b c:)
def uF:=mk WA Tryz.func49 (hc iq hn)
def gH:=λa=>uF.cs (aqv bW a:)
def ajH:=mk WB Tryz.func86 (hc uF hn)
def KC:=λa b=>ajH.cs (arK gH a b:)
def ajI:=mk ag5 Tryz.func44 (hc uF (hc iq (hc ajH hn)))
def Ea:=λm h=>ajI.cs (ayo gH bW KC m h:)
def aoz:=mk ag6 Tryz.func60 hn
def FV:=λe a=>aoz.cs (ayQ e a:)
def ajJ:=mk WE Tryz.func152 hn
def wM:=λa b c=>ajJ.cs (auK a b c:)
def ajK:=mk ag7 Tryz.func91 (hc iq (hc ajJ hn))
def nD:=λe mem a hm=>ajK.cs (ayZ bW wM e mem a hm:)
def ajL:=mk ag8 Tryz.func149 (hc ajK hn)
def vF:=λe mem a hm b=>ajL.cs (ay1 nD e mem a hm b:)
def ajM:=mk ag9 Tryz.func271 hn
def xG:=λe x=>ajM.cs (ayU e x:)
def ajN:=mk WG Tryz.func59 (hc aoz hn)
def iM:=λl a h=>ajN.cs (auf FV l a h:)
def ajO:=mk WH Tryz.func59 (hc ajM hn)
def gX:=λl x h=>ajO.cs (auE xG l x h:)
def ajP:=mk WI Tryz.func59 (hc ajL hn)
def gY:=λl mem h hm=>ajP.cs (auL vF l mem h hm:)
def NV:=mk aha Tryz.func24 (hc ajN hn)
def kG:=λl a h=>NV.cs (ayR iM l a h:)
def ajQ:=mk ahb Tryz.func65 (hc iq hn)
def zP:=λa=>ajQ.cs (ayv bW a:)
def QB:=mk WJ Tryz.func166 (hc iq hn)
def wN:=λa=>QB.cs (aqx bW a:)
def ado:=mk ahc Tryz.func104 (hc iq (hc QB hn))
def wO:=λi=>ado.cs (ayu bW wN i:)
def au9:=mk ap8 Tryz.func61 (hc ajQ (hc ado (hc iq hn)))
def Eb:=λb l a=>au9.cs (aAk zP wO bW b l a:)
def ajR:=mk ahd Tryz.func117 (hc iq hn)
def tN:=λo=>ajR.cs (axH bW o:)
def FW:=mk WK Tryz.func106 (hc ajR hn)
def iE:=λg x y k d e f c i j a b h=>FW.cs (as8 tN g x y k d e f c i j a b h:)
def ajS:=mk WL Tryz.func105 (hc FW hn)
def wP:=λv i d e f c g j a b h=>ajS.cs (atc iE v i d e f c g j a b h:)
def ajT:=mk WM Tryz.func107 (hc FW hn)
def CQ:=λk d e f c g i a b h=>ajT.cs (as9 iE k d e f c g i a b h:)
def ajU:=mk WO Tryz.func108 (hc FW hn)
def CS:=λk d e f c g i a b h=>ajU.cs (ata iE k d e f c g i a b h:)
def ajV:=mk WQ Tryz.func109 (hc FW hn)
def Ec:=λd x y e f g c i j a b h=>ajV.cs (atb iE d x y e f g c i j a b h:)
def ajW:=mk WR Tryz.func62 (hc ajV (hc ajU (hc ajS (hc FW (hc ajT hn)))))
def zQ:=λi B a h b c=>ajW.cs (atd Ec CS wP iE CQ i B a h b c:)
def NW:=mk ahe Tryz.func63 hn
def fJ:=λb a=>NW.cs (axV b a:)
def aez:=mk ap9 Tryz.func25 (hc au9 (hc NW (hc ajW hn)))
def jL:=λb l a=>aez.cs (aAl Eb fJ zQ b l a:)
def Tx:=mk ahf Tryz.func116 (hc iq hn)
def lU:=λo=>Tx.cs (axF bW o:)
def aa2:=mk WS Tryz.func167 (hc iq hn)
def Gr:=λa=>aa2.cs (aqw bW a:)
end Go.TX.F
end
